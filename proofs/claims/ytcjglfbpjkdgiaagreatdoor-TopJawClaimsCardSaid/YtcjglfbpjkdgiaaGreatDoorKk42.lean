/- Parts of a proof. -/
import Derived.Test.YtcjglfbpjkdgiaaGreatDoorKk3
import Derived.Test.YtcjglfbpjkdgiaaGreatDoorKk31
set_option maxHeartbeats 16000000
set_option maxRecDepth 100000
set_option linter.unusedVariables false
set_option linter.unusedSimpArgs false
namespace Go.Proofs.YtcjglfbpjkdgiaaGreatDoor
open Go.RowKit
theorem Reads.aw6 (W:World) (t:TypeId) (n size:Nat) (cs:List Value) (hl:cs.length=n*size) (hn:n≤1000) (S:Nat→Prop) (hS:S W.heap.size):Reads (W.alloc (.cells cs.toArray t)) S size (some ⟨W.heap.size,0,none⟩) n n cs:=
 ⟨Nat.le_refl _,by omega,by omega,hl,fun _=>⟨W.heap.size,0,rfl,hS,by simp,fun j u hu=>by
  have:=dJ W t cs W.heap.size rfl j u hu
  rwa [oC] at this⟩⟩
section
variable {r:M.Rules} {ls:List M.aV} {l:List Sh} {n:Nat} {A:Option Addr} {c:Nat} {S:Nat→Prop} {W:World}
end
theorem Q8 (g:ByteArray) (a b:Int):∀ v∈[Value.string g,.int .i64 a,.int .i64 b],v.oneCell'=true:=by simp [Value.oneCell']
section
variable {w W W':World} {D:Nat} {v:Value}
end
section
variable {D0 D:Nat} {W W1 W2 w:World} {v:Value}
end
theorem Reads.newAt (W:World) (t:TypeId) (n size g:Nat) (cs:List Value) (hl:cs.length=n*size) (hn:n≤1000) (S:Nat→Prop) (hS:S g) (hg:W.heap.size=g):Reads (W.alloc (.cells cs.toArray t)) S size (some ⟨g,0,none⟩) n n cs:=by
 subst hg;exact Reads.aw6 W t n size cs hl hn S hS
theorem Held.grown {W W':World} {g:Nat} {cs:List Value} {t:TypeId} {row:Option Nat} (h:Held W g cs t) (hg:W.grownBy W' row) (hne:row=some g→False):Held W' g cs t:=(hg.block g h.lt (fun e=>hne e.symm)).trans h
theorem Reads.over {W X:World} {S:Nat→Prop} {size n c g o:Nat} {A:Option Addr} {xs vs:List Value} (h:Reads W S size A n c xs) (hb:Below W.heap.size W X) (hg:∀ b,b<W.heap.size→S b→b≠g):Reads (X.setCells g o vs) S size A n c xs:=
 h.keep (by rw [setCells_size];exact hb.size) fun b i hs hl=>(jI _ _ _ _ (hg b hl hs)).trans (hb.cell (p:=⟨b,i,none⟩) hl)
theorem Tq (l:List UInt8) (y:M.aV) (n e:Int) (hy:M.parse l=(y,n,e)) (W:World) (hg:Glob W) (hl:l.length≤17592186044416):
 Calls Tryz.prog 17 #[.string ⟨l.toArray⟩] W fun r w'=>∃ A c,r= .returned (.tuple #[iy y A c,.int .i64 n,.int .i64 e])∧fP w' (fun b=>W.heap.size≤b) A c y.aC∧Below W.heap.size W w':=by
 have:=NH l W hg hl
 rw [hy] at this;exact this
theorem Tt (x:M.aV) (hx:M.bT x=0) (S:Nat→Prop) (A:Option Addr) (c:Nat) (W:World) (hp:fP W S A c x.aC):
 Calls Tryz.prog 16 #[iy x A c] W fun e w'=>e= .returned (.tuple #[.string ⟨(M.print x).toArray⟩,.int .i64 0])∧Below W.heap.size W w':=by
 have:=NI S x A c W hp
 rw [hx,if_pos rfl] at this;exact this
theorem LP (W:World) (s:ByteArray) (k:Nat):Below W.heap.size W (W.iter s k):=(Below.refl _ _).alloc (Nat.le_refl _) _
theorem ag4 {W0 W W':World} (h:Below W0.heap.size W0 W) (hb:Below W.heap.size W W'):Below W0.heap.size W0 W':=h.trans (hb.mono h.size)
def yM (s:M.State) (t:TypeId) (v:Value) (W:World):Prop:=∃ B A c,v=ptr B∧Held W B (aJ s A c) t∧bQ W (fun _=>True) A c s.au
theorem yM.below {s:M.State} {t:TypeId} {v:Value} {W W':World} (h:yM s t v W) (hb:Below W.heap.size W W'):yM s t v W':=by
 obtain ⟨B,A,c,h1,h2,h3⟩:=h;exact ⟨B,A,c,h1,h2.below hb,h3.below hb⟩
theorem yM.new {s:M.State} {t:TypeId} {A:Option Addr} {c:Nat} {S:Nat→Prop} {w1:World} (hr:bQ w1 S A c s.au) (hbx:Held (w1.alloc (.cells aZ.toArray t)) w1.heap.size aZ t):
 yM s t (ptr w1.heap.size) ((w1.alloc (.cells aZ.toArray t)).setCells w1.heap.size 0 (aJ s A c))∧Below w1.heap.size w1 ((w1.alloc (.cells aZ.toArray t)).setCells w1.heap.size 0 (aJ s A c)):=by
 have hb:Below w1.heap.size w1 ((w1.alloc (.cells aZ.toArray t)).setCells w1.heap.size 0 (aJ s A c)):=below_setCells _ (Nat.le_refl _) _ _ _ _ ((Below.refl _ _).alloc (Nat.le_refl _) _);exact ⟨⟨w1.heap.size,A,c,rfl,hbx.whole _ rfl,bQ.more (hr.below hb) (fun _ _ _=>trivial)⟩,hb⟩
theorem Il {a b:Int} (h:aS [a,b]=0):a=0∧b=0:=by
 unfold aS at h
 split at h
 · next h1=>exact absurd h h1
 · next h1=>
   have ha:a=0:=by simpa using h1
   refine ⟨ha,?_⟩
   unfold aS at h
   split at h
   · next h2=>exact absurd h h2
   · next h2=>simpa using h2
theorem zA (r:M.Rules) (l:List Sh) (k:Nat):M.jf r (plain l) k=jF r l k:=by
 unfold M.jf jF plain
 rw [List.map_take]
def vG (a:Int × Int):List Value:=[.int .i64 a.1,.int .i64 a.2]
theorem Ba (a:Int × Int):(vG a).length=2:=rfl
def RdC (w:World) (S:Nat→Prop) (A:Option Addr) (c:Nat) (C:List (Int × Int)):Prop:=Reads w S 2 A C.length c (C.flatMap vG)
def Y1 (r:M.Rules) (l:List Sh) (C:List (Int × Int)) (n:Nat):Bool:=decide (((M.jf r (plain l) n).s0,(M.jf r (plain l) n).s1)=C.getD (n - 1) (0,0))
def auE (l:List Sh) (C:List (Int × Int)):Int:=if C.length=l.length then 0 else 2
theorem Xq (r:M.Rules) (l:List Sh) (C:List (Int × Int)):M.qW r (plain l) C=M.iq (Y1 r l C) 1 l.length:=by unfold M.qW;rw [aW];rfl
theorem ZJ {r:M.Rules} {l:List Sh} {C:List (Int × Int)} {k:Nat} (hk:k<C.length):Y1 r l C (k+1)=(((jF r l (k+1)).s0 == C[k].1) && ((jF r l (k+1)).s1 == C[k].2)):=by
 unfold Y1
 rw [zA,Nat.add_sub_cancel,List.getD_eq_getElem?_getD,List.getElem?_eq_getElem hk,Option.getD_some,Bool.eq_iff_iff];obtain ⟨a,b⟩:=C[k]
 simp
theorem DI {r:M.Rules} {l:List Sh} {C:List (Int × Int)} {k:Nat} (hk:k<C.length) {v:Bool} (hv:Y1 r l C (k+1)=v) (w:World):(Op.equalIn 10000 51 (.agg #[.int .i64 (jF r l (k+1)).s0,.int .i64 (jF r l (k+1)).s1]) (.agg #[.int .i64 C[k].1,.int .i64 C[k].2])).run Tryz.prog w= .ok v w:=by
 rw [oZ, ← ZJ hk,hv]
def Jr (r:M.Rules) (l:List Sh) (C:List (Int × Int)):Int:=aS [aS [M.aQ r,M.dO (plain l)],auE l C]
def Nz (r:M.Rules) (l:List Sh) (C:List (Int × Int)):Int:=if Jr r l C=0 then M.qW r (plain l) C else 0
theorem pK {P:Program} {w:World} {g:Nat} {u:Value} {t ty:TypeId} {d:TypeDesc} (h:Held w g [u] t) (hu:P.underlying ty=some d) (hd:d.isRow=false):(loadVar ty ⟨g,0,none⟩).run P w= .ok u w:=by
 have hc:=h.cell (j:=0) rfl
 have hagg:(isAgg ty).run P w= .ok false w:=by
  unfold isAgg
  rw [Sem.run_bind,run_underlying hu w]
  cases d <;> simp_all [TypeDesc.isRow]
 simp [loadVar,Sem.run_bind,hagg,hc]
theorem vX {W:World} {g h:Nat} {u v:Value} {t1 t2 t3 t4:TypeId} {d1 d2:TypeDesc} {fn:Func} {p q:Tmp} (hg:Held W g [u] t1) (hh:Held W h [v] t2) (hu:Tryz.prog.underlying t3=some d1) (hv:Tryz.prog.underlying t4=some d2) (h1:d1.isRow=false) (h2:d2.isRow=false)
 (hr:fn.results= #[.cell p t3,.cell q t4]) (tmps:Array Value) (hp:tmps.getD p undef=ptr g) (hq:tmps.getD q undef=ptr h):(results fn tmps).run Tryz.prog W= .ok (.tuple #[u,v]) W:=by
 have e:(results fn tmps).run Tryz.prog W=((asAddr (tmps.getD p undef)).run Tryz.prog W).andThen fun a w₁=>((loadVar t3 a).run Tryz.prog w₁).andThen fun v w₂=>((asAddr (tmps.getD q undef)).run Tryz.prog w₂).andThen fun a w₃=>((loadVar t4 a).run Tryz.prog w₃).andThen fun v' w₄=> .ok (.tuple #[v,v']) w₄:=by
  simp only [results,hr]
  simp [Sem.run_bind,Result.andThen]
 rw [e,hp,hq]
 simp only [ptr,asAddr,Sem.run_pure,Result.andThen_ok,pK hg hu h1,pK hh hv h2]
structure Rz (r:M.Rules) (l:List Sh) (C:List (Int × Int)) (A1:Option Addr) (c1:Nat) (w:World) (D:Nat) (X Y:Nat→Prop) (W:World):Prop where
 bw:Below w.heap.size w W
 sz:D≤W.heap.size
 sep:∀ b,X b∨Y b→D≤b
 c5:Held W (w.heap.size+1) [.slice A1 C.length c1] 61
 c6:∃ u,Held W (w.heap.size+2) [u] 3
 c7:∃ u,Held W (w.heap.size+3) [u] 39
structure Zv (r:M.Rules) (l:List Sh) (C:List (Int × Int)) (A1:Option Addr) (c1:Nat) (w:World) (D:Nat) (X Y:Nat→Prop) (xs:List wY) (W:World):Prop where
 i:Rz r l C A1 c1 w D X Y W
 f:M.qW r (plain l) C=M.iq (Y1 r l C) (xs.length+1) (l.length - xs.length)
structure AuX (r:M.Rules) (l:List Sh) (C:List (Int × Int)) (A1:Option Addr) (c1:Nat) (w:World) (D:Nat) (X Y:Nat→Prop) (xs:List wY) (W:World):Prop where
 i:Rz r l C A1 c1 w D X Y W
 d6:Held W (w.heap.size+2) [.int .i64 (M.qW r (plain l) C)] 3
 d7:Held W (w.heap.size+3) [.int .i64 0] 39
section
variable {r:M.Rules} {l:List Sh} {C:List (Int × Int)} {A1:Option Addr} {c1:Nat} {w:World} {D:Nat}
theorem Rz.turn {X Y X' Y':Nat→Prop} {W W':World} (h9:w.heap.size+4≤D) (h:Rz r l C A1 c1 w D X Y W) (ht:Turn X W W') (hX:vI W X X') (hY:vI W Y Y'):Rz r l C A1 c1 w D X' Y' W':=by
 have hno:∀ b,b<D→¬ X b:=fun b hb hx=>by have:=h.sep b (.inl hx);omega
 obtain ⟨u6,h6⟩:=h.c6;obtain ⟨u7,h7⟩:=h.c7;refine ⟨gB h.bw ht (fun b hb=>by have:=h.sep b (.inl hb);omega) (by have:=h.sz;omega),Nat.le_trans h.sz ht.size,?_,h.c5.turn ht (hno _ (by omega)),⟨u6,h6.turn ht (hno _ (by omega))⟩,⟨u7,h7.turn ht (hno _ (by omega))⟩⟩
 rintro b (hb | hb)
 · rcases hX b hb with h2 | h2
   · exact h.sep b (.inl h2)
   · exact Nat.le_trans h.sz h2
 · rcases hY b hb with h2 | h2
   · exact h.sep b (.inr h2)
   · exact Nat.le_trans h.sz h2
theorem Rz.putObj {X Y:Nat→Prop} {W:World} {lp:Nat} {o:Obj} (h:Rz r l C A1 c1 w D X Y W) (hD:w.heap.size≤D) (hlp:D≤lp) (hl:W.heap[lp]? =some o) (ho:o.isCells=false) (o':Obj):Rz r l C A1 c1 w D X Y (W.putObj lp o'):=by
 obtain ⟨u6,h6⟩:=h.c6;obtain ⟨u7,h7⟩:=h.c7;exact ⟨fJ h.bw (by omega) _,by simpa using h.sz,h.sep,h.c5.putObj hl ho _,⟨u6,h6.putObj hl ho _⟩,⟨u7,h7.putObj hl ho _⟩⟩
theorem Rz.put {X Y:Nat→Prop} {W:World} (h9:w.heap.size+4≤D) (h:Rz r l C A1 c1 w D X Y W) (v6 v7:Value):Rz r l C A1 c1 w D X Y ((W.setCell ⟨w.heap.size+2,0,none⟩ v6).setCell ⟨w.heap.size+3,0,none⟩ v7)∧Held ((W.setCell ⟨w.heap.size+2,0,none⟩ v6).setCell ⟨w.heap.size+3,0,none⟩ v7) (w.heap.size+2) [v6] 3∧Held ((W.setCell ⟨w.heap.size+2,0,none⟩ v6).setCell ⟨w.heap.size+3,0,none⟩ v7) (w.heap.size+3) [v7] 39:=by
 obtain ⟨u6,h6⟩:=h.c6;obtain ⟨u7,h7⟩:=h.c7;have a6:Held (W.setCell ⟨w.heap.size+2,0,none⟩ v6) (w.heap.size+2) [v6] 3:=h6.set 0 v6;have b7:Held (W.setCell ⟨w.heap.size+2,0,none⟩ v6) (w.heap.size+3) [u7] 39:=h7.blk (Below.heap_setCell W _ _ _ (by show ¬ _=_;simp));have d7:=b7.set 0 v7;have d6:Held ((W.setCell ⟨w.heap.size+2,0,none⟩ v6).setCell ⟨w.heap.size+3,0,none⟩ v7) (w.heap.size+2) [v6] 3:=a6.blk (Below.heap_setCell _ _ _ _ (by show ¬ _=_;simp));have d5:Held ((W.setCell ⟨w.heap.size+2,0,none⟩ v6).setCell ⟨w.heap.size+3,0,none⟩ v7) (w.heap.size+1) [.slice A1 C.length c1] 61:=(h.c5.blk (Below.heap_setCell W _ _ _ (by show ¬ _=_;simp))).blk (Below.heap_setCell _ _ _ _ (by show ¬ _=_;simp));have hb:=(h.bw.setCell (p:=⟨w.heap.size+2,0,none⟩) (by show _≤w.heap.size+2;omega) v6).setCell (p:=⟨w.heap.size+3,0,none⟩) (by show _≤w.heap.size+3;omega) v7;have hs:=(((Below.refl 0 W).setCell (p:=⟨w.heap.size+2,0,none⟩) (Nat.zero_le _) v6).setCell (p:=⟨w.heap.size+3,0,none⟩) (Nat.zero_le _) v7).size;exact ⟨⟨hb,Nat.le_trans h.sz hs,h.sep,d5,⟨_,d6⟩,⟨_,d7⟩⟩,d6,d7⟩
theorem Jw {W:World} {v6 v7:Value} {k:Nat} (hk:w.heap.size+4≤k):((W.setCell ⟨w.heap.size+2,0,none⟩ v6).setCell ⟨w.heap.size+3,0,none⟩ v7).heap[k]? =W.heap[k]? :=
 (Below.heap_setCell _ _ _ _ (by show ¬ _=w.heap.size+3;omega)).trans (Below.heap_setCell _ _ _ _ (by show ¬ _=w.heap.size+2;omega))
theorem UM {W:World} {v6 v7:Value}:W.heap.size≤((W.setCell ⟨w.heap.size+2,0,none⟩ v6).setCell ⟨w.heap.size+3,0,none⟩ v7).heap.size:=
 (((Below.refl 0 W).setCell (p:=⟨w.heap.size+2,0,none⟩) (Nat.zero_le _) v6).setCell (p:=⟨w.heap.size+3,0,none⟩) (Nat.zero_le _) v7).size
theorem Zv.abides (h9:w.heap.size+4≤D):kZ (Zv r l C A1 c1 w D):=fun X Y pre W X' Y' W' h ht hX hY=>⟨h.i.turn h9 ht hX hY,h.f⟩
theorem AuX.abides (h9:w.heap.size+4≤D):kZ (AuX r l C A1 c1 w D):=fun X Y pre W X' Y' W' h ht hX hY=>by
 have hno:∀ b,b<D→¬ X b:=fun b hb hx=>by have:=h.i.sep b (.inl hx);omega
 exact ⟨h.i.turn h9 ht hX hY,h.d6.turn ht (hno _ (by omega)),h.d7.turn ht (hno _ (by omega))⟩
end
theorem Dq (S S':Nat→Prop) (r:M.Rules) (l:List Sh) (C:List (Int × Int)) (A A1:Option Addr) (c c1:Nat) (w:World) (hp:jQ w S A c l) (hc:RdC w S' A1 c1 C):
 Calls Tryz.prog 18 #[iJ r,.slice A l.length c,.slice A1 C.length c1] w fun e w'=>e= .returned (.tuple #[.int .i64 (Nz r l C),.int .i64 (Jr r l C)])∧Below w.heap.size w w':=by
 refine callsIn_wide.1 (callsIn_of_wp_marks (F:=Fence.wide) (n:=5) Tryz.func18 rfl trivial ?_ rfl)
 simp only [Tryz.ntmps18,List.size_toArray,List.length_cons,List.length_nil,Nat.reduceAdd,Nat.reduceSub,Array.replicate_succ,
  Array.replicate_zero,List.push_toArray,List.append_toArray,List.nil_append,List.cons_append]
 refine wpIn_wide.2 ?_
 generalize hQ':bodyPostM Fence.wide 5 Tryz.prog _ _=Q'
 obtain ⟨b1,b2,b3⟩:=hp.bd;obtain ⟨d1,d2,d3⟩:=hc.bd;obtain ⟨E1,hE1⟩:∃ E,aS [M.aQ r,M.dO (plain l)]=E:=⟨_,rfl⟩;obtain ⟨E,hE⟩:∃ E,Jr r l C=E:=⟨_,rfl⟩;obtain ⟨bn,hbn⟩:∃ b,((C.length:Int) != (l.length:Int))=b:=⟨_,rfl⟩
 have Y8:aS [E1,wh bn 2]=E:=by
  rw [← hE, ← hE1]
  unfold Jr auE wh
  by_cases h:C.length=l.length
  · have:bn=false:=by rw [← hbn,h];simp
    rw [this,if_pos h];rfl
  · have:bn=true:=by rw [← hbn];simp;omega
    rw [this,if_neg h];rfl
 have hck:=fun W h=>check_any S r l A c W h;have aC8:wK r l=E1:=hE1;rw [hE1] at hck;have hfi:=fun A c w h=>first_any (fun _=>True) A c [E1,wh bn 2] w h
 simp only [Y8] at hfi
 have Xk:=hide hfi;have HQ:=hide hQ';clear hQ' hfi;refine kY ?_
 go_upto_region 1 with (fail)
 refine rD (p:=fun W=>Code.wp _ _ _ _ W) (fun w0 hw0=>?_)
 have hB:aX w w0 [([.string r.game,.int .i64 r.target,.int .i64 r.bD],23),([.slice A1 C.length c1],61),([.int .i64 0],3),([.int .i64 0],39)]:=by rw [hw0];exact (((((aX.nil w).new (by simp) ([.string r.game,.int .i64 r.target,.int .i64 r.bD]) _).new (by simp) ([.slice A1 C.length c1]) _).new (by simp) ([.int .i64 0]) _).new (by simp) ([.int .i64 0]) _)
 clear hw0
 have hsz0:w.heap.size+4≤w0.heap.size:=by simpa using hB.size (by simp)
 have RH:∀ W',(fun w':World=>Below w0.heap.size w0 w'∧(∀ q,w'.cell? ⟨w.heap.size+1,q,none⟩=w0.cell? ⟨w.heap.size+1,q,none⟩)) W'→W'.rangeAt w.heap.size 0 ([.string r.game,.int .i64 r.target,.int .i64 r.bD]):=fun W' h=>((hB.ah rfl).below h.1).range;have k5:=(hB.get 1 rfl).cell (j:=0) rfl;have sZ:=fun W (h:Below w0.heap.size w0 W)=>hck W ((hp.below hB.bw).below h);have vV:=hide sZ;have HP:=hide hp;have HC:=hide hc;have HE:=hide (And.intro hE1 (And.intro hE Y8));clear hck sZ hE Y8 hE1 hp hc;refine wp_region_held_drew (S:=(fun w':World=>Below w0.heap.size w0 w'∧(∀ q,w'.cell? ⟨w.heap.size+1,q,none⟩=w0.cell? ⟨w.heap.size+1,q,none⟩))) (by kernel_rfl) ?jm (fun hHeld=>?_)
 case jm=>exact ⟨(Below.refl _ _).drew,fun q=>rfl⟩
 refine jZ 0 RH Tryz.underlying23 ?_;refine tk 1 ?_;refine tk 3 ?_;refine tk 4 ?_;refine tk 5 ?_;refine tk 6 ?_;refine tk 7 ?_;refine tr 2 fun K hK=>?_;go_simp
 (go_at_call 34;refine (vV.out _ hHeld.1).mono ?_;rintro e w1 ⟨rfl,hb1⟩)
 refine bW hK (⟨hHeld.1.trans (hb1.mono hHeld.1.size),fun q=>(hb1.cell (p:=⟨w.heap.size+1,q,none⟩) (by have:=hHeld.1.size;(try simp at this ⊢);omega)).trans (hHeld.2 q)⟩) fun hHeld=>?_;clear hK K;refine tr 8 fun K hK=>?_;go_simp
 (go_at_call 30;refine (dF _ _ _).mono ?_;rintro e w9 ⟨rfl,rfl⟩)
 refine bW hK (hHeld) fun hHeld=>?_;clear hK K;refine tr 9 fun K hK=>?_;go_simp;refine bW hK (⟨Below.alloc hHeld.1 hHeld.1.size _,fun q=>(World.cell?_alloc_lt _ _ ⟨w.heap.size+1,q,none⟩ (by have:=hHeld.1.size;(try simp at this ⊢);omega)).trans (hHeld.2 q)⟩) fun hHeld=>?_;clear hK K;refine tr 10 fun K hK=>?_;go_simp
 (go_at_call 28;refine (Xk.out _ _ _ (bQ.lit _ _ _ (by simp) _ trivial)).mono ?_;rintro e w8 ⟨rfl,rfl⟩)
 refine bW hK (hHeld) fun hHeld=>?_;clear hK K;refine tk 11 ?_;refine wpAnyH_done (by kernel_rfl) ?_ _
 go_upto_region 2 with (fail)
 refine rD (p:=fun W=>Code.wp _ _ _ _ W) (fun wc hwc=>?_)
 have hBc:aX w wc [([.string r.game,.int .i64 r.target,.int .i64 r.bD],23),([.slice A1 C.length c1],61),([.int .i64 0],3),([.int .i64 0],39)]:=by rw [hwc];exact hB.call (by simp) hHeld.1
 clear hwc hHeld RH k5 hB hsz0
 by_cases h0:E=0
 rotate_left
 · have q0:(E != 0)=true:=by simpa using h0
   have hv:Nz r l C=0:=if_neg (by rw [HE.out.2.1];exact h0);have HV:=hide hv;clear hv h0;have p6:=(hBc.get 2 rfl).cell (j:=0) rfl;have pf6:=(hBc.get 2 rfl).frozen 0;have p7:=(hBc.get 3 rfl).cell (j:=0) rfl;have pf7:=(hBc.get 3 rfl).frozen 0;go_wp2;have hF:=(hBc.set 2 rfl 0 (.int .i64 0)).set 3 rfl 0 (.int .i64 E)
   show Q' .ret _ _
   rw [← HQ.out];refine wJ (vX (p:=6) (q:=7) (hF.get 2 rfl) (hF.get 3 rfl) Tryz.underlying3 Tryz.underlying39 rfl rfl rfl _ rfl rfl) rfl ⟨?_,hF.bw⟩;rw [HV.out,HE.out.2.1]
 subst h0
 have hparts:wK r l=0∧C.length=l.length:=by
  have h1:=Il HE.out.2.2;refine ⟨HE.out.1.trans h1.1,?_⟩;have h2:=h1.2
  by_cases h:C.length=l.length
  · exact h
  · have:bn=true:=by rw [← hbn];simp;omega
    rw [this] at h2;exact absurd h2 (by decide)
 obtain ⟨hlg,hCl⟩:=hparts;have sZ:=Il (show aS [M.aQ r,M.dO (plain l)]=0 from hlg);have hv:Nz r l C=M.qW r (plain l) C:=if_pos HE.out.2.1;have HV:=hide hv;have HR:=hide sZ.1;have hls:=((M.jJ _).1 sZ.2).1;rw [aW] at hls;have HL:Hid (∀ e∈l,M.bT e.x=0):=hide (fun e he=>((M.jJ _).1 sZ.2).2 _ (List.mem_map_of_mem he));have Ph:=hide hls;have Ls:=hide hCl;have hp:=HP.out;clear hls sZ hlg hv hCl hbn Xk vV;have k0:=(hBc.ah rfl).cell (j:=0) rfl;have k1:=(hBc.ah rfl).cell (j:=1) rfl;have k2:=(hBc.ah rfl).cell (j:=2) rfl
 have qB:w.heap.size+4≤wc.heap.size:=by simpa using hBc.size (by simp)
 go_wp2_with (go_at_call 38;refine (rC r _ _ _ _).mono ?_;rintro e w3 ⟨rfl,hC⟩)
 rename_i KQ TN;clear k0 k1 k2
 have hD3:wc.heap.size+2≤w3.heap.size:=by
  have:=hC.size (by simp)
  simpa using this
 have hb3:Below w.heap.size w w3:=hBc.bw.trans (hC.bw.mono (by omega));have MF:Held w3 wc.heap.size ([.string r.game,.int .i64 r.target,.int .i64 r.bD]) 23:=hC.ah rfl;have MC:Held w3 (wc.heap.size+1) [.slice A l.length c] 24:=hC.get 1 rfl
 have hK3:∀ b,(b=wc.heap.size∨b=wc.heap.size+1∨(S b∧b<w.heap.size))→b<w3.heap.size:=by rintro b (h | h | ⟨_,h⟩) <;> omega
 have ZW:jQ w3 (fun b=>b=wc.heap.size∨b=wc.heap.size+1∨(S b∧b<w.heap.size)) A c l:=(hp.more (S':=(fun b=>b=wc.heap.size∨b=wc.heap.size+1∨(S b∧b<w.heap.size))) (fun b hb h=> .inr (.inr ⟨h,hb⟩))).below hb3;have rZ:Held w3 (w.heap.size+1) [.slice A1 C.length c1] 61:=(hBc.get 1 rfl).upto hC.bw (by omega);have hA6:Held w3 (w.heap.size+2) ([.int .i64 0]) 3:=(hBc.get 2 rfl).upto hC.bw (by omega);have hA7:Held w3 (w.heap.size+3) ([.int .i64 0]) 39:=(hBc.get 3 rfl).upto hC.bw (by omega);refine (wpIn_wide (n:=5)).1 ?_
 refine fV (F:=Fence.wide) rfl (by decide) rfl trivial (fun _ _=>rfl) (oP r l A c (fun b=>b=wc.heap.size∨b=wc.heap.size+1∨(S b∧b<w.heap.size)) _ _ 4 w3 (by decide) HR.out HL.out Ph.out hK3 MF (.inl rfl) MC (.inr (.inl rfl)) ZW) hK3 (Below.refl _ _) (fun _=>rfl) (Zv r l C A1 c1 w w3.heap.size) (AuX r l C A1 c1 w w3.heap.size) (Zv.abides (by omega)) (AuX.abides (by omega))
  (fun X Y pre W lp o o' h hlp hl ho=>⟨h.i.putObj (by omega) hlp hl ho o',h.f⟩) (fun X Y pre W lp o o' h hlp hl ho=>⟨h.i.putObj (by omega) hlp hl ho o',h.d6.putObj hl ho _,h.d7.putObj hl ho _⟩) (fun X Y pre x W lp o o' h hlp hl ho=>h.putObj hl ho o') ?h0 (fun x a W=>∃ Be v0 v1 v2 v3 v4 v8 v11 v12 v13 v14 v15 v16 v17 v18 v19 v20 v21 v22 v23 v24 v25 v26 v27 v28 v29 v30 v31 v32 v33 v34 v35 v36 v37 v38 v39 v40,a= {tmps:= #[v0,v1,v2,v3,v4,ptr (w.heap.size+1),ptr (w.heap.size+2),ptr (w.heap.size+3),v8,.int .i64 (x.i:Int),ptr Be,v11,v12,v13,v14,v15,v16,v17,v18,v19,v20,v21,v22,v23,v24,v25,v26,v27,v28,v29,v30,v31,v32,v33,v34,v35,v36,v37,v38,v39,v40],defers:=[] }∧w3.heap.size≤Be∧Held W Be (bY r x) 106) ?assign ?ap ?body ?done ?stop
 case h0=>
  intro W hW;exact ⟨⟨hb3.trans (hW.mono (by omega)),hW.size,fun b h=>h.elim (fun h=>h.elim) (fun h=>h.elim),rZ.below hW,⟨_,hA6.below hW⟩,⟨_,hA7.below hW⟩⟩,Xq r l C⟩
 case ap=>
  rintro x a' W lp o o' ⟨Be,v0,v1,v2,v3,v4,v8,v11,v12,v13,v14,v15,v16,v17,v18,v19,v20,v21,v22,v23,v24,v25,v26,v27,v28,v29,v30,v31,v32,v33,v34,v35,v36,v37,v38,v39,v40,e2,h1,h2⟩ hlp hl ho
  exact ⟨Be,v0,v1,v2,v3,v4,v8,v11,v12,v13,v14,v15,v16,v17,v18,v19,v20,v21,v22,v23,v24,v25,v26,v27,v28,v29,v30,v31,v32,v33,v34,v35,v36,v37,v38,v39,v40,e2,h1,h2.putObj hl ho _⟩
 case assign=>
  intro lp X Y pre x W K' hi ht hk uy;have hb:=((Below.refl W.heap.size W).alloc (Nat.le_refl _) (.cells gW.toArray 106));have hb':=below_setCells W.heap.size (Nat.le_refl _) (bY r x) 0 _ _ hb;have hE0:=Held.new W gW 106;have hsz:=hi.i.sz
  have fin:∀ v0 v1 v2 v3 v4 v8 v11 v12 v13 v14 v15 v16 v17 v18 v19 v20 v21 v22 v23 v24 v25 v26 v27 v28 v29 v30 v31 v32 v33 v34 v35 v36 v37 v38 v39 v40:Value,K' {tmps:= #[v0,v1,v2,v3,v4,ptr (w.heap.size+1),ptr (w.heap.size+2),ptr (w.heap.size+3),v8,.int .i64 (x.i:Int),ptr W.heap.size,v11,v12,v13,v14,v15,v16,v17,v18,v19,v20,v21,v22,v23,v24,v25,v26,v27,v28,v29,v30,v31,v32,v33,v34,v35,v36,v37,v38,v39,v40],defers:=[] } ((W.alloc (.cells gW.toArray 106)).setCells W.heap.size 0 (bY r x)):=fun _ _ _ _ _ _ _ _ _ _ _ _ _ _ _ _ _ _ _ _ _ _ _ _ _ _ _ _ _ _ _ _ _ _ _ _=>
   hk _ _ ⟨hb'.size,fun k o hk hl _=>(hb'.block k (Array.getElem?_eq_some_iff.1 hl).1).trans hl⟩
    ⟨hb'.size,fun b h=>hb'.block b (uy b h),fun b h=>hb'.block b (Nat.lt_of_lt_of_le (hK3 b h) hsz)⟩
    (Zv.abides (by omega) _ _ _ _ _ _ _ hi (Turn.of_below hb') (fun b h=> .inl h) (fun b h=> .inl h))
    ⟨ht.i,ht.lt,ht.e,ht.s,ht.t,ht.rule,ht.a.below hb',ht.b.below hb',ht.xy⟩
    ⟨W.heap.size,_,_,_,_,_,_,_,_,_,_,_,_,_,_,_,_,_,_,_,_,_,_,_,_,_,_,_,_,_,_,_,_,_,_,_,_,rfl,hsz,hE0.whole _ rfl⟩
  have FIN:=hide fin;clear hk fin hb hb' hi ht uy hsz
  simp [yS]
  apply wpIn_seq_k;intro K1 hK1;refine bH (by kernel_rfl) (by rintro ⟨_,_,h⟩;exact h) ?_;go_wp2;refine bH (by kernel_rfl) (by rintro ⟨_,_,h⟩;exact h) ?_
  go_wp2_with (refine aO 106 (.tmp 10) (.tmp 29) rfl ?_;refine aF hE0 (bY r x) rfl lF (qZ _ _) rfl (.tmp 10) (.tmp 29) rfl rfl rfl ?_)
  exact FIN.out _ _ _ _ _ _ _ _ _ _ _ _ _ _ _ _ _ _ _ _ _ _ _ _ _ _ _ _ _ _ _ _ _ _ _ _
 case body=>
  rintro lp X Y pre x a' W hi ht ⟨Be,v0,v1,v2,v3,v4,v8,v11,v12,v13,v14,v15,v16,v17,v18,v19,v20,v21,v22,v23,v24,v25,v26,v27,v28,v29,v30,v31,v32,v33,v34,v35,v36,v37,v38,v39,v40,rfl,ZU,hE⟩ hlt uy hWs
  have hst:x.t=jF r l (pre.length+1):=by
   have hle:l[pre.length]=x.e:=by have:=ht.e;rw [List.getElem?_eq_getElem hlt] at this;exact Option.some.inj this
   rw [qm r l _ hlt,ht.t,ht.s,hle]
  have hkC:pre.length<C.length:=by have:=Ls.out;omega
  have hrc:=Reads.below HC.out hi.i.bw;obtain ⟨b,o,rfl,_,hbl,hcs⟩:=Reads.at_ hrc (by omega);have h00:=vC Ba hcs pre.length hkC
  have hsr:∀ W',(fun w':World=>(∀ q,w'.cell? ⟨w.heap.size+1,q,none⟩=W.cell? ⟨w.heap.size+1,q,none⟩)∧∀ b q,b<W.heap.size→w'.cell? ⟨b,q,none⟩=W.cell? ⟨b,q,none⟩) W'→W'.rangeAt Be 35 [.int .i64 x.t.s0,.int .i64 x.t.s1]:=fun W' hS j v hj=>by
   rw [hS.2 Be _ hE.lt]
   have hj2:(aJ x.t x.A' x.c')[7+j]? =some v:=by
    match j,hj with
    | 0,hj=>exact hj
    | 1,hj=>exact hj
   have h1:=hE.cell (Bd r x.i x.e x.s x.t x.A x.A' x.c x.c' x.rule (3+(7+j)) v (vF r x.t x.A' x.c' (7+j) v hj2));rw [show 35+j=25+(3+(7+j)) by omega];exact h1
  have hcr:∀ W',(fun w':World=>(∀ q,w'.cell? ⟨w.heap.size+1,q,none⟩=W.cell? ⟨w.heap.size+1,q,none⟩)∧∀ b q,b<W.heap.size→w'.cell? ⟨b,q,none⟩=W.cell? ⟨b,q,none⟩) W'→W'.rangeAt b (o+pre.length*2) [.int .i64 C[pre.length].1,.int .i64 C[pre.length].2]:=fun W' hS j v hj=>by
   rw [hS.2 b _ hbl];exact h00 j v hj
  have k5:=hi.i.c5.cell (j:=0) rfl;have hxi:=ht.i
  have i1:(0:Int)≤(pre.length:Int):=by omega
  have i2:(pre.length:Int)<(C.length:Int):=by omega
  have zK:=sU;have hstep:=M.vN (Y1 r l C) hlt;have HI:=hide hi;have HX:=hide uy
  cases hv:Y1 r l C (pre.length+1) with
  | true=>
    have hsc:=fun w=>DI hkC hv w;rw [← hst] at hsc
    have hf2:M.qW r (plain l) C=M.iq (Y1 r l C) ((pre++[x]).length+1) (l.length - (pre++[x]).length):=by
     rw [hi.f,hstep,hv,List.length_append,List.length_singleton];rfl
    have hi2:Rz r l C (some ⟨b,o,none⟩) c1 w w3.heap.size X Y W.drew:=hi.i.turn (by omega) ⟨rfl,rfl,rfl,Nat.le_refl _,fun _ _ _=>rfl⟩ (fun b h=> .inl h) (fun b h=> .inl h);have fin:∀ a,o8 (fun b=>b=wc.heap.size∨b=wc.heap.size+1∨(S b∧b<w.heap.size)) w3.heap.size X Y (Zv r l C (some ⟨b,o,none⟩) c1 w w3.heap.size) (AuX r l C (some ⟨b,o,none⟩) c1 w w3.heap.size) (pre++[x]) W .normal a W.drew:=fun a=>⟨⟨Nat.le_refl _,fun k o _ hl _=>hl⟩,⟨Nat.le_refl _,fun _ _=>rfl,fun _ _=>rfl⟩,⟨hi2,hf2⟩⟩;have FIN:=hide fin;clear fin hi2 hf2 hv hst h00 hcs hrc hstep ht hi uy;apply wpIn_block;apply wpIn_seq_k;intro K4 hK4;rw [hxi];refine gy (S:=(fun w':World=>(∀ q,w'.cell? ⟨w.heap.size+1,q,none⟩=W.cell? ⟨w.heap.size+1,q,none⟩)∧∀ b q,b<W.heap.size→w'.cell? ⟨b,q,none⟩=W.cell? ⟨b,q,none⟩)) (by kernel_rfl) (by rintro ⟨_,_,h⟩;exact h) (by kernel_rfl) ?jo (fun hHeld=>?_)
    case jo=>exact ⟨fun q=>rfl,fun b q _=>rfl⟩
    refine tk 0 ?_;refine tk 1 ?_;refine tk 2 ?_;refine jZ 3 hsr Tryz.underlying51 ?_;refine tk 4 ?_;refine tk 5 ?_;refine tk 6 ?_;refine jZ 7 hcr Tryz.underlying51 ?_;refine tk 8 ?_;refine wpAnyH_done (by kernel_rfl) ?_ _;refine hK4 _ _ ?_;refine wpIn_cond_split rfl (fun h=>by cases h) (fun _=>?_);refine wpIn_skip ?_;exact FIN.out {tmps:= #[],defers:=[] }
  | false=>
    have hsc:=fun w=>DI hkC hv w;rw [← hst] at hsc
    have hf2:M.qW r (plain l) C=((pre.length+1:Nat):Int):=by rw [hi.f,hstep,hv];rfl
    obtain ⟨u6,g6⟩:=hi.i.c6;obtain ⟨u7,g7⟩:=hi.i.c7;have p6:=g6.cell (j:=0) rfl;have pf6:=g6.frozen 0;have p7:=g7.cell (j:=0) rfl;have pf7:=g7.frozen 0;obtain ⟨q1,q2,q3⟩:=hi.i.put (by omega) (.int .i64 ((pre.length:Int)+1)) (.int .i64 0)
    have q2':Held ((W.setCell ⟨w.heap.size+2,0,none⟩ (.int .i64 ((pre.length:Int)+1))).setCell ⟨w.heap.size+3,0,none⟩ (.int .i64 0)) (w.heap.size+2) [.int .i64 (M.qW r (plain l) C)] 3:=by
     rw [show M.qW r (plain l) C=(pre.length:Int)+1 by rw [hf2];push_cast;rfl];exact q2
    have hi2:=q1.turn (by omega) (W':=((W.setCell ⟨w.heap.size+2,0,none⟩ (.int .i64 ((pre.length:Int)+1))).setCell ⟨w.heap.size+3,0,none⟩ (.int .i64 0)).drew) ⟨rfl,rfl,rfl,Nat.le_refl _,fun _ _ _=>rfl⟩ (fun b h=> .inl h) (fun b h=> .inl h);have fin:∀ a,o8 (fun b=>b=wc.heap.size∨b=wc.heap.size+1∨(S b∧b<w.heap.size)) w3.heap.size X Y (Zv r l C (some ⟨b,o,none⟩) c1 w w3.heap.size) (AuX r l C (some ⟨b,o,none⟩) c1 w w3.heap.size) (pre++[x]) W .ret a ((W.setCell ⟨w.heap.size+2,0,none⟩ (.int .i64 ((pre.length:Int)+1))).setCell ⟨w.heap.size+3,0,none⟩ (.int .i64 0)).drew:=fun a=>⟨⟨UM,fun k o hk hl _=>(Jw (by omega)).trans hl⟩,⟨hi2,q2',q3⟩⟩;have FIN:=hide fin;clear fin q1 q2 q2' q3 g6 g7 hi2 hf2 hv hst h00 hcs hrc hstep ht hi uy;apply wpIn_block;apply wpIn_seq_k;intro K4 hK4;rw [hxi];refine gy (S:=(fun w':World=>(∀ q,w'.cell? ⟨w.heap.size+1,q,none⟩=W.cell? ⟨w.heap.size+1,q,none⟩)∧∀ b q,b<W.heap.size→w'.cell? ⟨b,q,none⟩=W.cell? ⟨b,q,none⟩)) (by kernel_rfl) (by rintro ⟨_,_,h⟩;exact h) (by kernel_rfl) ?jX (fun hHeld=>?_)
    case jX=>exact ⟨fun q=>rfl,fun b q _=>rfl⟩
    refine tk 0 ?_;refine tk 1 ?_;refine tk 2 ?_;refine jZ 3 hsr Tryz.underlying51 ?_;refine tk 4 ?_;refine tk 5 ?_;refine tk 6 ?_;refine jZ 7 hcr Tryz.underlying51 ?_;refine tk 8 ?_;refine wpAnyH_done (by kernel_rfl) ?_ _;refine hK4 _ _ ?_;refine wpIn_cond_split rfl (fun _=>?_) (fun h=>by cases h);apply wpIn_seq_k;intro K5 hK5;refine bH (by kernel_rfl) (by rintro ⟨_,_,h⟩;exact h) ?_;go_wp2;refine wpIn_ret ?_;exact FIN.out {tmps:= #[],defers:=[] }
 case done=>
  intro D X Y xs W hD hS hi hdef;obtain ⟨u6,g6⟩:=hi.i.c6;obtain ⟨u7,g7⟩:=hi.i.c7;have hbw:=hi.i.bw;have hWs:=hi.i.sz
  have hz:M.qW r (plain l) C=0:=by rw [hi.f,hS,Nat.sub_self];rfl
  have p6:=g6.cell (j:=0) rfl;have pf6:=g6.frozen 0;have p7:=g7.cell (j:=0) rfl;have pf7:=g7.frozen 0;obtain ⟨q1,q2,q3⟩:=hi.i.put (by omega) (.int .i64 0) (.int .i64 0);have hd:=(Jw (W:=W) (w:=w) (v6:= .int .i64 0) (v7:= .int .i64 0) (k:=D) (by omega)).trans hdef
  have fin:∀ (a:Act),a.defers=[{target:= .collected D,args:= #[] }]→a.tmps.getD 6 undef=ptr (w.heap.size+2)→a.tmps.getD 7 undef=ptr (w.heap.size+3)→Ot Q' .ret a ((W.setCell ⟨w.heap.size+2,0,none⟩ (.int .i64 0)).setCell ⟨w.heap.size+3,0,none⟩ (.int .i64 0)):=by
   intro a e1 e6 e7
   show Q' .ret _ _
   rw [← HQ.out];refine jA e1 hd (vX (p:=6) (q:=7) (q2.putObj hd rfl _) (q3.putObj hd rfl _) Tryz.underlying3 Tryz.underlying39 rfl rfl rfl _ e6 e7) ⟨?_,fJ q1.bw (by omega) _⟩;rw [HV.out,hz,HE.out.2.1]
  have FIN:=hide fin;clear fin q1 q2 q3 hd g6 g7 hi hdef hS hz;refine TN _ _ ?_
  dsimp only
  go_wp2;exact FIN.out _ rfl rfl rfl
 case stop=>
  intro D X Y pre W hD hSp hx hdef;refine wpIn_ret ?_
  show Q' .ret _ _
  rw [← HQ.out];refine jA rfl hdef (vX (p:=6) (q:=7) (hx.d6.putObj hdef rfl _) (hx.d7.putObj hdef rfl _) Tryz.underlying3 Tryz.underlying39 rfl rfl rfl _ rfl rfl) ⟨?_,fJ hx.i.bw (by omega) _⟩;rw [HV.out,HE.out.2.1]
def chF (r:M.Rules) (a b:List Sh) (n:Nat):Bool:=(M.jf r (plain a) n).eq (M.jf r (plain b) n)
theorem PE (r:M.Rules) (a b:List Sh):M.changed r (plain a) (plain b)=M.iq (chF r a b) 1 (max a.length b.length):=by unfold M.changed;rw [aW,aW];rfl
noncomputable def Bq (n:Nat):Code:=eP n ((Tryz.f11).body.getD .skip)
@[reducible] def Pn (r:M.Rules) (a b:List Sh) (A B:Option Addr) (c d:Nat) (w:World) (F:Value→Value→Value→Value→Value→Value→Value→World→Prop) (n:Nat):Prop:=∀ (z0 z1 z2 z3 z4 z5 z6 z7 z8 z9 z10 z11 z12 z13 qM qN qO z17 qP oV z20 z21 z22 z23 z24 z25 z26 z27 z28 z29 z30 z31 z32 z33 z34 z35 z36 z37 z38 z39 z40 z41 z42 z43 z44 z45 z46 z47 z48 z49 z50 z51 z52 z53 z54 z55 z56 z57 z58 z59 z60 z61 z62 z63 z64 z65 z66:Value) (W:World),F z1 z2 z3 z9 z10 z11 z12 W→(Bq n).wp Tryz.prog (bodyPost Tryz.prog Tryz.f11 (fun e w'=>e= .returned (.tuple #[.int .i64 (M.changed r (plain a) (plain b)),.int .i64 0])∧Below w.heap.size w w')) {tmps:= #[z0,z1,z2,z3,z4,z5,z6,z7,z8,z9,z10,z11,z12,z13,qM,qN,qO,z17,qP,oV,z20,z21,z22,z23,z24,z25,z26,z27,z28,z29,z30,z31,z32,z33,z34,z35,z36,z37,z38,z39,z40,z41,z42,z43,z44,z45,z46,z47,z48,z49,z50,z51,z52,z53,z54,z55,z56,z57,z58,z59,z60,z61,z62,z63,z64,z65,z66],defers:=[] } W
@[reducible] def YX (r:M.Rules) (a b:List Sh) (A B:Option Addr) (c d:Nat) (w:World):Prop:=Pn r a b A B c d w (fun z1 z2 z3 _ _ _ _ W=>z1= .slice A a.length c∧z2= .slice B b.length d∧z3=ptr w.heap.size∧Held W w.heap.size ([.string r.game,.int .i64 r.target,.int .i64 r.bD]) 23∧Below w.heap.size w W) 2
@[reducible] def SA (r:M.Rules) (a b:List Sh) (A B:Option Addr) (c d:Nat) (w:World):Prop:=Pn r a b A B c d w (fun _ _ z3 z9 z10 _ _ W=>(∃ L A c,z9= .slice A (L:List Es).length c∧L.length=a.length∧SE r a L∧LJ W (fun b=>True) A c L)∧(∃ L A c,z10= .slice A (L:List Es).length c∧L.length=b.length∧SE r b L∧LJ W (fun b=>True) A c L)∧z3=ptr w.heap.size∧Held W w.heap.size ([.string r.game,.int .i64 r.target,.int .i64 r.bD]) 23∧Below w.heap.size w W) 3
@[reducible] def SB (r:M.Rules) (a b:List Sh) (A B:Option Addr) (c d:Nat) (w:World):Prop:=Pn r a b A B c d w (fun _ _ _ z9 z10 z11 z12 W=>∃ p q,(∃ L A c,z9= .slice A (L:List Es).length c∧L.length=a.length∧SE r a L∧LJ W (fun b=>b≠p∧b≠q) A c L)∧(∃ L A c,z10= .slice A (L:List Es).length c∧L.length=b.length∧SE r b L∧LJ W (fun b=>b≠p∧b≠q) A c L)∧z11=ptr p∧z12=ptr q∧p≠q∧w.heap.size≤p∧w.heap.size≤q∧(∃ As cs,Held W p (aJ (M.start r) As cs) 53∧bQ W (fun b=>b≠p∧b≠q) As cs (M.start r).au)∧(∃ As cs,Held W q (aJ (M.start r) As cs) 53∧bQ W (fun b=>b≠p∧b≠q) As cs (M.start r).au)∧Below w.heap.size w W) 4
theorem G7 {r:M.Rules} {l:List Sh} {L:List Es} {S:Nat→Prop} {A:Option Addr} {c:Nat} {W:World} (hl:L.length=l.length) (hg:SE r l L) (hr:LJ W S A c L) {k:Nat} (hk:k<l.length):
 ∃ b o As cs,A=some ⟨b,o,none⟩∧S b∧b<W.heap.size∧W.rangeAt b (o+k*15) (aJ (M.jf r (plain l) (k+1)) As cs)∧bQ W S As cs (M.jf r (plain l) (k+1)).au:=by
 obtain ⟨b,o,e,hS,hb,hc⟩:=Reads.at_ hr.1 (by omega)
 have TW:k<L.length:=by omega
 have hs:=(hg k TW).trans (zA r l (k+1)).symm;have hrg:=vC YQ hc k TW;have hb2:=hr.2 _ (List.getElem_mem TW);rw [hs] at hb2
 have he:Xf L[k]=aJ (M.jf r (plain l) (k+1)) L[k].a L[k].c:=by unfold Xf;rw [hs]
 rw [he] at hrg;exact ⟨b,o,_,_,e,hS,hb,hrg,hb2⟩
theorem Fh {r:M.Rules} {l:List Sh} {k:Nat} (hk:¬ k<l.length):M.jf r (plain l) (k+1)=M.jf r (plain l) k:=by
 unfold M.jf
 rw [List.take_of_length_le (by rw [aW];omega),List.take_of_length_le (by rw [aW];omega)]
theorem LJ.turn {X:Nat→Prop} {W W':World} {S:Nat→Prop} {A:Option Addr} {c:Nat} {L:List Es} (h:LJ W S A c L) (ht:Turn X W W') (hX:∀ b,S b→¬ X b):LJ W' S A c L:=
 ⟨Reads.turn h.1 ht hX,fun e he=>Reads.turn (h.2 e he) ht hX⟩
structure ChI (r:M.Rules) (a b:List Sh) (p q k:Nat) (W wr:World):Prop where
 t:Turn (fun b=>b=p∨b=q) W wr
 x:∃ As cs,Held wr p (aJ (M.jf r (plain a) k) As cs) 53∧bQ wr (fun b=>b≠p∧b≠q) As cs (M.jf r (plain a) k).au
 y:∃ As cs,Held wr q (aJ (M.jf r (plain b) k) As cs) 53∧bQ wr (fun b=>b≠p∧b≠q) As cs (M.jf r (plain b) k).au
theorem alR (r:M.Rules) (a b:List Sh) (A B:Option Addr) (c d:Nat) (w:World) (HR:Hid (M.aQ r=0∧M.dO (plain a)=0∧M.dO (plain b)=0)) (HP:Hid (jQ w (fun b=>b<w.heap.size) A c a∧jQ w (fun b=>b<w.heap.size) B d b)) (HN:Hid (SA r a b A B c d w)):YX r a b A B c d w:=by
 dsimp only [YX,Pn]
 intros
 rename_i W hf
 dsimp only [Bq,eP,Tryz.f11,Option.getD]
 obtain ⟨rfl,rfl,rfl,h3,hbw⟩:=hf;have hsa:=fun W' (h:Below w.heap.size w W')=>zW _ r a A c W' (HP.out.1.below h) HR.out.1 HR.out.2.1;have hsb:=fun W' (h:Below w.heap.size w W')=>zW _ r b B d W' (HP.out.2.below h) HR.out.1 HR.out.2.2;have HSA:=hide hsa;have Lh:=hide hsb;have RH:∀ W',(fun w':World=>Below W.heap.size W w') W'→W'.rangeAt w.heap.size 0 ([.string r.game,.int .i64 r.target,.int .i64 r.bD]):=fun W' h=>(h3.below h).range;clear hsa hsb;apply wp_seq_k;intro K hK;have HK:=hide hK;clear hK;refine wp_region_held_drew (S:=(fun w':World=>Below W.heap.size W w')) (by kernel_rfl) ?dL (fun hHeld=>?_)
 case dL=>exact (Below.refl _ _).drew
 refine jZ 0 RH Tryz.underlying23 ?_;refine tk 1 ?_;refine jZ 3 RH Tryz.underlying23 ?_;refine tk 4 ?_;refine tr 2 fun K hK=>?_;go_simp
 (go_at_call 35;refine (HSA.out _ (hbw.trans (hHeld.mono hbw.size))).mono ?_;rintro e wa ⟨La,A1,c1,rfl,ajJ,hga,hra,hba⟩;have hla:=hide ajJ;clear ajJ)
 refine bW hK (hHeld.trans (hba.mono hHeld.size)) fun hHeld=>?_;clear hK K;refine tr 5 fun K hK=>?_;go_simp
 (go_at_call 35;refine (Lh.out _ (hbw.trans (hHeld.mono hbw.size))).mono ?_;rintro e wb ⟨Lb,A2,c2,rfl,ajQ,hgb,hrb,hbb⟩;have hlb:=hide ajQ;clear ajQ)
 refine bW hK (hHeld.trans (hbb.mono hHeld.size)) fun hHeld=>?_;clear hK K;refine tk 6 ?_;refine tk 7 ?_;refine wpAnyH_done (by kernel_rfl) ?_ _;refine HK.out _ _ ?_;apply HN.out;exact ⟨⟨La,A1,c1,rfl,hla.out,hga,(hra.below hbb).more (fun _ _ _=>trivial)⟩,⟨Lb,A2,c2,rfl,hlb.out,hgb,hrb.more (fun _ _ _=>trivial)⟩,rfl,h3.below hHeld,hbw.trans (hHeld.mono hbw.size)⟩
theorem alY (r:M.Rules) (a b:List Sh) (A B:Option Addr) (c d:Nat) (w:World) (HR:Hid (M.aQ r=0∧M.dO (plain a)=0∧M.dO (plain b)=0)) (HP:Hid (jQ w (fun b=>b<w.heap.size) A c a∧jQ w (fun b=>b<w.heap.size) B d b)) (HN:Hid (SB r a b A B c d w)):SA r a b A B c d w:=by
 dsimp only [SA,Pn]
 intro z0 z1 z2 _ z4 z5 z6 z7 z8 z9 z10 _ _ z13 qM qN qO z17 qP oV z20 z21 z22 z23 z24 z25 z26 z27 z28 z29 _ _ _ _ _ _ z36 z37 z38 z39 z40 z41 z42 z43 z44 z45 z46 z47 z48 z49 z50 z51 z52 z53 z54 z55 z56 z57 z58 z59 z60 z61 z62 z63 z64 z65 z66 W hf
 dsimp only [Bq,eP,Tryz.f11,Option.getD]
 obtain ⟨h9,h10,rfl,h3,hbw⟩:=hf;have RH:∀ W',(fun w':World=>Below W.heap.size W w') W'→W'.rangeAt w.heap.size 0 ([.string r.game,.int .i64 r.target,.int .i64 r.bD]):=fun W' h=>(h3.below h).range;have hfs:=Ii;apply wp_seq_k;intro K hK;have HK:=hide hK;clear hK;refine wp_region_held_drew (S:=(fun w':World=>Below W.heap.size W w')) (by kernel_rfl) ?dY (fun hHeld=>?_)
 case dY=>exact (Below.refl _ _).drew
 refine Qj (fun f hf=>?_)
 have J:∀ (p q:Nat) (A1 A2:Option Addr) (c1 c2:Nat) (wx:World),Held wx p aZ 53→Held wx q aZ 53→p≠q→W.heap.size≤p→W.heap.size≤q→(fun w':World=>Below W.heap.size W w') wx→
  bQ wx (fun b=>b≠p∧b≠q) A1 c1 (M.start r).au→bQ wx (fun b=>b≠p∧b≠q) A2 c2 (M.start r).au→f 2 #[true,true,true,true,true,true,true,true,false,false] {tmps:= #[z0,z1,z2,ptr w.heap.size,z4,z5,z6,z7,z8,z9,z10,ptr p,ptr q,z13,qM,qN,qO,z17,qP,oV,z20,z21,z22,z23,z24,z25,z26,z27,z28,z29,.agg ([.string r.game,.int .i64 r.target,.int .i64 r.bD]:List Value).toArray,dX r (M.start r) A1 c1,.agg (aJ (M.start r) A1 c1).toArray,.agg ([.string r.game,.int .i64 r.target,.int .i64 r.bD]:List Value).toArray,dX r (M.start r) A2 c2,.agg (aJ (M.start r) A2 c2).toArray,z36,z37,z38,z39,z40,z41,z42,z43,z44,z45,z46,z47,z48,z49,z50,z51,z52,z53,z54,z55,z56,z57,z58,z59,z60,z61,z62,z63,z64,z65,z66],defers:=[] } wx:=by
  intro p q A1 A2 c1 c2 wx gp gq Yr lp lq hHeld hra hrb;subst hf;have hHeld:(fun w':World=>Below W.heap.size W w') (wx.setCells p 0 (aJ (M.start r) A1 c1)):=below_setCells _ lp _ _ _ _ hHeld;refine wpAnyH_ready (rs:=[8]) (by kernel_rfl) (by simp) ?_;refine dM (o:=_) (ga rfl) (by kernel_rfl) gp (aJ (M.start r) A1 c1) rfl bg (fG _ _ _) (.tmp 11) (.tmp 32) rfl rfl rfl hHeld ?_
  try simp only [Act.put,la,lz,ls]
  have hHeld:(fun w':World=>Below W.heap.size W w') ((wx.setCells p 0 (aJ (M.start r) A1 c1)).setCells q 0 (aJ (M.start r) A2 c2)):=below_setCells _ lq _ _ _ _ hHeld;refine wpAnyH_ready (rs:=[9]) (by kernel_rfl) (by simp) ?_;refine dM (o:=_) (ga rfl) (by kernel_rfl) (Held.others Yr.symm _ _ _ gq) (aJ (M.start r) A2 c2) rfl bg (fG _ _ _) (.tmp 12) (.tmp 35) rfl rfl rfl hHeld ?_
  try simp only [Act.put,la,lz,ls]
  refine wpAnyH_done (by kernel_rfl) ?_ _;refine HK.out _ _ ?_;apply HN.out;have hb0:Below W.heap.size W ((wx.setCells p 0 (aJ (M.start r) A1 c1)).setCells q 0 (aJ (M.start r) A2 c2)):=hHeld;refine ⟨p,q,?_,?_,rfl,rfl,Yr,by have:=hbw.size;omega,by have:=hbw.size;omega,⟨A1,c1,Held.others Yr _ _ _ (gp.whole _ rfl),bQ.sets (fun h=>h.2 rfl) _ _ _ (bQ.sets (fun h=>h.1 rfl) _ _ _ hra)⟩,⟨A2,c2,(Held.others Yr.symm _ _ _ gq).whole _ rfl,bQ.sets (fun h=>h.2 rfl) _ _ _ (bQ.sets (fun h=>h.1 rfl) _ _ _ hrb)⟩,ag4 hbw hb0⟩
  · obtain ⟨L,A0,c0,e,hl,hg,hr⟩:=h9
    exact ⟨L,A0,c0,e,hl,hg,(hr.more (S':=fun b=>b<W.heap.size) (fun b hb _=>hb)).below hb0 |>.more (fun b _ h=>by constructor <;> omega)⟩
  · obtain ⟨L,A0,c0,e,hl,hg,hr⟩:=h10
    exact ⟨L,A0,c0,e,hl,hg,(hr.more (S':=fun b=>b<W.heap.size) (fun b hb _=>hb)).below hb0 |>.more (fun b _ h=>by constructor <;> omega)⟩
 rw [hf] at J;subst hf;refine jZ 0 RH Tryz.underlying23 ?_;refine jZ 3 RH Tryz.underlying23 ?_;refine Pg 1 6 7 (fun K hK=>?_) (fun K hK=>?_) fun K hK=>?_
 · go_simp
   (go_at_call 36;refine (fF r _).mono ?_;rintro e wa ⟨A1,c1,rfl,hra,hba⟩)
   refine bW hK (hHeld.trans (hba.mono hHeld.size)) fun hHeld=>?_;clear hK K;refine tk 2 ?_;refine Pg 4 6 7 (fun K hK=>?_) (fun K hK=>?_) fun K hK=>?_
   · go_simp
     (go_at_call 36;refine (fF r _).mono ?_;rintro e wb ⟨A2,c2,rfl,hrb,hbb⟩)
     refine bW hK (hHeld.trans (hbb.mono hHeld.size)) fun hHeld=>?_;clear hK K;refine tk 5 ?_;refine DT 6 7 (fun K hK=>?_) fun K hK=>?_
     · go_simp
       refine bW hK (Below.alloc hHeld hHeld.size _) fun hHeld=>?_;clear hK K;refine tr 7 fun K hK=>?_;go_simp;refine bW hK (Below.alloc hHeld hHeld.size _) fun hHeld=>?_;clear hK K;have hqa:=hba.size;have CQ:=hbb.size
       (try simp at hqa CQ)
       exact J _ _ A1 A2 c1 c2 _ ((Held.newAt _ aZ 53 (by first | rfl | simp)).alloc _) (Held.newAt _ aZ 53 (by first | rfl | simp)) (by (try simp);(try omega)) (by (try simp);(try omega)) (by (try simp);(try omega)) hHeld ((((Reads.more hra (fun b hl h=>by (try simp at h hl ⊢) <;> omega)).below hbb).alloc _).alloc _) (((Reads.more hrb (fun b hl h=>by (try simp at h hl ⊢) <;> omega)).alloc _).alloc _)
     · go_simp
       refine bW hK (Below.alloc hHeld hHeld.size _) fun hHeld=>?_;clear hK K;refine tr 6 fun K hK=>?_;go_simp;refine bW hK (Below.alloc hHeld hHeld.size _) fun hHeld=>?_;clear hK K;have hqa:=hba.size;have CQ:=hbb.size
       (try simp at hqa CQ)
       exact J _ _ A1 A2 c1 c2 _ (Held.newAt _ aZ 53 (by first | rfl | simp)) ((Held.newAt _ aZ 53 (by first | rfl | simp)).alloc _) (by (try simp);(try omega)) (by (try simp);(try omega)) (by (try simp);(try omega)) hHeld ((((Reads.more hra (fun b hl h=>by (try simp at h hl ⊢) <;> omega)).below hbb).alloc _).alloc _) (((Reads.more hrb (fun b hl h=>by (try simp at h hl ⊢) <;> omega)).alloc _).alloc _)
   · go_simp
     refine bW hK (Below.alloc hHeld hHeld.size _) fun hHeld=>?_;clear hK K;refine DT 4 7 (fun K hK=>?_) fun K hK=>?_
     · go_simp
       (go_at_call 36;refine (fF r _).mono ?_;rintro e wb ⟨A2,c2,rfl,hrb,hbb⟩)
       refine bW hK (hHeld.trans (hbb.mono hHeld.size)) fun hHeld=>?_;clear hK K;refine tk 5 ?_;refine tr 7 fun K hK=>?_;go_simp;refine bW hK (Below.alloc hHeld hHeld.size _) fun hHeld=>?_;clear hK K;have hqa:=hba.size;have CQ:=hbb.size
       (try simp at hqa CQ)
       exact J _ _ A1 A2 c1 c2 _ (((Held.newAt _ aZ 53 (by first | rfl | simp)).below hbb).alloc _) (Held.newAt _ aZ 53 (by first | rfl | simp)) (by (try simp);(try omega)) (by (try simp);(try omega)) (by (try simp);(try omega)) hHeld ((((Reads.more hra (fun b hl h=>by (try simp at h hl ⊢) <;> omega)).alloc _).below hbb).alloc _) ((Reads.more hrb (fun b hl h=>by (try simp at h hl ⊢) <;> omega)).alloc _)
     · go_simp
       refine bW hK (Below.alloc hHeld hHeld.size _) fun hHeld=>?_;clear hK K;refine tr 4 fun K hK=>?_;go_simp
       (go_at_call 36;refine (fF r _).mono ?_;rintro e wb ⟨A2,c2,rfl,hrb,hbb⟩)
       refine bW hK (hHeld.trans (hbb.mono hHeld.size)) fun hHeld=>?_;clear hK K;refine tk 5 ?_;have hqa:=hba.size;have CQ:=hbb.size
       (try simp at hqa CQ)
       exact J _ _ A1 A2 c1 c2 _ (((Held.newAt _ aZ 53 (by first | rfl | simp)).alloc _).below hbb) ((Held.newAt _ aZ 53 (by first | rfl | simp)).below hbb) (by (try simp);(try omega)) (by (try simp);(try omega)) (by (try simp);(try omega)) hHeld ((((Reads.more hra (fun b hl h=>by (try simp at h hl ⊢) <;> omega)).alloc _).alloc _).below hbb) (Reads.more hrb (fun b hl h=>by (try simp at h hl ⊢) <;> omega))
   · go_simp
     refine bW hK (Below.alloc hHeld hHeld.size _) fun hHeld=>?_;clear hK K;refine DT 4 6 (fun K hK=>?_) fun K hK=>?_
     · go_simp
       (go_at_call 36;refine (fF r _).mono ?_;rintro e wb ⟨A2,c2,rfl,hrb,hbb⟩)
       refine bW hK (hHeld.trans (hbb.mono hHeld.size)) fun hHeld=>?_;clear hK K;refine tk 5 ?_;refine tr 6 fun K hK=>?_;go_simp;refine bW hK (Below.alloc hHeld hHeld.size _) fun hHeld=>?_;clear hK K;have hqa:=hba.size;have CQ:=hbb.size
       (try simp at hqa CQ)
       exact J _ _ A1 A2 c1 c2 _ (Held.newAt _ aZ 53 (by first | rfl | simp)) (((Held.newAt _ aZ 53 (by first | rfl | simp)).below hbb).alloc _) (by (try simp);(try omega)) (by (try simp);(try omega)) (by (try simp);(try omega)) hHeld ((((Reads.more hra (fun b hl h=>by (try simp at h hl ⊢) <;> omega)).alloc _).below hbb).alloc _) ((Reads.more hrb (fun b hl h=>by (try simp at h hl ⊢) <;> omega)).alloc _)
     · go_simp
       refine bW hK (Below.alloc hHeld hHeld.size _) fun hHeld=>?_;clear hK K;refine tr 4 fun K hK=>?_;go_simp
       (go_at_call 36;refine (fF r _).mono ?_;rintro e wb ⟨A2,c2,rfl,hrb,hbb⟩)
       refine bW hK (hHeld.trans (hbb.mono hHeld.size)) fun hHeld=>?_;clear hK K;refine tk 5 ?_;have hqa:=hba.size;have CQ:=hbb.size
       (try simp at hqa CQ)
       exact J _ _ A1 A2 c1 c2 _ ((Held.newAt _ aZ 53 (by first | rfl | simp)).below hbb) (((Held.newAt _ aZ 53 (by first | rfl | simp)).alloc _).below hbb) (by (try simp);(try omega)) (by (try simp);(try omega)) (by (try simp);(try omega)) hHeld ((((Reads.more hra (fun b hl h=>by (try simp at h hl ⊢) <;> omega)).alloc _).alloc _).below hbb) (Reads.more hrb (fun b hl h=>by (try simp at h hl ⊢) <;> omega))
 · go_simp
   refine bW hK (Below.alloc hHeld hHeld.size _) fun hHeld=>?_;clear hK K;refine DT 1 7 (fun K hK=>?_) fun K hK=>?_
   · go_simp
     (go_at_call 36;refine (fF r _).mono ?_;rintro e wa ⟨A1,c1,rfl,hra,hba⟩)
     refine bW hK (hHeld.trans (hba.mono hHeld.size)) fun hHeld=>?_;clear hK K;refine tk 2 ?_;refine DT 4 7 (fun K hK=>?_) fun K hK=>?_
     · go_simp
       (go_at_call 36;refine (fF r _).mono ?_;rintro e wb ⟨A2,c2,rfl,hrb,hbb⟩)
       refine bW hK (hHeld.trans (hbb.mono hHeld.size)) fun hHeld=>?_;clear hK K;refine tk 5 ?_;refine tr 7 fun K hK=>?_;go_simp;refine bW hK (Below.alloc hHeld hHeld.size _) fun hHeld=>?_;clear hK K;have hqa:=hba.size;have CQ:=hbb.size
       (try simp at hqa CQ)
       exact J _ _ A1 A2 c1 c2 _ ((((Held.newAt _ aZ 53 (by first | rfl | simp)).drew.below hba).below hbb).alloc _) (Held.newAt _ aZ 53 (by first | rfl | simp)) (by (try simp);(try omega)) (by (try simp);(try omega)) (by (try simp);(try omega)) hHeld (((Reads.more hra (fun b hl h=>by (try simp at h hl ⊢) <;> omega)).below hbb).alloc _) ((Reads.more hrb (fun b hl h=>by (try simp at h hl ⊢) <;> omega)).alloc _)
     · go_simp
       refine bW hK (Below.alloc hHeld hHeld.size _) fun hHeld=>?_;clear hK K;refine tr 4 fun K hK=>?_;go_simp
       (go_at_call 36;refine (fF r _).mono ?_;rintro e wb ⟨A2,c2,rfl,hrb,hbb⟩)
       refine bW hK (hHeld.trans (hbb.mono hHeld.size)) fun hHeld=>?_;clear hK K;refine tk 5 ?_;have hqa:=hba.size;have CQ:=hbb.size
       (try simp at hqa CQ)
       exact J _ _ A1 A2 c1 c2 _ ((((Held.newAt _ aZ 53 (by first | rfl | simp)).drew.below hba).alloc _).below hbb) ((Held.newAt _ aZ 53 (by first | rfl | simp)).below hbb) (by (try simp);(try omega)) (by (try simp);(try omega)) (by (try simp);(try omega)) hHeld (((Reads.more hra (fun b hl h=>by (try simp at h hl ⊢) <;> omega)).alloc _).below hbb) (Reads.more hrb (fun b hl h=>by (try simp at h hl ⊢) <;> omega))
   · go_simp
     refine bW hK (Below.alloc hHeld hHeld.size _) fun hHeld=>?_;clear hK K;refine tr 1 fun K hK=>?_;go_simp
     (go_at_call 36;refine (fF r _).mono ?_;rintro e wa ⟨A1,c1,rfl,hra,hba⟩)
     refine bW hK (hHeld.trans (hba.mono hHeld.size)) fun hHeld=>?_;clear hK K;refine tk 2 ?_;refine tr 4 fun K hK=>?_;go_simp
     (go_at_call 36;refine (fF r _).mono ?_;rintro e wb ⟨A2,c2,rfl,hrb,hbb⟩)
     refine bW hK (hHeld.trans (hbb.mono hHeld.size)) fun hHeld=>?_;clear hK K;refine tk 5 ?_;have hqa:=hba.size;have CQ:=hbb.size
     (try simp at hqa CQ)
     exact J _ _ A1 A2 c1 c2 _ ((((Held.newAt _ aZ 53 (by first | rfl | simp)).alloc _).drew.below hba).below hbb) (((Held.newAt _ aZ 53 (by first | rfl | simp)).drew.below hba).below hbb) (by (try simp);(try omega)) (by (try simp);(try omega)) (by (try simp);(try omega)) hHeld ((Reads.more hra (fun b hl h=>by (try simp at h hl ⊢) <;> omega)).below hbb) (Reads.more hrb (fun b hl h=>by (try simp at h hl ⊢) <;> omega))
 · go_simp
   refine bW hK (Below.alloc hHeld hHeld.size _) fun hHeld=>?_;clear hK K;refine DT 1 6 (fun K hK=>?_) fun K hK=>?_
   · go_simp
     (go_at_call 36;refine (fF r _).mono ?_;rintro e wa ⟨A1,c1,rfl,hra,hba⟩)
     refine bW hK (hHeld.trans (hba.mono hHeld.size)) fun hHeld=>?_;clear hK K;refine tk 2 ?_;refine DT 4 6 (fun K hK=>?_) fun K hK=>?_
     · go_simp
       (go_at_call 36;refine (fF r _).mono ?_;rintro e wb ⟨A2,c2,rfl,hrb,hbb⟩)
       refine bW hK (hHeld.trans (hbb.mono hHeld.size)) fun hHeld=>?_;clear hK K;refine tk 5 ?_;refine tr 6 fun K hK=>?_;go_simp;refine bW hK (Below.alloc hHeld hHeld.size _) fun hHeld=>?_;clear hK K;have hqa:=hba.size;have CQ:=hbb.size
       (try simp at hqa CQ)
       exact J _ _ A1 A2 c1 c2 _ (Held.newAt _ aZ 53 (by first | rfl | simp)) ((((Held.newAt _ aZ 53 (by first | rfl | simp)).drew.below hba).below hbb).alloc _) (by (try simp);(try omega)) (by (try simp);(try omega)) (by (try simp);(try omega)) hHeld (((Reads.more hra (fun b hl h=>by (try simp at h hl ⊢) <;> omega)).below hbb).alloc _) ((Reads.more hrb (fun b hl h=>by (try simp at h hl ⊢) <;> omega)).alloc _)
     · go_simp
       refine bW hK (Below.alloc hHeld hHeld.size _) fun hHeld=>?_;clear hK K;refine tr 4 fun K hK=>?_;go_simp
       (go_at_call 36;refine (fF r _).mono ?_;rintro e wb ⟨A2,c2,rfl,hrb,hbb⟩)
       refine bW hK (hHeld.trans (hbb.mono hHeld.size)) fun hHeld=>?_;clear hK K;refine tk 5 ?_;have hqa:=hba.size;have CQ:=hbb.size
       (try simp at hqa CQ)
       exact J _ _ A1 A2 c1 c2 _ ((Held.newAt _ aZ 53 (by first | rfl | simp)).below hbb) ((((Held.newAt _ aZ 53 (by first | rfl | simp)).drew.below hba).alloc _).below hbb) (by (try simp);(try omega)) (by (try simp);(try omega)) (by (try simp);(try omega)) hHeld (((Reads.more hra (fun b hl h=>by (try simp at h hl ⊢) <;> omega)).alloc _).below hbb) (Reads.more hrb (fun b hl h=>by (try simp at h hl ⊢) <;> omega))
   · go_simp
     refine bW hK (Below.alloc hHeld hHeld.size _) fun hHeld=>?_;clear hK K;refine tr 1 fun K hK=>?_;go_simp
     (go_at_call 36;refine (fF r _).mono ?_;rintro e wa ⟨A1,c1,rfl,hra,hba⟩)
     refine bW hK (hHeld.trans (hba.mono hHeld.size)) fun hHeld=>?_;clear hK K;refine tk 2 ?_;refine tr 4 fun K hK=>?_;go_simp
     (go_at_call 36;refine (fF r _).mono ?_;rintro e wb ⟨A2,c2,rfl,hrb,hbb⟩)
     refine bW hK (hHeld.trans (hbb.mono hHeld.size)) fun hHeld=>?_;clear hK K;refine tk 5 ?_;have hqa:=hba.size;have CQ:=hbb.size
     (try simp at hqa CQ)
     exact J _ _ A1 A2 c1 c2 _ (((Held.newAt _ aZ 53 (by first | rfl | simp)).drew.below hba).below hbb) ((((Held.newAt _ aZ 53 (by first | rfl | simp)).alloc _).drew.below hba).below hbb) (by (try simp);(try omega)) (by (try simp);(try omega)) (by (try simp);(try omega)) hHeld ((Reads.more hra (fun b hl h=>by (try simp at h hl ⊢) <;> omega)).below hbb) (Reads.more hrb (fun b hl h=>by (try simp at h hl ⊢) <;> omega))
theorem al5 (r:M.Rules) (a b:List Sh) (A B:Option Addr) (c d:Nat) (w:World) (HR:Hid (M.aQ r=0∧M.dO (plain a)=0∧M.dO (plain b)=0)) (HP:Hid (jQ w (fun b=>b<w.heap.size) A c a∧jQ w (fun b=>b<w.heap.size) B d b)):SB r a b A B c d w:=by
 dsimp only [SB,Pn]
 intros
 rename_i W hf
 dsimp only [Bq,eP,Tryz.f11,Option.getD]
 obtain ⟨p,q,⟨La,A1,c1,rfl,hla,hga,ajX⟩,⟨Lb,B1,d1,rfl,hlb,hgb,aj6⟩,rfl,rfl,Yr,lp,lq,hX0,hY0,hbw⟩:=hf;rw [hla,hlb];obtain ⟨m,hm⟩:∃ m,max a.length b.length=m:=⟨_,rfl⟩
 have hmx:max (a.length:Int) (b.length:Int)=(m:Int):=by omega
 have hma:a.length≤m∧b.length≤m∧(m=a.length∨m=b.length):=by omega
 have hck:=HR.out;have l1:=((M.jJ _).1 hck.2.1).1;have l2:=((M.jJ _).1 hck.2.2).1;rw [aW] at l1 l2;have HLA:=hide (And.intro hla hlb);have hch:=PE r a b;rw [hm] at hch;have HCH:=hide hch
 have hX:∀ b:Nat,(b≠p∧b≠q)→¬ (b=p∨b=q):=fun b h=>by rintro (e | e);exact h.1 e;exact h.2 e
 have Zb:∀ b:Nat,(b=p∨b=q)→w.heap.size≤b:=fun b h=>by rcases h with rfl | rfl <;> assumption
 have HX:=hide (And.intro hX Zb);clear hla hlb hm hch hck hX Zb;apply wp_seq_k;intro K hK;have HK:=hide hK;clear hK;apply wp_seq_k;intro K2 hK2;have AY:=hide hK2;clear hK2;go_wp2;refine AY.out _ _ ?_;clear hmx;go_wp2
 go_loopw [41] (fun i wr=>∃ k:Nat,k≤m∧i= .int .i64 k∧M.changed r (plain a) (plain b)=M.iq (chF r a b) (k+1) (m - k)∧ChI r a b p q k W wr) (fun i _=>m - (intOf i).toNat)
 case atStart=>exact ⟨0,Nat.zero_le _,rfl,HCH.out,Turn.refl _ _,hX0,hY0⟩
 case round=>
  obtain ⟨k,hk,rfl,hf,hI⟩:=hrel;have HF:=hide hf;clear hf hX0 hY0
  by_cases hlt:k<m
  · have hst:=M.vN (chF r a b) hlt
    obtain ⟨v,hv⟩:∃ v,chF r a b (k+1)=v:=⟨_,rfl⟩
    have hf2:M.changed r (plain a) (plain b)=if v then M.iq (chF r a b) (k+1+1) (m - (k+1)) else ((k+1:Nat):Int):=by rw [← hv];exact HF.out.trans hst
    have HF2:=hide hf2;obtain ⟨As,cs,hp,hpr⟩:=hI.x;obtain ⟨At,ct,hq,hqr⟩:=hI.y;obtain ⟨hla,hlb⟩:=HLA.out;obtain ⟨hX,Zb⟩:=HX.out;clear hst hf2 HF
    by_cases pa:k<a.length
    · by_cases pb:k<b.length
      · obtain ⟨ba,oa,Aa,ca,rfl,hSa,asg,hra,hba⟩:=G7 hla hga (ajX.turn hI.t hX) pa
        obtain ⟨bb,ob,Ab,cb,rfl,hSb,asq,hrb,hbb⟩:=G7 hlb hgb (aj6.turn hI.t hX) pb;obtain ⟨sa,hsa⟩:∃ q,M.jf r (plain a) (k+1)=q:=⟨_,rfl⟩;obtain ⟨sb,hsb⟩:∃ q,M.jf r (plain b) (k+1)=q:=⟨_,rfl⟩
        have hv2:sa.eq sb=v:=by rw [← hsa, ← hsb];exact hv
        rw [hsa] at hra hba;rw [hsb] at hrb hbb;have aac:(wr.setCells p 0 (aJ sa Aa ca)).rangeAt bb (ob+k*15) (aJ sb Ab cb):=fun j v hj=>(jI _ _ _ _ hSb.1).trans (hrb j v hj);have hq1:Held (wr.setCells p 0 (aJ sa Aa ca)) q (aJ (M.jf r (plain b) k) At ct) 53:=Held.others Yr.symm _ _ _ hq
        have t1:decide (k<a.length)=true:=by simp;omega
        have t2:decide (k<b.length)=true:=by simp;omega
        have u1:((k:Int)<(a.length:Int)):=by omega
        have u2:((k:Int)<(b.length:Int)):=by omega
        have i1:(0:Int)≤(k:Int):=by omega
        have i2:(k:Int)<(m:Int):=by omega
        have Lh:=hide (And.intro hsa hsb);clear hsa hsb hv pa pb
        go_upto_region 13 with (first | (refine aB 53 (.tmp 50) rfl ?_;refine dH (g:=ba) (o:=oa+k*15) hra Tryz.underlying53 rfl bg rfl (.tmp 50) rfl rfl ?_) | (refine aO 53 (.tmp 11) (.tmp 51) rfl ?_;refine aF hp (aJ sa Aa ca) rfl bg (fG _ _ _) rfl (.tmp 11) (.tmp 51) rfl rfl rfl ?_) | (refine aB 53 (.tmp 58) rfl ?_;refine dH (g:=bb) (o:=ob+k*15) aac Tryz.underlying53 rfl bg rfl (.tmp 58) rfl rfl ?_) | (refine aO 53 (.tmp 12) (.tmp 59) rfl ?_;refine aF hq1 (aJ sb Ab cb) rfl bg (fG _ _ _) rfl (.tmp 12) (.tmp 59) rfl rfl rfl ?_))
        refine rD (p:=fun W=>Code.wp _ _ _ _ W) (fun w2 hw2=>?_)
        have hP2:Held w2 p (aJ sa Aa ca) 53:=by rw [hw2];exact Held.others Yr _ _ _ (hp.whole _ rfl)
        have hQ2:Held w2 q (aJ sb Ab cb) 53:=by rw [hw2];exact hq1.whole _ rfl
        have Zl:bQ w2 (fun b=>b≠p∧b≠q) Aa ca sa.au:=by rw [hw2];exact (bQ.sets (fun h=>h.2 rfl) _ _ _ (bQ.sets (fun h=>h.1 rfl) _ _ _ hba))
        have Zm:bQ w2 (fun b=>b≠p∧b≠q) Ab cb sb.au:=by rw [hw2];exact (bQ.sets (fun h=>h.2 rfl) _ _ _ (bQ.sets (fun h=>h.1 rfl) _ _ _ hbb))
        have T2:Turn (fun b=>b=p∨b=q) W w2:=by rw [hw2];exact ((hI.t.trans (kH (X:=fun b=>b=p∨b=q) (.inl rfl) _ _) (fun b h=> .inl h)).trans (kH (X:=fun b=>b=p∨b=q) (.inr rfl) _ _) (fun b h=> .inl h))
        have hsm:=y9 _ _ sa sb Aa Ab ca cb w2 Zl Zm;rw [hv2] at hsm;have RD:=hide hsm;clear hsm hv2 hw2 hp hq hpr hqr hI
        cases v with
        | true=>
          go_wp2_with (first | (refine aB 53 (.tmp 11) rfl ?_;refine ak (hP2) Tryz.underlying53 rfl bg rfl (.tmp 11) rfl rfl ?_) | (refine aB 53 (.tmp 12) rfl ?_;refine ak (hQ2) Tryz.underlying53 rfl bg rfl (.tmp 12) rfl rfl ?_) | (go_at_call 37;refine RD.out.mono ?_;rintro e w3 ⟨rfl,hb3⟩;dsimp only))
          go_roundw
          case rel=>exact ⟨k+1,by omega,by go_num,HF2.out,T2.trans (X':=fun _=>False) (Turn.of_below hb3) (fun b h=>h.elim),⟨_,_,by rw [Lh.out.1];exact hP2.below hb3,by rw [Lh.out.1];exact Zl.below hb3⟩,⟨_,_,by rw [Lh.out.2];exact hQ2.below hb3,by rw [Lh.out.2];exact Zm.below hb3⟩⟩
          case measure=>simp [intOf];omega
        | false=>
          go_wp2_with (first | (refine aB 53 (.tmp 11) rfl ?_;refine ak (hP2) Tryz.underlying53 rfl bg rfl (.tmp 11) rfl rfl ?_) | (refine aB 53 (.tmp 12) rfl ?_;refine ak (hQ2) Tryz.underlying53 rfl bg rfl (.tmp 12) rfl rfl ?_) | (go_at_call 37;refine RD.out.mono ?_;rintro e w3 ⟨rfl,hb3⟩;dsimp only))
          go_ret2;exact ⟨by rw [HF2.out] <;> first | rfl | (push_cast;rfl),(gB hbw T2 Zb hbw.size).trans (hb3.mono (by have:=hbw.size;have:=T2.size;omega))⟩
      · obtain ⟨ba,oa,Aa,ca,rfl,hSa,asg,hra,hba⟩:=G7 hla hga (ajX.turn hI.t hX) pa
        rw [← Fh pb] at hq hqr;obtain ⟨sa,hsa⟩:∃ q,M.jf r (plain a) (k+1)=q:=⟨_,rfl⟩;obtain ⟨sb,hsb⟩:∃ q,M.jf r (plain b) (k+1)=q:=⟨_,rfl⟩
        have hv2:sa.eq sb=v:=by rw [← hsa, ← hsb];exact hv
        rw [hsa] at hra hba;rw [hsb] at hq hqr
        have t1:decide (k<a.length)=true:=by simp;omega
        have t2:decide (k<b.length)=false:=by simp;omega
        have u1:((k:Int)<(a.length:Int)):=by omega
        have u2:¬ ((k:Int)<(b.length:Int)):=by omega
        have i1:(0:Int)≤(k:Int):=by omega
        have i2:(k:Int)<(m:Int):=by omega
        have Lh:=hide (And.intro hsa hsb);clear hsa hsb hv pa pb
        go_upto_region 13 with (first | (refine aB 53 (.tmp 50) rfl ?_;refine dH (g:=ba) (o:=oa+k*15) hra Tryz.underlying53 rfl bg rfl (.tmp 50) rfl rfl ?_) | (refine aO 53 (.tmp 11) (.tmp 51) rfl ?_;refine aF hp (aJ sa Aa ca) rfl bg (fG _ _ _) rfl (.tmp 11) (.tmp 51) rfl rfl rfl ?_))
        refine rD (p:=fun W=>Code.wp _ _ _ _ W) (fun w2 hw2=>?_)
        have hP2:Held w2 p (aJ sa Aa ca) 53:=by rw [hw2];exact hp.whole _ rfl
        have hQ2:Held w2 q (aJ sb At ct) 53:=by rw [hw2];exact Held.others Yr.symm _ _ _ hq
        have Zl:bQ w2 (fun b=>b≠p∧b≠q) Aa ca sa.au:=by rw [hw2];exact (bQ.sets (fun h=>h.1 rfl) _ _ _ hba)
        have Zm:bQ w2 (fun b=>b≠p∧b≠q) At ct sb.au:=by rw [hw2];exact (bQ.sets (fun h=>h.1 rfl) _ _ _ hqr)
        have T2:Turn (fun b=>b=p∨b=q) W w2:=by rw [hw2];exact (hI.t.trans (kH (X:=fun b=>b=p∨b=q) (.inl rfl) _ _) (fun b h=> .inl h))
        have hsm:=y9 _ _ sa sb Aa At ca ct w2 Zl Zm;rw [hv2] at hsm;have RD:=hide hsm;clear hsm hv2 hw2 hp hq hpr hqr hI
        cases v with
        | true=>
          go_wp2_with (first | (refine aB 53 (.tmp 11) rfl ?_;refine ak (hP2) Tryz.underlying53 rfl bg rfl (.tmp 11) rfl rfl ?_) | (refine aB 53 (.tmp 12) rfl ?_;refine ak (hQ2) Tryz.underlying53 rfl bg rfl (.tmp 12) rfl rfl ?_) | (go_at_call 37;refine RD.out.mono ?_;rintro e w3 ⟨rfl,hb3⟩;dsimp only))
          go_roundw
          case rel=>exact ⟨k+1,by omega,by go_num,HF2.out,T2.trans (X':=fun _=>False) (Turn.of_below hb3) (fun b h=>h.elim),⟨_,_,by rw [Lh.out.1];exact hP2.below hb3,by rw [Lh.out.1];exact Zl.below hb3⟩,⟨_,_,by rw [Lh.out.2];exact hQ2.below hb3,by rw [Lh.out.2];exact Zm.below hb3⟩⟩
          case measure=>simp [intOf];omega
        | false=>
          go_wp2_with (first | (refine aB 53 (.tmp 11) rfl ?_;refine ak (hP2) Tryz.underlying53 rfl bg rfl (.tmp 11) rfl rfl ?_) | (refine aB 53 (.tmp 12) rfl ?_;refine ak (hQ2) Tryz.underlying53 rfl bg rfl (.tmp 12) rfl rfl ?_) | (go_at_call 37;refine RD.out.mono ?_;rintro e w3 ⟨rfl,hb3⟩;dsimp only))
          go_ret2;exact ⟨by rw [HF2.out] <;> first | rfl | (push_cast;rfl),(gB hbw T2 Zb hbw.size).trans (hb3.mono (by have:=hbw.size;have:=T2.size;omega))⟩
    · have pb:k<b.length:=by omega
      rw [← Fh pa] at hp hpr;obtain ⟨bb,ob,Ab,cb,rfl,hSb,asq,hrb,hbb⟩:=G7 hlb hgb (aj6.turn hI.t hX) pb;obtain ⟨sa,hsa⟩:∃ q,M.jf r (plain a) (k+1)=q:=⟨_,rfl⟩;obtain ⟨sb,hsb⟩:∃ q,M.jf r (plain b) (k+1)=q:=⟨_,rfl⟩
      have hv2:sa.eq sb=v:=by rw [← hsa, ← hsb];exact hv
      rw [hsa] at hp hpr;rw [hsb] at hrb hbb;have aac:=hrb;have hq1:=hq
      have t1:decide (k<a.length)=false:=by simp;omega
      have t2:decide (k<b.length)=true:=by simp;omega
      have u1:¬ ((k:Int)<(a.length:Int)):=by omega
      have u2:((k:Int)<(b.length:Int)):=by omega
      have i1:(0:Int)≤(k:Int):=by omega
      have i2:(k:Int)<(m:Int):=by omega
      have Lh:=hide (And.intro hsa hsb);clear hsa hsb hv pa pb
      go_upto_region 13 with (first | (refine aB 53 (.tmp 58) rfl ?_;refine dH (g:=bb) (o:=ob+k*15) aac Tryz.underlying53 rfl bg rfl (.tmp 58) rfl rfl ?_) | (refine aO 53 (.tmp 12) (.tmp 59) rfl ?_;refine aF hq1 (aJ sb Ab cb) rfl bg (fG _ _ _) rfl (.tmp 12) (.tmp 59) rfl rfl rfl ?_))
      refine rD (p:=fun W=>Code.wp _ _ _ _ W) (fun w2 hw2=>?_)
      have hP2:Held w2 p (aJ sa As cs) 53:=by rw [hw2];exact Held.others Yr _ _ _ (hp)
      have hQ2:Held w2 q (aJ sb Ab cb) 53:=by rw [hw2];exact hq1.whole _ rfl
      have Zl:bQ w2 (fun b=>b≠p∧b≠q) As cs sa.au:=by rw [hw2];exact (bQ.sets (fun h=>h.2 rfl) _ _ _ hpr)
      have Zm:bQ w2 (fun b=>b≠p∧b≠q) Ab cb sb.au:=by rw [hw2];exact (bQ.sets (fun h=>h.2 rfl) _ _ _ hbb)
      have T2:Turn (fun b=>b=p∨b=q) W w2:=by rw [hw2];exact (hI.t.trans (kH (X:=fun b=>b=p∨b=q) (.inr rfl) _ _) (fun b h=> .inl h))
      have hsm:=y9 _ _ sa sb As Ab cs cb w2 Zl Zm;rw [hv2] at hsm;have RD:=hide hsm;clear hsm hv2 hw2 hp hq hpr hqr hI
      cases v with
      | true=>
        go_wp2_with (first | (refine aB 53 (.tmp 11) rfl ?_;refine ak (hP2) Tryz.underlying53 rfl bg rfl (.tmp 11) rfl rfl ?_) | (refine aB 53 (.tmp 12) rfl ?_;refine ak (hQ2) Tryz.underlying53 rfl bg rfl (.tmp 12) rfl rfl ?_) | (go_at_call 37;refine RD.out.mono ?_;rintro e w3 ⟨rfl,hb3⟩;dsimp only))
        go_roundw
        case rel=>exact ⟨k+1,by omega,by go_num,HF2.out,T2.trans (X':=fun _=>False) (Turn.of_below hb3) (fun b h=>h.elim),⟨_,_,by rw [Lh.out.1];exact hP2.below hb3,by rw [Lh.out.1];exact Zl.below hb3⟩,⟨_,_,by rw [Lh.out.2];exact hQ2.below hb3,by rw [Lh.out.2];exact Zm.below hb3⟩⟩
        case measure=>simp [intOf];omega
      | false=>
        go_wp2_with (first | (refine aB 53 (.tmp 11) rfl ?_;refine ak (hP2) Tryz.underlying53 rfl bg rfl (.tmp 11) rfl rfl ?_) | (refine aB 53 (.tmp 12) rfl ?_;refine ak (hQ2) Tryz.underlying53 rfl bg rfl (.tmp 12) rfl rfl ?_) | (go_at_call 37;refine RD.out.mono ?_;rintro e w3 ⟨rfl,hb3⟩;dsimp only))
        go_ret2;exact ⟨by rw [HF2.out] <;> first | rfl | (push_cast;rfl),(gB hbw T2 Zb hbw.size).trans (hb3.mono (by have:=hbw.size;have:=T2.size;omega))⟩
  · have hke:k=m:=by omega
    have i9:¬ ((k:Int)<(m:Int)):=by omega
    have hf2:M.changed r (plain a) (plain b)=0:=HF.out.trans (by rw [hke,Nat.sub_self];rfl);have HF2:=hide hf2;have T2:=hI.t;obtain ⟨hX,Zb⟩:=HX.out;clear hf2 hke hlt hI;go_wp2;refine HK.out _ _ ?_;go_wp2;go_ret2;exact ⟨by rw [HF2.out] <;> rfl,gB hbw T2 Zb hbw.size⟩
def QA (r:M.Rules) (a b:List M.aV):Int:=aS [aS [M.aQ r,M.dO a],M.dO b]
def UF (r:M.Rules) (a b:List M.aV):Int:=if QA r a b=0 then M.changed r a b else 0
theorem Ez {a b:Int} (h:aS [a,b]=0):a=0∧b=0:=by
 unfold aS aS aS at h
 by_cases ha:a=0
 · by_cases hb:b=0
   · exact ⟨ha,hb⟩
   · simp [ha,hb] at h
 · simp [ha] at h
theorem GL (r:M.Rules) (a b:List Sh) (A B:Option Addr) (c d:Nat) (w:World) (hp0:jQ w (fun _=>True) A c a) (hq0:jQ w (fun _=>True) B d b):
 Calls Tryz.prog 11 #[iJ r,.slice A a.length c,.slice B b.length d] w fun e w'=>e= .returned (.tuple #[.int .i64 (UF r (plain a) (plain b)),.int .i64 (QA r (plain a) (plain b))])∧Below w.heap.size w w':=by
 have hp:=hp0.more (S':=fun b=>b<w.heap.size) (fun b hb _=>hb);have hq:=hq0.more (S':=fun b=>b<w.heap.size) (fun b hb _=>hb);have HP:=hide (And.intro hp hq);obtain ⟨E1,hE1⟩:∃ q,aS [M.aQ r,M.dO (plain a)]=q:=⟨_,rfl⟩;obtain ⟨E2,hE2⟩:∃ q,M.dO (plain b)=q:=⟨_,rfl⟩;obtain ⟨E,hE⟩:∃ q,aS [E1,E2]=q:=⟨_,rfl⟩
 have hEE:QA r (plain a) (plain b)=E:=by unfold QA;rw [hE1,hE2,hE]
 have hck:=fun W h=>check_any (fun b=>b<w.heap.size) r a A c W h;have hcl:=fun W h=>uY (fun b=>b<w.heap.size) b B d W h;have hfi:=fun A c W h=>first_any (fun _=>True) A c [E1,E2] W h
 simp only [hE1] at hck
 simp only [hE2] at hcl
 simp only [hE] at hfi
 have vV:=hide hck;have Ls:=hide hcl;have Xk:=hide hfi;clear hck hcl hfi hp0 hq0
 by_cases h0:E=0
 rotate_left
 · have q0:(E != 0)=true:=by simpa using h0
   have hv:UF r (plain a) (plain b)=0:=if_neg (by rw [hEE];exact h0);have HV:=hide (And.intro hv hEE);clear hv hEE h0 hE hE1 hE2
   go_enter Tryz.func11,Tryz.ntmps11
   have hB:=(aX.nil w).new (by simp) ([.string r.game,.int .i64 r.target,.int .i64 r.bD]) 23
   go_wp2_with (first | (refine aB 23 (.tmp 3) rfl ?_;refine ak (hB.ah rfl) Tryz.underlying23 rfl dB rfl (.tmp 3) rfl rfl ?_) | (go_at_call 34;refine (vV.out _ (hp.below hB.bw)).mono ?_;rintro e w1 ⟨rfl,hb1⟩;have hB1:=hB.call (by simp) hb1;dsimp only) | (go_at_call 29;refine (Ls.out _ (hq.below hB1.bw)).mono ?_;rintro e w2 ⟨rfl,hb2⟩;have hB2:=hB1.call (by simp) hb2;dsimp only) | (go_at_call 28;refine (Xk.out _ _ _ (bQ.lit _ _ _ (by simp) _ trivial)).mono ?_;rintro e w8 ⟨rfl,rfl⟩;dsimp only))
   go_ret2;exact ⟨by rw [HV.out.1,HV.out.2] <;> rfl,hB2.bw.alloc hB2.bw.size _⟩
 subst h0;have q0:((0:Int) != 0)=false:=rfl;have h12:=Ez hE;obtain ⟨rfl,rfl⟩:=h12;have h13:=Ez hE1;have hv:UF r (plain a) (plain b)=M.changed r (plain a) (plain b):=if_pos hEE;have HR:Hid (M.aQ r=0∧M.dO (plain a)=0∧M.dO (plain b)=0):=hide ⟨h13.1,h13.2,hE2⟩;have hall:=alR r a b A B c d w HR HP (hide (alY r a b A B c d w HR HP (hide (al5 r a b A B c d w HR HP))));have ZA:=hide hall;rw [hv,hEE];clear hall hv hEE hE hE1 hE2 h13
 go_enter Tryz.func11,Tryz.ntmps11
 apply wp_seq_k;intro K0 hK0;have HK0:=hide hK0;clear hK0;go_wp2;refine HK0.out _ _ ?_;refine rD (p:=fun W=>Code.wp _ _ _ _ W) (fun w0 hw0=>?_)
 have hB:aX w w0 [([.string r.game,.int .i64 r.target,.int .i64 r.bD],23)]:=by rw [hw0];exact (aX.nil w).new (by simp) ([.string r.game,.int .i64 r.target,.int .i64 r.bD]) 23
 clear hw0;apply wp_seq_k;intro K hK;have HK:=hide hK;clear hK
 go_wp2_with (first | (refine aB 23 (.tmp 3) rfl ?_;refine ak (hB.ah rfl) Tryz.underlying23 rfl dB rfl (.tmp 3) rfl rfl ?_) | (go_at_call 34;refine (vV.out _ (hp.below hB.bw)).mono ?_;rintro e w1 ⟨rfl,hb1⟩;have hB1:=hB.call (by simp) hb1;dsimp only) | (go_at_call 29;refine (Ls.out _ (hq.below hB1.bw)).mono ?_;rintro e w2 ⟨rfl,hb2⟩;have hB2:=hB1.call (by simp) hb2;dsimp only) | (go_at_call 28;refine (Xk.out _ _ _ (bQ.lit _ _ _ (by simp) _ trivial)).mono ?_;rintro e w8 ⟨rfl,rfl⟩;dsimp only))
 refine HK.out _ _ ?_;have HA:=ZA.out;apply HA;exact ⟨rfl,rfl,rfl,(hB2.ah rfl).alloc _,hB2.bw.alloc hB2.bw.size _⟩
end Go.Proofs.YtcjglfbpjkdgiaaGreatDoor
