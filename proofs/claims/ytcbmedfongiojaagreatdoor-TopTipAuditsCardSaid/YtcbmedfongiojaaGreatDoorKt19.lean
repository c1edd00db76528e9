/- Parts of a proof. -/
import Derived.Test.YtcbmedfongiojaaGreatDoorKt18
import Derived.Test.YtcbmedfongiojaaGreatDoorKt30
import Derived.Test.YtcbmedfongiojaaGreatDoorKt34
set_option maxHeartbeats 4000000
set_option maxRecDepth 100000
set_option linter.unusedVariables false
set_option linter.unusedSimpArgs false
namespace Go.Proofs.YtcbmedfongiojaaGreatDoor
open Go.RowKit
def amc (r:M.Rules) (l:List Sh) (k:Nat):M.State:=M.final r (M.start r) (plain (l.take k))
structure Ent where
 i:Nat
 e:Sh
 s:M.State
 A:Option Addr
 c:Nat
 t:M.State
 A':Option Addr
 c':Nat
 rule:Int
structure Told (r:M.Rules) (l:List Sh) (X Y:Nat→Prop) (pre:List Ent) (x:Ent) (W:World):Prop where
 i:x.i=pre.length
 lt:pre.length<l.length
 e:l[pre.length]? =some x.e
 s:x.s=amc r l pre.length
 t:x.t=M.step r x.s x.e.x
 rule:x.rule=M.legal r x.s x.e.x
 a:kX W Y x.A x.c x.s.dX
 b:kX W Y x.A' x.c' x.t.dX
 xy:∀ b,Y b→¬ X b
theorem kX.own {W:World} {S:Nat→Prop} {A:Option Addr} {c:Nat} {zs:List Int} (h:kX W S A c zs):kX W (fun b=>S b∧b<W.heap.size∧∃ o,A=some ⟨b,o,none⟩) A c zs:=
 ⟨h.1,h.2.1,h.2.2.1,h.2.2.2.1,fun hn=>by
  obtain ⟨b,o,e,hS,hb,hc⟩:=Reads.at_ h hn
  exact ⟨b,o,e,⟨hS,hb,o,e⟩,hb,hc⟩⟩
theorem iJ {ops:Array Oper} {rest:List Oper} {op:Oper} {a:Act} {W:World} {Q:Exit→Act→World→Prop} {g o:Nat} {cs:List Value} {t:TypeId} {d:TypeDesc} (h:W.rangeAt g o cs) (hu:Tryz.prog.underlying t=some d) (hd:d.isRow=true) (hi:(Tryz.prog.info? t).map (·.size)=some cs.length) (hgd:op.guard=none) (x:Operand) (ho:op.op= .load t x) (hx:a.eval x= .pointer (some ⟨g,o,none⟩))
 (k:wpList Tryz.prog ops Q rest (a.put op.dst (.agg cs.toArray)) W):oz Tryz.prog ops Q op rest a W:=
 wpList_load_mid hgd t x ho g o hx cs d h hu hd hi k
theorem lN {W W':World} {B:Nat} (h:Below B W.drew W'):Below B W W':=⟨h.os,h.tape,h.output,h.size,h.block⟩
theorem UL {ops:Array Oper} {rest:List Oper} {op:Oper} {a:Act} {W:World} {Q:Exit→Act→World→Prop} {g n:Nat} {cs:List Value} {t:TypeId} {d:TypeDesc} {ro:Option Nat} (h:Held W g cs t) (hu:Tryz.prog.underlying t=some d) (hd:d.isRow=true) (hi:(Tryz.prog.info? t).map (·.size)=some cs.length) (hgd:op.guard=none) (x:Operand) (ho:op.op= .load t x) (hx:a.eval x= .pointer (some ⟨g,0,none⟩))
 (k:wpListIn (jO ro) n Tryz.prog ops Q rest (a.put op.dst (.agg cs.toArray)) W):wpListIn (jO ro) n Tryz.prog ops Q (op::rest) a W:=
 wpListIn_plain hgd fun _ hK=>Eh (fun c e=>by rw [ho] at e;cases e) (wp_load_mid t x ho g 0 hx cs d h.range hu hd hi (hK _ _ k))
theorem Held.zq {g b:Nat} (hne:b≠g):∀ (vs:List Value) (o:Nat) (W:World),(W.setCells g o vs).heap[b]? =W.heap[b]?
 | [],_,_=>rfl
 | v::r,o,W=>(Held.zq hne r (o+1) _).trans (Below.heap_setCell W ⟨g,o,none⟩ v b hne)
theorem vN {F:Fence} {n:Nat} {P:Program} {fn:Func} {R:Ending→World→Prop} {a:Act} {w:World} {D:Nat} {v:Value} (hd:a.defers=[{target:= .collected D,args:= #[] }]) (hD:w.heap[D]? =some (.deferred (some [])))
 (hr:(results fn a.tmps).run P (w.putObj D (.deferred none))= .ok v (w.putObj D (.deferred none))) (hR:R (.returned v) (w.putObj D (.deferred none))):bodyPostM F n P fn R .ret a w:=by
 show LeavesInM F n P fn a.tmps R a.defers .returning w
 rw [hd];exact ⟨by simp,.inl ⟨D,_,rfl,run_takeDeferred hD,v,hr,hR⟩⟩
theorem Held.putObj {W:World} {g l:Nat} {cs:List Value} {t:TypeId} {o:Obj} (h:Held W g cs t) (hl:W.heap[l]? =some o) (ho:o.isCells=false) (o':Obj):Held (W.putObj l o') g cs t:=by
 have hne:g≠l:=fun e=>by
  subst e;rw [show W.heap[g]? =_ from h] at hl
  cases hl
  cases ho
 exact (World.putObj_heap_other hne).trans h
theorem Held.turn {X:Nat→Prop} {W W':World} {g:Nat} {cs:List Value} {t:TypeId} (h:Held W g cs t) (ht:Turn X W W') (hX:¬ X g):Held W' g cs t:=(ht.block g h.lt hX).trans h
theorem Reads.putObj {W:World} {S:Nat→Prop} {size:Nat} {A:Option Addr} {n c:Nat} {xs:List Value} {l:Nat} {o:Obj} (h:Reads W S size A n c xs) (hl:W.heap[l]? =some o) (ho:o.isCells=false) (hS:¬ S l) (o':Obj):Reads (W.putObj l o') S size A n c xs:=
 h.keep (by simp) fun b q hb _=>World.cell?_of_block (World.putObj_heap_other (fun e=>hS (e ▸ hb)))
theorem Reads.turn {X:Nat→Prop} {W W':World} {S:Nat→Prop} {size:Nat} {A:Option Addr} {n c:Nat} {xs:List Value} (h:Reads W S size A n c xs) (ht:Turn X W W') (hX:∀ b,S b→¬ X b):Reads W' S size A n c xs:=
 h.keep ht.size fun b q hb hlt=>World.cell?_of_block (ht.block b hlt (hX b hb))
theorem Held.blk {W W':World} {g:Nat} {cs:List Value} {t:TypeId} (h:Held W g cs t) (hb:W'.heap[g]? =W.heap[g]?):Held W' g cs t:=hb.trans h
theorem qE {B:Nat} {w W:World} (h:Below B w W) {l:Nat} (hl:B≤l) (o:Obj):Below B w (W.putObj l o):=h.trans (Ej o hl)
theorem yC {W W':World} {D:Nat} {e:TypeId} {size:Nat} {v:Value} {n:Nat} {xs:List Value} (h:W.ownsRow D e size v n xs) (hb:∀ g,v.ownBlock=some g→W'.heap[g]? =W.heap[g]?):W'.ownsRow D e size v n xs:=by
 obtain ⟨h1,h2 | ⟨g,cap,cur,rfl,h3,h4,h5⟩⟩:=h
 · exact ⟨h1,.inl h2⟩
 · exact ⟨h1,.inr ⟨g,cap,cur,rfl,h3,(hb g rfl).trans h4,h5⟩⟩
theorem Aa {W:World} {D:Nat} {e:TypeId} {size:Nat} {v:Value} {n:Nat} {xs:List Value} (h:W.ownsRow D e size v n xs) {g:Nat} (hg:v.ownBlock=some g):D≤g∧∃ o:Obj,W.heap[g]? =some o∧o.isCells=true:=by
 obtain ⟨h1,⟨rfl,_⟩ | ⟨g',cap,cur,rfl,h3,h4,h5⟩⟩:=h
 · cases hg
 · cases hg;exact ⟨h3,_,h4,rfl⟩
def KI (W:World) (X Q:Nat→Prop) (A:Option Addr) (c:Nat) (zs:List Int):Prop:=∃ Z:Nat→Prop,kX W Z A c zs∧∀ b,Z b→(∃ o:Obj,W.heap[b]? =some o∧o.isCells=true)∧¬ X b∧Q b
theorem cells_of_cell {W:World} {a:Addr} {v:Value} (h:W.cell? a=some v):∃ o:Obj,W.heap[a.block]? =some o∧o.isCells=true:=by
 unfold World.cell? at h
 split at h
 · rename_i e;exact ⟨_,e,rfl⟩
 · cases h
theorem KI.of {W:World} {S X Q:Nat→Prop} {A:Option Addr} {c:Nat} {zs:List Int} (h:kX W S A c zs) (hS:∀ b,S b→b<W.heap.size→¬ X b∧Q b):KI W X Q A c zs:=by
 refine ⟨fun b=>(∃ o:Obj,W.heap[b]? =some o∧o.isCells=true)∧¬ X b∧Q b,⟨h.1,h.2.1,h.2.2.1,h.2.2.2.1,fun hn=>?_⟩,fun b hb=>hb⟩;obtain ⟨b,o,e,hs,hlt,hc⟩:=Reads.at_ h hn;refine ⟨b,o,e,⟨?_,hS b hs hlt⟩,hlt,hc⟩;have h0:=hc 0 (.int .i64 (zs[0])) (by rw [List.getElem?_map,List.getElem?_eq_getElem hn];rfl);exact cells_of_cell h0
theorem KI.lt {W:World} {b:Nat} (h:∃ o:Obj,W.heap[b]? =some o∧o.isCells=true):b<W.heap.size:=by
 obtain ⟨o,h,_⟩:=h;exact (Array.getElem?_eq_some_iff.1 h).1
theorem KI.turn {W W':World} {X X' Q:Nat→Prop} {A:Option Addr} {c:Nat} {zs:List Int} (h:KI W X Q A c zs) (ht:Turn X W W') (hX:JM W X X'):KI W' X' Q A c zs:=by
 obtain ⟨Z,h1,h2⟩:=h;refine KI.of (Reads.turn h1 ht fun b hb=>(h2 b hb).2.1) fun b hb _=>⟨fun hx=>?_,(h2 b hb).2.2⟩
 rcases hX b hx with h | h
 · exact (h2 b hb).2.1 h
 · have:=KI.lt (h2 b hb).1;omega
theorem KI.putObj {W:World} {X Q:Nat→Prop} {A:Option Addr} {c:Nat} {zs:List Int} {l:Nat} {o:Obj} (h:KI W X Q A c zs) (hl:W.heap[l]? =some o) (ho:o.isCells=false) (o':Obj):KI (W.putObj l o') X Q A c zs:=by
 obtain ⟨Z,h1,h2⟩:=h;refine KI.of (Reads.putObj h1 hl ho (fun hz=>?_) o') fun b hb _=>(h2 b hb).2;obtain ⟨o2,h3,h4⟩:=(h2 l hz).1;rw [hl] at h3;cases h3;rw [ho] at h4;cases h4
theorem KI.out {W:World} {X Q:Nat→Prop} {A:Option Addr} {c:Nat} {zs:List Int} (h:KI W X Q A c zs):kX W Q A c zs:=by
 obtain ⟨Z,h1,h2⟩:=h;exact h1.more fun b _ hb=>(h2 b hb).2.2
theorem KI.keep {W W':World} {X Q:Nat→Prop} {A:Option Addr} {c:Nat} {zs:List Int} (h:KI W X Q A c zs) (hs:W.heap.size≤W'.heap.size) (hk:∀ b,Q b→b<W.heap.size→W'.heap[b]? =W.heap[b]?):KI W' X Q A c zs:=by
 obtain ⟨Z,h1,h2⟩:=h;exact KI.of (h1.keep hs fun b o hb hlt=>World.cell?_of_block (hk b (h2 b hb).2.2 hlt)) fun b hb _=>(h2 b hb).2
theorem H8 {X:Nat→Prop} {B:Nat} {w W W':World} (h:Below B w W) (ht:Turn X W W') (hX:∀ b,X b→B≤b) (hB:B≤W.heap.size):Below B w W':=
 ⟨ht.os.trans h.os,ht.tape.trans h.tape,ht.output.trans h.output,Nat.le_trans h.size ht.size,fun b hb=>(ht.block b (Nat.lt_of_lt_of_le hb hB) (fun hx=>by have:=hX b hx;omega)).trans (h.block b hb)⟩
def Tq (Q:Exit→Act→World→Prop):Exit→Act→World→Prop
 | .ret,a,w=>Q .ret a w
 | _,_,_=>False
theorem yK {P:Program} {c:Code} {Q:Exit→Act→World→Prop} {a:Act} {w:World} (h:c.wp P (Tq Q) a w):c.wp P Q a w:=wp_mono h (fun e a w h=>by cases e <;> first | exact h | exact h.elim)
theorem lD {P:Program} {Q:Exit→Act→World→Prop} {n:Nat} {ro:Option Nat} {id:Nat} {l:List Oper} {a:Act} {w:World} (hnd:sQ l.toArray=true) (hno:¬ LetsOut Q) (h:wpList P l.toArray Q l a w):(Code.region id l.toArray false).wpIn (jO ro) n P Q a w:=
 wB hnd hno (by rw [List.toList_toArray];exact h)
structure Bx (w W:World) (L:List (Nat × List Value × TypeId)):Prop where
 bw:Below w.heap.size w W
 bx:∀ p∈L,w.heap.size≤p.1∧Held W p.1 p.2.1 p.2.2
 nd:L.Pairwise (fun a b=>a.1≠b.1)
section
variable {w W W':World} {L:List (Nat × List Value × TypeId)} {g:Nat} {cs:List Value} {t:TypeId}
theorem Bx.nil (w:World):Bx w w []:=⟨Below.refl _ _,fun p h=>(nomatch h),List.Pairwise.nil⟩
theorem Bx.get (h:Bx w W L) (i:Nat) (he:L[i]? =some (g,cs,t)):Held W g cs t:=(h.bx _ (List.mem_of_getElem? he)).2
theorem Bx.head (h:Bx w W ((g,cs,t)::L)):Held W g cs t:=h.get 0 rfl
theorem Bx.tail {p:Nat × List Value × TypeId} (h:Bx w W (p::L)):Bx w W L:=⟨h.bw,fun q hq=>h.bx q (List.mem_cons_of_mem _ hq),(List.pairwise_cons.1 h.nd).2⟩
theorem Bx.rng (h:Bx w W L) (i:Nat) (he:L[i]? =some (g,cs,t)) (o:Nat) (vs:List Value) (hv:(cs.drop o).take vs.length=vs):W.rangeAt g o vs:=fun j v hj=>by
 have hl:j<vs.length:=(List.getElem?_eq_some_iff.1 hj).1;rw [← hv,List.getElem?_take_of_lt hl,List.getElem?_drop] at hj;exact (h.get i he).cell hj
theorem Bx.rn (h:Bx w W L) (i o:Nat) (vs:List Value) (he:L[i]? =some (g,cs,t):=by rfl) (hv:(cs.drop o).take vs.length=vs:=by rfl):W.rangeAt g o vs:=h.rng i he o vs hv
theorem Bx.call (h:Bx w W L) (hb:Below W.heap.size W W'):Bx w W' L:=⟨h.bw.trans (hb.mono h.bw.size),fun p hp=>⟨(h.bx p hp).1,(h.bx p hp).2.below hb⟩,h.nd⟩
theorem Bx.drew (h:Bx w W L):Bx w W.drew L:=⟨h.bw.drew,h.bx,h.nd⟩
theorem Bx.drewN (h:Bx w W L) (n:Nat):Bx w (W.drewN n) L:=⟨below_drewN h.bw n,h.bx,h.nd⟩
theorem Bx.alloc (h:Bx w W L) (o:Obj):Bx w (W.alloc o) L:=h.call ((Below.refl _ _).alloc (Nat.le_refl _) o)
theorem Bx.lt (h:Bx w W L):∀ p∈L,p.1<W.heap.size:=fun p hp=>(h.bx p hp).2.lt
theorem Bx.add (h:Bx w W L) (cs:List Value) (t:TypeId):Bx w (W.alloc (.cells cs.toArray t)) ((W.heap.size,cs,t)::L):=by
 refine ⟨(h.alloc _).bw,?_,List.pairwise_cons.2 ⟨fun p hp=>by have:=h.lt p hp;show W.heap.size≠p.1;omega,h.nd⟩⟩;intro p hp
 rcases List.mem_cons.1 hp with rfl | hp
 · exact ⟨h.bw.size,Held.new W cs t⟩
 · exact (h.alloc _).bx p hp
theorem Bx.ne (h:Bx w W ((g,cs,t)::L)):∀ p∈L,g≠p.1:=(List.pairwise_cons.1 h.nd).1
theorem Bx.put (h:Bx w W ((g,cs,t)::L)) (vs:List Value) (hl:cs.length=vs.length):Bx w (W.setCells g 0 vs) ((g,vs,t)::L):=by
 have hg:=(h.bx (g,cs,t) (List.mem_cons_self ..)).1;refine ⟨below_setCells _ hg vs 0 _ _ h.bw,?_,List.pairwise_cons.2 ⟨h.ne,h.tail.nd⟩⟩;intro p hp
 rcases List.mem_cons.1 hp with rfl | hp
 · exact ⟨hg,h.head.whole vs hl⟩
 · exact ⟨(h.tail.bx p hp).1,(h.tail.bx p hp).2.blk (Held.zq (fun e=>h.ne p hp e.symm) vs 0 W)⟩
theorem Bx.set (h:Bx w W ((g,cs,t)::L)) (o:Nat) (v:Value):Bx w (W.setCell ⟨g,o,none⟩ v) ((g,cs.set o v,t)::L):=by
 have hg:=(h.bx (g,cs,t) (List.mem_cons_self ..)).1;refine ⟨h.bw.setCell (p:=⟨g,o,none⟩) hg v,?_,List.pairwise_cons.2 ⟨h.ne,h.tail.nd⟩⟩;intro p hp
 rcases List.mem_cons.1 hp with rfl | hp
 · exact ⟨hg,h.head.set o v⟩
 · exact ⟨(h.tail.bx p hp).1,(h.tail.bx p hp).2.blk (Below.heap_setCell W ⟨g,o,none⟩ v p.1 (fun e=>h.ne p hp e.symm))⟩
theorem Bx.swap {p q:Nat × List Value × TypeId} (h:Bx w W (p::q::L)):Bx w W (q::p::L):=by
 have h1:=List.pairwise_cons.1 h.nd;have h2:=List.pairwise_cons.1 h1.2;refine ⟨h.bw,fun r hr=>h.bx r ?_,List.pairwise_cons.2 ⟨?_,List.pairwise_cons.2 ⟨fun r hr=>h1.1 r (List.mem_cons_of_mem _ hr),h2.2⟩⟩⟩
 · simp only [List.mem_cons] at hr ⊢
   rcases hr with h | h | h
   · exact .inr (.inl h)
   · exact .inl h
   · exact .inr (.inr h)
 · intro r hr
   rcases List.mem_cons.1 hr with rfl | hr
   · exact fun e=>h1.1 q (List.mem_cons_self ..) e.symm
   · exact h2.1 r hr
theorem Bx.of {L2:List (List Value × TypeId)} (h:aC w W L2) (M:List (Nat × List Value × TypeId)) (hM:M=(L2.zipIdx.map fun p=>(w.heap.size+p.2,p.1.1,p.1.2))):Bx w W M:=by
 subst hM;refine ⟨h.bw,?_,?_⟩
 · intro p hp
   obtain ⟨q,hq,rfl⟩:=List.mem_map.1 hp;obtain ⟨⟨cs,t⟩,i⟩:=q;have hq2:=List.mem_zipIdx_iff_getElem?.1 hq;exact ⟨by show w.heap.size≤w.heap.size+i;omega,h.get i hq2⟩
 · rw [List.pairwise_map]
   refine List.pairwise_iff_getElem.2 fun i j hi hj hij=>?_
   simp only [List.getElem_zipIdx]
   omega
end
def Hs (W:World) (L:List (Nat × List Value × TypeId)):Prop:=∀ p∈L,Held W p.1 p.2.1 p.2.2
section
variable {w W W':World} {L:List (Nat × List Value × TypeId)} {g D:Nat} {cs:List Value} {t:TypeId}
theorem Bx.hs (h:Bx w W L):Hs W L:=fun p hp=>(h.bx p hp).2
theorem Hs.get (h:Hs W L) (i:Nat) (he:L[i]? =some (g,cs,t)):Held W g cs t:=h _ (List.mem_of_getElem? he)
theorem Hs.rng (h:Hs W L) (i:Nat) (he:L[i]? =some (g,cs,t)) (o:Nat) (vs:List Value) (hv:(cs.drop o).take vs.length=vs):W.rangeAt g o vs:=fun j v hj=>by
 have hl:j<vs.length:=(List.getElem?_eq_some_iff.1 hj).1;rw [← hv,List.getElem?_take_of_lt hl,List.getElem?_drop] at hj;exact (h.get i he).cell hj
theorem Hs.grown {row:Option Nat} (h:Hs W L) (hg:W.grownBy W' row) (hr:∀ p∈L,row≠some p.1):Hs W' L:=fun p hp=>(h p hp).blk (hg.block p.1 (h p hp).lt (fun e=>hr p hp e.symm))
theorem Bx.grown {row:Option Nat} (h:Bx w W L) (hD:w.heap.size≤D) (hL:∀ p∈L,p.1<D) (hg:W.grownBy W' row) (hr:∀ b,row=some b→D≤b):Bx w W' L:=by
 refine ⟨⟨hg.os.trans h.bw.os,hg.tape.trans h.bw.tape,hg.output.trans h.bw.output,Nat.le_trans h.bw.size hg.size,fun b hb=>?_⟩,fun p hp=>⟨(h.bx p hp).1,?_⟩,h.nd⟩
 · exact (hg.block b (Nat.lt_of_lt_of_le hb h.bw.size) (fun e=>by have:=hr b e.symm;omega)).trans (h.bw.block b hb)
 · exact (h.bx p hp).2.blk (hg.block p.1 (h.bx p hp).2.lt (fun e=>by have:=hr _ e.symm;have:=hL p hp;omega))
end
theorem xw {α:Type} {f:α→List Value} {n:Nat} (hf:∀ a,(f a).length=n):∀ {l:List α} (k:Nat) (hk:k<l.length) {j:Nat} {v:Value},(f l[k])[j]? =some v→(l.flatMap f)[k*n+j]? =some v
 | x::l,0,_,j,v,h=>by
   have h':(f x)[j]? =some v:=h;have hj:j<(f x).length:=(List.getElem?_eq_some_iff.1 h').1;rw [List.flatMap_cons,Nat.zero_mul,Nat.zero_add,List.getElem?_append_left hj];exact h'
 | x::l,k+1,hk,j,v,h=>by
   have h':(f (l[k]'(by simpa using hk)))[j]? =some v:=h;have ih:=xw hf (l:=l) k (by simpa using hk) h';rw [List.flatMap_cons,List.getElem?_append_right (by rw [hf,Nat.succ_mul];omega),hf,show (k+1)*n+j - n=k*n+j by rw [Nat.succ_mul];omega];exact ih
theorem qp:(Tryz.prog.info? 28).map (·.size)=some 4:=by kernel_rfl
theorem Gz:(Tryz.prog.info? 29).map (·.size)=some 13:=by kernel_rfl
theorem uI (w:World):Calls Tryz.prog 60 #[] w fun e w'=>e= .returned (.slice (some ⟨w.heap.size,0,none⟩) 8 8)∧w'=w.alloc (.cells (Sk.dX.map Value.string).toArray 9):=by
 go_enter Tryz.func60,Tryz.ntmps60
 go_wp2;go_ret;exact ⟨rfl,rfl⟩
theorem jR (n a b:Int) (w:World):Calls Tryz.prog 17 #[.int .i64 n,.int .i64 a,.int .i64 b] w fun e w'=>e= .returned (.bool (Sk.out n a b))∧w'=w:=by
 rcases h1:decide (n<a) with _ | _
 · go_enter Tryz.func17,Tryz.ntmps17
   go_wp2;go_ret;exact ⟨aI (by unfold Sk.out;simp at h1;simp;omega),rfl⟩
 · go_enter Tryz.func17,Tryz.ntmps17
   go_wp2;go_ret;exact ⟨aI (by unfold Sk.out;simp at h1;simp;omega),rfl⟩
theorem xg (h:Bool) (n m:Int) (w:World):Calls Tryz.prog 35 #[.bool h,.int .i64 n,.int .i64 m] w fun e w'=>e= .returned (.bool (Sk.qo h n m))∧w'=w:=by
 cases h
 · go_enter Tryz.func35,Tryz.ntmps35
   go_wp2;go_ret;exact ⟨aI (by unfold Sk.qo;simp;rfl),rfl⟩
 · go_enter Tryz.func35,Tryz.ntmps35
   go_wp2_with (go_at_call 17;refine (jR n 1 m _).mono ?_;rintro e w2 ⟨rfl,rfl⟩)
   go_ret;exact ⟨aI (by unfold Sk.qo;simp),rfl⟩
theorem Gy (g:Sk.Game) (p:ByteArray) (w:World):Calls Tryz.prog 18 #[rF g,.string p] w fun e w'=>e= .returned (.bool (Sk.fH g p))∧Below w.heap.size w w':=by
 have e0:=jB g.kind [115,110,111,111,107,101,114];have e1:=jB p [114,101,100];have e2:=jB p [99,111,108,111,117,114];have e3:=jB p [102,105,110,97,108];have e4:=jB p [112,108,97,121];have HE:=hide (show Sk.fH g p=if (g.kind.toList == [115,110,111,111,107,101,114]) then (p.toList == [114,101,100]) || (p.toList == [99,111,108,111,117,114]) || (p.toList == [102,105,110,97,108]) else (p.toList == [112,108,97,121]) by rw [e0,e1,e2,e3,e4];unfold Sk.fH;by_cases h:g.kind=Sk.aK <;> simp [h,Bool.or_assoc]);clear e0 e1 e2 e3 e4
 go_enter Tryz.func18,Tryz.ntmps18
 go_upto_region 0 with (fail)
 go_cut [2,4] (fun v2 v4 wx=>v2=ptr (w.heap.size)∧v4= .bool false∧Bx w wx [(w.heap.size,dN g,28)])
 case first=>
  go_wp2;go_meet;exact ⟨rfl,rfl,Bx.of ((aC.nil w).new (by simp) (dN g) 28) _ rfl⟩
 case rest=>
  obtain ⟨rfl,rfl,hL⟩:=hcut;have k0:=(hL.get 0 rfl).cell (j:=0) rfl
  rcases ha0:(g.kind.toList == [115,110,111,111,107,101,114]) with _ | _
  · go_wp2
    go_ret;exact ⟨aI (by rw [HE.out];simp [ha0]),hL.bw⟩
  · rcases ha1:(p.toList == [114,101,100]) with _ | _
    · rcases ha2:(p.toList == [99,111,108,111,117,114]) with _ | _
      · go_wp2
        go_ret;exact ⟨aI (by rw [HE.out];simp [ha0,ha1,ha2]),hL.bw⟩
      · go_wp2
        go_ret;exact ⟨aI (by rw [HE.out];simp [ha0,ha1,ha2]),hL.bw⟩
    · go_wp2
      go_ret;exact ⟨aI (by rw [HE.out];simp [ha0,ha1]),hL.bw⟩
theorem Vk (g:Sk.Game) (s b c:Bool) (hs:(g.kind.toList == [115,110,111,111,107,101,114])=s) (hb:(g.kind.toList == [98,105,108,108,105,97,114,100,115])=b) (hc:(g.kind.toList == [99,97,114,111,109])=c):
 Sk.eU g=if (!s && !b && !c) then 13 else if (!Sk.qo s g.aW 15 || !Sk.qo (b || c) g.target 1000 || !Sk.qo c g.turns 100) then 3 else 0:=by
 rw [jB] at hs hb hc;rw [← Sk.RH]
 unfold Sk.Em
 subst hs hb hc
 by_cases h1:g.kind=Sk.aK <;> by_cases h2:g.kind=Sk.bF <;> by_cases h3:g.kind=Sk.fA <;> simp [h1,h2,h3,or_assoc]
theorem Gx (g:Sk.Game) (w:World):Calls Tryz.prog 16 #[rF g] w fun e w'=>e= .returned (.int .i64 (Sk.eU g))∧Below w.heap.size w w':=by
 obtain ⟨s,hs⟩:∃ q,(g.kind.toList == [115,110,111,111,107,101,114])=q:=⟨_,rfl⟩;obtain ⟨b,hb⟩:∃ q,(g.kind.toList == [98,105,108,108,105,97,114,100,115])=q:=⟨_,rfl⟩;obtain ⟨c,hc⟩:∃ q,(g.kind.toList == [99,97,114,111,109])=q:=⟨_,rfl⟩;rw [Vk g s b c hs hb hc];have M1:=fun W=>xg s g.aW 15 W;have M2:=fun W=>xg (b || c) g.target 1000 W;have M3:=fun W=>xg c g.turns 100 W;obtain ⟨m1,h1⟩:∃ q,Sk.qo s g.aW 15=q:=⟨_,rfl⟩;obtain ⟨m2,h2⟩:∃ q,Sk.qo (b || c) g.target 1000=q:=⟨_,rfl⟩;obtain ⟨m3,h3⟩:∃ q,Sk.qo c g.turns 100=q:=⟨_,rfl⟩
 simp only [h1,h2,h3] at M1 M2 M3 ⊢
 clear h1 h2 h3;have M1:=hide M1;have M2:=hide M2;have M3:=hide M3;have tk1:=hide True.intro;have tk2:=hide True.intro
 go_enter Tryz.func16,Tryz.ntmps16
 go_upto_region 0 with (fail)
 go_cut [1,2] (fun v1 v2 wx=>v1=ptr (w.heap.size)∧v2= .int .i64 0∧Bx w wx [(w.heap.size,dN g,28)])
 case first=>
  go_wp2;go_meet;exact ⟨rfl,rfl,Bx.of ((aC.nil w).new (by simp) (dN g) 28) _ rfl⟩
 case rest=>
  obtain ⟨rfl,rfl,hL⟩:=hcut;have k0:=(hL.get 0 rfl).cell (j:=0) rfl
  go_upto_region 1 with (fail)
  go_cut [3,4,5] from 6 to 15 (fun v3 v4 v5 wx=>v3= .bool s∧v4= .bool b∧v5= .bool c∧Bx w wx [(w.heap.size,dN g,28)])
  case first=>
   go_wp2
   go_quiet (fail)
   go_wp2;go_meet;exact ⟨rfl,rfl,rfl,hL.drewN nq⟩
  case rest=>
   obtain ⟨rfl,rfl,rfl,hL⟩:=hcut;clear k0 hs hb hc;have k1:=(hL.get 0 rfl).cell (j:=1) rfl;have k2:=(hL.get 0 rfl).cell (j:=2) rfl;have k3:=(hL.get 0 rfl).cell (j:=3) rfl
   cases s <;> cases b <;> cases c <;> cases m1 <;> cases m2 <;> cases m3 <;>
    (go_wp2_with (first | (clear tk1;go_at_call 35;refine (M1.out _).mono ?_;rintro e w2 ⟨rfl,rfl⟩) | (clear tk2;go_at_call 35;refine (M2.out _).mono ?_;rintro e w2 ⟨rfl,rfl⟩) | (go_at_call 35;refine (M3.out _).mono ?_;rintro e w2 ⟨rfl,rfl⟩))
     go_ret
     exact ⟨bG rfl,hL.bw⟩)
theorem Turn.mono {X X':Nat→Prop} {W W':World} (h:Turn X W W') (hX:∀ b,X b→X' b):Turn X' W W':=⟨h.os,h.tape,h.output,h.size,fun b hb hn=>h.block b hb (fun hx=>hn (hX b hx))⟩
theorem sU {W:World} {D:Nat} {e:TypeId} {size:Nat} {v:Value} {n:Nat} {xs:List Value} (h:W.ownsRow D e size v n xs):∃ A c,v= .slice A n c:=by
 obtain ⟨h1,⟨rfl,rfl⟩ | ⟨g',cap,cur,rfl,h3⟩⟩:=h
 · exact ⟨none,0,rfl⟩
 · exact ⟨_,cap,rfl⟩
theorem Told.putObj {r:M.Rules} {l:List Sh} {X Y:Nat→Prop} {pre:List Ent} {x:Ent} {W:World} {lp:Nat} {o:Obj} (h:Told r l X Y pre x W) (hl:W.heap[lp]? =some o) (ho:o.isCells=false) (o':Obj):Told r l X Y pre x (W.putObj lp o'):=
 ⟨h.i,h.lt,h.e,h.s,h.t,h.rule,(KI.of (X:=fun _=>False) (Q:=Y) h.a (fun b hb _=>⟨fun h=>h,hb⟩) |>.putObj hl ho o').out,(KI.of (X:=fun _=>False) (Q:=Y) h.b (fun b hb _=>⟨fun h=>h,hb⟩) |>.putObj hl ho o').out,h.xy⟩
theorem TG (e:En):∀ v∈fC e,v.oneCell'=true:=by simp [fC,Value.oneCell']
theorem Bx.Ym {w W:World} {a b c d:Nat × List Value × TypeId} (h:Bx w W [a,b,c,d]):Bx w W [d,a,b,c]:=by
 have h1:=h.nd;refine ⟨h.bw,fun p hp=>h.bx p (by simp only [List.mem_cons] at hp ⊢;rcases hp with h | h | h | h | h <;> simp [h]),?_⟩
 simp at h1 ⊢
 omega
def Ll (g:Sk.Game) (s:Sk.State) (e:Sk.Entry):Int:=fst [iQ g s e,jA (decide (e.kind≠Sk.dW)) 13]
def Kr (g:Sk.Game) (s:Sk.State) (e:Sk.Entry):Int:=if Ll g s e≠0 then Ll g s e else if Sk.legal g s e≠0 then 18 else 0
def UM (g:Sk.Game) (s:Sk.State) (e:Sk.Entry):Sk.fF:=if Kr g s e=0 then Sk.judge g s e else ⟨0,0,0,false⟩
theorem Pg {g:Sk.Game} {s:Sk.State} {e:Sk.Entry} (h:Ll g s e=0):iQ g s e=0∧e.kind=Sk.dW:=by
 unfold Ll at h
 rw [qK] at h
 by_cases h1:iQ g s e=0
 · rw [if_neg (by simpa using h1)] at h
   refine ⟨h1,?_⟩
   by_cases h2:e.kind=Sk.dW
   · exact h2
   · rw [decide_eq_true h2] at h;cases h
 · rw [if_pos h1] at h;exact absurd h h1
theorem GK (S:Nat→Prop) (g:Sk.Game) (s:Sk.State) (e:En) (w:World) (he:je w S e):Calls Tryz.prog 28 #[rF g,lJ s,wC e] w fun e_ w'=>e_= .returned (.tuple #[Vy (UM g s e.x),.int .i64 (Kr g s e.x)])∧Below w.heap.size w w':=by
 go_enter Tryz.func28,Tryz.ntmps28
 go_upto_region 0 with (fail)
 go_cut [3,4,5,6,7] (fun v3 v4 v5 v6 v7 wx=>v3=ptr (w.heap.size)∧v4=ptr (w.heap.size+1)∧v5=ptr (w.heap.size+2)∧v6=ptr (w.heap.size+3)∧v7= .int .i64 0∧Bx w wx [(w.heap.size,dN g,23),(w.heap.size+1,aQ s,26),(w.heap.size+2,fC e,41),(w.heap.size+3,gB ⟨0,0,0,false⟩,88)])
 case first=>
  go_wp2;go_meet;exact ⟨rfl,rfl,rfl,rfl,rfl,Bx.of (((((aC.nil w).new (by simp) (dN g) 23).new (by simp) (aQ s) 26).new (by simp) (fC e) 41).new (by simp) (gB ⟨0,0,0,false⟩) 88) _ rfl⟩
 case rest=>
  obtain ⟨rfl,rfl,rfl,rfl,rfl,hL⟩:=hcut;obtain ⟨nk,hnk⟩:∃ q,decide (e.x.kind≠Sk.dW)=q:=⟨_,rfl⟩
  have ajQ:(!(e.x.kind.toList == [115,104,111,116]))=nk:=by rw [← hnk,jB];simp
  have HNK:=hide (show Ll g s e.x=fst [iQ g s e.x,jA nk 13] by unfold Ll;rw [hnk]);clear hnk
  go_upto_region 1 with (fail)
  go_cut [8] from 9 to 19 (fun v8 wx=>v8= .int .i64 (fst [iQ g s e.x,jA nk 13])∧Bx w wx [(w.heap.size,dN g,23),(w.heap.size+1,aQ s,26),(w.heap.size+2,fC e,41),(w.heap.size+3,gB ⟨0,0,0,false⟩,88)])
  case first=>
   have CO:∀ W:World,Bx w W [(w.heap.size,dN g,23),(w.heap.size+1,aQ s,26),(w.heap.size+2,fC e,41),(w.heap.size+3,gB ⟨0,0,0,false⟩,88)]∧W.cell? ⟨w.heap.size+2,0,none⟩=some (.string e.x.kind)→W.rangeAt (w.heap.size) 0 (dN g):=fun W h=>h.1.rng 0 rfl 0 _ rfl;have O5:∀ W:World,Bx w W [(w.heap.size,dN g,23),(w.heap.size+1,aQ s,26),(w.heap.size+2,fC e,41),(w.heap.size+3,gB ⟨0,0,0,false⟩,88)]∧W.cell? ⟨w.heap.size+2,0,none⟩=some (.string e.x.kind)→W.rangeAt (w.heap.size+1) 0 (aQ s):=fun W h=>h.1.rng 1 rfl 0 _ rfl;have O6:∀ W:World,Bx w W [(w.heap.size,dN g,23),(w.heap.size+1,aQ s,26),(w.heap.size+2,fC e,41),(w.heap.size+3,gB ⟨0,0,0,false⟩,88)]∧W.cell? ⟨w.heap.size+2,0,none⟩=some (.string e.x.kind)→W.rangeAt (w.heap.size+2) 0 (fC e):=fun W h=>h.1.rng 2 rfl 0 _ rfl;have hL:=hL.drew;refine wp_region_held_drew (S:=(fun w':World=>Bx w w' [(w.heap.size,dN g,23),(w.heap.size+1,aQ s,26),(w.heap.size+2,fC e,41),(w.heap.size+3,gB ⟨0,0,0,false⟩,88)]∧w'.cell? ⟨w.heap.size+2,0,none⟩=some (.string e.x.kind))) (by kernel_rfl) ?bU (fun hHeld=>?_)
   case bU=>exact ⟨hL,(hL.get 2 rfl).cell (j:=0) rfl⟩
   refine bP 0 CO Tryz.underlying23 ?_;refine bP 1 O5 Tryz.underlying26 ?_;refine bP 2 O6 Tryz.underlying41 ?_;refine aA 4 ?_;refine aA 5 ?_;refine aA 6 ?_;refine aB 3 fun K hK=>?_;go_simp
   (go_at_call 62;refine (rW S g s e _ (he.below hL.bw)).mono ?_;rintro e YW ⟨rfl,Iw⟩)
   have hL:=hL.call Iw;refine au hK (⟨hL,(hL.get 2 rfl).cell (j:=0) rfl⟩) fun hHeld=>?_;clear hK K;refine aB 7 fun K hK=>?_;go_simp
   (go_at_call 25;refine (dJ nk 13 _).mono ?_;rintro e YA ⟨rfl,rfl⟩)
   refine au hK (⟨hL,(hL.get 2 rfl).cell (j:=0) rfl⟩) fun hHeld=>?_;clear hK K;refine aB 8 fun K hK=>?_;go_simp;have hL:=hL.alloc (.cells #[.int .i64 (iQ g s e.x),.int .i64 (jA nk 13)] 31);refine au hK (⟨hL,(hL.get 2 rfl).cell (j:=0) rfl⟩) fun hHeld=>?_;clear hK K;refine aB 9 fun K hK=>?_;go_simp
   (go_at_call 23;refine (iO (fun _=>True) _ _ [iQ g s e.x,jA nk 13] _ (kX.row _ _ [iQ g s e.x,jA nk 13] (by simp) _ trivial)).mono ?_;rintro e w1c ⟨rfl,rfl⟩)
   refine au hK (⟨hL,(hL.get 2 rfl).cell (j:=0) rfl⟩) fun hHeld=>?_;clear hK K;refine aA 10 ?_;refine wpAnyH_done (by kernel_rfl) ?_ _;go_wp2;go_meet;exact ⟨by rfl,hL⟩
  case rest=>
   obtain ⟨rfl,hL⟩:=hcut;clear ajQ;rw [← HNK.out];clear HNK
   by_cases h0:Ll g s e.x=0
   rotate_left
   · have h0':(Ll g s e.x != 0)=true:=by simp [h0]
     have HM:=hide (show UM g s e.x=⟨0,0,0,false⟩∧Kr g s e.x=Ll g s e.x by have hE:Kr g s e.x=Ll g s e.x:=(by unfold Kr;rw [if_pos h0]);exact ⟨by unfold UM;rw [if_neg (by rw [hE];exact h0)],hE⟩);clear h0;have hL4:=hL.Ym
     go_wp2_with (first | ((with_reducible refine isS 88 6 21 ?_);refine iZ (hL4.head) (gB ⟨0,0,0,false⟩) dR (jM _) ?_))
     have hL:=hL4.put (gB ⟨0,0,0,false⟩) rfl;refine bodyPost_ret (jW (p:=6) (u:=7) hL.head Tryz.underlying88 rfl dR rfl _ rfl) rfl ⟨?_,hL.bw⟩;rw [HM.out.1,HM.out.2];rfl
   · have h0':(Ll g s e.x != 0)=false:=by simp [h0]
     obtain ⟨hca,hkd⟩:=Pg h0;obtain ⟨ho,hen⟩:=um hca
     by_cases h1:Sk.legal g s e.x=0
     rotate_left
     · have h1':(Sk.legal g s e.x != 0)=true:=by simp [h1]
       have HM:=hide (show UM g s e.x=⟨0,0,0,false⟩∧Kr g s e.x=18 by have hE:Kr g s e.x=18:=(by unfold Kr;rw [if_neg (by simpa using h0),if_pos h1]);exact ⟨by unfold UM;rw [if_neg (by rw [hE];decide)],hE⟩);clear h0 h1 hca hkd
       go_upto_region 5 with (first | ((with_reducible refine dh 23 3 ?_);refine nI (hL.rn 0 0 (dN g)) Tryz.underlying23 fG ?_) | ((with_reducible refine iV 23 3 ?_);refine nJ (hL.rn 0 0 (dN g)) Tryz.underlying23 fG ?_) | ((with_reducible refine dh 26 4 ?_);refine nI (hL.rn 1 0 (aQ s)) Tryz.underlying26 ak ?_) | ((with_reducible refine iV 26 4 ?_);refine nJ (hL.rn 1 0 (aQ s)) Tryz.underlying26 ak ?_) | ((with_reducible refine dh 41 5 ?_);refine nI (hL.rn 2 0 (fC e)) Tryz.underlying41 bY ?_) | ((with_reducible refine iV 41 5 ?_);refine nJ (hL.rn 2 0 (fC e)) Tryz.underlying41 bY ?_) | (go_at_call 63;refine (qV S g s e _ ho hen (he.below hL.bw)).mono ?_;rintro e1 w4 ⟨rfl,hb4⟩;have hL:=hL.call hb4))
       have hL:=hL.Ym
       go_wp2_with (first | ((with_reducible refine isS 88 6 28 ?_);refine iZ (hL.head) (gB ⟨0,0,0,false⟩) dR (jM _) ?_))
       have hL:=hL.put (gB ⟨0,0,0,false⟩) rfl;refine bodyPost_ret (jW (p:=6) (u:=7) hL.head Tryz.underlying88 rfl dR rfl _ rfl) rfl ⟨?_,hL.bw⟩;rw [HM.out.1,HM.out.2];rfl
     · have h1':(Sk.legal g s e.x != 0)=false:=by simp [h1]
       have hE:Kr g s e.x=0:=by unfold Kr;rw [if_neg (by simpa using h0),if_neg (by simpa using h1)]
       have Xn:=fun W (hb:Below w.heap.size w W)=>tZ S g s e W ho.inr.turn ho.inr.colour (he.below hb);obtain ⟨v,hv⟩:∃ q,Sk.judge g s e.x=q:=⟨_,rfl⟩;have eg:=tV g.kind;obtain ⟨gj,hgj⟩:∃ q,gK g.kind=q:=⟨_,rfl⟩
       simp only [hgj,hv] at Xn eg
       have HJU:=hide Xn;have HGJ:=hide hgj;have hkn:=Sk.zZ ho.game;have rlj:=@RQ;have HM:=hide (show UM g s e.x=v∧Kr g s e.x=0 from ⟨by unfold UM;rw [if_pos hE,hv],hE⟩);clear h0 h1 hca hkd hE Xn hgj hv
       go_upto_region 6 with (first | ((with_reducible refine dh 23 3 ?_);refine nI (hL.rn 0 0 (dN g)) Tryz.underlying23 fG ?_) | ((with_reducible refine iV 23 3 ?_);refine nJ (hL.rn 0 0 (dN g)) Tryz.underlying23 fG ?_) | ((with_reducible refine dh 26 4 ?_);refine nI (hL.rn 1 0 (aQ s)) Tryz.underlying26 ak ?_) | ((with_reducible refine iV 26 4 ?_);refine nJ (hL.rn 1 0 (aQ s)) Tryz.underlying26 ak ?_) | ((with_reducible refine dh 41 5 ?_);refine nI (hL.rn 2 0 (fC e)) Tryz.underlying41 bY ?_) | ((with_reducible refine iV 41 5 ?_);refine nJ (hL.rn 2 0 (fC e)) Tryz.underlying41 bY ?_) | (go_at_call 63;refine (qV S g s e _ ho hen (he.below hL.bw)).mono ?_;rintro e1 w4 ⟨rfl,hb4⟩;have hL:=hL.call hb4))
       have hL:=hL.Ym;have xW:∀ W:World,Bx w W [(w.heap.size,dN g,23),(w.heap.size+1,aQ s,26),(w.heap.size+2,fC e,41)]∧W.cell? ⟨w.heap.size,0,none⟩=some (.string g.kind)→W.rangeAt (w.heap.size+1) 0 ([.int .i64 s.turn,.int .i64 s.s0,.int .i64 s.s1,.int .i64 s.brk,.string s.phase,.int .i64 s.aW,.int .i64 s.colour,.bool s.free,.bool s.aO,.int .i64 s.aJ,.int .i64 s.t0,.int .i64 s.t1,.int .i64 s.ay]):=fun W h=>h.1.rng 1 rfl 0 _ rfl;have CP:∀ W:World,Bx w W [(w.heap.size,dN g,23),(w.heap.size+1,aQ s,26),(w.heap.size+2,fC e,41)]∧W.cell? ⟨w.heap.size,0,none⟩=some (.string g.kind)→W.rangeAt (w.heap.size+2) 0 ([.string e.x.kind,.string e.x.called,.slice e.A e.x.hits.length e.a,.slice e.B e.x.aV.length e.b,.int .i64 e.x.dM]):=fun W h=>h.1.rng 2 rfl 0 _ rfl;have hL:=hL.drew;refine wp_region_held_drew (S:=(fun w':World=>Bx w w' [(w.heap.size,dN g,23),(w.heap.size+1,aQ s,26),(w.heap.size+2,fC e,41)]∧w'.cell? ⟨w.heap.size,0,none⟩=some (.string g.kind))) (by kernel_rfl) ?cu (fun hHeld=>?_)
       case cu=>exact ⟨hL.tail,(hL.tail.get 0 rfl).cell (j:=0) rfl⟩
       refine aA 1 ?_;refine aA 2 ?_;refine bP 5 xW Tryz.underlying26 ?_;refine bP 6 CP Tryz.underlying41 ?_;refine aB 0 fun K hK=>?_;go_simp
       (go_at_call 58;refine (fV _).mono ?_;rintro e YZ ⟨rfl,g3⟩;have wQ:=g3.bw;have hl1:=Oy (lS (n:=w4.heap.size) g3 (by simp)) hkn HGJ.out)
       have hL:=hL.call wQ;refine au hK (⟨hL.tail,(hL.tail.get 0 rfl).cell (j:=0) rfl⟩) fun hHeld=>?_;clear hK K;refine aB 3 fun K hK=>?_;go_simp;refine au hK (⟨hL.tail,(hL.tail.get 0 rfl).cell (j:=0) rfl⟩) fun hHeld=>?_;clear hK K;refine aA 4 ?_;refine aB 7 fun K hK=>?_;go_simp
       (go_at_fn gj;refine (HJU.out _ hL.bw).mono ?_;rintro e w6b ⟨rfl,DX⟩)
       have hL:=hL.call DX;refine au hK (⟨hL.tail,(hL.tail.get 0 rfl).cell (j:=0) rfl⟩) fun hHeld=>?_;clear hK K;refine aB 8 fun K hK=>?_;refine aG hL.head (gB v) rfl dR (jM _) (.tmp 6) (.tmp 36) rfl rfl rfl ?_;have hL:=hL.put (gB v) rfl;refine au hK (⟨hL.tail,(hL.tail.get 0 rfl).cell (j:=0) rfl⟩) fun hHeld=>?_;clear hK K;refine aA 9 ?_;refine wpAnyH_done (by kernel_rfl) ?_ _;go_wp2;refine bodyPost_ret (jW (p:=6) (u:=7) hL.head Tryz.underlying88 rfl dR rfl _ rfl) rfl ⟨?_,hL.bw⟩;rw [HM.out.1,HM.out.2];rfl
end Go.Proofs.YtcbmedfongiojaaGreatDoor
