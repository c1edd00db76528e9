/- Parts of a proof. -/
import Derived.IntWalk
import Derived.Test.YtjbbfmofpjflmaaGreatDoorKr17
import Derived.Test.YtjbbfmofpjflmaaGreatDoorKr23
set_option maxHeartbeats 4000000
set_option maxRecDepth 100000
set_option linter.unusedVariables false
set_option linter.unusedSimpArgs false
namespace Go.Proofs.YtjbbfmofpjflmaaGreatDoor
open Go.RowKit
theorem Held.Lc {g:Nat} {t:TypeId}:∀ (vs pre mid post:List Value) (W:World),Held W g (pre++mid++post) t→mid.length=vs.length→Held (W.setCells g pre.length vs) g (pre++vs++post) t
 | [],pre,mid,post,W,h,hl=>by
   obtain rfl:=List.eq_nil_of_length_eq_zero (by simpa using hl);exact h
 | v::r,pre,[],post,W,h,hl=>by cases hl
 | v::r,pre,u::mid,post,W,h,hl=>by
   have h1:=h.set pre.length v;rw [show (pre++u::mid++post).set pre.length v=(pre++[v])++mid++post by simp] at h1;have h2:=Held.Lc r (pre++[v]) mid post _ h1 (by simpa using hl);rw [List.length_append] at h2
   simpa [World.setCells] using h2
theorem fH {ops:Array Oper} {rest:List Oper} {op:Oper} {a:Act} {W:World} {Q:Exit→Act→World→Prop} {g o:Nat} {cs:List Value} {t:TypeId} {d:TypeDesc} (h:W.rangeAt g o cs) (hu:Tryz.prog.underlying t=some d) (hd:d.isRow=true) (hi:(Tryz.prog.info? t).map (·.size)=some cs.length) (hgd:op.guard=none) (x:Operand) (ho:op.op= .load t x) (hx:a.eval x= .pointer (some ⟨g,o,none⟩))
 (k:wpList Tryz.prog ops Q rest (a.put op.dst (.agg cs.toArray)) W):mO Tryz.prog ops Q op rest a W:=
 wpList_load_mid hgd t x ho g o hx cs d h hu hd hi k
theorem Dj {ops:Array Oper} {rest:List Oper} {op:Oper} {a:Act} {W:World} {Q:Exit→Act→World→Prop} {g o:Nat} {vs:List Value} {t:TypeId} (h:W.there g o vs.length) (hi:(Tryz.prog.info? t).map (·.size)=some vs.length) (h1:∀ v∈vs,v.oneCell'=true) (hgd:op.guard=none) (x y:Operand) (ho:op.op= .store t x y)
 (hx:a.eval x= .pointer (some ⟨g,o,none⟩)) (hy:a.eval y= .agg vs.toArray)
 (k:wpList Tryz.prog ops Q rest (a.put op.dst undef) (W.setCells g o vs)):mO Tryz.prog ops Q op rest a W:=
 wpList_store_mid hgd t x y ho g o vs.toArray hx hy (by rw [iJ rfl rfl];exact h) (by rw [iJ rfl rfl];exact hi) (all_oneCell_toArray h1) (by rw [List.toList_toArray];exact k)
theorem Gm {W W':World} {Bx Bf:Nat} {cx cf:List Value} {tx tf:TypeId} (hX:Held W Bx cx tx) (hF:Held W Bf cf tf) (hb:Below W.heap.size W W'):(∀ q,W'.cell? ⟨Bx,q,none⟩=W.cell? ⟨Bx,q,none⟩)∧(∀ q,W'.cell? ⟨Bf,q,none⟩=W.cell? ⟨Bf,q,none⟩):=
 ⟨fun q=>hb.cell (p:=⟨Bx,q,none⟩) hX.lt,fun q=>hb.cell (p:=⟨Bf,q,none⟩) hF.lt⟩
theorem qE {W:World} {Bx Bf:Nat} {cx cf:List Value} {tx tf:TypeId} (hX:Held W Bx cx tx) (hF:Held W Bf cf tf) (o:Obj):(∀ q,(W.alloc o).cell? ⟨Bx,q,none⟩=W.cell? ⟨Bx,q,none⟩)∧(∀ q,(W.alloc o).cell? ⟨Bf,q,none⟩=W.cell? ⟨Bf,q,none⟩):=
 Gm hX hF ((Below.refl _ _).alloc (Nat.le_refl _) o)
theorem oh {W W' W2:World} {Bx Bf:Nat} (h:(∀ q,W'.cell? ⟨Bx,q,none⟩=W.cell? ⟨Bx,q,none⟩)∧(∀ q,W'.cell? ⟨Bf,q,none⟩=W.cell? ⟨Bf,q,none⟩)) (k:(∀ q,W2.cell? ⟨Bx,q,none⟩=W'.cell? ⟨Bx,q,none⟩)∧(∀ q,W2.cell? ⟨Bf,q,none⟩=W'.cell? ⟨Bf,q,none⟩)):
 (∀ q,W2.cell? ⟨Bx,q,none⟩=W.cell? ⟨Bx,q,none⟩)∧(∀ q,W2.cell? ⟨Bf,q,none⟩=W.cell? ⟨Bf,q,none⟩):=⟨fun q=>(k.1 q).trans (h.1 q),fun q=>(k.2 q).trans (h.2 q)⟩
theorem cZ {W W':World} {B:Nat} (h:Below B W.drew W'):Below B W W':=⟨h.os,h.tape,h.output,h.size,h.block⟩
theorem Vj {ops:Array Oper} {rest:List Oper} {op:Oper} {a:Act} {W:World} {Q:Exit→Act→World→Prop} {g n:Nat} {cs:List Value} {t:TypeId} {d:TypeDesc} {ro:Option Nat} (h:Held W g cs t) (hu:Tryz.prog.underlying t=some d) (hd:d.isRow=true) (hi:(Tryz.prog.info? t).map (·.size)=some cs.length) (hgd:op.guard=none) (x:Operand) (ho:op.op= .load t x) (hx:a.eval x= .pointer (some ⟨g,0,none⟩))
 (k:wpListIn (jT ro) n Tryz.prog ops Q rest (a.put op.dst (.agg cs.toArray)) W):wpListIn (jT ro) n Tryz.prog ops Q (op::rest) a W:=
 wpListIn_plain hgd fun _ hK=>EW (fun c e=>by rw [ho] at e;cases e) (wp_load_mid t x ho g 0 hx cs d h.range hu hd hi (hK _ _ k))
theorem Held.lY {g b:Nat} (hne:b≠g):∀ (vs:List Value) (o:Nat) (W:World),(W.setCells g o vs).heap[b]? =W.heap[b]?
 | [],_,_=>rfl
 | v::r,o,W=>(Held.lY hne r (o+1) _).trans (Below.heap_setCell W ⟨g,o,none⟩ v b hne)
theorem kW {X:Nat→Prop} {W:World} {g:Nat} (hX:X g) (vs:List Value) (o:Nat):Turn X W (W.setCells g o vs):=
 ⟨(below_setCells (B:=0) g (Nat.zero_le _) vs o W W (Below.refl _ _)).os,(below_setCells (B:=0) g (Nat.zero_le _) vs o W W (Below.refl _ _)).tape,(below_setCells (B:=0) g (Nat.zero_le _) vs o W W (Below.refl _ _)).output,by rw [setCells_size];exact Nat.le_refl _,fun b _ hn=>Held.lY (fun e=>hn (by rw [e];exact hX)) vs o W⟩
theorem EN {W:World} {Bx Bf Be:Nat} (vs:List Value) (o:Nat) (h1:Bx≠Be) (h2:Bf≠Be):(∀ q,(W.setCells Be o vs).cell? ⟨Bx,q,none⟩=W.cell? ⟨Bx,q,none⟩)∧(∀ q,(W.setCells Be o vs).cell? ⟨Bf,q,none⟩=W.cell? ⟨Bf,q,none⟩):=
 ⟨fun q=>jw vs o Bx q h1,fun q=>jw vs o Bf q h2⟩
theorem wE {F:Fence} {n:Nat} {P:Program} {fn:Func} {R:Ending→World→Prop} {a:Act} {w:World} {v:Value} (hr:(results fn a.tmps).run P w= .ok v w) (hd:a.defers=[]) (hR:R (.returned v) w):bodyPostM F n P fn R .ret a w:=by
 show LeavesInM F n P fn a.tmps R a.defers .returning w
 rw [hd];exact ⟨v,hr,hR⟩
theorem mF {F:Fence} {n:Nat} {P:Program} {fn:Func} {R:Ending→World→Prop} {a:Act} {w:World} {D:Nat} {v:Value} (hd:a.defers=[{target:= .collected D,args:= #[] }]) (hD:w.heap[D]? =some (.deferred (some [])))
 (hr:(results fn a.tmps).run P (w.putObj D (.deferred none))= .ok v (w.putObj D (.deferred none))) (hR:R (.returned v) (w.putObj D (.deferred none))):bodyPostM F n P fn R .ret a w:=by
 show LeavesInM F n P fn a.tmps R a.defers .returning w
 rw [hd];exact ⟨by simp,.inl ⟨D,_,rfl,run_takeDeferred hD,v,hr,hR⟩⟩
theorem DL {W:World} {g:Nat} {cs:List Value} {t:TypeId} {d:TypeDesc} {fn:Func} {p u u2:Tmp} (h:Held W g cs t) (hu:Tryz.prog.underlying t=some d) (hd:d.isRow=true) (hi:(Tryz.prog.info? t).map (·.size)=some cs.length) (hr:fn.results= #[.cell p t,.tmp u,.tmp u2]) (tmps:Array Value) (hp:tmps.getD p undef= .pointer (some ⟨g,0,none⟩)):
 (results fn tmps).run Tryz.prog W= .ok (.tuple #[.agg cs.toArray,tmps.getD u undef,tmps.getD u2 undef]) W:=by
 have h0:=run_loadVar_row W g t t cs.toArray (0,0) d h hu (by cases d <;> first | rfl | cases hd) (by rw [iJ rfl rfl];exact hi)
 have e:(results fn tmps).run Tryz.prog W=((asAddr (tmps.getD p undef)).run Tryz.prog W).andThen fun a w₁=>((loadVar t a).run Tryz.prog w₁).andThen fun v w₂=> .ok (.tuple #[v,tmps.getD u undef,tmps.getD u2 undef]) w₂:=by
  simp only [results,hr]
  simp [Sem.run_bind,Result.andThen]
 rw [e,hp]
 simp only [asAddr,Sem.run_pure,Result.andThen_ok,h0]
theorem Held.putObj {W:World} {g l:Nat} {cs:List Value} {t:TypeId} {o:Obj} (h:Held W g cs t) (hl:W.heap[l]? =some o) (ho:o.isCells=false) (o':Obj):Held (W.putObj l o') g cs t:=by
 have hne:g≠l:=fun e=>by
  subst e;rw [show W.heap[g]? =_ from h] at hl
  cases hl
  cases ho
 exact (World.putObj_heap_other hne).trans h
theorem Held.turn {X:Nat→Prop} {W W':World} {g:Nat} {cs:List Value} {t:TypeId} (h:Held W g cs t) (ht:Turn X W W') (hX:¬ X g):Held W' g cs t:=(ht.block g h.lt hX).trans h
theorem Held.blk {W W':World} {g:Nat} {cs:List Value} {t:TypeId} (h:Held W g cs t) (hb:W'.heap[g]? =W.heap[g]?):Held W' g cs t:=hb.trans h
theorem jQ {B:Nat} {w W:World} (h:Below B w W) {l:Nat} (hl:B≤l) (o:Obj):Below B w (W.putObj l o):=h.trans (EY o hl)
structure nT (W:World) (D:Nat) (X Y:Nat→Prop) (e:TypeId) (size:Nat) (v:Value) (n:Nat) (xs:List Value):Prop where
 own:W.ownsRow D e size v n xs
 far:∀ g,v.ownBlock=some g→¬ X g∧¬ Y g
theorem jo {W W':World} {D:Nat} {e:TypeId} {size:Nat} {v:Value} {n:Nat} {xs:List Value} (h:W.ownsRow D e size v n xs) (hb:∀ g,v.ownBlock=some g→W'.heap[g]? =W.heap[g]?):W'.ownsRow D e size v n xs:=by
 obtain ⟨h1,h2 | ⟨g,cap,cur,rfl,h3,h4,h5⟩⟩:=h
 · exact ⟨h1,.inl h2⟩
 · exact ⟨h1,.inr ⟨g,cap,cur,rfl,h3,(hb g rfl).trans h4,h5⟩⟩
theorem gK {W:World} {D:Nat} {e:TypeId} {size:Nat} {v:Value} {n:Nat} {xs:List Value} (h:W.ownsRow D e size v n xs) {g:Nat} (hg:v.ownBlock=some g):D≤g∧∃ o:Obj,W.heap[g]? =some o∧o.isCells=true:=by
 obtain ⟨h1,⟨rfl,_⟩ | ⟨g',cap,cur,rfl,h3,h4,h5⟩⟩:=h
 · cases hg
 · cases hg;exact ⟨h3,_,h4,rfl⟩
theorem nT.putObj {W:World} {D:Nat} {X Y:Nat→Prop} {e:TypeId} {size:Nat} {v:Value} {n:Nat} {xs:List Value} {l:Nat} {o:Obj} (h:nT W D X Y e size v n xs) (hl:W.heap[l]? =some o) (ho:o.isCells=false) (o':Obj):nT (W.putObj l o') D X Y e size v n xs:=
 ⟨jo h.own (fun g hg=>World.putObj_heap_other (fun e=>by
  obtain ⟨_,o2,h2,h3⟩:=gK h.own hg
  rw [e,hl] at h2;cases h2;rw [ho] at h3;cases h3)),h.far⟩
theorem nT.turn {W W':World} {D:Nat} {X Y X' Y':Nat→Prop} {e:TypeId} {size:Nat} {v:Value} {n:Nat} {xs:List Value} (h:nT W D X Y e size v n xs) (ht:Turn X W W') (hX:vO W X X') (hY:vO W Y Y'):nT W' D X' Y' e size v n xs:=by
 have hlt:∀ g,v.ownBlock=some g→g<W.heap.size:=fun g hg=>by
  obtain ⟨_,o,h2,_⟩:=gK h.own hg;exact (Array.getElem?_eq_some_iff.1 h2).1
 refine ⟨jo h.own fun g hg=>ht.block g (hlt g hg) (h.far g hg).1,fun g hg=>⟨fun h'=>?_,fun h'=>?_⟩⟩
 · rcases hX g h' with h2 | h2
   · exact (h.far g hg).1 h2
   · have:=hlt g hg;omega
 · rcases hY g h' with h2 | h2
   · exact (h.far g hg).2 h2
   · have:=hlt g hg;omega
theorem vT {X:Nat→Prop} {B:Nat} {w W W':World} (h:Below B w W) (ht:Turn X W W') (hX:∀ b,X b→B≤b) (hB:B≤W.heap.size):Below B w W':=
 ⟨ht.os.trans h.os,ht.tape.trans h.tape,ht.output.trans h.output,Nat.le_trans h.size ht.size,fun b hb=>(ht.block b (Nat.lt_of_lt_of_le hb hB) (fun hx=>by have:=hX b hx;omega)).trans (h.block b hb)⟩
def Kv (Q:Exit→Act→World→Prop):Exit→Act→World→Prop
 | .ret,a,w=>Q .ret a w
 | _,_,_=>False
theorem lW {P:Program} {c:Code} {Q:Exit→Act→World→Prop} {a:Act} {w:World} (h:c.wp P (Kv Q) a w):c.wp P Q a w:=wp_mono h (fun e a w h=>by cases e <;> first | exact h | exact h.elim)
theorem aZ {P:Program} {Q:Exit→Act→World→Prop} {n:Nat} {ro:Option Nat} {id:Nat} {l:List Oper} {a:Act} {w:World} (hnd:uV l.toArray=true) (hno:¬ LetsOut Q) (h:wpList P l.toArray Q l a w):(Code.region id l.toArray false).wpIn (jT ro) n P Q a w:=
 x9 hnd hno (by rw [List.toList_toArray];exact h)
structure Bx (w W:World) (L:List (Nat × List Value × TypeId)):Prop where
 bw:Below w.heap.size w W
 bx:∀ p∈L,w.heap.size≤p.1∧Held W p.1 p.2.1 p.2.2
 nd:L.Pairwise (fun a b=>a.1≠b.1)
section
variable {w W W':World} {L:List (Nat × List Value × TypeId)} {g:Nat} {cs:List Value} {t:TypeId}
theorem Bx.nil (w:World):Bx w w []:=⟨Below.refl _ _,fun p h=>(nomatch h),List.Pairwise.nil⟩
theorem Bx.get (h:Bx w W L) (i:Nat) (he:L[i]? =some (g,cs,t)):Held W g cs t:=(h.bx _ (List.mem_of_getElem? he)).2
theorem Bx.head (h:Bx w W ((g,cs,t)::L)):Held W g cs t:=h.get 0 rfl
theorem Bx.tail {p:Nat × List Value × TypeId} (h:Bx w W (p::L)):Bx w W L:=⟨h.bw,fun q hq=>h.bx q (List.mem_cons_of_mem _ hq),(List.pairwise_cons.1 h.nd).2⟩
theorem Bx.rng (h:Bx w W L) (i:Nat) (he:L[i]? =some (g,cs,t)) (o:Nat) (vs:List Value) (hv:(cs.drop o).take vs.length=vs):W.rangeAt g o vs:=fun j v hj=>by
 have hl:j<vs.length:=(List.getElem?_eq_some_iff.1 hj).1;rw [← hv,List.getElem?_take_of_lt hl,List.getElem?_drop] at hj;exact (h.get i he).cell hj
theorem Bx.rn (h:Bx w W L) (i o:Nat) (vs:List Value) (he:L[i]? =some (g,cs,t):=by rfl) (hv:(cs.drop o).take vs.length=vs:=by rfl):W.rangeAt g o vs:=h.rng i he o vs hv
theorem Bx.call (h:Bx w W L) (hb:Below W.heap.size W W'):Bx w W' L:=⟨h.bw.trans (hb.mono h.bw.size),fun p hp=>⟨(h.bx p hp).1,(h.bx p hp).2.below hb⟩,h.nd⟩
theorem Bx.drew (h:Bx w W L):Bx w W.drew L:=⟨h.bw.drew,h.bx,h.nd⟩
theorem Bx.drewN (h:Bx w W L) (n:Nat):Bx w (W.drewN n) L:=⟨below_drewN h.bw n,h.bx,h.nd⟩
theorem Bx.alloc (h:Bx w W L) (o:Obj):Bx w (W.alloc o) L:=h.call ((Below.refl _ _).alloc (Nat.le_refl _) o)
theorem Bx.lt (h:Bx w W L):∀ p∈L,p.1<W.heap.size:=fun p hp=>(h.bx p hp).2.lt
theorem Bx.add (h:Bx w W L) (cs:List Value) (t:TypeId):Bx w (W.alloc (.cells cs.toArray t)) ((W.heap.size,cs,t)::L):=by
 refine ⟨(h.alloc _).bw,?_,List.pairwise_cons.2 ⟨fun p hp=>by have:=h.lt p hp;show W.heap.size≠p.1;omega,h.nd⟩⟩;intro p hp
 rcases List.mem_cons.1 hp with rfl | hp
 · exact ⟨h.bw.size,Held.new W cs t⟩
 · exact (h.alloc _).bx p hp
theorem Bx.ne (h:Bx w W ((g,cs,t)::L)):∀ p∈L,g≠p.1:=(List.pairwise_cons.1 h.nd).1
theorem Bx.put (h:Bx w W ((g,cs,t)::L)) (vs:List Value) (hl:cs.length=vs.length):Bx w (W.setCells g 0 vs) ((g,vs,t)::L):=by
 have hg:=(h.bx (g,cs,t) (List.mem_cons_self ..)).1;refine ⟨below_setCells _ hg vs 0 _ _ h.bw,?_,List.pairwise_cons.2 ⟨h.ne,h.tail.nd⟩⟩;intro p hp
 rcases List.mem_cons.1 hp with rfl | hp
 · exact ⟨hg,h.head.whole vs hl⟩
 · exact ⟨(h.tail.bx p hp).1,(h.tail.bx p hp).2.blk (Held.lY (fun e=>h.ne p hp e.symm) vs 0 W)⟩
theorem Bx.set (h:Bx w W ((g,cs,t)::L)) (o:Nat) (v:Value):Bx w (W.setCell ⟨g,o,none⟩ v) ((g,cs.set o v,t)::L):=by
 have hg:=(h.bx (g,cs,t) (List.mem_cons_self ..)).1;refine ⟨h.bw.setCell (p:=⟨g,o,none⟩) hg v,?_,List.pairwise_cons.2 ⟨h.ne,h.tail.nd⟩⟩;intro p hp
 rcases List.mem_cons.1 hp with rfl | hp
 · exact ⟨hg,h.head.set o v⟩
 · exact ⟨(h.tail.bx p hp).1,(h.tail.bx p hp).2.blk (Below.heap_setCell W ⟨g,o,none⟩ v p.1 (fun e=>h.ne p hp e.symm))⟩
theorem Bx.swap {p q:Nat × List Value × TypeId} (h:Bx w W (p::q::L)):Bx w W (q::p::L):=by
 have h1:=List.pairwise_cons.1 h.nd;have h2:=List.pairwise_cons.1 h1.2;refine ⟨h.bw,fun r hr=>h.bx r ?_,List.pairwise_cons.2 ⟨?_,List.pairwise_cons.2 ⟨fun r hr=>h1.1 r (List.mem_cons_of_mem _ hr),h2.2⟩⟩⟩
 · simp only [List.mem_cons] at hr ⊢
   rcases hr with h | h | h
   · exact .inr (.inl h)
   · exact .inl h
   · exact .inr (.inr h)
 · intro r hr
   rcases List.mem_cons.1 hr with rfl | hr
   · exact fun e=>h1.1 q (List.mem_cons_self ..) e.symm
   · exact h2.1 r hr
theorem Bx.of {L2:List (List Value × TypeId)} (h:aG w W L2) (M:List (Nat × List Value × TypeId)) (hM:M=(L2.zipIdx.map fun p=>(w.heap.size+p.2,p.1.1,p.1.2))):Bx w W M:=by
 subst hM;refine ⟨h.bw,?_,?_⟩
 · intro p hp
   obtain ⟨q,hq,rfl⟩:=List.mem_map.1 hp;obtain ⟨⟨cs,t⟩,i⟩:=q;have hq2:=List.mem_zipIdx_iff_getElem?.1 hq;exact ⟨by show w.heap.size≤w.heap.size+i;omega,h.get i hq2⟩
 · rw [List.pairwise_map]
   refine List.pairwise_iff_getElem.2 fun i j hi hj hij=>?_
   simp only [List.getElem_zipIdx]
   omega
end
def Hs (W:World) (L:List (Nat × List Value × TypeId)):Prop:=∀ p∈L,Held W p.1 p.2.1 p.2.2
section
variable {w W W':World} {L:List (Nat × List Value × TypeId)} {g D:Nat} {cs:List Value} {t:TypeId}
theorem Bx.hs (h:Bx w W L):Hs W L:=fun p hp=>(h.bx p hp).2
theorem Hs.get (h:Hs W L) (i:Nat) (he:L[i]? =some (g,cs,t)):Held W g cs t:=h _ (List.mem_of_getElem? he)
theorem Hs.rng (h:Hs W L) (i:Nat) (he:L[i]? =some (g,cs,t)) (o:Nat) (vs:List Value) (hv:(cs.drop o).take vs.length=vs):W.rangeAt g o vs:=fun j v hj=>by
 have hl:j<vs.length:=(List.getElem?_eq_some_iff.1 hj).1;rw [← hv,List.getElem?_take_of_lt hl,List.getElem?_drop] at hj;exact (h.get i he).cell hj
theorem Hs.grown {row:Option Nat} (h:Hs W L) (hg:W.grownBy W' row) (hr:∀ p∈L,row≠some p.1):Hs W' L:=fun p hp=>(h p hp).blk (hg.block p.1 (h p hp).lt (fun e=>hr p hp e.symm))
theorem Bx.grown {row:Option Nat} (h:Bx w W L) (hD:w.heap.size≤D) (hL:∀ p∈L,p.1<D) (hg:W.grownBy W' row) (hr:∀ b,row=some b→D≤b):Bx w W' L:=by
 refine ⟨⟨hg.os.trans h.bw.os,hg.tape.trans h.bw.tape,hg.output.trans h.bw.output,Nat.le_trans h.bw.size hg.size,fun b hb=>?_⟩,fun p hp=>⟨(h.bx p hp).1,?_⟩,h.nd⟩
 · exact (hg.block b (Nat.lt_of_lt_of_le hb h.bw.size) (fun e=>by have:=hr b e.symm;omega)).trans (h.bw.block b hb)
 · exact (h.bx p hp).2.blk (hg.block p.1 (h.bx p hp).2.lt (fun e=>by have:=hr _ e.symm;have:=hL p hp;omega))
end
theorem uJ {α:Type} {f:α→List Value} {n:Nat} (hf:∀ a,(f a).length=n):∀ {l:List α} (k:Nat) (hk:k<l.length) {j:Nat} {v:Value},(f l[k])[j]? =some v→(l.flatMap f)[k*n+j]? =some v
 | x::l,0,_,j,v,h=>by
   have h':(f x)[j]? =some v:=h;have hj:j<(f x).length:=(List.getElem?_eq_some_iff.1 h').1;rw [List.flatMap_cons,Nat.zero_mul,Nat.zero_add,List.getElem?_append_left hj];exact h'
 | x::l,k+1,hk,j,v,h=>by
   have h':(f (l[k]'(by simpa using hk)))[j]? =some v:=h;have ih:=uJ hf (l:=l) k (by simpa using hk) h';rw [List.flatMap_cons,List.getElem?_append_right (by rw [hf,Nat.succ_mul];omega),hf,show (k+1)*n+j - n=k*n+j by rw [Nat.succ_mul];omega];exact ih
theorem Lh {op:Oper} {a:Act} {W:World} {Q:Exit→Act→World→Prop} {g o:Nat} {cs:List Value} {t:TypeId} {d:TypeDesc} {K:Act→World→Prop} (h:W.rangeAt g o cs) (hu:Tryz.prog.underlying t=some d) (hd:d.isRow=true) (hi:(Tryz.prog.info? t).map (·.size)=some cs.length) (x:Operand) (ho:op.op= .load t x) (hx:a.eval x= .pointer (some ⟨g,o,none⟩))
 (k:K (a.put op.dst (.agg cs.toArray)) W):Ad Tryz.prog Q op K a W:=wp_load_mid t x ho g o hx cs d h hu hd hi k
theorem pR {P:Program} {w:World} {g:Nat} {u:Value} {t ty:TypeId} {d:TypeDesc} (h:Held w g [u] t) (hu:P.underlying ty=some d) (hd:d.isRow=false):(loadVar ty ⟨g,0,none⟩).run P w= .ok u w:=by
 have hc:=h.cell (j:=0) rfl
 have hagg:(isAgg ty).run P w= .ok false w:=by
  unfold isAgg
  rw [Sem.run_bind,run_underlying hu w]
  cases d <;> simp_all [TypeDesc.isRow]
 simp [loadVar,Sem.run_bind,hagg,hc]
theorem dP:(Tryz.prog.info? 28).map (·.size)=some 4:=by kernel_rfl
theorem aJ:(Tryz.prog.info? 39).map (·.size)=some 13:=by kernel_rfl
theorem wH (w:World):Calls Tryz.prog 52 #[] w fun e w'=>e= .returned (.slice (some ⟨w.heap.size,0,none⟩) 8 8)∧w'=w.alloc (.cells (Sk.dX.map Value.string).toArray 9):=by
 go_enter Tryz.func52,Tryz.ntmps52
 go_wp2;go_ret;exact ⟨rfl,rfl⟩
theorem at_eq {b:ByteArray} {l:List ByteArray} {n:Int} {x:ByteArray}:Sk.at_ b (x::l) n=if x=b then n else Sk.at_ b l (n+1):=rfl
theorem Iy {k:Nat} (hk:k<8):Sk.dX.drop k=(Sk.dX[k]'hk)::Sk.dX.drop (k+1):=List.drop_eq_getElem_cons _
theorem fV (x:ByteArray) (w:World):Calls Tryz.prog 55 #[.string x] w fun e w'=>e= .returned (.int .i64 (Sk.value x))∧Below w.heap.size w w':=by
 have hcell:∀ k (hk:k<8),(w.alloc (.cells (Sk.dX.map Value.string).toArray 9)).cell? ⟨w.heap.size,k,none⟩=some (.string (Sk.dX[k]'hk)):=fun k hk=>by
  have h:=jK w 9 (Sk.dX.map Value.string) w.heap.size rfl k (.string (Sk.dX[k]'hk)) (by rw [List.getElem?_map,List.getElem?_eq_getElem hk];rfl)
  rwa [nV,Nat.zero_add] at h
 have hbw:Below w.heap.size w (w.alloc (.cells (Sk.dX.map Value.string).toArray 9)):=(Below.refl _ _).alloc (Nat.le_refl _) _;have HB:Hid (∃ G,Calls Tryz.prog 52 #[] w fun e w'=>e= .returned (.slice (some ⟨G,0,none⟩) 8 8)∧(∀ k (hk:k<8),w'.cell? ⟨G,k,none⟩=some (.string (Sk.dX[k]'hk)))∧Below w.heap.size w w'):=hide ⟨w.heap.size,(wH w).mono (fun e w' ⟨h1,h2⟩=>⟨h1,by subst h2;exact hcell,by subst h2;exact hbw⟩)⟩;obtain ⟨G,hB⟩:=HB.out;have HB:=hide hB;clear hcell hbw hB
 go_enter Tryz.func55,Tryz.ntmps55
 go_wp2_with (go_at_call 52;refine HB.out.mono ?_;rintro e w1 ⟨rfl,hcell,hbw⟩)
 have HC:=hide hcell;clear hcell
 go_loopw [4] (fun i wr=>∃ k:Nat,k≤8∧i= .int .i64 k∧Aside (Sk.at_ x (Sk.dX.drop k) k=Sk.value x)∧Aside (∀ k (hk:k<8),wr.cell? ⟨G,k,none⟩=some (.string (Sk.dX[k]'hk)))∧Aside (Below w.heap.size w wr)) (fun i _=>8 - (intOf i).toNat)
 case atStart=>exact ⟨0,by omega,rfl,rfl,HC.out,hbw⟩
 case round=>
  obtain ⟨k,hk,rfl,hat,hcA,hbA⟩:=hrel;have hcell:=hcA.out;have hbw:=hbA.out
  by_cases hlt:k<8
  · have hc:=hcell k hlt
    have hd:=Iy hlt;obtain ⟨y,hy⟩:∃ q,Sk.dX[k]'hlt=q:=⟨_,rfl⟩;rw [hy] at hc hd;have hlt1:decide ((k:Int)<8)=true:=decide_eq_true (by omega)
    have i1:(0:Int)≤(k:Int):=by omega
    have i2:(k:Int)<8:=by omega
    have hA:=hat.out;rw [hd,at_eq] at hA;have HA:=hide hA;clear hA hd hy hcell
    by_cases he:y=x
    · have he1:=ku he
      have HR:=hide (show (k:Int)=Sk.value x by rw [← HA.out,if_pos he]);clear he;go_wp2;go_ret;exact ⟨aV HR.out,hbw⟩
    · have he1:=jM he
      have HR:=hide (show Sk.at_ x (Sk.dX.drop (k+1)) ((k:Int)+1)=Sk.value x by rw [← HA.out,if_neg he]);clear he;go_wp2
      go_roundw
      case rel=>exact ⟨k+1,by omega,by go_num,by have:=HR.out;exact (by push_cast;exact this),hcA.out,hbA.out⟩
      case measure=>simp [intOf];omega
  · obtain rfl:k=8:=by omega
    have HR:=hide (show (-1:Int)=Sk.value x from hat.out);clear hcell;go_wp2;go_ret;exact ⟨aV HR.out,hbw⟩
theorem BH (n a b:Int) (w:World):Calls Tryz.prog 69 #[.int .i64 n,.int .i64 a,.int .i64 b] w fun e w'=>e= .returned (.bool (Sk.out n a b))∧w'=w:=by
 rcases h1:decide (n<a) with _ | _
 · go_enter Tryz.func69,Tryz.ntmps69
   go_wp2;go_ret;exact ⟨aH (by unfold Sk.out;simp at h1;simp;omega),rfl⟩
 · go_enter Tryz.func69,Tryz.ntmps69
   go_wp2;go_ret;exact ⟨aH (by unfold Sk.out;simp at h1;simp;omega),rfl⟩
theorem yP (h:Bool) (n m:Int) (w:World):Calls Tryz.prog 65 #[.bool h,.int .i64 n,.int .i64 m] w fun e w'=>e= .returned (.bool (Sk.rG h n m))∧w'=w:=by
 cases h
 · go_enter Tryz.func65,Tryz.ntmps65
   go_wp2;go_ret;exact ⟨aH (by unfold Sk.rG;simp;rfl),rfl⟩
 · go_enter Tryz.func65,Tryz.ntmps65
   go_wp2_with (go_at_call 69;refine (BH n 1 m _).mono ?_;rintro e w2 ⟨rfl,rfl⟩)
   go_ret;exact ⟨aH (by unfold Sk.rG;simp),rfl⟩
theorem VB (g:Sk.Game) (s b c:Bool) (hs:(g.kind.toList == [115,110,111,111,107,101,114])=s) (hb:(g.kind.toList == [98,105,108,108,105,97,114,100,115])=b) (hc:(g.kind.toList == [99,97,114,111,109])=c):
 Sk.dM g=if (!s && !b && !c) then 13 else if (!Sk.rG s g.aY 15 || !Sk.rG (b || c) g.target 1000 || !Sk.rG c g.turns 100) then 3 else 0:=by
 rw [fB] at hs hb hc;rw [← Sk.SG]
 unfold Sk.E5
 subst hs hb hc
 by_cases h1:g.kind=Sk.aK <;> by_cases h2:g.kind=Sk.bT <;> by_cases h3:g.kind=Sk.fC <;> simp [h1,h2,h3,or_assoc]
theorem zB (g:Sk.Game) (w:World):Calls Tryz.prog 17 #[lX g] w fun e w'=>e= .returned (.int .i64 (Sk.dM g))∧Below w.heap.size w w':=by
 obtain ⟨s,hs⟩:∃ q,(g.kind.toList == [115,110,111,111,107,101,114])=q:=⟨_,rfl⟩;obtain ⟨b,hb⟩:∃ q,(g.kind.toList == [98,105,108,108,105,97,114,100,115])=q:=⟨_,rfl⟩;obtain ⟨c,hc⟩:∃ q,(g.kind.toList == [99,97,114,111,109])=q:=⟨_,rfl⟩;rw [VB g s b c hs hb hc];have M1:=fun W=>yP s g.aY 15 W;have M2:=fun W=>yP (b || c) g.target 1000 W;have M3:=fun W=>yP c g.turns 100 W;obtain ⟨m1,h1⟩:∃ q,Sk.rG s g.aY 15=q:=⟨_,rfl⟩;obtain ⟨m2,h2⟩:∃ q,Sk.rG (b || c) g.target 1000=q:=⟨_,rfl⟩;obtain ⟨m3,h3⟩:∃ q,Sk.rG c g.turns 100=q:=⟨_,rfl⟩
 simp only [h1,h2,h3] at M1 M2 M3 ⊢
 clear h1 h2 h3;have M1:=hide M1;have M2:=hide M2;have M3:=hide M3;have tk1:=hide True.intro;have tk2:=hide True.intro
 go_enter Tryz.func17,Tryz.ntmps17
 go_upto_region 0 with (fail)
 go_cut [1,2] (fun v1 v2 wx=>v1=ptr (w.heap.size)∧v2= .int .i64 0∧Bx w wx [(w.heap.size,bK g,28)])
 case first=>
  go_wp2;go_meet;exact ⟨rfl,rfl,Bx.of ((aG.nil w).new (by simp) (bK g) 28) _ rfl⟩
 case rest=>
  obtain ⟨rfl,rfl,hL⟩:=hcut;have k0:=(hL.get 0 rfl).cell (j:=0) rfl
  go_upto_region 1 with (fail)
  go_cut [3,4,5] from 6 to 15 (fun v3 v4 v5 wx=>v3= .bool s∧v4= .bool b∧v5= .bool c∧Bx w wx [(w.heap.size,bK g,28)])
  case first=>
   go_wp2
   go_quiet (fail)
   go_wp2;go_meet;exact ⟨rfl,rfl,rfl,hL.drewN nq⟩
  case rest=>
   obtain ⟨rfl,rfl,rfl,hL⟩:=hcut;clear k0 hs hb hc;have k1:=(hL.get 0 rfl).cell (j:=1) rfl;have k2:=(hL.get 0 rfl).cell (j:=2) rfl;have k3:=(hL.get 0 rfl).cell (j:=3) rfl
   cases s <;> cases b <;> cases c <;> cases m1 <;> cases m2 <;> cases m3 <;>
    (go_wp2_with (first | (clear tk1;go_at_call 65;refine (M1.out _).mono ?_;rintro e w2 ⟨rfl,rfl⟩) | (clear tk2;go_at_call 65;refine (M2.out _).mono ?_;rintro e w2 ⟨rfl,rfl⟩) | (go_at_call 65;refine (M3.out _).mono ?_;rintro e w2 ⟨rfl,rfl⟩))
     go_ret
     exact ⟨aV rfl,hL.bw⟩)
theorem Turn.mono {X X':Nat→Prop} {W W':World} (h:Turn X W W') (hX:∀ b,X b→X' b):Turn X' W W':=⟨h.os,h.tape,h.output,h.size,fun b hb hn=>h.block b hb (fun hx=>hn (hX b hx))⟩
theorem yN {W:World} {D:Nat} {e:TypeId} {size:Nat} {v:Value} {n:Nat} {xs:List Value} (h:W.ownsRow D e size v n xs):∃ A c,v= .slice A n c:=by
 obtain ⟨h1,⟨rfl,rfl⟩ | ⟨g',cap,cur,rfl,h3⟩⟩:=h
 · exact ⟨none,0,rfl⟩
 · exact ⟨_,cap,rfl⟩
theorem Af {W w4:World} {D B g1 k cap k' H:Nat} {X Y:Nat→Prop} {e ty:TypeId} {size n:Nat} {v:Value} {xs ys:List Value} {o:Obj} (hV:Held W B [v] ty) (hB:B<D) (lu:nT W D X Y e size v n xs) (hXW:∀ b,X b∨Y b→b<W.heap.size) (hDW:D≤W.heap.size)
 (hgrow:(W.alloc o).grownBy w4 v.ownBlock) (hown4:w4.ownsRow D e size (.slice (some ⟨g1,0,none⟩) k cap) k' ys) (hat:v.ownBlock=some g1∨g1=H) (hH:W.heap.size+1=H):
 Held w4 B [v] ty∧Turn (fun b=>b=B∨v.ownBlock=some b) W (w4.setCell ⟨B,0,none⟩ (.slice (some ⟨g1,0,none⟩) k cap))∧Held (w4.setCell ⟨B,0,none⟩ (.slice (some ⟨g1,0,none⟩) k cap)) B [.slice (some ⟨g1,0,none⟩) k cap] ty∧nT (w4.setCell ⟨B,0,none⟩ (.slice (some ⟨g1,0,none⟩) k cap)) D X Y e size (.slice (some ⟨g1,0,none⟩) k cap) k' ys:=by
 have hne:B≠g1:=by
  rcases hat with h | h
  · have:=(gK lu.own h).1;omega
  · omega
 have WB:Held w4 B [v] ty:=(hV.alloc o).blk (hgrow.block _ (by simp;omega) (fun e=>by have:=(gK lu.own e.symm).1;omega));refine ⟨WB,?_,WB.set 0 _,jo (W:=w4) hown4 (fun g hg=>?_),fun g hg=>?_⟩
 · exact ((Turn.of_below ((Below.refl W.heap.size W).alloc (Nat.le_refl _) o)).mono (X:=fun _=>False) (fun b h=>h.elim)).trans ((show Turn (fun b=>b=B∨v.ownBlock=some b) _ w4 from ⟨hgrow.os,hgrow.tape,hgrow.output,hgrow.size,fun b hb hn=>hgrow.block b hb (fun e=>hn (.inr e.symm))⟩).trans (kW (X:=fun b=>b=B∨v.ownBlock=some b) (W:=w4) (g:=B) (.inl rfl) [.slice (some ⟨g1,0,none⟩) k cap] 0) (fun b h=> .inl h)) (fun b h=> .inl h)
 · cases hg
   exact Below.heap_setCell w4 ⟨B,0,none⟩ _ g1 (fun e=>hne e.symm)
 · cases hg
   rcases hat with h | h
   · exact lu.far _ h
   · exact ⟨fun hx=>by have:g1<W.heap.size:=hXW _ (.inl hx);omega,fun hx=>by have:g1<W.heap.size:=hXW _ (.inr hx);omega⟩
def jr (g:Sk.Game) (l:List En) (k:Nat):Sk.State:=Sk.final g (Sk.start g) (bare (l.take k))
theorem rM (g:Sk.Game) (l:List En):jr g l 0=Sk.start g:=by unfold jr;simp [bare,Sk.final]
theorem rJ (g:Sk.Game) (l:List En) (k:Nat) (hk:k<l.length):jr g l (k+1)=Sk.step g (jr g l k) l[k].x:=by
 unfold jr Sk.final bare
 rw [List.take_succ_eq_append_getElem hk,List.map_append,List.foldl_append]
 rfl
theorem zY {g:Sk.Game} {l:List En} (hg:Sk.dM g=0) (hl:∀ e∈l,Sk.dH g e.x=0):∀ k,k≤l.length→Sk.Ok g (jr g l k)
 | 0,_=>by rw [rM];exact Sk.Tt hg
 | k+1,hk=>by
   rw [rJ g l k (by omega)];exact Sk.step_ok (zY hg hl k (by omega)) (hl _ (List.getElem_mem _))
structure Stp where
 i:Nat
 e:En
 s:Sk.State
 t:Sk.State
 rule:Int
def qI (x:Stp):List Value:=dn x.e++aC x.s++aC x.t++[.int .i64 x.rule]
def Aq (x:Stp):Array Value:= #[.int .i64 ((x.i:Int)+1),.agg (qI x).toArray]
def TJ:List Value:=[.string ⟨#[]⟩,.string ⟨#[]⟩,.slice none 0 0,.slice none 0 0,.int .i64 0]
def jD:List Value:=TJ++aC Sk.zero++aC Sk.zero++[.int .i64 0]
theorem qo:(Tryz.prog.info? 138).map (·.size)=some 32:=by kernel_rfl
theorem wO (x:Stp):∀ v∈qI x,v.oneCell'=true:=by
 intro v hv
 unfold qI at hv
 rw [List.mem_append,List.mem_append,List.mem_append] at hv
 rcases hv with ((h | h) | h) | h
 · revert v;simp [dn,Value.oneCell']
 · exact aT _ v h
 · exact aT _ v h
 · rw [List.mem_singleton] at h;subst h;rfl
theorem zT (e:En):∀ v∈dn e,v.oneCell'=true:=by simp [dn,Value.oneCell']
structure rV (g:Sk.Game) (l:List En) (X Y:Nat→Prop) (pre:List Stp) (x:Stp) (W:World):Prop where
 i:x.i=pre.length
 lt:pre.length<l.length
 e:l[pre.length]? =some x.e
 s:x.s=jr g l pre.length
 t:x.t=Sk.step g x.s x.e.x
 rule:x.rule=Sk.legal g x.s x.e.x
structure V5 (g:Sk.Game) (l:List En) (K:Nat→Prop) (J:(Nat→Prop)→(Nat→Prop)→List Stp→World→Prop) (W:World) (Bf k:Nat) (X Y:Nat→Prop) (pre:List Stp) (wr:World):Prop where
 len:pre.length=k
 j:J X Y pre wr
 f:Held wr Bf (aC (jr g l k)) 26
 xf:X Bf
 xs:∀ b,X b∨Y b→W.heap.size≤b∧b<wr.heap.size
 k:∀ b,K b→wr.heap[b]? =W.heap[b]?
 sz:W.heap.size≤wr.heap.size
theorem Tq {x:Stp} {W:World} {g:Nat} {t:TypeId} (h:Held W g (qI x) t):W.there g 18 13:=fun j hj=>by
 have h1:(qI x).length=32:=rfl;rw [h.cell (List.getElem?_eq_getElem (show 18+j<(qI x).length by omega))];exact ⟨rfl,h.frozen _⟩
theorem Y4 {k:Nat} {e:En} {s t:Sk.State} {ru:Int} {W:World} {g:Nat} {ty:TypeId} (h:Held W g (qI ⟨k,e,s,t,ru⟩) ty) (t2:Sk.State):Held (W.setCells g 18 (aC t2)) g (qI ⟨k,e,s,t2,ru⟩) ty:=
 Held.Lc (aC t2) (dn e++aC s) (aC t) [.int .i64 ru] W h rfl
theorem J8 (k:Nat) (e:En) (s t:Sk.State) (ru:Int):∀ j v,(aC t)[j]? =some v→(qI ⟨k,e,s,t,ru⟩)[18+j]? =some v:=by
 intro j v hj;have hl:j<13:=(List.getElem?_eq_some_iff.1 hj).1
 unfold qI
 rw [List.getElem?_append_left (by simp [dn,aC];omega),List.getElem?_append_right (by simp [dn,aC])];rw [show 18+j - (dn e++aC s).length=j by simp [dn,aC]];exact hj
theorem qH (g:Sk.Game) (n c:Nat) (A:Option Addr) (w:World):Calls Tryz.prog 75 #[lX g,.slice A n c] w fun e w'=>e= .returned (.func (.func 130) #[] #[ptr w.heap.size,ptr (w.heap.size+1)])∧aG w w' [(bK g,23),([.slice A n c],27)]:=by
 go_enter Tryz.func75,Tryz.ntmps75
 go_wp2;go_ret;exact ⟨rfl,(((aG.nil w).new (by simp) (bK g) _).new (by simp) ([.slice A n c]) _)⟩
theorem Gl {W W':World} {Bg:Nat} {cg:List Value} {tg:TypeId} (hG:Held W Bg cg tg) (hb:Below W.heap.size W W'):∀ q,W'.cell? ⟨Bg,q,none⟩=W.cell? ⟨Bg,q,none⟩:=fun q=>hb.cell (p:=⟨Bg,q,none⟩) hG.lt
theorem qC {W:World} {Bg:Nat} {cg:List Value} {tg:TypeId} (hG:Held W Bg cg tg) (o:Obj):∀ q,(W.alloc o).cell? ⟨Bg,q,none⟩=W.cell? ⟨Bg,q,none⟩:=Gl hG ((Below.refl _ _).alloc (Nat.le_refl _) o)
theorem EM {W:World} {Bg Be:Nat} (vs:List Value) (o:Nat) (h1:Bg≠Be):∀ q,(W.setCells Be o vs).cell? ⟨Bg,q,none⟩=W.cell? ⟨Bg,q,none⟩:=fun q=>jw vs o Bg q h1
theorem og {W W' W2:World} {Bg:Nat} (h:∀ q,W'.cell? ⟨Bg,q,none⟩=W.cell? ⟨Bg,q,none⟩) (k:∀ q,W2.cell? ⟨Bg,q,none⟩=W'.cell? ⟨Bg,q,none⟩):∀ q,W2.cell? ⟨Bg,q,none⟩=W.cell? ⟨Bg,q,none⟩:=fun q=>(k q).trans (h q)
theorem iL.KC {w:World} {S:Nat→Prop} {e:En} (h:iL w S e):iL w.drew S e:=⟨h.hits,h.aF⟩
theorem pU (g:Sk.Game) (l:List En) (Al:Option Addr) (cl:Nat) (K:Nat→Prop) (Bg Bl n:Nat) (w:World) (hn:1≤n) (hck0:Sk.dM g=0) (hck:∀ e∈l,Sk.dH g e.x=0) (hlen:l.length≤1000)
 (hKw:∀ b,K b→b<w.heap.size) (hBg:Held w Bg (bK g) 23) (hKg:K Bg) (hBl:Held w Bl [.slice Al l.length cl] 27) (hKl:K Bl) (hL:ni w K Al cl l):
 Ee (jT none) n Tryz.prog 130 #[ptr Bg,ptr Bl] Aq K (rV g l) (fun xs=>xs.length=l.length) (fun _=>True) l.length w:=by
 intro l0 J Jx W hW hJ hJx hY h0;refine lZ ?_;have aax:=hBg.below hW;have amm:=hBl.below hW;have hLW:=hL.below hW;have hkn:=Sk.nM hck0;have hKW:∀ b,K b→b<W.heap.size:=fun b hb=>Nat.lt_of_lt_of_le (hKw b hb) hW.size;have HY:=hide hY;clear hY hBg hBl hL
 go_enter Tryz.func130,Tryz.ntmps130
 go_upto_region 0 with (fail)
 go_cut [4] (fun v4 wx=>∃ Bf X Y,v4=ptr Bf∧V5 g l K J W Bf 0 X Y [] wx)
 case first=>
  go_wp2_with (first | ((with_reducible refine bJ 23 1 ?_);refine dW (aax) Tryz.underlying23 dQ ?_) | (go_at_call 74;refine (sQ g hkn _).mono ?_;rintro e w1 ⟨rfl,hb1⟩;have hG1:=Held.new w1 (aC Sk.zero) 26) | ((with_reducible refine isS 26 4 9 ?_);refine fU (hG1) (aC (Sk.start g)) aj (aT _) ?_))
  go_meet;have hbT:Below W.heap.size W ((w1.alloc (.cells (aC Sk.zero).toArray 26)).setCells w1.heap.size 0 (aC (Sk.start g))):=below_setCells _ hb1.size _ _ _ _ (hb1.alloc hb1.size _);refine ⟨w1.heap.size,(fun b=>b=w1.heap.size),(fun _=>False),rfl,⟨rfl,hJ _ _ _ _ _ _ _ h0 (Turn.of_below hbT) (fun b h=>by subst h;exact .inr hb1.size) (fun b h=>h.elim),by rw [rM];exact hG1.whole _ rfl,rfl,?_,fun b hb=>hbT.block b (hKW b hb),hbT.size⟩⟩
  rintro b (h | h)
  · subst h;exact ⟨hb1.size,by rw [setCells_size];simp⟩
  · exact h.elim
 case rest=>
  obtain ⟨Bf,X0,Y0,rfl,hI⟩:=hcut;have aaE:Held wc Bl [.slice Al l.length cl] 27:=(hI.k Bl hKl).trans amm;have s0:=aaE.cell (j:=0) rfl;go_wp2
  go_loopw [12] (fun i wr=>∃ (k:Nat) (X Y:Nat→Prop) (pre:List Stp),k≤l.length∧i= .int .i64 k∧V5 g l K J W Bf k X Y pre wr) (fun i _=>l.length - (intOf i).toNat)
  case atStart=>exact ⟨0,X0,Y0,[],Nat.zero_le _,rfl,hI⟩
  case round=>
   clear hI s0 aaE;obtain ⟨k,X,Y,pre,hk,rfl,hI⟩:=hrel
   by_cases hlt:k<l.length
   · have hLr:ni wr K Al cl l:=hLW.keep hI.sz (fun b o hb _=>World.cell?_of_block (hI.k b hb))
     have hGr:Held wr Bg (bK g) 23:=(hI.k Bg hKg).trans aax;have az7:=hLr.bd;obtain ⟨b,o,rfl,_,hbl,hc⟩:=hLr.at_ k hlt;have hrg:=tV hLr hlt (Below.refl _ _) rfl;have hent:=hLr.ent k hlt;have hce:=hck _ (List.getElem_mem hlt);have hOk:=zY hck0 hck k (by omega);have hsc:=rJ g l k hlt;have hle:l[k]? =some l[k]:=List.getElem?_eq_getElem hlt;obtain ⟨e,he⟩:∃ e,l[k]=e:=⟨_,rfl⟩;rw [he] at hrg hent hce hsc hle;have hF:=hI.f;obtain ⟨s,hs⟩:∃ s,jr g l k=s:=⟨_,rfl⟩;rw [hs] at hF hOk hsc;have HI:=hide hI;have HSC:=hide hsc;have HS:=hide hs;have HLE:=hide hle;clear hI hc hsc hs hle he hLr
     go_upto_region 3 with (fail)
     go_cut [5,6] from 14 to 16 (fun v5 v6 wx=>∃ Bx,v5= .int .i64 k∧v6=ptr Bx∧wr.heap.size≤Bx∧Held wx Bx (dn e) 83∧Below wr.heap.size wr wx)
     case first=>
      have hX0:=Held.new wr TJ 83
      go_wp2_with (first | (refine dw 83 (.tmp 15) rfl ?_;refine fH hrg Tryz.underlying83 rfl bI rfl (.tmp 15) rfl rfl ?_) | (refine fF 83 (.tmp 6) (.tmp 16) rfl ?_;refine dU hX0 (dn e) rfl bI (zT e) rfl (.tmp 6) (.tmp 16) rfl rfl rfl ?_))
      go_meet;exact ⟨wr.heap.size,rfl,rfl,Nat.le_refl _,hX0.whole _ rfl,below_setCells _ (Nat.le_refl _) _ _ _ _ ((Below.refl _ _).alloc (Nat.le_refl _) _)⟩
     case rest=>
      rename World=>W1
      obtain ⟨Bx,rfl,rfl,hBx,hX,hb1⟩:=hcut;have hFx:=hF.below hb1;have DK:=hGr.below hb1;have hex:=hent.below hb1;have hL4:=fun W h=>sO K g s e W hOk hce h;obtain ⟨ru,Yb⟩:∃ q,Sk.legal g s e.x=q:=⟨_,rfl⟩;rw [Yb] at hL4;have HL4:=hide hL4;have Zh:=hide Yb;clear hL4 Yb
      go_upto_region 4 with (fail)
      go_cut [7] from 17 to 24 (fun v7 wy=>∃ Be,v7=ptr Be∧W1.heap.size≤Be∧Held wy Be (qI ⟨k,e,s,s,ru⟩) 138∧Below W1.heap.size W1 wy)
      case first=>
       have hrX:∀ W:World,(fun w':World=>((∀ q,w'.cell? ⟨Bx,q,none⟩=W1.cell? ⟨Bx,q,none⟩)∧(∀ q,w'.cell? ⟨Bf,q,none⟩=W1.cell? ⟨Bf,q,none⟩))∧(∀ q,w'.cell? ⟨Bg,q,none⟩=W1.cell? ⟨Bg,q,none⟩)) W→W.rangeAt Bx 0 [.string e.x.kind,.string e.x.called,.slice e.A e.x.hits.length e.a,.slice e.B e.x.aF.length e.b,.int .i64 e.x.aX]:=fun W h j v hj=>by rw [Nat.zero_add,h.1.1 j];exact hX.cell hj
       have hrF:∀ W:World,(fun w':World=>((∀ q,w'.cell? ⟨Bx,q,none⟩=W1.cell? ⟨Bx,q,none⟩)∧(∀ q,w'.cell? ⟨Bf,q,none⟩=W1.cell? ⟨Bf,q,none⟩))∧(∀ q,w'.cell? ⟨Bg,q,none⟩=W1.cell? ⟨Bg,q,none⟩)) W→W.rangeAt Bf 0 [.int .i64 s.turn,.int .i64 s.s0,.int .i64 s.s1,.int .i64 s.brk,.string s.phase,.int .i64 s.aY,.int .i64 s.colour,.bool s.free,.bool s.aN,.int .i64 s.aO,.int .i64 s.t0,.int .i64 s.t1,.int .i64 s.ay]:=fun W h j v hj=>by rw [Nat.zero_add,h.1.2 j];exact hFx.cell hj
       have hrG:∀ W:World,(fun w':World=>((∀ q,w'.cell? ⟨Bx,q,none⟩=W1.cell? ⟨Bx,q,none⟩)∧(∀ q,w'.cell? ⟨Bf,q,none⟩=W1.cell? ⟨Bf,q,none⟩))∧(∀ q,w'.cell? ⟨Bg,q,none⟩=W1.cell? ⟨Bg,q,none⟩)) W→W.rangeAt Bg 0 [.string g.kind,.int .i64 g.aY,.int .i64 g.target,.int .i64 g.turns]:=fun W h j v hj=>by rw [Nat.zero_add,h.2 j];exact DK.cell hj
       refine wp_region_held_drew (S:=(fun w':World=>((∀ q,w'.cell? ⟨Bx,q,none⟩=W1.cell? ⟨Bx,q,none⟩)∧(∀ q,w'.cell? ⟨Bf,q,none⟩=W1.cell? ⟨Bf,q,none⟩))∧(∀ q,w'.cell? ⟨Bg,q,none⟩=W1.cell? ⟨Bg,q,none⟩))) (by kernel_rfl) ?bg (fun hHeld=>?_)
       case bg=>exact ⟨⟨fun q=>rfl,fun q=>rfl⟩,fun q=>rfl⟩
       refine bD 0 hrX Tryz.underlying83 ?_;refine bD 1 hrF Tryz.underlying26 ?_;refine bD 2 hrF Tryz.underlying26 ?_;refine bD 3 hrG Tryz.underlying23 ?_;refine bD 4 hrF Tryz.underlying26 ?_;refine bD 5 hrX Tryz.underlying83 ?_;refine iR 6 8 (fun K hK=>?_) fun K hK=>?_
       · go_simp
         (first | (go_at_call 80;refine (HL4.out W1.drew hex.KC).mono ?_;rintro e4 w4 ⟨rfl,hb4⟩;have yJ:=And.intro (Gm hX.drew hFx.drew hb4) (Gl DK.drew hb4)) | (go_at_call 80;refine (HL4.out (W1.drew.alloc _) (hex.KC.below ((Below.refl _ _).alloc (Nat.le_refl _) _))).mono ?_;rintro e4 w4 ⟨rfl,hb4⟩;have Bh:=And.intro (Gm (hX.drew.alloc _) (hFx.drew.alloc _) hb4) (Gl (DK.drew.alloc _) hb4)))
         refine ak hK (by first | exact yJ | exact ⟨(oh (qE hX.drew hFx.drew _) Bh.1),(og (qC DK.drew _) Bh.2)⟩) fun hHeld=>?_;clear hK K;refine aA 7 ?_;refine aB 8 fun K hK=>?_;go_simp;refine ak hK (by first | exact ⟨(oh yJ.1 (qE (hX.drew.below hb4) (hFx.drew.below hb4) _)),(og yJ.2 (qC (DK.drew.below hb4) _))⟩ | exact ⟨(qE hX.drew hFx.drew _),(qC DK.drew _)⟩) fun hHeld=>?_;clear hK K;refine aB 9 fun K hK=>?_
         first | (have hk5:=And.intro (oh (oh yJ.1 (qE (hX.drew.below hb4) (hFx.drew.below hb4) (.cells jD.toArray 138))) (EN (Be:=w4.heap.size) (qI ⟨k,e,s,s,ru⟩) 0 (by have:=hX.lt;have:=hb4.size;simp at this;omega) (by have:=hFx.lt;have:=hb4.size;simp at this;omega))) (og (og yJ.2 (qC (DK.drew.below hb4) (.cells jD.toArray 138))) (EM (Be:=w4.heap.size) (qI ⟨k,e,s,s,ru⟩) 0 (by have:=DK.lt;have:=hb4.size;simp at this;omega)));have hE0:=Held.new w4 jD 138;refine aQ hE0 (qI ⟨k,e,s,s,ru⟩) rfl qo (wO _) (.tmp 7) (.tmp 24) rfl rfl rfl ?_) | (have hk5:=And.intro (oh (oh (qE hX.drew hFx.drew (.cells jD.toArray 138)) Bh.1) (EN (Be:=W1.heap.size) (qI ⟨k,e,s,s,ru⟩) 0 (by have:=hX.lt;omega) (by have:=hFx.lt;omega))) (og (og (qC DK.drew (.cells jD.toArray 138)) Bh.2) (EM (Be:=W1.heap.size) (qI ⟨k,e,s,s,ru⟩) 0 (by have:=DK.lt;omega)));have hE0:=(Held.new W1.drew jD 138).below hb4;refine aQ hE0 (qI ⟨k,e,s,s,ru⟩) rfl qo (wO _) (.tmp 7) (.tmp 24) rfl rfl rfl ?_)
         refine ak hK (hk5) fun hHeld=>?_;clear hK K;refine wpAnyH_done (by kernel_rfl) ?_ _;clear hk5 hrX hrF hrG
         first | clear yJ | clear Bh
         go_wp2;go_meet
         first | exact ⟨w4.heap.size,rfl,hb4.size,hE0.whole _ rfl,below_setCells _ hb4.size _ _ _ _ ((cZ hb4).alloc hb4.size _)⟩ | exact ⟨W1.heap.size,rfl,Nat.le_refl _,hE0.whole _ rfl,below_setCells _ (Nat.le_refl _) _ _ _ _ (((cZ (Below.refl _ W1.drew)).alloc (Nat.le_refl _) _).trans (hb4.mono (by simp)))⟩
       · go_simp
         refine ak hK (by first | exact ⟨(oh yJ.1 (qE (hX.drew.below hb4) (hFx.drew.below hb4) _)),(og yJ.2 (qC (DK.drew.below hb4) _))⟩ | exact ⟨(qE hX.drew hFx.drew _),(qC DK.drew _)⟩) fun hHeld=>?_;clear hK K;refine aB 6 fun K hK=>?_;go_simp
         (first | (go_at_call 80;refine (HL4.out W1.drew hex.KC).mono ?_;rintro e4 w4 ⟨rfl,hb4⟩;have yJ:=And.intro (Gm hX.drew hFx.drew hb4) (Gl DK.drew hb4)) | (go_at_call 80;refine (HL4.out (W1.drew.alloc _) (hex.KC.below ((Below.refl _ _).alloc (Nat.le_refl _) _))).mono ?_;rintro e4 w4 ⟨rfl,hb4⟩;have Bh:=And.intro (Gm (hX.drew.alloc _) (hFx.drew.alloc _) hb4) (Gl (DK.drew.alloc _) hb4)))
         refine ak hK (by first | exact yJ | exact ⟨(oh (qE hX.drew hFx.drew _) Bh.1),(og (qC DK.drew _) Bh.2)⟩) fun hHeld=>?_;clear hK K;refine aA 7 ?_;refine aB 9 fun K hK=>?_
         first | (have hk5:=And.intro (oh (oh yJ.1 (qE (hX.drew.below hb4) (hFx.drew.below hb4) (.cells jD.toArray 138))) (EN (Be:=w4.heap.size) (qI ⟨k,e,s,s,ru⟩) 0 (by have:=hX.lt;have:=hb4.size;simp at this;omega) (by have:=hFx.lt;have:=hb4.size;simp at this;omega))) (og (og yJ.2 (qC (DK.drew.below hb4) (.cells jD.toArray 138))) (EM (Be:=w4.heap.size) (qI ⟨k,e,s,s,ru⟩) 0 (by have:=DK.lt;have:=hb4.size;simp at this;omega)));have hE0:=Held.new w4 jD 138;refine aQ hE0 (qI ⟨k,e,s,s,ru⟩) rfl qo (wO _) (.tmp 7) (.tmp 24) rfl rfl rfl ?_) | (have hk5:=And.intro (oh (oh (qE hX.drew hFx.drew (.cells jD.toArray 138)) Bh.1) (EN (Be:=W1.heap.size) (qI ⟨k,e,s,s,ru⟩) 0 (by have:=hX.lt;omega) (by have:=hFx.lt;omega))) (og (og (qC DK.drew (.cells jD.toArray 138)) Bh.2) (EM (Be:=W1.heap.size) (qI ⟨k,e,s,s,ru⟩) 0 (by have:=DK.lt;omega)));have hE0:=(Held.new W1.drew jD 138).below hb4;refine aQ hE0 (qI ⟨k,e,s,s,ru⟩) rfl qo (wO _) (.tmp 7) (.tmp 24) rfl rfl rfl ?_)
         refine ak hK (hk5) fun hHeld=>?_;clear hK K;refine wpAnyH_done (by kernel_rfl) ?_ _;clear hk5 hrX hrF hrG
         first | clear yJ | clear Bh
         go_wp2;go_meet
         first | exact ⟨w4.heap.size,rfl,hb4.size,hE0.whole _ rfl,below_setCells _ hb4.size _ _ _ _ ((cZ hb4).alloc hb4.size _)⟩ | exact ⟨W1.heap.size,rfl,Nat.le_refl _,hE0.whole _ rfl,below_setCells _ (Nat.le_refl _) _ _ _ _ (((cZ (Below.refl _ W1.drew)).alloc (Nat.le_refl _) _).trans (hb4.mono (by simp)))⟩
      case rest=>
       obtain ⟨Be,rfl,hBe,hE,hb2⟩:=hcut;have hEF:=hE.cell (j:=31) rfl;have hFe:=hFx.below hb2;have hXe:=hX.below hb2;have hGe:=DK.below hb2;have aov:=hex.below hb2;have kN:=hb1.trans (hb2.mono hb1.size)
       go_upto_if 27 with (fail)
       go_cut [] from 25 to 32 (fun wz=>Held wz Be (qI ⟨k,e,s,Sk.step g s e.x,ru⟩) 138∧Below W1.heap.size W1 wz)
       case first=>
        rcases zr:(ru == 0) with _ | _
        · have hst:Sk.step g s e.x=s:=by
           unfold Sk.step
           rw [if_neg (by rw [Zh.out];simpa using zr)]
          have HST:=hide hst;clear hst;go_wp2;go_meet;rw [HST.out];exact ⟨hE,hb2⟩
        · have hl0:Sk.legal g s e.x=0:=by rw [Zh.out];simpa using zr
          have hst:Sk.step g s e.x=Sk.next g s e.x:=by
           unfold Sk.step
           rw [if_pos hl0]
          have hn5:=fun W h=>xX K g s e W hOk hce ((Sk.mV.1 hl0).call) h;have HST:=hide hst;have HN5:=hide hn5;clear hst hn5 hl0
          go_wp2_with (first | ((with_reducible refine bJ 23 1 ?_);refine dW (hGe) Tryz.underlying23 dQ ?_) | ((with_reducible refine bJ 26 4 ?_);refine dW (hFe) Tryz.underlying26 aj ?_) | ((with_reducible refine bJ 83 6 ?_);refine dW (hXe) Tryz.underlying83 bI ?_) | (go_at_call 81;refine (HN5.out _ (aov.below (Below.refl _ _))).mono ?_;rintro e5 w5 ⟨rfl,hb5⟩;have Wu:=hE.below hb5) | (refine fF 26 (.tmp 32) (.tmp 31) rfl ?_;refine Dj (o:=18) (vs:=aC (Sk.next g s e.x)) (Tq Wu) aj (aT _) rfl (.tmp 32) (.tmp 31) rfl rfl rfl ?_))
          go_meet;rw [HST.out];exact ⟨Y4 Wu _,below_setCells _ hBe _ _ _ _ (hb2.trans (hb5.mono hb2.size))⟩
       case rest=>
        rename World=>W3
        obtain ⟨hE',hb3⟩:=hcut;have hf3:=hFx.below hb3;have amv:W3.rangeAt Be 18 (aC (Sk.step g s e.x)):=fun j v hj=>hE'.cell (J8 k e s (Sk.step g s e.x) ru j v hj)
        have hfb:Bf≠Be:=by have:=hFx.lt;omega
        go_upto_region 7 with (fail)
        go_cut [] from 33 to 34 (fun wz=>Held wz Be (qI ⟨k,e,s,Sk.step g s e.x,ru⟩) 138∧Held wz Bf (aC (Sk.step g s e.x)) 26∧Turn (fun b=>b=Bf) wr wz∧wr.heap.size≤wz.heap.size)
        case first=>
         go_wp2_with (first | (refine dw 26 (.tmp 33) rfl ?_;refine fH amv Tryz.underlying26 rfl aj rfl (.tmp 33) rfl rfl ?_) | ((with_reducible refine isS 26 4 34 ?_);refine fU (hf3) (aC (Sk.step g s e.x)) aj (aT _) ?_))
         go_meet;have abC:=hb1.trans (hb3.mono hb1.size);exact ⟨(wV hfb.symm _ _ _).trans hE',hf3.whole _ rfl,((Turn.of_below abC).mono (X:=fun _=>False) (fun b h=>h.elim)).trans (kW (X:=fun b=>b=Bf) rfl _ 0) (fun b h=> .inl h),by rw [setCells_size];exact abC.size⟩
        case rest=>
         rename World=>W4
         obtain ⟨hE4,hf4,Zq,hs4⟩:=hcut;have azF:wr.heap.size≤Be:=Nat.le_trans hb1.size hBe;have hxk:=HI.out;obtain ⟨X',hX'⟩:∃ X':Nat→Prop,X'=fun b=>X b∨b=Be:=⟨_,rfl⟩
         have gX:vO wr X X':=fun b h=>by rw [hX'] at h;rcases h with h | h;exact .inl h;exact .inr (by omega)
         have xf':X' Bf:=by rw [hX'];exact .inl hxk.xf
         have xe':X' Be:=by rw [hX'];exact .inr rfl
         have xs':∀ b,X' b∨Y b→W.heap.size≤b∧b<W4.heap.size:=fun b h=>by
          have s1:=hxk.sz;have s3:=hE4.lt;rw [hX'] at h
          rcases h with (h | h) | h
          · have:=hxk.xs b (.inl h);omega
          · subst h;omega
          · have:=hxk.xs b (.inr h);omega
         have hj4:=hJ _ _ _ _ X' Y _ hxk.j (Zq.mono (fun b h=>by subst h;exact hxk.xf)) gX (fun b h=> .inl h)
         have hk4:∀ b,K b→W4.heap[b]? =W.heap[b]? :=fun b hb=>(Zq.block b (Nat.lt_of_lt_of_le (hKW b hb) hxk.sz) (fun e=>by
          have h1:=hKW b hb;have h2:=(hxk.xs Bf (.inl hxk.xf)).1
          omega)).trans (hxk.k b hb)
         have hT:rV g l X' Y pre ⟨k,e,s,Sk.step g s e.x,ru⟩ W4:=⟨hxk.len.symm,by rw [hxk.len];exact hlt,by rw [hxk.len];exact HLE.out,by rw [hxk.len];exact HS.out.symm,rfl,Zh.out.symm⟩;obtain ⟨fn',akh,assign',body',hy,hR⟩:=HY.out X' Y pre ⟨k,e,s,Sk.step g s e.x,ru⟩ W4 hj4 xs' (by rw [hxk.len];exact hlt) hT;have aA1:=hxk.sz;have afe:=hxk.len;clear hX' gX hxk hT
         have hlen':(pre++[(⟨k,e,s,Sk.step g s e.x,ru⟩:Stp)]).length=k+1:=by rw [List.length_append,afe];rfl
         have hs1:jr g l (k+1)=Sk.step g s e.x:=HSC.out;have HLEN:=hide hlen';have Ig:=hide hs1;clear hlen' hs1 afe;obtain ⟨xx,hxx⟩:∃ q:Stp,(⟨k,e,s,Sk.step g s e.x,ru⟩:Stp)=q:=⟨_,rfl⟩;rw [hxx] at hy hR HLEN hE4
         have hyx:Aq xx= #[.int .i64 ((k:Int)+1),.agg (qI xx).toArray]:=by rw [← hxx];rfl
         rw [hyx] at hy;have HXX:=hide hxx
         have hwr:IntKind.i64.wrap ((k:Int)+1)=(k:Int)+1:=by rw [IntKind.wrap_i64];omega
         clear hyx hxx
         go_upto_region 8 with (fail)
         go_cut [40] from 35 to 40 (fun v wx=>(v= .bool false∧J X' Y (pre++[xx]) wx∧oO K X' Y W4 wx)∨(v= .bool true∧Jx X' Y (pre++[xx]) wx))
         case first=>
          refine (wpIn_wide (n:=n)).1 ?_;have apr:(jT none).round=none:=rfl;have aoo:(jT none).depth=none:=rfl;have aoJ:∀ f,(jT none).fn f=True:=fun _=>rfl;refine wpIn_region_lit ?_
          gi_wp2_with (refine Vj hE4 Tryz.underlying138 rfl qo rfl (.tmp 7) rfl rfl ?_)
          refine hR.mono ?_
          rintro e4 W5 (⟨rfl,XF,hk5⟩ | ⟨rfl,F5⟩)
          · gi_wp2
            go_meet;exact .inl ⟨rfl,XF,hk5⟩
          · gi_wp2
            go_meet;exact .inr ⟨rfl,F5⟩
         case rest=>
          clear hy hR
          rcases hcut with ⟨rfl,XF,hk5⟩ | ⟨rfl,F5⟩
          · have hf5:Held wc Bf (aC (Sk.step g s e.x)) 26:=(hk5.block Bf (.inl xf')).trans hf4
            clear hJx;go_wp2
            go_roundw
            case rel=>
             refine ⟨k+1,X',Y,pre++[xx],by omega,by go_num,HLEN.out,XF,by rw [Ig.out];exact hf5,xf',fun b h=>?_,fun b h=>(hk5.keep b h).trans (hk4 b h),?_⟩
             · have h1:=xs' b h
               have h2:=hk5.size;exact ⟨h1.1,by omega⟩
             · have:=hk5.size;omega
            case measure=>simp [intOf];omega
          · go_wp2
            refine bodyPost_ret (results_none rfl _ _ _) rfl ?_;exact ⟨⟨_,rfl⟩,.inr ⟨X',Y,pre++[xx],F5⟩⟩
   · obtain rfl:k=l.length:=by omega
     go_wp2
     go_end0
     exact ⟨⟨_,rfl⟩,.inl ⟨X,Y,pre,hI.len,hI.j⟩⟩
theorem rV.putObj {g:Sk.Game} {l:List En} {X Y:Nat→Prop} {pre:List Stp} {x:Stp} {W W':World} (h:rV g l X Y pre x W):rV g l X Y pre x W':=⟨h.i,h.lt,h.e,h.s,h.t,h.rule⟩
structure qL (w:World) (D:Nat) (boxes:Nat→List (Nat × List Value × TypeId)) (X Y:Nat→Prop) (xs:List Stp) (W:World):Prop where
 bw:Below w.heap.size w W
 sz:D≤W.heap.size
 sep:∀ b,X b∨Y b→D≤b
 bx:∀ p∈boxes xs.length,Held W p.1 p.2.1 p.2.2
theorem SY {D:Nat} {X Y X' Y':Nat→Prop} {W:World} (h:∀ b,X b∨Y b→D≤b) (hs:D≤W.heap.size) (hX:vO W X X') (hY:vO W Y Y'):∀ b,X' b∨Y' b→D≤b:=by
 rintro b (hb | hb)
 · rcases hX b hb with h2 | h2
   · exact h b (.inl h2)
   · exact Nat.le_trans hs h2
 · rcases hY b hb with h2 | h2
   · exact h b (.inr h2)
   · exact Nat.le_trans hs h2
section
variable {w:World} {D:Nat} {boxes:Nat→List (Nat × List Value × TypeId)}
theorem qL.abides (hw:w.heap.size≤D) (hD:∀ k,∀ p∈boxes k,p.1<D):qc (qL w D boxes):=by
 intro X Y pre W X' Y' W' h ht hX hY;exact ⟨vT h.bw ht (fun b hb=>by have:=h.sep b (.inl hb);omega) (by have:=h.sz;omega),Nat.le_trans h.sz ht.size,SY h.sep h.sz hX hY,fun p hp=>(h.bx p hp).turn ht (fun hx=>by have:=h.sep _ (.inl hx);have:=hD _ p hp;omega)⟩
theorem qL.putObj {X Y:Nat→Prop} {pre:List Stp} {W:World} {lp:Nat} {o:Obj} (h:qL w D boxes X Y pre W) (hD:w.heap.size≤D) (hlp:D≤lp) (hl:W.heap[lp]? =some o) (ho:o.isCells=false) (o':Obj):qL w D boxes X Y pre (W.putObj lp o'):=
 ⟨jQ h.bw (by omega) _,by simpa using h.sz,h.sep,fun p hp=>(h.bx p hp).putObj hl ho _⟩
end
def FH (e ty:TypeId) (size D B:Nat) (len:Nat→Nat) (rows:Nat→List Value) (X Y:Nat→Prop) (xs:List Stp) (W:World):Prop:=∃ v,Held W B [v] ty∧nT W D X Y e size v (len xs.length) (rows xs.length)
section
variable {e ty:TypeId} {size D B:Nat} {len:Nat→Nat} {rows:Nat→List Value}
theorem FH.turn {X Y X' Y':Nat→Prop} {pre:List Stp} {W W':World} (hB:B<D) (h:FH e ty size D B len rows X Y pre W) (ht:Turn X W W') (hs:∀ b,X b∨Y b→D≤b) (hX:vO W X X') (hY:vO W Y Y'):FH e ty size D B len rows X' Y' pre W':=by
 obtain ⟨v,hv,ho⟩:=h;exact ⟨v,hv.turn ht (fun hx=>by have:=hs _ (.inl hx);omega),ho.turn ht hX hY⟩
theorem FH.putObj {X Y:Nat→Prop} {pre:List Stp} {W:World} {lp:Nat} {o:Obj} (h:FH e ty size D B len rows X Y pre W) (hl:W.heap[lp]? =some o) (ho:o.isCells=false) (o':Obj):FH e ty size D B len rows X Y pre (W.putObj lp o'):=by
 obtain ⟨v,hv,hw⟩:=h;exact ⟨v,hv.putObj hl ho _,hw.putObj hl ho _⟩
end
def Ef (w:World) (D:Nat) (boxes:Nat→List (Nat × List Value × TypeId)) (e ty:TypeId) (size B:Nat) (len:Nat→Nat) (rows:Nat→List Value) (X Y:Nat→Prop) (xs:List Stp) (W:World):Prop:=
 qL w D boxes X Y xs W∧FH e ty size D B len rows X Y xs W
theorem Ef.abides {w:World} {D:Nat} {boxes:Nat→List (Nat × List Value × TypeId)} {e ty:TypeId} {size B:Nat} {len:Nat→Nat} {rows:Nat→List Value} (hw:w.heap.size≤D) (hB:B<D) (hD:∀ k,∀ p∈boxes k,p.1<D):qc (Ef w D boxes e ty size B len rows):=
 fun X Y pre W X' Y' W' h ht hX hY=>⟨qL.abides hw hD X Y pre W X' Y' W' h.1 ht hX hY,h.2.turn hB ht h.1.sep hX hY⟩
theorem Y3 {Z X Y K:Nat→Prop} {W W6:World} {D:Nat} (hWs:D≤W.heap.size) (hX:∀ b,X b∨Y b→D≤b∧b<W.heap.size) (hZ:∀ b,Z b→(b<D∧¬ K b)∨((∃ o:Obj,W.heap[b]? =some o∧o.isCells=true)∧D≤b∧¬ X b∧¬ Y b)) (hK:∀ b,K b→b<D)
 (hT:Turn Z W W6):KeepsFrom D W W6∧oO K X Y W W6:=by
 refine ⟨⟨hT.size,fun k o hk hl hc=>(hT.block k (Array.getElem?_eq_some_iff.1 hl).1 ?_).trans hl⟩,⟨hT.size,fun b h=>hT.block b (hX b h).2 ?_,fun b h=>hT.block b (Nat.lt_of_lt_of_le (hK b h) hWs) ?_⟩⟩
 · intro h
   rcases hZ k h with h | ⟨⟨o2,h2,h3⟩,_⟩
   · omega
   · rw [hl] at h2;cases h2;rw [hc] at h3;cases h3
 · have h1:=(hX b h).1
   intro h2
   rcases hZ b h2 with h3 | h3
   · omega
   · exact h.elim h3.2.2.1 h3.2.2.2
 · intro h2
   rcases hZ b h2 with h3 | h3
   · exact h3.2 h
   · have:=hK b h;omega
theorem WU {W:World} {D:Nat} {X Y:Nat→Prop} {e:TypeId} {size:Nat} {v:Value} {n:Nat} {xs:List Value} (h:nT W D X Y e size v n xs) {b:Nat} (hb:v.ownBlock=some b):(∃ o:Obj,W.heap[b]? =some o∧o.isCells=true)∧D≤b∧¬ X b∧¬ Y b:=
 ⟨(gK h.own hb).2,(gK h.own hb).1,(h.far b hb).1,(h.far b hb).2⟩
theorem H9 {g:Sk.Game} {l:List En} {X Y:Nat→Prop} {pre:List Stp} {x:Stp} {W:World} (ht:rV g l X Y pre x W):x.e∈l:=by
 have h:=ht.e;have hl:=ht.lt;rw [List.getElem?_eq_getElem hl] at h;rw [← Option.some.inj h];exact List.getElem_mem hl
theorem Ea {g:Sk.Game} {l:List En} {X Y:Nat→Prop} {pre:List Stp} {x:Stp} {W:World} (ht:rV g l X Y pre x W):jr g l (pre.length+1)=x.t:=by
 have h:=ht.e;have hl:=ht.lt;rw [List.getElem?_eq_getElem hl] at h;have h2:=Option.some.inj h;rw [rJ g l _ hl,ht.t,ht.s,h2]
def kU (g:Sk.Game) (l:List En) (k:Nat):List Sk.wR:=Sk.iE g (Sk.start g) 1 (bare (l.take k))
def WV (l:List Sk.wR):List Value:=l.flatMap fun x=>[.int .i64 x.number,.int .i64 x.rule]
theorem J4 (a b:List Sk.wR):WV (a++b)=WV a++WV b:=by simp [WV]
theorem BZ (g:Sk.Game) (l:List En) (k:Nat):(kU g l k).length≤k:=by
 have go:∀ (l2:List Sk.Entry) (s:Sk.State) (n:Int),(Sk.iE g s n l2).length≤l2.length:=by
  intro l2
  induction l2 with
  | nil=>intro s n;exact Nat.le_refl _
  | cons y l2 ih=>
    intro s n
    have:=ih (Sk.step g s y) (n+1)
    rw [Sk.iE,List.length_append,List.length_cons]
    split <;> simp <;> omega
 have:=go (bare (l.take k)) (Sk.start g) 1
 unfold kU
 rw [kQ,List.length_take] at this
 omega
theorem Hy (g:Sk.Game) (l:List En) (k:Nat) (hk:k<l.length):kU g l (k+1)=kU g l k++(if Sk.legal g (jr g l k) l[k].x=0 then [] else [⟨(k:Int)+1,Sk.legal g (jr g l k) l[k].x⟩]):=by
 have go:∀ (l2:List Sk.Entry) (s:Sk.State) (n:Int) (x:Sk.Entry),Sk.iE g s n (l2++[x])=Sk.iE g s n l2++(if Sk.legal g (Sk.final g s l2) x=0 then [] else [⟨n+l2.length,Sk.legal g (Sk.final g s l2) x⟩]):=by
  intro l2
  induction l2 with
  | nil=>intro s n x;simp [Sk.iE,Sk.final]
  | cons y l2 ih=>
    intro s n x;rw [List.cons_append,Sk.iE,Sk.iE,ih,List.append_assoc]
    simp only [Sk.final,List.foldl_cons,List.length_cons]
    rw [show n+1+(l2.length:Int)=n+((l2.length+1:Nat):Int) by push_cast;omega]
    rfl
 unfold kU jr
 rw [List.take_succ_eq_append_getElem hk]
 unfold bare
 rw [List.map_append,List.map_cons,List.map_nil,go]
 congr 2
 simp only [List.length_map,List.length_take,Nat.min_eq_left (Nat.le_of_lt hk)]
 rw [Int.add_comm]
theorem N9 {g:Sk.Game} {l:List En} {X Y:Nat→Prop} {pre:List Stp} {x:Stp} {W:World} (ht:rV g l X Y pre x W):kU g l (pre.length+1)=kU g l pre.length++(if x.rule=0 then [] else [⟨(pre.length:Int)+1,x.rule⟩]):=by
 have h:=ht.e;have hl:=ht.lt;rw [List.getElem?_eq_getElem hl] at h;have h2:=Option.some.inj h;rw [Hy g l _ hl,h2,ht.rule,ht.s]
theorem tK {g:Sk.Game} {l:List En} (h:Sk.iO g (bare l)=0):Sk.dM g=0∧(∀ e∈l,Sk.dH g e.x=0)∧l.length≤1000:=by
 unfold Sk.iO at h
 split at h
 · rename_i h2;exact absurd h h2
 · rename_i h2
   split at h
   · cases h
   · rename_i h3
     refine ⟨by simpa using h2,?_,by rw [kQ] at h3;omega⟩;clear h2 h3
     induction l with
     | nil=>intro e he;cases he
     | cons y l ih=>
       rw [bare,List.map_cons,Sk.kZ] at h
       by_cases h5:Sk.dH g y.x=0
       · intro e he
         rcases List.mem_cons.1 he with rfl | he
         · exact h5
         · refine ih ?_ e he
           rw [if_neg (by simpa using h5)] at h;exact h
       · rw [if_pos h5] at h
         exact absurd h h5
theorem Gv (g:Sk.Game) (s:Sk.State) (e:Sk.Entry):0≤Sk.legal g s e∧Sk.legal g s e≤5:=by
 unfold Sk.legal
 repeat' split
 all_goals decide
theorem VE:(Tryz.prog.info? 140).map (fun i=>(i.zero,i.size,i.bytes))=some (some (.agg #[.int .i64 0,.int .i64 0]),2,16):=by kernel_rfl
theorem Td (g:Sk.Game) (l:List En):jr g l l.length=Sk.final g (Sk.start g) (bare l):=by unfold jr;rw [List.take_length]
theorem BX (g:Sk.Game) (l:List En):kU g l l.length=Sk.iE g (Sk.start g) 1 (bare l):=by unfold kU;rw [List.take_length]
theorem Cb {w:World} {D:Nat} {boxes:Nat→List (Nat × List Value × TypeId)} {e ty:TypeId} {size B:Nat} {len:Nat→Nat} {rows:Nat→List Value} {Z X Y K:Nat→Prop} {Ix:(Nat→Prop)→(Nat→Prop)→List Stp→World→Prop} {x:Stp} {pre:List Stp} {W W6:World} {a:Act}
 (hi:qL w D boxes X Y pre W) (hw:w.heap.size≤D) (hX:∀ b,X b∨Y b→D≤b∧b<W.heap.size) (hK:∀ b,K b→b<D) (hT:Turn Z W W6) (hZ:∀ b,Z b→(w.heap.size≤b∧b<D∧¬ K b)∨((∃ o:Obj,W.heap[b]? =some o∧o.isCells=true)∧D≤b∧¬ X b∧¬ Y b))
 (hbx:∀ p∈boxes (pre.length+1),Held W6 p.1 p.2.1 p.2.2) (hrow:FH e ty size D B len rows X Y (pre++[x]) W6):uM K D X Y (Ef w D boxes e ty size B len rows) Ix (pre++[x]) W .normal a W6:=by
 obtain ⟨h1,h2⟩:=Y3 hi.sz hX (fun b hb=>(hZ b hb).elim (fun h=> .inl h.2) .inr) hK hT;refine ⟨h1,h2,⟨vT hi.bw hT (fun b hb=>(hZ b hb).elim (fun h=>h.1) (fun h=>Nat.le_trans hw h.2.1)) (Nat.le_trans hw hi.sz),Nat.le_trans hi.sz hT.size,hi.sep,?_⟩,hrow⟩;rw [List.length_append,List.length_singleton];exact hbx
def YU (g:Sk.Game) (l:List En):Sk.State:=if Sk.iO g (bare l)=0 then Sk.final g (Sk.start g) (bare l) else Sk.zero
def VG (g:Sk.Game) (l:List En):List Sk.wR:=if Sk.iO g (bare l)=0 then Sk.iE g (Sk.start g) 1 (bare l) else []
theorem xY (S:Nat→Prop) (g:Sk.Game) (l:List En) (A:Option Addr) (c:Nat) (w:World) (hp:ni w S A c l):
 Calls Tryz.prog 25 #[lX g,.slice A l.length c] w fun e w'=>∃ A2 c2,e= .returned (.tuple #[jE (YU g l),.slice A2 (VG g l).length c2,.int .i64 (Sk.iO g (bare l))])∧Reads w' (fun b=>w.heap.size≤b) 2 A2 (VG g l).length c2 (WV (VG g l))∧Below w.heap.size w w':=by
 refine callsIn_wide.1 (callsIn_of_wp_marks (F:=Fence.wide) (n:=5) Tryz.func25 rfl trivial ?_ rfl)
 simp only [Tryz.ntmps25,List.size_toArray,List.length_cons,List.length_nil,Nat.reduceAdd,Nat.reduceSub,Array.replicate_succ,
  Array.replicate_zero,List.push_toArray,List.append_toArray,List.nil_append,List.cons_append]
 refine wpIn_wide.2 ?_
 generalize hQ':bodyPostM Fence.wide 5 Tryz.prog _ _=Q'
 have hck:=fun W h=>qm S g l A c W h;obtain ⟨E,hE⟩:∃ E,Sk.iO g (bare l)=E:=⟨_,rfl⟩;rw [hE] at hck;have qJ:=hide hck;have HE:=hide hE;have HQ:=hide hQ';clear hck hE hQ'
 go_upto_region 0 with (fail)
 go_cut [2,4] from 2 to 7 (fun v2 v4 wx=>v2=ptr w.heap.size∧v4=ptr (w.heap.size+1)∧aG w wx [(bK g,23),(aC Sk.zero,26)])
 case first=>
  go_wp2;go_meet;exact ⟨rfl,rfl,(((aG.nil w).new (by simp) (bK g) _).new (by simp) (aC Sk.zero) _)⟩
 case rest=>
  obtain ⟨rfl,rfl,hB⟩:=hcut
  by_cases h0:E=0
  · have h0':(E != 0)=false:=by simp [h0]
    go_upto_region 4 with (first | ((with_reducible refine bJ 23 2 ?_);refine dW (hB.au rfl) Tryz.underlying23 dQ ?_) | (go_at_call 20;refine (qJ.out _ (hp.below hB.bw)).mono ?_;rintro e w1 ⟨rfl,hb1⟩;have hB1:=hB.call (by simp) hb1))
    have hck0:=HE.out.trans h0;have HL:=hide (tK hck0);have hkn:=Sk.nM HL.out.1;have hrs:YU g l=Sk.final g (Sk.start g) (bare l)∧VG g l=Sk.iE g (Sk.start g) 1 (bare l):=⟨by unfold YU;rw [if_pos hck0],by unfold VG;rw [if_pos hck0]⟩;have Fv:=hide hrs;clear h0' hrs hck0
    go_cut [8] from 19 to 21 (fun v8 wx=>∃ B8,v8=ptr B8∧aG w wx [(bK g,23),(aC Sk.zero,26)]∧w.heap.size+2≤B8∧Held wx B8 (aC (Sk.start g)) 26)
    case first=>
     go_wp2_with (first | ((with_reducible refine bJ 23 2 ?_);refine dW (hB1.au rfl) Tryz.underlying23 dQ ?_) | (go_at_call 74;refine (sQ g hkn _).mono ?_;rintro e w2 ⟨rfl,hb2⟩;have hB2:=hB1.call (by simp) hb2;have hG2:=Held.new w2 (aC Sk.zero) 26) | ((with_reducible refine isS 26 8 20 ?_);refine fU (hG2) (aC (Sk.start g)) aj (aT _) ?_))
     go_meet;have hs1:=hB1.size (by simp);have hs2:=hb2.size
     simp only [List.length_cons,List.length_nil] at hs1
     exact ⟨w2.heap.size,rfl,(hB2.alloc (by simp) _).fQ (by simpa using Nat.le_trans hs1 hs2) _ _,by omega,hG2.whole _ rfl⟩
    case rest=>
     obtain ⟨B8,rfl,hB2,FB,hG⟩:=hcut
     have aAU:w.heap.size+2≤wc.heap.size:=by simpa using hB2.size (by simp)
     go_wp2_with (first | ((with_reducible refine bJ 23 2 ?_);refine dW ((hB2.alloc (by simp) _).au rfl) Tryz.underlying23 dQ ?_) | (go_at_call 75;refine (qH g _ _ _ _).mono ?_;rintro e w3 ⟨rfl,hC⟩))
     rename_i KQ XG
     have hD3:wc.heap.size+3≤w3.heap.size:=by
      have:=hC.size (by simp)
      simp only [List.length_cons,List.length_nil,World.size_alloc] at this
      omega
     have hb3:=(hB2.bw.trans (((Below.refl _ _).alloc (Nat.le_refl _) _).mono (by omega))).trans (hC.bw.mono (by simp;omega));have azy:=hG.lt
     have hGm:Held w3 (wc.heap.size+1) (bK g) 23:=by simpa using hC.au rfl
     have Ph:Held w3 (wc.heap.size+1+1) [.slice A l.length c] 27:=by simpa using hC.get 1 rfl
     have hK3:∀ b,(fun b=>b=wc.heap.size+1∨b=wc.heap.size+2∨(S b∧b<w.heap.size)) b→b<w3.heap.size:=by rintro b (h | h | ⟨_,h⟩) <;> omega
     have hLK:ni w3 (fun b=>b=wc.heap.size+1∨b=wc.heap.size+2∨(S b∧b<w.heap.size)) A c l:=(hp.more (S':=(fun b=>b=wc.heap.size+1∨b=wc.heap.size+2∨(S b∧b<w.heap.size))) (fun b hb h=> .inr (.inr ⟨h,hb⟩))).below hb3
     have hZ3:Held w3 (w.heap.size+1) (aC Sk.zero) 26:=by have:=(hB2.get 1 rfl).alloc (.cells #[.slice none 0 0] 47);exact this.upto hC.bw (by simp;omega)
     have hG3:Held w3 B8 (aC (Sk.start g)) 26:=(hG.alloc (.cells #[.slice none 0 0] 47)).upto hC.bw (by simp;omega);have hA3:Held w3 wc.heap.size [.slice none 0 0] 47:=(Held.new wc [.slice none 0 0] 47).upto hC.bw (by simp)
     have hbd:∀ k,∀ p∈((fun k=>[(B8,aC (jr g l k),26),(w.heap.size+1,aC Sk.zero,26)]) k),p.1<w3.heap.size:=by
      intro k p hp
      have hp2:p=(B8,aC (jr g l k),26)∨p=(w.heap.size+1,aC Sk.zero,26):=by simpa using hp
      rcases hp2 with rfl | rfl
      · show B8<w3.heap.size;omega
      · show w.heap.size+1<w3.heap.size;omega
     have ZO:=hide hbd;clear hbd;refine (wpIn_wide (n:=5)).1 ?_
     refine jI (F:=Fence.wide) rfl (by decide) rfl trivial (fun _ _=>rfl) (pU g l A c (fun b=>b=wc.heap.size+1∨b=wc.heap.size+2∨(S b∧b<w.heap.size)) _ _ 4 w3 (by decide) HL.out.1 HL.out.2.1 HL.out.2.2 hK3 hGm (.inl rfl) Ph (.inr (.inl rfl)) hLK) hK3 (Below.refl _ _) (fun _=>rfl) (Ef w w3.heap.size (fun k=>[(B8,aC (jr g l k),26),(w.heap.size+1,aC Sk.zero,26)]) 140 47 2 wc.heap.size (fun k=>(kU g l k).length) (fun k=>WV (kU g l k))) (fun _ _ _ _=>False) (Ef.abides (by omega) (by omega) ZO.out) (fun _ _ _ _ _ _ _ h _ _ _=>h)
      (fun X Y pre W lp o o' h hlp hl ho=>?ip) (fun _ _ _ _ _ _ _ h _ _ _=>h) (fun X Y pre x W lp o o' h hlp hl ho=>h.putObj) ?h0 (fun x a W=>∃ Be v0 v1 v2 v3 v4 v5 v6 v7 v12 v13 v14 v15 v16 v17 v18 v19 v20 v21 v22 v23 v24 v25 v26 v27 v28 v29 v30 v31 v32 v33 v34 v35 v36 v37 v38 v39,a= {tmps:= #[v0,v1,v2,v3,v4,v5,v6,v7,ptr B8,ptr wc.heap.size,.int .i64 ((x.i:Int)+1),ptr Be,v12,v13,v14,v15,v16,v17,v18,v19,v20,v21,v22,v23,v24,v25,v26,v27,v28,v29,v30,v31,v32,v33,v34,v35,v36,v37,v38,v39],defers:=[] }∧w3.heap.size≤Be∧Held W Be (qI x) 138) ?assign ?ap ?body ?done ?stop
     case ap=>
      rintro x a' W lp o o' ⟨Be,v0,v1,v2,v3,v4,v5,v6,v7,v12,v13,v14,v15,v16,v17,v18,v19,v20,v21,v22,v23,v24,v25,v26,v27,v28,v29,v30,v31,v32,v33,v34,v35,v36,v37,v38,v39,e2,h1,h2⟩ hlp hl ho
      exact ⟨Be,v0,v1,v2,v3,v4,v5,v6,v7,v12,v13,v14,v15,v16,v17,v18,v19,v20,v21,v22,v23,v24,v25,v26,v27,v28,v29,v30,v31,v32,v33,v34,v35,v36,v37,v38,v39,e2,h1,h2.putObj hl ho _⟩
     case stop=>exact fun _ _ _ _ _ _ _ h _=>h.elim
     case assign=>
      intro lp X Y pre x W K' hi ht hk AP;have hb:=((Below.refl W.heap.size W).alloc (Nat.le_refl _) (.cells jD.toArray 138));have hb':=below_setCells W.heap.size (Nat.le_refl _) (qI x) 0 _ _ hb;have hE0:=Held.new W jD 138;have hsz:w3.heap.size≤W.heap.size:=?szi
      case szi=>exact hi.1.sz
      have fin:∀ v0 v1 v2 v3 v4 v5 v6 v7 v12 v13 v14 v15 v16 v17 v18 v19 v20 v21 v22 v23 v24 v25 v26 v27 v28 v29 v30 v31 v32 v33 v34 v35 v36 v37 v38 v39:Value,K' {tmps:= #[v0,v1,v2,v3,v4,v5,v6,v7,ptr B8,ptr wc.heap.size,.int .i64 ((x.i:Int)+1),ptr W.heap.size,v12,v13,v14,v15,v16,v17,v18,v19,v20,v21,v22,v23,v24,v25,v26,v27,v28,v29,v30,v31,v32,v33,v34,v35,v36,v37,v38,v39],defers:=[] } ((W.alloc (.cells jD.toArray 138)).setCells W.heap.size 0 (qI x)):=fun _ _ _ _ _ _ _ _ _ _ _ _ _ _ _ _ _ _ _ _ _ _ _ _ _ _ _ _ _ _ _ _ _ _ _ _=>
       hk _ _ ⟨hb'.size,fun k o hk hl _=>(hb'.block k (Array.getElem?_eq_some_iff.1 hl).1).trans hl⟩
        ⟨hb'.size,fun b h=>hb'.block b (AP b h),fun b h=>hb'.block b (Nat.lt_of_lt_of_le (hK3 b h) hsz)⟩
        ((Ef.abides (by omega) (by omega) ZO.out) _ _ _ _ _ _ _ hi (Turn.of_below hb') (fun b h=> .inl h) (fun b h=> .inl h))
        ht.putObj
        ⟨W.heap.size,_,_,_,_,_,_,_,_,_,_,_,_,_,_,_,_,_,_,_,_,_,_,_,_,_,_,_,_,_,_,_,_,_,_,_,_,rfl,hsz,hE0.whole _ rfl⟩
      have FIN:=hide fin;clear hk fin hb hb' hi ht AP hsz
      simp [Aq]
      apply wpIn_seq_k;intro K1 hK1;refine aZ (by kernel_rfl) (by rintro ⟨_,_,h⟩;exact h) ?_;go_wp2;refine aZ (by kernel_rfl) (by rintro ⟨_,_,h⟩;exact h) ?_
      go_wp2_with (refine fF 138 (.tmp 11) (.tmp 25) rfl ?_;refine dU hE0 (qI x) rfl qo (wO _) rfl (.tmp 11) (.tmp 25) rfl rfl rfl ?_)
      exact FIN.out _ _ _ _ _ _ _ _ _ _ _ _ _ _ _ _ _ _ _ _ _ _ _ _ _ _ _ _ _ _ _ _ _ _ _ _
     case ip=>exact ⟨h.1.putObj (by omega) hlp hl ho o',h.2.putObj hl ho o'⟩
     case h0=>
      intro W hW;refine ⟨⟨(hb3.trans (hW.mono (by omega))),hW.size,fun b h=>h.elim (fun h=>h.elim) (fun h=>h.elim),?_⟩,⟨.slice none 0 0,hA3.below hW,World.ownsRow_nil _ _ _ _,fun g hg=>by cases hg⟩⟩;intro p hp
      have hp2:p=(B8,aC (jr g l 0),26)∨p=(w.heap.size+1,aC Sk.zero,26):=by simpa using hp
      rcases hp2 with rfl | rfl
      · show Held W B8 (aC (jr g l 0)) 26
        rw [rM];exact hG3.below hW
      · exact hZ3.below hW
     case body=>
      rintro lp X Y pre x a' W hi ht ⟨Be,v0,v1,v2,v3,v4,v5,v6,v7,v12,v13,v14,v15,v16,v17,v18,v19,v20,v21,v22,v23,v24,v25,v26,v27,v28,v29,v30,v31,v32,v33,v34,v35,v36,v37,v38,v39,rfl,hBe,hE⟩ hlt AP hWs
      obtain ⟨v,hV,lu⟩:=hi.2;have hbx:=hi.1.bx;have hF:Held W B8 (aC (jr g l pre.length)) 26:=hbx (B8,aC (jr g l pre.length),26) (by simp);have hZ:Held W (w.heap.size+1) (aC Sk.zero) 26:=hbx (w.heap.size+1,aC Sk.zero,26) (by simp);have h18:W.rangeAt Be 18 (aC x.t):=fun j v hj=>hE.cell (J8 x.i x.e x.s x.t x.rule j v hj);apply wpIn_block;apply wpIn_seq_k;intro K1 hK1;refine aZ (by kernel_rfl) (by rintro ⟨_,_,h⟩;exact h) ?_
      go_wp2_with (first | (refine dw 26 (.tmp 26) rfl ?_;refine fH (g:=Be) (o:=18) h18 Tryz.underlying26 rfl aj rfl (.tmp 26) rfl rfl ?_) | ((with_reducible refine isS 26 8 27 ?_);refine fU (hF) (aC x.t) aj (aT _) ?_))
      obtain ⟨W1,hW1⟩:∃ W1,W.setCells B8 0 (aC x.t)=W1:=⟨_,rfl⟩
      have hoth:∀ b,b≠B8→W1.heap[b]? =W.heap[b]? :=fun b hb=>by rw [← hW1];exact Held.lY hb _ _ _
      have hs1:W1.heap.size=W.heap.size:=by rw [← hW1];exact setCells_size _ _ _ _
      have hF1:Held W1 B8 (aC x.t) 26:=by rw [← hW1];exact hF.whole _ rfl
      have hZ1:Held W1 (w.heap.size+1) (aC Sk.zero) 26:=hZ.blk (hoth _ (by omega));have hE1:=hE.blk (hoth Be (by omega));have hV1:=hV.blk (hoth wc.heap.size (by omega))
      have hT1:Turn (fun b=>b=B8) W W1:=by rw [← hW1];exact kW (X:=fun b=>b=B8) rfl _ _
      have hown1:nT W1 w3.heap.size X Y 140 2 v (kU g l pre.length).length (WV (kU g l pre.length)):=⟨jo lu.own (fun g hg=>hoth g (by have:=(gK lu.own hg).1;omega)),lu.far⟩;rw [hW1]
      have hl0:0≤x.rule∧x.rule≤5:=by rw [ht.rule];exact Gv _ _ _
      have hst:=Ea ht;have hrf:=N9 ht;have hti:=ht.i;have hlen:=BZ g l pre.length;have HI:=hide hi.1;have HST:=hide hst;have HRF:=hide hrf;have HX:=hide AP;have Ug:=HL.out.2.2;have Zg:=hide hK3;have HOW:=hide lu;have hsz3:=hi.1.sz;clear hst hrf AP hi ht hW1 h18 hF hZ hbx hK3 lu;have e31:=hE1.cell (j:=31) rfl;have c9:=hV1.cell (j:=0) rfl;have f9:=hV1.frozen 0;apply wpIn_seq_k;intro K2 hK2;refine aZ (by kernel_rfl) (by rintro ⟨_,_,h⟩;exact h) ?_;go_wp2;refine wpIn_cond_split rfl (fun h=>?_) (fun h=>?_)
      · have h0:x.rule≠0:=by simpa using h
        clear h;obtain ⟨i0,hi0,hz0,hz1,hz2⟩:=info_parts VE;refine aZ (by kernel_rfl) (by rintro ⟨_,_,h⟩;exact h) ?_
        go_wp2_with (at_builtin;refine wpList_append_lies _ rfl _ _ _ rfl (w3.heap.size) 140 i0 (.agg #[.int .i64 0,.int .i64 0]) 2 16 Tryz.underlying47 hi0 hz0 hz1 hz2 rfl (by omega) _ _ _ rfl (hown1.own.alloc _) ⟨W.heap.size,0,none⟩ 1 1 [.int .i64 ((pre.length:Int)+1),.int .i64 x.rule] rfl rfl (jK _ _ _ _ hs1) ?c1 (by omega) ?c2 ?c3 ?c4 (W.heap.size+1) (by simp [hs1]) ?_)
        case c1=>simp [Value.oneCell']
        case c2=>simp only [maxLen];omega
        case c3=>omega
        case c4=>simp;omega
        intro g1 cap w4 hown4 hgrow hat hlt4;obtain ⟨WB,WA,Oe,yG⟩:=Af hV1 (by omega) hown1 (fun b hb=>by have:=(HX.out b hb).2;omega) (by omega) hgrow hown4 hat (by omega);have f94:=WB.frozen 0;have c94:=WB.cell (j:=0) rfl;have hob:∀ b,v.ownBlock=some b→w3.heap.size≤b:=fun b h=>(gK hown1.own h).1;have Zm:=(hT1.mono (fun b h=> .inl h)).trans (WA.mono (X':=fun b=>b=B8∨b=wc.heap.size∨v.ownBlock=some b) (fun b h=> .inr h)) (fun b h=> .inl h)
        have fin:=Cb (Ix:=(fun _ _ _ _=>False)) (a:={tmps:= #[],defers:=[] }) (x:=x) HI.out (boxes:=(fun k=>[(B8,aC (jr g l k),26),(w.heap.size+1,aC Sk.zero,26)])) (e:=140) (ty:=47) (size:=2) (B:=wc.heap.size) (len:=fun k=>(kU g l k).length) (rows:=fun k=>WV (kU g l k)) (by omega) HX.out Zg.out Zm (by
         rintro b (h | h | h)
         · refine .inl ⟨by omega,by omega,?_⟩
           rintro (h2 | h2 | ⟨_,h2⟩) <;> omega
         · refine .inl ⟨by omega,by omega,?_⟩
           rintro (h2 | h2 | ⟨_,h2⟩) <;> omega
         · exact .inr (WU HOW.out h)) (by
         intro p hp
         have hp2:p=(B8,aC (jr g l (pre.length+1)),26)∨p=(w.heap.size+1,aC Sk.zero,26):=by simpa using hp
         rcases hp2 with rfl | rfl
         · show Held _ B8 (aC (jr g l (pre.length+1))) 26
           rw [HST.out]
           exact hF1.turn WA (by
            rintro (h2 | h2)
            · omega
            · have:=hob _ h2;omega)
         · exact hZ1.turn WA (by
            rintro (h2 | h2)
            · omega
            · have:=hob _ h2;omega)) ⟨_,Oe,by
         have e:kU g l (pre++[x]).length=kU g l pre.length++[⟨(pre.length:Int)+1,x.rule⟩]:=by
          rw [List.length_append,List.length_singleton,HRF.out,if_neg h0]
         dsimp only
         rw [e,List.length_append,List.length_singleton,J4]
         exact yG⟩
        have FIN:=hide fin;clear fin Zm WA yG Oe hob hE1 hV1 hF1 hZ1 hown1 e31 c9 f9 hgrow hown4;go_wp2;exact FIN.out
      · have h0:x.rule=0:=by simpa using h
        clear h;refine wpIn_skip ?_
        simp only [Exit.inBlock]
        refine Cb HI.out (by omega) HX.out Zg.out hT1 ?_ ?_ ⟨v,hV1,?_⟩
        · rintro b rfl
          refine .inl ⟨by omega,by omega,?_⟩
          rintro (h2 | h2 | ⟨_,h2⟩) <;> omega
        · intro p hp
          have hp2:p=(B8,aC (jr g l (pre.length+1)),26)∨p=(w.heap.size+1,aC Sk.zero,26):=by simpa using hp
          rcases hp2 with rfl | rfl
          · show Held _ B8 (aC (jr g l (pre.length+1))) 26
            rw [HST.out];exact hF1
          · exact hZ1
        · rw [List.length_append,List.length_singleton]
          dsimp only
          rw [HRF.out,if_pos h0,List.append_nil];exact hown1
     case done=>
      intro D X Y xs W hD hS hi hdef;obtain ⟨v,hV,lu⟩:=hi.2;have hF:Held W B8 (aC (jr g l xs.length)) 26:=hi.1.bx (B8,aC (jr g l xs.length),26) (by simp);have hZ:Held W (w.heap.size+1) (aC Sk.zero) 26:=hi.1.bx (w.heap.size+1,aC Sk.zero,26) (by simp);rw [hS,Td] at hF;rw [hS] at lu
      dsimp only at lu
      rw [BX] at lu;obtain ⟨A2,c2,rfl⟩:=yN lu.own;have hbw:=hi.1.bw;have hWs:=hi.1.sz
      have hlr:(Sk.iE g (Sk.start g) 1 (bare l)).length≤1000:=by have:=BZ g l l.length;rw [BX] at this;have:=HL.out.2.2;omega
      have hrg:∀ W':World,(fun w':World=>(∀ q,w'.cell? ⟨B8,q,none⟩=W.cell? ⟨B8,q,none⟩)∧(∀ q,w'.cell? ⟨wc.heap.size,q,none⟩=W.cell? ⟨wc.heap.size,q,none⟩)) W'→W'.rangeAt B8 0 (aC (Sk.final g (Sk.start g) (bare l))):=fun W' h j v hj=>by rw [h.1];exact hF.range j v hj
      have c9:=hV.cell (j:=0) rfl;have Ip:=hide hdef;have hZ5:=(hZ.drew).whole (aC (Sk.final g (Sk.start g) (bare l))) rfl;have ho5:∀ b,b≠w.heap.size+1→((W.drew).setCells (w.heap.size+1) 0 (aC (Sk.final g (Sk.start g) (bare l)))).heap[b]? =W.heap[b]? :=fun b hb=>Held.lY hb (aC (Sk.final g (Sk.start g) (bare l))) 0 W.drew;have wB:Below w.heap.size w ((W.drew).setCells (w.heap.size+1) 0 (aC (Sk.final g (Sk.start g) (bare l)))):=below_setCells _ (by omega) _ _ _ _ (show Below w.heap.size w W.drew from ⟨hbw.os,hbw.tape,hbw.output,hbw.size,hbw.block⟩)
      have fin:∀ (a:Act),a.defers=[{target:= .collected D,args:= #[] }]→a.tmps.getD 4 undef=ptr (w.heap.size+1)→a.tmps.getD 5 undef= .slice A2 (Sk.iE g (Sk.start g) 1 (bare l)).length c2→a.tmps.getD 6 undef= .int .i64 0→Q' .ret a ((W.drew).setCells (w.heap.size+1) 0 (aC (Sk.final g (Sk.start g) (bare l)))):=by
       intro a e1 e4 e5 e6;have hd5:=(ho5 D (by omega)).trans Ip.out;rw [← HQ.out];refine mF e1 hd5 (DL (p:=4) (hZ5.putObj hd5 rfl _) Tryz.underlying26 rfl aj rfl _ e4) ⟨A2,c2,?_,?_,jQ wB (by omega) _⟩
       · rw [e5,e6,HE.out,Fv.out.1,Fv.out.2,h0];rfl
       · rw [Fv.out.2]
         exact Reads.Bz (jo lu.own (fun g hg=>by
          have h1:=gK lu.own hg
          have hne:g≠D:=fun e=>by
           obtain ⟨_,o2,h2,h3⟩:=h1;rw [e,Ip.out] at h2;cases h2;cases h3
          exact (World.putObj_heap_other hne).trans (ho5 g (by omega)))) (fun g hg=>by omega) (by omega)
      have FIN:=hide fin;clear fin hZ5 wB hi hdef lu hV;refine XG _ _ ?_
      dsimp only
      refine lW ?_
      go_upto_region 12 with (fail)
      go_cut [5,6] from 38 to 40 (fun v5 v6 wx=>v5= .slice A2 (Sk.iE g (Sk.start g) 1 (bare l)).length c2∧v6= .int .i64 0∧wx=((W.drew).setCells (w.heap.size+1) 0 (aC (Sk.final g (Sk.start g) (bare l)))))
      case first=>
       refine wp_region_held_drew (S:=(fun w':World=>(∀ q,w'.cell? ⟨B8,q,none⟩=W.cell? ⟨B8,q,none⟩)∧(∀ q,w'.cell? ⟨wc.heap.size,q,none⟩=W.cell? ⟨wc.heap.size,q,none⟩))) (by kernel_rfl) ?bg (fun hHeld=>?_)
       case bg=>first | exact hk3 | exact ⟨fun q=>rfl,fun q=>rfl⟩
       refine bD 0 hrg Tryz.underlying26 ?_;refine aA 1 ?_;refine aB 2 fun K hK=>?_;have hk3:(∀ q,((W.drew).setCells (w.heap.size+1) 0 (aC (Sk.final g (Sk.start g) (bare l)))).cell? ⟨B8,q,none⟩=W.cell? ⟨B8,q,none⟩)∧(∀ q,((W.drew).setCells (w.heap.size+1) 0 (aC (Sk.final g (Sk.start g) (bare l)))).cell? ⟨wc.heap.size,q,none⟩=W.cell? ⟨wc.heap.size,q,none⟩):=⟨fun q=>World.cell?_of_block (ho5 B8 (by omega)),fun q=>World.cell?_of_block (ho5 wc.heap.size (by omega))⟩;refine aQ (hZ.drew) (aC (Sk.final g (Sk.start g) (bare l))) rfl aj (aT _) (.tmp 4) (.tmp 38) rfl rfl rfl ?_;refine ak hK (by first | (first | exact hk3 | exact ⟨fun q=>rfl,fun q=>rfl⟩) | (dsimp only;first | exact hk3 | exact ⟨fun q=>rfl,fun q=>rfl⟩)) fun hHeld=>?_;clear hK K;refine aA 3 ?_;refine aA 4 ?_;refine wpAnyH_done (by kernel_rfl) ?_ _;go_wp2;go_meet;exact ⟨rfl,rfl,rfl⟩
      case rest=>
       obtain ⟨rfl,rfl,rfl⟩:=hcut;go_wp2;exact FIN.out _ rfl rfl rfl rfl
  · have h0':(E != 0)=true:=by simp [h0]
    have hrs:YU g l=Sk.zero∧VG g l=[]:=by
     have:=HE.out
     exact ⟨by unfold YU;rw [if_neg (by rw [this];exact h0)],by unfold VG;rw [if_neg (by rw [this];exact h0)]⟩
    have Fv:=hide hrs;clear h0 hrs
    go_wp2_with (first | ((with_reducible refine bJ 23 2 ?_);refine dW (hB.au rfl) Tryz.underlying23 dQ ?_) | (go_at_call 20;refine (qJ.out _ (hp.below hB.bw)).mono ?_;rintro e w1 ⟨rfl,hb1⟩;have hB1:=hB.call (by simp) hb1) | ((with_reducible refine isS 26 4 17 ?_);refine fU (hB1.get 1 rfl) (aC Sk.zero) aj (aT _) ?_))
    have hF:=hB1.put 1 rfl (aC Sk.zero) rfl;rw [← HQ.out];refine wE (DL (p:=4) (hF.get 1 rfl) Tryz.underlying26 rfl aj rfl _ rfl) rfl ⟨none,0,?_,?_,hF.bw⟩
    · rw [Fv.out.1,Fv.out.2,HE.out];rfl
    · rw [Fv.out.2];exact Reads.none_ _ _ _
def tC (g:Sk.Game) (p:Int) (s:Sk.State) (e:Sk.Entry) (sum:Int):Int:=if Sk.legal g s e=0∧e.kind=Sk.cO∧s.turn=p then sum+(Sk.judge g s e).points else sum
def wW (s t:Sk.State):Bool:=decide (t.turn=s.turn∧t.ay<0)
def nZ (x:List Int × Int) (sum:Int) (go:Bool):List Int × Int:=if go=true then (x.1,sum) else (x.1++(if 0<sum then [sum] else []),0)
def sZ (g:Sk.Game) (p:Int) (l:List En):Nat→List Int × Int
 | 0=>([],0)
 | k+1=>match l[k]? with
   | none=>sZ g p l k
   | some e=>nZ (sZ g p l k) (tC g p (jr g l k) e.x (sZ g p l k).2) (wW (jr g l k) (Sk.step g (jr g l k) e.x) && decide (k+1<l.length))
theorem Ag (g:Sk.Game) (p:Int) (l:List En) (k:Nat) {e:En} (h:l[k]? =some e):sZ g p l (k+1)=nZ (sZ g p l k) (tC g p (jr g l k) e.x (sZ g p l k).2) (wW (jr g l k) (Sk.step g (jr g l k) e.x) && decide (k+1<l.length)):=by
 rw [sZ,h]
theorem TB {g:Sk.Game} {l:List En} {X Y:Nat→Prop} {pre:List Stp} {x:Stp} {W:World} (p:Int) (ht:rV g l X Y pre x W):sZ g p l (pre.length+1)=nZ (sZ g p l pre.length) (tC g p x.s x.e.x (sZ g p l pre.length).2) (wW x.s x.t && decide (pre.length+1<l.length)):=by
 rw [Ag g p l _ ht.e, ← ht.s, ← ht.t]
theorem OB (g:Sk.Game) (p:Int) (l:List En):∀ k,k≤l.length→(sZ g p l k).1++Sk.qP g p (jr g l k) (sZ g p l k).2 (bare (l.drop k))=Sk.breaks g p (bare l)
 | 0,_=>by
   rw [sZ,rM];rfl
 | k+1,hk=>by
   have ih:=OB g p l k (by omega);have hg:l[k]? =some l[k]:=List.getElem?_eq_getElem (by omega);rw [Ag g p l k hg,rJ g l k (by omega), ← ih,List.drop_eq_getElem_cons (by omega:k<l.length)];obtain ⟨e,he⟩:∃ e,l[k]=e:=⟨_,rfl⟩;rw [he];obtain ⟨s,hs⟩:∃ s,jr g l k=s:=⟨_,rfl⟩;obtain ⟨x,hx⟩:∃ x,sZ g p l k=x:=⟨_,rfl⟩;rw [hs,hx];have hb:bare (e::l.drop (k+1))=e.x::bare (l.drop (k+1)):=rfl;rw [hb,Sk.qP]
   have hne:(bare (l.drop (k+1))≠[])↔k+1<l.length:=by
    rw [← List.length_pos_iff,kQ,List.length_drop];omega
   show _=x.1++(if (Sk.step g s e.x).turn=s.turn∧(Sk.step g s e.x).ay<0∧bare (l.drop (k+1))≠[] then _ else _)
   by_cases hc:(Sk.step g s e.x).turn=s.turn∧(Sk.step g s e.x).ay<0∧k+1<l.length
   · have hgo:(wW s (Sk.step g s e.x) && decide (k+1<l.length))=true:=by unfold wW;simp [hc]
     rw [nZ,if_pos hgo,if_pos ⟨hc.1,hc.2.1,hne.2 hc.2.2⟩]
     rfl
   · have hgo:(wW s (Sk.step g s e.x) && decide (k+1<l.length))=false:=by
      cases h:(wW s (Sk.step g s e.x) && decide (k+1<l.length))
      · rfl
      · unfold wW at h
        rw [Bool.and_eq_true,decide_eq_true_eq,decide_eq_true_eq] at h;exact absurd ⟨h.1.1,h.1.2,h.2⟩ hc
     have hno:¬ ((Sk.step g s e.x).turn=s.turn∧(Sk.step g s e.x).ay<0∧bare (l.drop (k+1))≠[]):=fun h=>hc ⟨h.1,h.2.1,hne.1 h.2.2⟩;rw [nZ,if_neg (by rw [hgo];decide),if_neg hno];rw [List.append_assoc]
     rfl
theorem Xt (g:Sk.Game) (p:Int) (l:List En):(sZ g p l l.length).1=Sk.breaks g p (bare l):=by
 have:=OB g p l l.length (Nat.le_refl _)
 rw [List.drop_length] at this
 simpa [bare,Sk.qP] using this
theorem zk {g:Sk.Game} {p:Int} {s:Sk.State} {e:Sk.Entry} {sum:Int} (ho:Sk.Ok g s) (hk:Sk.dH g e=0):sum≤tC g p s e sum∧tC g p s e sum≤sum+1000000:=by
 unfold tC
 split
 · rename_i h
   have hc:=(Sk.mV.1 h.1).call;have hv:=Sk.uh g s e ho.inr.colour (fun hg hp=>by have:=Sk.oZ hk h.2.1 hc hg hp;omega);have hu:=Sk.Gj (g:=g) (s:=s) (e:=e) ho.inr.colour.2 (Sk.xg hk h.2.1)
   have:=hv.points
   omega
 · omega
theorem Ah {g:Sk.Game} {p:Int} {l:List En} (hg:Sk.dM g=0) (hl:∀ e∈l,Sk.dH g e.x=0):∀ k,k≤l.length→0≤(sZ g p l k).2∧(sZ g p l k).2≤1000000*k∧(sZ g p l k).1.length≤k
 | 0,_=>by rw [sZ];simp
 | k+1,hk=>by
   have ih:=Ah hg hl k (p:=p) (by omega);have he:l[k]? =some l[k]:=List.getElem?_eq_getElem (by omega);have ha:=zk (p:=p) (sum:=(sZ g p l k).2) (zY hg hl k (by omega)) (hl _ (List.getElem_mem (by omega:k<l.length)));rw [Ag g p l k he]
   unfold nZ
   split
   · dsimp only;omega
   · dsimp only
     rw [List.length_append];refine ⟨by omega,by omega,?_⟩
     split
     · rw [List.length_singleton];omega
     · simp;omega
theorem Vk:(Tryz.prog.info? 3).map (fun i=>(i.zero,i.size,i.bytes))=some (some (.int .i64 0),1,8):=by kernel_rfl
def V6 (g:Sk.Game) (l:List En) (p:Int):Int:=fst [Sk.iO g (bare l),jg (Sk.out p 0 1) 3]
def V7 (g:Sk.Game) (l:List En) (p:Int):List Int:=if V6 g l p=0 then Sk.breaks g p (bare l) else []
theorem OA {g:Sk.Game} {l:List En} {p:Int} (h:V6 g l p=0):Sk.iO g (bare l)=0∧(p=0∨p=1):=by
 unfold V6 at h
 rw [xB] at h
 by_cases h1:Sk.iO g (bare l)=0
 · rw [if_neg (by simpa using h1),Ia (by decide)] at h
   refine ⟨h1,?_⟩
   unfold Sk.out at h
   simp at h
   omega
 · rw [if_pos h1] at h;exact absurd h h1
theorem Oa {v:Sk.dI} {w:World}:(Instr.field 78 (FD v) 0).run Tryz.prog w= .ok (.int .i64 v.points) w:=by kernel_rfl
theorem Turn.refl' (X:Nat→Prop) (W:World):Turn X W W:=Turn.refl X W
theorem VO (x:Stp):∀ j v,(dn x.e)[j]? =some v→(qI x)[0+j]? =some v:=by
 intro j v hj;have hl:j<5:=(List.getElem?_eq_some_iff.1 hj).1
 unfold qI
 rw [Nat.zero_add,List.append_assoc,List.append_assoc,List.getElem?_append_left (by simp [dn];omega)];exact hj
theorem VP (x:Stp):∀ j v,(aC x.s)[j]? =some v→(qI x)[5+j]? =some v:=by
 intro j v hj;have hl:j<13:=(List.getElem?_eq_some_iff.1 hj).1
 unfold qI
 rw [List.append_assoc,List.append_assoc,List.getElem?_append_right (by simp [dn]),List.getElem?_append_left (by simp [dn,aC];omega)];rw [show 5+j - (dn x.e).length=j by simp [dn]];exact hj
theorem nK {W W':World} {n Be:Nat} (h:Below W.heap.size W W') (hn:n≤W.heap.size) (he:Be<W.heap.size):(∀ p q,p<n→W'.cell? ⟨p,q,none⟩=W.cell? ⟨p,q,none⟩)∧(∀ q,W'.cell? ⟨Be,q,none⟩=W.cell? ⟨Be,q,none⟩):=
 ⟨fun p q hp=>h.cell (p:=⟨p,q,none⟩) (Nat.lt_of_lt_of_le hp hn),fun q=>h.cell (p:=⟨Be,q,none⟩) he⟩
theorem EL {W W':World} {n Be B:Nat} {v:Value} (h:Below W.heap.size W W') (hn:n≤W.heap.size) (he:Be<W.heap.size) (h1:n≤B) (h2:Be≠B):(∀ p q,p<n→(W'.setCell ⟨B,0,none⟩ v).cell? ⟨p,q,none⟩=W.cell? ⟨p,q,none⟩)∧(∀ q,(W'.setCell ⟨B,0,none⟩ v).cell? ⟨Be,q,none⟩=W.cell? ⟨Be,q,none⟩):=
 ⟨fun p q hp=>(World.cell?_setCell_other _ _ _ _ (by intro h;injection h;omega)).trans (h.cell (p:=⟨p,q,none⟩) (Nat.lt_of_lt_of_le hp hn)),fun q=>(World.cell?_setCell_other _ _ _ _ (by intro h;injection h;omega)).trans (h.cell (p:=⟨Be,q,none⟩) he)⟩
theorem xW (S:Nat→Prop) (g:Sk.Game) (l:List En) (A:Option Addr) (c:Nat) (p:Int) (w:World) (hp:ni w S A c l):
 Calls Tryz.prog 26 #[lX g,.slice A l.length c,.int .i64 p] w fun e w'=>∃ A2 c2,e= .returned (.tuple #[.slice A2 (V7 g l p).length c2,.int .i64 (V6 g l p)])∧nI w' (fun b=>w.heap.size≤b) A2 c2 (V7 g l p)∧Below w.heap.size w w':=by
 refine callsIn_wide.1 (callsIn_of_wp_marks (F:=Fence.wide) (n:=5) Tryz.func26 rfl trivial ?_ rfl)
 simp only [Tryz.ntmps26,List.size_toArray,List.length_cons,List.length_nil,Nat.reduceAdd,Nat.reduceSub,Array.replicate_succ,
  Array.replicate_zero,List.push_toArray,List.append_toArray,List.nil_append,List.cons_append]
 refine wpIn_wide.2 ?_
 generalize hQ':bodyPostM Fence.wide 5 Tryz.prog _ _=Q'
 have HQ:=hide hQ';clear hQ';refine lW ?_
 go_upto_region 0 with (fail)
 go_cut [3,4,5] from 3 to 8 (fun v3 v4 v5 wx=>v3=ptr w.heap.size∧v4=ptr (w.heap.size+1)∧v5=ptr (w.heap.size+2)∧aG w wx [(bK g,23),([.slice A l.length c],27),([.int .i64 p],3)])
 case first=>
  go_wp2;go_meet;exact ⟨rfl,rfl,rfl,((((aG.nil w).new (by simp) (bK g) _).new (by simp) ([.slice A l.length c]) _).new (by simp) ([.int .i64 p]) _)⟩
 case rest=>
  obtain ⟨rfl,rfl,rfl,hB⟩:=hcut;have hsz:=hB.size (by simp)
  simp only [List.length_cons,List.length_nil] at hsz
  have k1:=(hB.get 1 rfl).cell (j:=0) rfl;have k2:=(hB.get 2 rfl).cell (j:=0) rfl
  have hrG:∀ W:World,(fun w':World=>∀ p q,p<w.heap.size+3→w'.cell? ⟨p,q,none⟩=wc.cell? ⟨p,q,none⟩) W→W.rangeAt w.heap.size 0 (bK g):=fun W h j v hj=>by rw [h _ _ (by omega)];exact (hB.au rfl).range j v hj
  go_upto_region 1 with (fail)
  go_cut [8] from 8 to 21 (fun v8 wx=>v8= .int .i64 (V6 g l p)∧aG w wx [(bK g,23),([.slice A l.length c],27),([.int .i64 p],3)])
  case first=>
   refine wp_region_held_drew (S:=(fun w':World=>∀ p q,p<w.heap.size+3→w'.cell? ⟨p,q,none⟩=wc.cell? ⟨p,q,none⟩)) (by kernel_rfl) ?dJ (fun hHeld=>?_)
   case dJ=>exact fun p q h=>rfl
   refine bD 0 hrG Tryz.underlying23 ?_;refine aA 1 ?_;refine aA 3 ?_;refine aB 2 fun K hK=>?_;go_simp
   (go_at_call 20;refine (qm S g l A c _ (hp.below hB.drew.bw)).mono ?_;rintro e1 w1 ⟨rfl,hb1⟩;have hb8:Below wc.heap.size wc w1:=⟨hb1.os,hb1.tape,hb1.output,hb1.size,hb1.block⟩;have hB1:=hB.drew.call (by simp) hb1)
   refine ak hK (fun p q h=>hb8.cell (p:=⟨p,q,none⟩) (Nat.lt_of_lt_of_le h hsz)) fun hHeld=>?_;clear hK K;refine aB 4 fun K hK=>?_;go_simp
   (go_at_call 66;refine (jm _ _ _ _).mono ?_;rintro e1 qK ⟨rfl,rfl⟩)
   refine ak hK (by first | exact fun p q h=>hb8.cell (p:=⟨p,q,none⟩) (Nat.lt_of_lt_of_le h hsz) | exact fun p q h=>rfl) fun hHeld=>?_;clear hK K;refine aB 5 fun K hK=>?_;go_simp
   (go_at_call 64;refine (dL _ _ _).mono ?_;rintro e1 qK ⟨rfl,rfl⟩)
   refine ak hK (by first | exact fun p q h=>hb8.cell (p:=⟨p,q,none⟩) (Nat.lt_of_lt_of_le h hsz) | exact fun p q h=>rfl) fun hHeld=>?_;clear hK K;refine aB 6 fun K hK=>?_;go_simp;refine ak hK (fun p q h=>(hb8.alloc hb8.size _).cell (p:=⟨p,q,none⟩) (Nat.lt_of_lt_of_le h hsz)) fun hHeld=>?_;clear hK K;refine aB 7 fun K hK=>?_;go_simp
   (go_at_call 67;refine (iK (fun _=>True) _ _ [Sk.iO g (bare l),jg (Sk.out p 0 1) 3] _ (nI.row _ _ [Sk.iO g (bare l),jg (Sk.out p 0 1) 3] (by simp) _ trivial)).mono ?_;rintro e1 qK ⟨rfl,rfl⟩)
   refine ak hK (fun p q h=>(hb8.alloc hb8.size _).cell (p:=⟨p,q,none⟩) (Nat.lt_of_lt_of_le h hsz)) fun hHeld=>?_;clear hK K;refine aA 8 ?_;refine wpAnyH_done (by kernel_rfl) ?_ _;go_wp2;go_meet;exact ⟨rfl,hB1.alloc (by simp) _⟩
  case rest=>
   obtain ⟨rfl,hB1⟩:=hcut;clear hB k1 k2 hrG hsz;obtain ⟨E,hE⟩:∃ E,V6 g l p=E:=⟨_,rfl⟩;have HE:=hide hE;rw [hE];clear hE
   by_cases h0:E=0
   · have h0':(E != 0)=false:=by simp [h0]
     have WG:=HE.out.trans h0;have HL:=hide (tK (OA WG).1);have hkn:=Sk.nM HL.out.1;have Fv:=hide (show V7 g l p=Sk.breaks g p (bare l) by unfold V7;rw [if_pos WG]);clear WG
     go_upto_region 4 with (fail)
     go_cut [9] from 9 to 10 (fun v9 wx=>∃ B9,v9=ptr B9∧w.heap.size+3≤B9∧Held wx B9 [.slice none 0 0] 50∧aG w wx [(bK g,23),([.slice A l.length c],27),([.int .i64 p],3)])
     case first=>
      go_wp2;go_meet;have hs1:=hB1.size (by simp)
      simp only [List.length_cons,List.length_nil] at hs1
      exact ⟨wc.heap.size,rfl,by omega,Held.new wc [.slice none 0 0] 50,hB1.alloc (by simp) _⟩
     case rest=>
      obtain ⟨B9,rfl,kC,Pn,hB2⟩:=hcut;clear hB1
      go_upto_region 5 with (fail)
      go_cut [10] from 10 to 11 (fun v10 wx=>∃ B10,v10=ptr B10∧B9<B10∧Held wx B10 [.int .i64 0] 3∧Held wx B9 [.slice none 0 0] 50∧aG w wx [(bK g,23),([.slice A l.length c],27),([.int .i64 p],3)])
      case first=>
       have hz0:=Held.new wc [.int .i64 0] 3;have hs0:=hB2.size (by simp)
       simp only [List.length_cons,List.length_nil] at hs0
       have hl9:=Pn.lt;go_wp2;go_meet;exact ⟨wc.heap.size,rfl,hl9,hz0,Pn.alloc _,hB2.alloc (by simp) _⟩
      case rest=>
       obtain ⟨B10,rfl,axo,abf,amK,hB3⟩:=hcut;clear hB2 Pn;have hs3:=hB3.size (by simp)
       simp only [List.length_cons,List.length_nil] at hs3
       have k1:=(hB3.get 1 rfl).cell (j:=0) rfl
       go_wp2_with (first | ((with_reducible refine bJ 23 3 ?_);refine dW (hB3.au rfl) Tryz.underlying23 dQ ?_) | (go_at_call 75;refine (qH g _ _ _ _).mono ?_;rintro e w3 ⟨rfl,hC⟩))
       rename_i KQ XG
       have hD3:wc.heap.size+2≤w3.heap.size:=by
        have:=hC.size (by simp)
        simp only [List.length_cons,List.length_nil] at this
        omega
       have hb3:=hB3.bw.trans (hC.bw.mono (by omega));have axg:=abf.lt;have hGm:Held w3 wc.heap.size (bK g) 23:=hC.au rfl;have Ph:Held w3 (wc.heap.size+1) [.slice A l.length c] 27:=hC.get 1 rfl
       have hK3:∀ b,(fun b=>b=wc.heap.size+0∨b=wc.heap.size+1∨(S b∧b<w.heap.size)) b→b<w3.heap.size:=by rintro b (h | h | ⟨_,h⟩) <;> omega
       have hLK:ni w3 (fun b=>b=wc.heap.size+0∨b=wc.heap.size+1∨(S b∧b<w.heap.size)) A c l:=(hp.more (S':=(fun b=>b=wc.heap.size+0∨b=wc.heap.size+1∨(S b∧b<w.heap.size))) (fun b hb h=> .inr (.inr ⟨h,hb⟩))).below hb3;have _HL:=trivial;have hG3:Held w3 w.heap.size (bK g) 23:=(hB3.au rfl).below hC.bw;have hL3:Held w3 (w.heap.size+1) [.slice A l.length c] 27:=(hB3.get 1 rfl).below hC.bw;have hP3:Held w3 (w.heap.size+2) [.int .i64 p] 3:=(hB3.get 2 rfl).below hC.bw;have hS3:Held w3 B10 [.int .i64 0] 3:=abf.below hC.bw;have hA3:Held w3 B9 [.slice none 0 0] 50:=amK.below hC.bw
       have hbd:∀ k,∀ p'∈((fun k=>[(w.heap.size,bK g,23),(w.heap.size+1,[.slice A l.length c],27),(w.heap.size+2,[.int .i64 p],3),(B10,[.int .i64 (sZ g p l k).2],3)]) k),p'.1<w3.heap.size:=by
        intro k p' hp'
        have hp2:p'=(w.heap.size,bK g,23)∨p'=(w.heap.size+1,[.slice A l.length c],27)∨p'=(w.heap.size+2,[.int .i64 p],3)∨p'=(B10,[.int .i64 (sZ g p l k).2],3):=by simpa using hp'
        rcases hp2 with rfl | rfl | rfl | rfl
        · show w.heap.size<w3.heap.size;omega
        · show w.heap.size+1<w3.heap.size;omega
        · show w.heap.size+2<w3.heap.size;omega
        · show B10<w3.heap.size;omega
       have ZO:=hide hbd;clear hbd;refine (wpIn_wide (n:=5)).1 ?_
       refine jI (F:=Fence.wide) rfl (by decide) rfl trivial (fun _ _=>rfl) (pU g l A c (fun b=>b=wc.heap.size+0∨b=wc.heap.size+1∨(S b∧b<w.heap.size)) _ _ 4 w3 (by decide) HL.out.1 HL.out.2.1 HL.out.2.2 hK3 hGm (.inl rfl) Ph (.inr (.inl rfl)) hLK) hK3 (Below.refl _ _) (fun _=>rfl) (Ef w w3.heap.size (fun k=>[(w.heap.size,bK g,23),(w.heap.size+1,[.slice A l.length c],27),(w.heap.size+2,[.int .i64 p],3),(B10,[.int .i64 (sZ g p l k).2],3)]) 3 50 1 B9 (fun k=>(sZ g p l k).1.length) (fun k=>(sZ g p l k).1.map (Value.int .i64))) (fun _ _ _ _=>False) (Ef.abides (by omega) (by omega) ZO.out) (fun _ _ _ _ _ _ _ h _ _ _=>h)
        (fun X Y pre W lp o o' h hlp hl ho=>?ip) (fun _ _ _ _ _ _ _ h _ _ _=>h) (fun X Y pre x W lp o o' h hlp hl ho=>h.putObj) ?h0 (fun x a W=>∃ Be v0 v1 v2 v6 v7 v8 v13 v14 v15 v16 v17 v18 v19 v20 v21 v22 v23 v24 v25 v26 v27 v28 v29 v30 v31 v32 v33 v34 v35 v36 v37 v38 v39 v40 v41 v42 v43 v44 v45 v46 v47 v48 v49 v50 v51 v52 v53 v54 v55 v56 v57 v58 v59 v60 v61 v62 v63 v64 v65 v66 v67 v68 v69 v70 v71 v72 v73 v74 v75 v76 v77 v78 v79 v80 v81 v82 v83,a= {tmps:= #[v0,v1,v2,ptr w.heap.size,ptr (w.heap.size+1),ptr (w.heap.size+2),v6,v7,v8,ptr B9,ptr B10,.int .i64 ((x.i:Int)+1),ptr Be,v13,v14,v15,v16,v17,v18,v19,v20,v21,v22,v23,v24,v25,v26,v27,v28,v29,v30,v31,v32,v33,v34,v35,v36,v37,v38,v39,v40,v41,v42,v43,v44,v45,v46,v47,v48,v49,v50,v51,v52,v53,v54,v55,v56,v57,v58,v59,v60,v61,v62,v63,v64,v65,v66,v67,v68,v69,v70,v71,v72,v73,v74,v75,v76,v77,v78,v79,v80,v81,v82,v83],defers:=[] }∧w3.heap.size≤Be∧Held W Be (qI x) 138) ?assign ?ap ?body ?done ?stop
       case ap=>
        rintro x a' W lp o o' ⟨Be,v0,v1,v2,v6,v7,v8,v13,v14,v15,v16,v17,v18,v19,v20,v21,v22,v23,v24,v25,v26,v27,v28,v29,v30,v31,v32,v33,v34,v35,v36,v37,v38,v39,v40,v41,v42,v43,v44,v45,v46,v47,v48,v49,v50,v51,v52,v53,v54,v55,v56,v57,v58,v59,v60,v61,v62,v63,v64,v65,v66,v67,v68,v69,v70,v71,v72,v73,v74,v75,v76,v77,v78,v79,v80,v81,v82,v83,e2,h1,h2⟩ hlp hl ho
        exact ⟨Be,v0,v1,v2,v6,v7,v8,v13,v14,v15,v16,v17,v18,v19,v20,v21,v22,v23,v24,v25,v26,v27,v28,v29,v30,v31,v32,v33,v34,v35,v36,v37,v38,v39,v40,v41,v42,v43,v44,v45,v46,v47,v48,v49,v50,v51,v52,v53,v54,v55,v56,v57,v58,v59,v60,v61,v62,v63,v64,v65,v66,v67,v68,v69,v70,v71,v72,v73,v74,v75,v76,v77,v78,v79,v80,v81,v82,v83,e2,h1,h2.putObj hl ho _⟩
       case stop=>exact fun _ _ _ _ _ _ _ h _=>h.elim
       case assign=>
        intro lp X Y pre x W K' hi ht hk AP;have hb:=((Below.refl W.heap.size W).alloc (Nat.le_refl _) (.cells jD.toArray 138));have hb':=below_setCells W.heap.size (Nat.le_refl _) (qI x) 0 _ _ hb;have hE0:=Held.new W jD 138;have hsz:w3.heap.size≤W.heap.size:=?szi
        case szi=>exact hi.1.sz
        have fin:∀ v0 v1 v2 v6 v7 v8 v13 v14 v15 v16 v17 v18 v19 v20 v21 v22 v23 v24 v25 v26 v27 v28 v29 v30 v31 v32 v33 v34 v35 v36 v37 v38 v39 v40 v41 v42 v43 v44 v45 v46 v47 v48 v49 v50 v51 v52 v53 v54 v55 v56 v57 v58 v59 v60 v61 v62 v63 v64 v65 v66 v67 v68 v69 v70 v71 v72 v73 v74 v75 v76 v77 v78 v79 v80 v81 v82 v83:Value,K' {tmps:= #[v0,v1,v2,ptr w.heap.size,ptr (w.heap.size+1),ptr (w.heap.size+2),v6,v7,v8,ptr B9,ptr B10,.int .i64 ((x.i:Int)+1),ptr W.heap.size,v13,v14,v15,v16,v17,v18,v19,v20,v21,v22,v23,v24,v25,v26,v27,v28,v29,v30,v31,v32,v33,v34,v35,v36,v37,v38,v39,v40,v41,v42,v43,v44,v45,v46,v47,v48,v49,v50,v51,v52,v53,v54,v55,v56,v57,v58,v59,v60,v61,v62,v63,v64,v65,v66,v67,v68,v69,v70,v71,v72,v73,v74,v75,v76,v77,v78,v79,v80,v81,v82,v83],defers:=[] } ((W.alloc (.cells jD.toArray 138)).setCells W.heap.size 0 (qI x)):=fun _ _ _ _ _ _ _ _ _ _ _ _ _ _ _ _ _ _ _ _ _ _ _ _ _ _ _ _ _ _ _ _ _ _ _ _ _ _ _ _ _ _ _ _ _ _ _ _ _ _ _ _ _ _ _ _ _ _ _ _ _ _ _ _ _ _ _ _ _ _ _ _ _ _ _ _ _=>
         hk _ _ ⟨hb'.size,fun k o hk hl _=>(hb'.block k (Array.getElem?_eq_some_iff.1 hl).1).trans hl⟩
          ⟨hb'.size,fun b h=>hb'.block b (AP b h),fun b h=>hb'.block b (Nat.lt_of_lt_of_le (hK3 b h) hsz)⟩
          ((Ef.abides (by omega) (by omega) ZO.out) _ _ _ _ _ _ _ hi (Turn.of_below hb') (fun b h=> .inl h) (fun b h=> .inl h))
          ht.putObj
          ⟨W.heap.size,_,_,_,_,_,_,_,_,_,_,_,_,_,_,_,_,_,_,_,_,_,_,_,_,_,_,_,_,_,_,_,_,_,_,_,_,_,_,_,_,_,_,_,_,_,_,_,_,_,_,_,_,_,_,_,_,_,_,_,_,_,_,_,_,_,_,_,_,_,_,_,_,_,_,_,_,_,rfl,hsz,hE0.whole _ rfl⟩
        have FIN:=hide fin;clear hk fin hb hb' hi ht AP hsz
        simp [Aq]
        apply wpIn_seq_k;intro K1 hK1;refine aZ (by kernel_rfl) (by rintro ⟨_,_,h⟩;exact h) ?_;go_wp2;refine aZ (by kernel_rfl) (by rintro ⟨_,_,h⟩;exact h) ?_
        go_wp2_with (refine fF 138 (.tmp 12) (.tmp 28) rfl ?_;refine dU hE0 (qI x) rfl qo (wO _) rfl (.tmp 12) (.tmp 28) rfl rfl rfl ?_)
        exact FIN.out _ _ _ _ _ _ _ _ _ _ _ _ _ _ _ _ _ _ _ _ _ _ _ _ _ _ _ _ _ _ _ _ _ _ _ _ _ _ _ _ _ _ _ _ _ _ _ _ _ _ _ _ _ _ _ _ _ _ _ _ _ _ _ _ _ _ _ _ _ _ _ _ _ _ _ _ _
       case ip=>exact ⟨h.1.putObj (by omega) hlp hl ho o',h.2.putObj hl ho o'⟩
       case h0=>
        intro W hW;refine ⟨⟨(hb3.trans (hW.mono (by omega))),hW.size,fun b h=>h.elim (fun h=>h.elim) (fun h=>h.elim),?_⟩,⟨.slice none 0 0,hA3.below hW,World.ownsRow_nil _ _ _ _,fun g hg=>by cases hg⟩⟩;intro p' hp'
        have hp2:p'=(w.heap.size,bK g,23)∨p'=(w.heap.size+1,[.slice A l.length c],27)∨p'=(w.heap.size+2,[.int .i64 p],3)∨p'=(B10,[.int .i64 (sZ g p l 0).2],3):=by simpa using hp'
        rcases hp2 with rfl | rfl | rfl | rfl
        · exact hG3.below hW
        · exact hL3.below hW
        · exact hP3.below hW
        · exact hS3.below hW
       case body=>
        rintro lp X Y pre x a' W hi ht ⟨Be,v0,v1,v2,v6,v7,v8,v13,v14,v15,v16,v17,v18,v19,v20,v21,v22,v23,v24,v25,v26,v27,v28,v29,v30,v31,v32,v33,v34,v35,v36,v37,v38,v39,v40,v41,v42,v43,v44,v45,v46,v47,v48,v49,v50,v51,v52,v53,v54,v55,v56,v57,v58,v59,v60,v61,v62,v63,v64,v65,v66,v67,v68,v69,v70,v71,v72,v73,v74,v75,v76,v77,v78,v79,v80,v81,v82,v83,rfl,hBe,hE⟩ hlt AP hWs
        obtain ⟨v,hV,lu⟩:=hi.2;have hbx:=hi.1.bx;have XC:Held W w.heap.size (bK g) 23:=hbx (w.heap.size,bK g,23) (by simp);have aaZ:Held W (w.heap.size+1) [.slice A l.length c] 27:=hbx (w.heap.size+1,[.slice A l.length c],27) (by simp);have XI:Held W (w.heap.size+2) [.int .i64 p] 3:=hbx (w.heap.size+2,[.int .i64 p],3) (by simp);have pX:Held W B10 [.int .i64 (sZ g p l pre.length).2] 3:=hbx (B10,[.int .i64 (sZ g p l pre.length).2],3) (by simp);have hbk:=TB p ht;have Vg:=Ah HL.out.1 HL.out.2.1 (p:=p) pre.length (by omega);have hck1:=HL.out.2.1 x.e (H9 ht)
        have hok:Sk.Ok g x.s:=by rw [ht.s];exact zY HL.out.1 HL.out.2.1 _ (by omega)
        have had:=zk (p:=p) (sum:=(sZ g p l pre.length).2) hok hck1;have hti:=ht.i;have Yb:=ht.rule;have hen:iL W S x.e:=(hp.2 x.e (H9 ht)).below hi.1.bw;have HBW:=hide hi.1.bw;have HI:=hide hi.1;have HX:=hide AP;have Zg:=hide hK3;have HOW:=hide lu;have hW3:=hi.1.sz;have Ug:=HL.out.2.2;obtain ⟨k2,hk2⟩:∃ q,sZ g p l pre.length=q:=⟨_,rfl⟩;rw [hk2] at hbk Vg had pX
        dsimp only at lu
        rw [hk2] at lu;rw [hti];obtain ⟨sm,hsm⟩:∃ q,tC g p x.s x.e.x k2.2=q:=⟨_,rfl⟩;rw [hsm] at hbk had;have TP:=hide hbk;have HK2:=hide hk2;clear hbk hbx hi AP hk2 hK3 hti ht;apply wpIn_block;apply wpIn_seq_k;intro K1 hK1
        have J:∀ (v0 v1 v2 v6 v7 v8 v13 v14 v15 v16 v17 v18 v19 v20 v21 v22 v23 v24 v25 v26 v27 v28 v29 v30 v31 v32 v33 v34 v35 v36 v37 v38 v39 v40 v41 v42 v43 v44 v45 v46 v47 v48 v49 v50 v51 v52 v53 v54 v55 v56 v57 v58 v59 v60 v61 v62 v63 v64 v65 v66 v67 v68 v69 v70 v71 v72 v73 v74 v75 v76 v77 v78 v79 v80 v81 v82 v83:Value) (W6:World),Turn (fun b=>b=B10) W W6→Held W6 B10 [.int .i64 sm] 3→K1 {tmps:= #[v0,v1,v2,ptr w.heap.size,ptr (w.heap.size+1),ptr (w.heap.size+2),v6,v7,v8,ptr B9,ptr B10,.int .i64 ((pre.length:Int)+1),ptr Be,v13,v14,v15,v16,v17,v18,v19,v20,v21,v22,v23,v24,v25,v26,v27,v28,v29,v30,v31,v32,v33,v34,v35,v36,v37,v38,v39,v40,v41,v42,v43,v44,v45,v46,v47,v48,v49,v50,v51,v52,v53,v54,v55,v56,v57,v58,v59,v60,v61,v62,v63,v64,v65,v66,v67,v68,v69,v70,v71,v72,v73,v74,v75,v76,v77,v78,v79,v80,v81,v82,v83],defers:=[] } W6:=by
         intro v0 v1 v2 v6 v7 v8 v13 v14 v15 v16 v17 v18 v19 v20 v21 v22 v23 v24 v25 v26 v27 v28 v29 v30 v31 v32 v33 v34 v35 v36 v37 v38 v39 v40 v41 v42 v43 v44 v45 v46 v47 v48 v49 v50 v51 v52 v53 v54 v55 v56 v57 v58 v59 v60 v61 v62 v63 v64 v65 v66 v67 v68 v69 v70 v71 v72 v73 v74 v75 v76 v77 v78 v79 v80 v81 v82 v83 W6 TT hSu;refine hK1 _ _ ?_;clear hK1 pX hok hck1 Yb hen hsm;have Wx:Held W6 Be (qI x) 138:=hE.turn TT (show ¬ (Be=B10) by omega);have LW:Held W6 B9 [v] 50:=hV.turn TT (show ¬ (B9=B10) by omega);have UQ:Held W6 (w.heap.size+1) [.slice A l.length c] 27:=aaZ.turn TT (show ¬ (w.heap.size+1=B10) by omega);have XD:Held W6 w.heap.size (bK g) 23:=XC.turn TT (show ¬ (w.heap.size=B10) by omega);have XJ:Held W6 (w.heap.size+2) [.int .i64 p] 3:=XI.turn TT (show ¬ (w.heap.size+2=B10) by omega);have hs6:=TT.size;have zK:nT W6 w3.heap.size X Y 3 1 v k2.1.length (k2.1.map (Value.int .i64)):=⟨jo lu.own (fun g hg=>TT.block g (by have:=(gK lu.own hg).2;obtain ⟨o,h,_⟩:=this;exact (Array.getElem?_eq_some_iff.1 h).1) (by have:=(gK lu.own hg).1;omega)),lu.far⟩;clear hE hV aaZ XC XI lu;apply wpIn_seq_k;intro K3 aaS
         have J2:nZ k2 sm (wW x.s x.t && decide (pre.length+1<l.length))=(k2.1++(if 0<sm then [sm] else []),0)→∀ (v0 v1 v2 v6 v7 v8 v13 v14 v15 v16 v17 v18 v19 v20 v21 v22 v23 v24 v25 v26 v27 v28 v29 v30 v31 v32 v33 v34 v35 v36 v37 v38 v39 v40 v41 v42 v43 v44 v45 v46 v47 v48 v49 v50 v51 v52 v53 v54 v55 v56 v57 v58 v59 v60 v61 v62 v63 v64 v65 v66 v67 v68 v69 v70 v71 v72 v73 v74 v75 v76 v77 v78 v79 v80 v81 v82 v83:Value),K3 {tmps:= #[v0,v1,v2,ptr w.heap.size,ptr (w.heap.size+1),ptr (w.heap.size+2),v6,v7,v8,ptr B9,ptr B10,.int .i64 ((pre.length:Int)+1),ptr Be,v13,v14,v15,v16,v17,v18,v19,v20,v21,v22,v23,v24,v25,v26,v27,v28,v29,v30,v31,v32,v33,v34,v35,v36,v37,v38,v39,v40,v41,v42,v43,v44,v45,v46,v47,v48,v49,v50,v51,v52,v53,v54,v55,v56,v57,v58,v59,v60,v61,v62,v63,v64,v65,v66,v67,v68,v69,v70,v71,v72,v73,v74,v75,v76,v77,v78,v79,v80,v81,v82,v83],defers:=[] } W6:=by
          intro hnx v0 v1 v2 v6 v7 v8 v13 v14 v15 v16 v17 v18 v19 v20 v21 v22 v23 v24 v25 v26 v27 v28 v29 v30 v31 v32 v33 v34 v35 v36 v37 v38 v39 v40 v41 v42 v43 v44 v45 v46 v47 v48 v49 v50 v51 v52 v53 v54 v55 v56 v57 v58 v59 v60 v61 v62 v63 v64 v65 v66 v67 v68 v69 v70 v71 v72 v73 v74 v75 v76 v77 v78 v79 v80 v81 v82 v83;refine aaS _ _ ?_;clear aaS;rw [hnx] at TP;clear hnx;have c9:=LW.cell (j:=0) rfl;have f9:=LW.frozen 0;have c10:=hSu.cell (j:=0) rfl;have f10:=hSu.frozen 0;apply wpIn_seq_k;intro K5 hK5;apply wpIn_seq_k;intro K6 hK6
          by_cases h0:0<sm
          · have h0':decide (0<sm)=true:=decide_eq_true h0
            rw [if_pos h0] at TP;clear h0;refine aZ (by kernel_rfl) (by rintro ⟨_,_,h⟩;exact h) ?_;go_wp2;refine wpIn_cond_true rfl ?_;clear h0';obtain ⟨i0,hi0,hz0,hz1,hz2⟩:=info_parts Vk;refine aZ (by kernel_rfl) (by rintro ⟨_,_,h⟩;exact h) ?_
            go_wp2_with (at_builtin;refine wpList_append_lies _ rfl _ _ _ rfl (w3.heap.size) 3 i0 (.int .i64 0) 1 8 Tryz.underlying50 hi0 hz0 hz1 hz2 rfl (by omega) _ _ _ rfl (zK.own.alloc _) ⟨W6.heap.size,0,none⟩ 1 1 [.int .i64 sm] rfl rfl (jK _ _ _ _ rfl) ?c1 (by omega) ?c2 ?c3 ?c4 (W6.heap.size+1) (by simp) ?_)
            case c1=>simp [Value.oneCell']
            case c2=>simp only [maxLen];omega
            case c3=>omega
            case c4=>simp;omega
            intro g1 cap w4 hown4 hgrow hat hlt4;obtain ⟨WB,WA,Oe,yG⟩:=Af LW (by omega) zK (fun b hb=>by have:=(HX.out b hb).2;omega) (by omega) hgrow hown4 hat rfl;have f94:=WB.frozen 0;have c94:=WB.cell (j:=0) rfl;have hob:∀ b,v.ownBlock=some b→w3.heap.size≤b:=fun b h=>(gK zK.own h).1
            have hnb:¬ (B10=B9∨v.ownBlock=some B10):=by
             rintro (h2 | h2)
             · omega
             · have:=hob _ h2;omega
            have LV:=hSu.turn WA hnb;have c105:=LV.cell (j:=0) rfl;have f105:=LV.frozen 0;have HT4:=hide WA;have HO5:=hide yG;have HV5:=hide Oe;clear WA yG Oe hown4 hgrow;go_wp2;obtain ⟨W7,hW7⟩:∃ W7,w4.setCell ⟨B9,0,none⟩ (.slice (some ⟨g1,0,none⟩) (k2.1.length+1) cap)=W7:=⟨_,rfl⟩;rw [hW7] at HT4 HO5 HV5 LV ⊢;have c107:=LV.cell (j:=0) rfl;have f107:=LV.frozen 0;refine aZ (by kernel_rfl) (by rintro ⟨_,_,h⟩;exact h) ?_;go_wp2;have Zm:=((TT.mono (X':=fun b=>b=B10∨b=B9∨v.ownBlock=some b) (fun b h=> .inl h)).trans (HT4.out.mono (X':=fun b=>b=B10∨b=B9∨v.ownBlock=some b) (fun b h=> .inr h)) (fun b h=> .inl h)).trans (kW (X:=fun b=>b=B10∨b=B9∨v.ownBlock=some b) (W:=W7) (g:=B10) (.inl rfl) [.int .i64 0] 0) (fun b h=> .inl h);have XL:Held (W7.setCell ⟨B10,0,none⟩ (.int .i64 0)) B10 [.int .i64 0] 3:=LV.set 0 _;have uf:∀ b,b≠B10→(W7.setCell ⟨B10,0,none⟩ (.int .i64 0)).heap[b]? =W7.heap[b]? :=fun b hb=>Below.heap_setCell W7 ⟨B10,0,none⟩ _ b hb;refine Cb (Ix:=(fun _ _ _ _=>False)) HI.out (boxes:=(fun k=>[(w.heap.size,bK g,23),(w.heap.size+1,[.slice A l.length c],27),(w.heap.size+2,[.int .i64 p],3),(B10,[.int .i64 (sZ g p l k).2],3)])) (e:=3) (ty:=50) (size:=1) (B:=B9) (len:=fun k=>(sZ g p l k).1.length) (rows:=fun k=>(sZ g p l k).1.map (Value.int .i64)) (by omega) HX.out Zg.out Zm ?_ ?_ ⟨_,HV5.out.blk (uf B9 (by omega)),?_⟩
            · rintro b (h | h | h)
              · refine .inl ⟨by omega,by omega,?_⟩
                rintro (h2 | h2 | ⟨_,h2⟩) <;> omega
              · refine .inl ⟨by omega,by omega,?_⟩
                rintro (h2 | h2 | ⟨_,h2⟩) <;> omega
              · exact .inr (WU HOW.out h)
            · intro p' hp'
              rw [TP.out] at hp'
              have hp2:p'=(w.heap.size,bK g,23)∨p'=(w.heap.size+1,[.slice A l.length c],27)∨p'=(w.heap.size+2,[.int .i64 p],3)∨p'=(B10,[.int .i64 0],3):=by simpa using hp'
              rcases hp2 with rfl | rfl | rfl | rfl
              · exact (XD.turn HT4.out (by rintro (h2 | h2);omega;have:=hob _ h2;omega)).blk (uf _ (by omega))
              · exact (UQ.turn HT4.out (by rintro (h2 | h2);omega;have:=hob _ h2;omega)).blk (uf _ (by omega))
              · exact (XJ.turn HT4.out (by rintro (h2 | h2);omega;have:=hob _ h2;omega)).blk (uf _ (by omega))
              · exact XL
            · rw [List.length_append,List.length_singleton]
              dsimp only
              rw [TP.out]
              dsimp only
              rw [List.length_append,List.length_singleton,List.map_append];exact ⟨jo HO5.out.own (fun g hg=>uf g (by have:=(gK HO5.out.own hg).1;omega)),HO5.out.far⟩
          · have h0':decide (0<sm)=false:=decide_eq_false h0
            rw [if_neg h0,List.append_nil] at TP;clear h0;refine aZ (by kernel_rfl) (by rintro ⟨_,_,h⟩;exact h) ?_;go_wp2;refine wpIn_cond_false rfl (wpIn_skip ?_);refine hK5 _ _ ?_;refine aZ (by kernel_rfl) (by rintro ⟨_,_,h⟩;exact h) ?_;go_wp2;have Zm:=TT.trans (kW (X:=fun b=>b=B10) (W:=W6) (g:=B10) rfl [.int .i64 0] 0) (fun b h=> .inl h);have XL:Held (W6.setCell ⟨B10,0,none⟩ (.int .i64 0)) B10 [.int .i64 0] 3:=hSu.set 0 _;have uf:∀ b,b≠B10→(W6.setCell ⟨B10,0,none⟩ (.int .i64 0)).heap[b]? =W6.heap[b]? :=fun b hb=>Below.heap_setCell W6 ⟨B10,0,none⟩ _ b hb;refine Cb (Ix:=(fun _ _ _ _=>False)) HI.out (boxes:=(fun k=>[(w.heap.size,bK g,23),(w.heap.size+1,[.slice A l.length c],27),(w.heap.size+2,[.int .i64 p],3),(B10,[.int .i64 (sZ g p l k).2],3)])) (e:=3) (ty:=50) (size:=1) (B:=B9) (len:=fun k=>(sZ g p l k).1.length) (rows:=fun k=>(sZ g p l k).1.map (Value.int .i64)) (by omega) HX.out Zg.out Zm ?_ ?_ ⟨v,LW.blk (uf B9 (by omega)),?_⟩
            · rintro b rfl
              refine .inl ⟨by omega,by omega,?_⟩
              rintro (h2 | h2 | ⟨_,h2⟩) <;> omega
            · intro p' hp'
              rw [TP.out] at hp'
              have hp2:p'=(w.heap.size,bK g,23)∨p'=(w.heap.size+1,[.slice A l.length c],27)∨p'=(w.heap.size+2,[.int .i64 p],3)∨p'=(B10,[.int .i64 0],3):=by simpa using hp'
              rcases hp2 with rfl | rfl | rfl | rfl
              · exact XD.blk (uf _ (by omega))
              · exact UQ.blk (uf _ (by omega))
              · exact XJ.blk (uf _ (by omega))
              · exact XL
            · rw [List.length_append,List.length_singleton]
              dsimp only
              rw [TP.out];exact ⟨jo zK.own (fun g hg=>uf g (by have:=(gK zK.own hg).1;omega)),zK.far⟩
         have e18:=Wx.cell (j:=18) rfl;have e5:=Wx.cell (j:=5) rfl;have e30:=Wx.cell (j:=30) rfl;have z1:=UQ.cell (j:=0) rfl;apply wpIn_seq_k;intro K4 hK4
         by_cases b1:x.t.turn=x.s.turn
         · have b1':(x.t.turn == x.s.turn)=true:=by simp [b1]
           by_cases b2:x.t.ay<0
           · have b2':decide (x.t.ay<0)=true:=decide_eq_true b2
             by_cases b3:pre.length+1<l.length
             · have b3':decide ((pre.length:Int)+1<(l.length:Int))=true:=decide_eq_true (by omega)
               have hnx:nZ k2 sm (wW x.s x.t && decide (pre.length+1<l.length))=(k2.1,sm):=by unfold nZ wW;rw [if_pos (by simp [b1,b2,b3])]
               rw [hnx] at TP;clear J2 hnx b1 b2 b3;refine aZ (by kernel_rfl) (by rintro ⟨_,_,h⟩;exact h) ?_;go_wp2;refine wpIn_cond_true rfl (wpIn_exit ?_)
               simp only [Exit.inBlock,Exit.then,if_true]
               refine Cb HI.out (by omega) HX.out Zg.out TT ?_ ?_ ⟨v,LW,?_⟩
               · rintro b rfl
                 refine .inl ⟨by omega,by omega,?_⟩
                 rintro (h2 | h2 | ⟨_,h2⟩) <;> omega
               · intro p' hp'
                 rw [TP.out] at hp'
                 have hp2:p'=(w.heap.size,bK g,23)∨p'=(w.heap.size+1,[.slice A l.length c],27)∨p'=(w.heap.size+2,[.int .i64 p],3)∨p'=(B10,[.int .i64 sm],3):=by simpa using hp'
                 rcases hp2 with rfl | rfl | rfl | rfl
                 · exact XD
                 · exact UQ
                 · exact XJ
                 · exact hSu
               · rw [List.length_append,List.length_singleton]
                 dsimp only
                 rw [TP.out];exact zK
             · have b3':decide ((pre.length:Int)+1<(l.length:Int))=false:=decide_eq_false (by omega)
               have HJ2:=hide (J2 (by unfold nZ wW;rw [if_neg (by simp [b3])]));clear J2 b1 b2 b3;refine aZ (by kernel_rfl) (by rintro ⟨_,_,h⟩;exact h) ?_;go_wp2;refine wpIn_cond_false rfl (wpIn_skip ?_);exact HJ2.out _ _ _ _ _ _ _ _ _ _ _ _ _ _ _ _ _ _ _ _ _ _ _ _ _ _ _ _ _ _ _ _ _ _ _ _ _ _ _ _ _ _ _ _ _ _ _ _ _ _ _ _ _ _ _ _ _ _ _ _ _ _ _ _ _ _ _ _ _ _ _ _ _ _ _ _ _
           · have b2':decide (x.t.ay<0)=false:=decide_eq_false b2
             have HJ2:=hide (J2 (by unfold nZ wW;rw [if_neg (by simp [b2])]));clear J2 b1 b2;refine aZ (by kernel_rfl) (by rintro ⟨_,_,h⟩;exact h) ?_;go_wp2;refine wpIn_cond_false rfl (wpIn_skip ?_);exact HJ2.out _ _ _ _ _ _ _ _ _ _ _ _ _ _ _ _ _ _ _ _ _ _ _ _ _ _ _ _ _ _ _ _ _ _ _ _ _ _ _ _ _ _ _ _ _ _ _ _ _ _ _ _ _ _ _ _ _ _ _ _ _ _ _ _ _ _ _ _ _ _ _ _ _ _ _ _ _
         · have b1':(x.t.turn == x.s.turn)=false:=by simp [b1]
           have HJ2:=hide (J2 (by unfold nZ wW;rw [if_neg (by simp [b1])]));clear J2 b1;refine aZ (by kernel_rfl) (by rintro ⟨_,_,h⟩;exact h) ?_;go_wp2;refine wpIn_cond_false rfl (wpIn_skip ?_);exact HJ2.out _ _ _ _ _ _ _ _ _ _ _ _ _ _ _ _ _ _ _ _ _ _ _ _ _ _ _ _ _ _ _ _ _ _ _ _ _ _ _ _ _ _ _ _ _ _ _ _ _ _ _ _ _ _ _ _ _ _ _ _ _ _ _ _ _ _ _ _ _ _ _ _ _ _ _ _ _
        clear hK1;have Zh:=hide Yb;clear Yb;have e31:=hE.cell (j:=31) rfl;have e0:=hE.cell (j:=0) rfl;have e5:=hE.cell (j:=5) rfl;have z2:=XI.cell (j:=0) rfl;apply wpIn_seq_k;intro K2 hK2
        by_cases a1:x.rule=0
        · have a1':(x.rule == 0)=true:=by simp [a1]
          by_cases a2:x.e.x.kind=Sk.cO
          · have a2':=wt a2
            by_cases a3:x.s.turn=p
            · have a3':(x.s.turn == p)=true:=by simp [a3]
              have yK:sm=k2.2+(Sk.judge g x.s x.e.x).points:=by rw [← hsm];unfold tC;rw [if_pos ⟨by rw [← Zh.out];exact a1,a2,a3⟩]
              have PV:=fun W hb=>qG S g x.s x.e W hok.inr.turn hok.inr.colour (hen.below (w':=W) hb);obtain ⟨vv,hvv⟩:∃ q,Sk.judge g x.s x.e.x=q:=⟨_,rfl⟩;have eg:=qA g.kind;obtain ⟨gj,hgj⟩:∃ q,gV g.kind=q:=⟨_,rfl⟩
              simp only [hgj,hvv] at PV eg yK
              have Zf:=hide PV;have Ue:=hide hgj;have hkn:=Sk.nM HL.out.1;have g0:=XC.cell (j:=0) rfl;have s10:=pX.cell (j:=0) rfl;have aCa:=pX.frozen 0
              have hwr:IntKind.i64.wrap (k2.2+vv.points)=sm:=by rw [← yK,IntKind.wrap_i64];omega
              have vdp:=@Oa;have rlj:=@Ho;have hBel:=hE.lt;have aw9:=pX.lt
              have Wu:∀ w':World,(fun w':World=>(∀ p q,p<w.heap.size+3→w'.cell? ⟨p,q,none⟩=W.cell? ⟨p,q,none⟩)∧(∀ q,w'.cell? ⟨Be,q,none⟩=W.cell? ⟨Be,q,none⟩)) w'→w'.rangeAt Be 5 [.int .i64 x.s.turn,.int .i64 x.s.s0,.int .i64 x.s.s1,.int .i64 x.s.brk,.string x.s.phase,.int .i64 x.s.aY,.int .i64 x.s.colour,.bool x.s.free,.bool x.s.aN,.int .i64 x.s.aO,.int .i64 x.s.t0,.int .i64 x.s.t1,.int .i64 x.s.ay]:=fun w' h j v hj=>by rw [h.2];exact hE.cell (VP x j v hj)
              have hE0:∀ w':World,(fun w':World=>(∀ p q,p<w.heap.size+3→w'.cell? ⟨p,q,none⟩=W.cell? ⟨p,q,none⟩)∧(∀ q,w'.cell? ⟨Be,q,none⟩=W.cell? ⟨Be,q,none⟩)) w'→w'.rangeAt Be 0 [.string x.e.x.kind,.string x.e.x.called,.slice x.e.A x.e.x.hits.length x.e.a,.slice x.e.B x.e.x.aF.length x.e.b,.int .i64 x.e.x.aX]:=fun w' h j v hj=>by rw [h.2];exact hE.cell (VO x j v hj)
              have yu:=Wu;have hrE:=hE0;have HJ:=hide J;have HSM:=hide yK;have HSU:=hide pX;clear J PV hgj hvv a1 a2 a3 yK hsm Wu hE0;refine aZ (by kernel_rfl) (by rintro ⟨_,_,h⟩;exact h) ?_;go_wp2;refine wpIn_cond_true rfl ?_;refine kJ (S:=(fun w':World=>(∀ p q,p<w.heap.size+3→w'.cell? ⟨p,q,none⟩=W.cell? ⟨p,q,none⟩)∧(∀ q,w'.cell? ⟨Be,q,none⟩=W.cell? ⟨Be,q,none⟩))) (by kernel_rfl) (by rintro ⟨_,_,h⟩;exact h) (by kernel_rfl) ?gW (fun hHeld=>?_)
              case gW=>exact ⟨fun _ _ _=>rfl,fun _=>rfl⟩
              refine aA 2 ?_;refine aA 3 ?_;refine aA 6 ?_;refine bD 7 yu Tryz.underlying26 ?_;refine aA 8 ?_;refine bD 9 hrE Tryz.underlying83 ?_;refine iR 0 1 (fun K hK=>?_) fun K hK=>?_
              · go_simp
                refine ak hK (by first | exact nK kN (by omega) hBel | exact nK (cZ hb1) (by omega) hBel | exact ⟨fun _ _ _=>rfl,fun _=>rfl⟩) fun hHeld=>?_;clear hK K;refine aB 1 fun K hK=>?_;go_simp
                (go_at_call 63;refine (fK _).mono ?_;rintro e1 w1 ⟨rfl,g3⟩;have hl1:=AL (lC (n:=W.heap.size) g3 (by simp)) hkn Ue.out;have hb1:=g3.bw;have ar4:=(pX.below (cZ hb1)).cell (j:=0) rfl)
                refine ak hK (nK (cZ hb1) (by omega) hBel) fun hHeld=>?_;clear hK K;refine aB 4 fun K hK=>?_;go_simp;refine ak hK (nK (cZ hb1) (by omega) hBel) fun hHeld=>?_;clear hK K;refine aA 5 ?_;refine aB 10 fun K hK=>?_;go_simp
                (go_at_fn gj;refine (Zf.out _ ((cZ hb1))).mono ?_;rintro e2 w2 ⟨rfl,hb2⟩;have kN:=(cZ hb1).trans (hb2.mono (cZ hb1).size);have YV:=(pX.below kN).cell (j:=0) rfl;have SN:=(pX.below kN).frozen 0)
                refine ak hK (nK kN (by omega) hBel) fun hHeld=>?_;clear hK K;refine aA 11 ?_;refine aA 12 ?_;refine aB 13 fun K hK=>?_;go_simp;refine ak hK (EL kN (by omega) hBel (by omega) (by omega)) fun hHeld=>?_;clear hK K;refine wpAnyH_done (by kernel_rfl) ?_ _
                try simp only [Exit.then]
                exact HJ.out _ _ _ _ _ _ _ _ _ _ _ _ _ _ _ _ _ _ _ _ _ _ _ _ _ _ _ _ _ _ _ _ _ _ _ _ _ _ _ _ _ _ _ _ _ _ _ _ _ _ _ _ _ _ _ _ _ _ _ _ _ _ _ _ _ _ _ _ _ _ _ _ _ _ _ _ _ _ (((Turn.of_below kN).mono (X:=fun _=>False) (fun b h=>h.elim)).trans (kW (X:=fun b=>b=B10) (W:=w2) (g:=B10) rfl [.int .i64 sm] 0) (fun b h=> .inl h)) ((HSU.out.below kN).set 0 _)
              · go_simp
                (go_at_call 63;refine (fK _).mono ?_;rintro e1 w1 ⟨rfl,g3⟩;have hl1:=AL (lC (n:=W.heap.size) g3 (by simp)) hkn Ue.out;have hb1:=g3.bw;have ar4:=(pX.below (cZ hb1)).cell (j:=0) rfl)
                refine ak hK (nK (cZ hb1) (by omega) hBel) fun hHeld=>?_;clear hK K;refine iR 0 4 (fun K hK=>?_) fun K hK=>?_
                · go_simp
                  refine ak hK (by first | exact nK kN (by omega) hBel | exact nK (cZ hb1) (by omega) hBel | exact ⟨fun _ _ _=>rfl,fun _=>rfl⟩) fun hHeld=>?_;clear hK K;refine aB 4 fun K hK=>?_;go_simp;refine ak hK (nK (cZ hb1) (by omega) hBel) fun hHeld=>?_;clear hK K;refine aA 5 ?_;refine aB 10 fun K hK=>?_;go_simp
                  (go_at_fn gj;refine (Zf.out _ ((cZ hb1))).mono ?_;rintro e2 w2 ⟨rfl,hb2⟩;have kN:=(cZ hb1).trans (hb2.mono (cZ hb1).size);have YV:=(pX.below kN).cell (j:=0) rfl;have SN:=(pX.below kN).frozen 0)
                  refine ak hK (nK kN (by omega) hBel) fun hHeld=>?_;clear hK K;refine aA 11 ?_;refine aA 12 ?_;refine aB 13 fun K hK=>?_;go_simp;refine ak hK (EL kN (by omega) hBel (by omega) (by omega)) fun hHeld=>?_;clear hK K;refine wpAnyH_done (by kernel_rfl) ?_ _
                  try simp only [Exit.then]
                  exact HJ.out _ _ _ _ _ _ _ _ _ _ _ _ _ _ _ _ _ _ _ _ _ _ _ _ _ _ _ _ _ _ _ _ _ _ _ _ _ _ _ _ _ _ _ _ _ _ _ _ _ _ _ _ _ _ _ _ _ _ _ _ _ _ _ _ _ _ _ _ _ _ _ _ _ _ _ _ _ _ (((Turn.of_below kN).mono (X:=fun _=>False) (fun b h=>h.elim)).trans (kW (X:=fun b=>b=B10) (W:=w2) (g:=B10) rfl [.int .i64 sm] 0) (fun b h=> .inl h)) ((HSU.out.below kN).set 0 _)
                · go_simp
                  refine ak hK (nK (cZ hb1) (by omega) hBel) fun hHeld=>?_;clear hK K;refine aA 5 ?_;refine iR 0 10 (fun K hK=>?_) fun K hK=>?_
                  · go_simp
                    refine ak hK (by first | exact nK kN (by omega) hBel | exact nK (cZ hb1) (by omega) hBel | exact ⟨fun _ _ _=>rfl,fun _=>rfl⟩) fun hHeld=>?_;clear hK K;refine aB 10 fun K hK=>?_;go_simp
                    (go_at_fn gj;refine (Zf.out _ ((cZ hb1))).mono ?_;rintro e2 w2 ⟨rfl,hb2⟩;have kN:=(cZ hb1).trans (hb2.mono (cZ hb1).size);have YV:=(pX.below kN).cell (j:=0) rfl;have SN:=(pX.below kN).frozen 0)
                    refine ak hK (nK kN (by omega) hBel) fun hHeld=>?_;clear hK K;refine aA 11 ?_;refine aA 12 ?_;refine aB 13 fun K hK=>?_;go_simp;refine ak hK (EL kN (by omega) hBel (by omega) (by omega)) fun hHeld=>?_;clear hK K;refine wpAnyH_done (by kernel_rfl) ?_ _
                    try simp only [Exit.then]
                    exact HJ.out _ _ _ _ _ _ _ _ _ _ _ _ _ _ _ _ _ _ _ _ _ _ _ _ _ _ _ _ _ _ _ _ _ _ _ _ _ _ _ _ _ _ _ _ _ _ _ _ _ _ _ _ _ _ _ _ _ _ _ _ _ _ _ _ _ _ _ _ _ _ _ _ _ _ _ _ _ _ (((Turn.of_below kN).mono (X:=fun _=>False) (fun b h=>h.elim)).trans (kW (X:=fun b=>b=B10) (W:=w2) (g:=B10) rfl [.int .i64 sm] 0) (fun b h=> .inl h)) ((HSU.out.below kN).set 0 _)
                  · go_simp
                    (go_at_fn gj;refine (Zf.out _ ((cZ hb1))).mono ?_;rintro e2 w2 ⟨rfl,hb2⟩;have kN:=(cZ hb1).trans (hb2.mono (cZ hb1).size);have YV:=(pX.below kN).cell (j:=0) rfl;have SN:=(pX.below kN).frozen 0)
                    refine ak hK (nK kN (by omega) hBel) fun hHeld=>?_;clear hK K;refine aA 11 ?_;refine aB 0 fun K hK=>?_;go_simp;refine ak hK (by first | exact nK kN (by omega) hBel | exact nK (cZ hb1) (by omega) hBel | exact ⟨fun _ _ _=>rfl,fun _=>rfl⟩) fun hHeld=>?_;clear hK K;refine aA 12 ?_;refine aB 13 fun K hK=>?_;go_simp;refine ak hK (EL kN (by omega) hBel (by omega) (by omega)) fun hHeld=>?_;clear hK K;refine wpAnyH_done (by kernel_rfl) ?_ _
                    try simp only [Exit.then]
                    exact HJ.out _ _ _ _ _ _ _ _ _ _ _ _ _ _ _ _ _ _ _ _ _ _ _ _ _ _ _ _ _ _ _ _ _ _ _ _ _ _ _ _ _ _ _ _ _ _ _ _ _ _ _ _ _ _ _ _ _ _ _ _ _ _ _ _ _ _ _ _ _ _ _ _ _ _ _ _ _ _ (((Turn.of_below kN).mono (X:=fun _=>False) (fun b h=>h.elim)).trans (kW (X:=fun b=>b=B10) (W:=w2) (g:=B10) rfl [.int .i64 sm] 0) (fun b h=> .inl h)) ((HSU.out.below kN).set 0 _)
            · have a3':(x.s.turn == p)=false:=by simp [a3]
              have yK:k2.2=sm:=by rw [← hsm];unfold tC;rw [if_neg (fun h=>a3 h.2.2)]
              rw [yK] at pX;have HJ:=hide J;clear J a1 a2 a3 hsm yK;refine aZ (by kernel_rfl) (by rintro ⟨_,_,h⟩;exact h) ?_;go_wp2;refine wpIn_cond_false rfl (wpIn_skip ?_);exact HJ.out _ _ _ _ _ _ _ _ _ _ _ _ _ _ _ _ _ _ _ _ _ _ _ _ _ _ _ _ _ _ _ _ _ _ _ _ _ _ _ _ _ _ _ _ _ _ _ _ _ _ _ _ _ _ _ _ _ _ _ _ _ _ _ _ _ _ _ _ _ _ _ _ _ _ _ _ _ _ (Turn.refl' _ _) pX
          · have a2':=wf a2
            have yK:k2.2=sm:=by rw [← hsm];unfold tC;rw [if_neg (fun h=>a2 h.2.1)]
            rw [yK] at pX;have HJ:=hide J;clear J a1 a2 hsm yK;refine aZ (by kernel_rfl) (by rintro ⟨_,_,h⟩;exact h) ?_;go_wp2;refine wpIn_cond_false rfl (wpIn_skip ?_);exact HJ.out _ _ _ _ _ _ _ _ _ _ _ _ _ _ _ _ _ _ _ _ _ _ _ _ _ _ _ _ _ _ _ _ _ _ _ _ _ _ _ _ _ _ _ _ _ _ _ _ _ _ _ _ _ _ _ _ _ _ _ _ _ _ _ _ _ _ _ _ _ _ _ _ _ _ _ _ _ _ (Turn.refl' _ _) pX
        · have a1':(x.rule == 0)=false:=by simp [a1]
          have yK:k2.2=sm:=by rw [← hsm];unfold tC;rw [if_neg (fun h=>a1 (by rw [Zh.out];exact h.1))]
          rw [yK] at pX;have HJ:=hide J;clear J a1 hsm yK;refine aZ (by kernel_rfl) (by rintro ⟨_,_,h⟩;exact h) ?_;go_wp2;refine wpIn_cond_false rfl (wpIn_skip ?_);exact HJ.out _ _ _ _ _ _ _ _ _ _ _ _ _ _ _ _ _ _ _ _ _ _ _ _ _ _ _ _ _ _ _ _ _ _ _ _ _ _ _ _ _ _ _ _ _ _ _ _ _ _ _ _ _ _ _ _ _ _ _ _ _ _ _ _ _ _ _ _ _ _ _ _ _ _ _ _ _ _ (Turn.refl' _ _) pX
       case done=>
        intro D X Y xs W hD hS hi hdef;obtain ⟨v,hV,lu⟩:=hi.2;rw [hS] at lu
        dsimp only at lu
        have hlr:=(Ah HL.out.1 HL.out.2.1 (p:=p) l.length (Nat.le_refl _)).2.2;rw [Xt] at lu hlr;obtain ⟨A2,c2,rfl⟩:=yN lu.own;have hbw:=hi.1.bw;have hWs:=hi.1.sz;have Ug:=HL.out.2.2;have c9:=hV.cell (j:=0) rfl;have Ip:=hide hdef
        have fin:∀ (a:Act),a.defers=[{target:= .collected D,args:= #[] }]→a.tmps.getD 6 undef= .slice A2 (Sk.breaks g p (bare l)).length c2→a.tmps.getD 7 undef= .int .i64 0→Q' .ret a W:=by
         intro a e1 e6 e7;rw [← HQ.out];refine mF e1 Ip.out (results_tmp2 rfl _ _ _) ⟨A2,c2,?_,?_,jQ hbw (by omega) _⟩
         · rw [e6,e7,HE.out,Fv.out,h0]
         · rw [Fv.out]
           exact Reads.Bz (lu.putObj Ip.out rfl _).own (S:=fun b=>w.heap.size≤b) (fun g hg=>by omega) (by omega)
        have FIN:=hide fin;clear fin hi hdef lu hV;refine XG _ _ ?_
        dsimp only
        refine lW ?_;go_wp2;exact FIN.out _ rfl rfl rfl
   · have h0':(E != 0)=true:=by simp [h0]
     have Fv:=hide (show V7 g l p=[] by unfold V7;rw [if_neg (by rw [HE.out];exact h0)]);clear h0;go_wp2
     show Q' .ret _ _
     rw [← HQ.out];refine wE (results_tmp2 rfl _ _ _) rfl ⟨none,0,?_,?_,hB1.bw⟩
     · rw [Fv.out,HE.out];rfl
     · rw [Fv.out];exact Reads.none_ _ _ _
def ajT (a:Int × Int):List Value:=[.int .i64 a.1,.int .i64 a.2]
def RdQ (w:World) (S:Nat→Prop) (A:Option Addr) (c:Nat) (C:List (Int × Int)):Prop:=Reads w S 2 A C.length c (C.flatMap ajT)
theorem Tf (a b c d:Int) (w:World):(Op.equalIn 10000 24 (.agg #[.int .i64 a,.int .i64 b]) (.agg #[.int .i64 c,.int .i64 d])).run Tryz.prog w= .ok ((a == c) && (b == d)) w:=by
 obtain ⟨i,hi,hz0,hz1,hz2⟩:=info_parts (show (Tryz.prog.info? 3).map (fun i=>(i.zero,i.size,i.bytes))=some (some (.int .i64 0),1,8) by kernel_rfl)
 have hu:Tryz.prog.underlying 24=some (.array 2 3):=by kernel_rfl
 have hui:Tryz.prog.underlying 3=some (.int .i64):=by kernel_rfl
 have hc:Tryz.prog.cellsOf 3=1:=by kernel_rfl
 have h2:List.range 2=[0,1]:=rfl
 have p:∀ (x y:Value) (w:World),(part 3 #[x,y] (0*1)).run Tryz.prog w= .ok x w:=fun x y w=>by kernel_rfl
 have p':∀ (x y:Value) (w:World),(part 3 #[x,y] (1*1)).run Tryz.prog w= .ok y w:=fun x y w=>by kernel_rfl
 have q:∀ (a b:Int) (w:World),(Op.equalIn 9999 3 (.int .i64 a) (.int .i64 b)).run Tryz.prog w= .ok (a == b) w:=fun a b w=>run_equalIn_int w 9998 _ _ _ a b hui;rw [show (10000:Nat)=9999+1 from rfl,run_equalIn_array w 9999 _ _ hu hi,h2,hc]
 unfold Op.eqItems Op.eqItems Op.eqItems
 simp only [Sem.run_bind,p,p',q,Result.andThen_ok]
 have p1:∀ (x y:Value) (w:World),(part 3 #[x,y] 1).run Tryz.prog w= .ok y w:=fun x y w=>by kernel_rfl
 cases h1:(a == c) <;> cases h2:(b == d) <;> simp [q,p1,h2]
theorem NY:Tryz.prog.eqGuardType Tryz.prog.depth 24=false:=by kernel_rfl
def TS (g:Sk.Game) (l:List En) (C:List (Int × Int)):Int:=fst [Sk.iO g (bare l),jg (decide (C.length≠l.length)) 2]
def Xo (g:Sk.Game) (l:List En) (C:List (Int × Int)):Int:=if TS g l C=0 then Sk.qN g (bare l) C else 0
theorem FI {g:Sk.Game} {l:List En} {C:List (Int × Int)} (h:TS g l C=0):Sk.iO g (bare l)=0∧C.length=l.length:=by
 unfold TS at h
 rw [xB] at h
 by_cases h1:Sk.iO g (bare l)=0
 · rw [if_neg (by simpa using h1)] at h
   refine ⟨h1,?_⟩
   unfold jg at h
   by_cases h2:C.length=l.length
   · exact h2
   · rw [if_pos (by simpa using h2)] at h;cases h
 · rw [if_pos h1] at h;exact absurd h h1
def Ui (g:Sk.Game) (l:List En) (C:List (Int × Int)) (k:Nat):Int:=Sk.qO g (jr g l k) (k+1) (bare (l.drop k)) (C.drop k)
theorem Ox (g:Sk.Game) (l:List En) (C:List (Int × Int)):Ui g l C 0=Sk.qN g (bare l) C:=by unfold Ui;rw [rM];rfl
theorem Uj (g:Sk.Game) (l:List En) (C:List (Int × Int)):Ui g l C l.length=0:=by unfold Ui;rw [List.drop_length];rfl
theorem Ov {g:Sk.Game} {l:List En} {C:List (Int × Int)} {k:Nat} (hk:k<l.length) (hc:k<C.length):Ui g l C k=if ((jr g l (k+1)).s0 == C[k].1 && (jr g l (k+1)).s1 == C[k].2)=true then Ui g l C (k+1) else (k:Int)+1:=by
 unfold Ui
 rw [List.drop_eq_getElem_cons hk,List.drop_eq_getElem_cons hc,rJ g l k hk]
 show Sk.qO g (jr g l k) (k+1) (l[k].x::bare (l.drop (k+1))) (C[k]::C.drop (k+1))=_
 rw [Sk.qO];obtain ⟨a,b⟩:=C[k]
 have e:(((k+1:Nat):Int)+1)=(k:Int)+1+1:=by push_cast;omega
 rw [e]
 by_cases h:((Sk.step g (jr g l k) l[k].x).s0,(Sk.step g (jr g l k) l[k].x).s1)=(a,b)
 · have h':=h
   injection h' with h1 h2
   rw [if_pos h,if_pos (by simp [h1,h2])]
 · rw [if_neg h,if_neg (by intro hh;rw [Bool.and_eq_true,beq_iff_eq,beq_iff_eq] at hh;exact h (by rw [hh.1,hh.2]))]
def jV (w:World) (g:Sk.Game) (A1:Option Addr) (n c1:Nat) (u6 u7:Value):List (Nat × List Value × TypeId):=
 [(w.heap.size,bK g,23),(w.heap.size+1,[.slice A1 n c1],63),(w.heap.size+2,[u6],3),(w.heap.size+3,[u7],34)]
section
variable {w:World} {D:Nat} {g:Sk.Game} {l:List En} {C:List (Int × Int)} {A1:Option Addr} {n c1:Nat}
theorem zZ (h9:w.heap.size+4≤D) {u6 u7:Value}:∀ p∈jV w g A1 n c1 u6 u7,p.1<D:=by
 intro p hp
 have hp2:p=(w.heap.size,bK g,23)∨p=(w.heap.size+1,[.slice A1 n c1],63)∨p=(w.heap.size+2,[u6],3)∨p=(w.heap.size+3,[u7],34):=by simpa [jV] using hp
 rcases hp2 with rfl | rfl | rfl | rfl <;> (dsimp only;omega)
theorem vg {W:World} {v6 v7:Value} {k:Nat} (h2:k≠w.heap.size+2) (h3:k≠w.heap.size+3):((W.setCell ⟨w.heap.size+2,0,none⟩ v6).setCell ⟨w.heap.size+3,0,none⟩ v7).heap[k]? =W.heap[k]? :=
 (Below.heap_setCell _ _ _ _ h3).trans (Below.heap_setCell _ _ _ _ h2)
theorem D8 {W:World} {v6 v7:Value}:W.heap.size≤((W.setCell ⟨w.heap.size+2,0,none⟩ v6).setCell ⟨w.heap.size+3,0,none⟩ v7).heap.size:=
 (((Below.refl 0 W).setCell (p:=⟨w.heap.size+2,0,none⟩) (Nat.zero_le _) v6).setCell (p:=⟨w.heap.size+3,0,none⟩) (Nat.zero_le _) v7).size
theorem Ht {X Y:Nat→Prop} {xs ys:List Stp} {W:World} {u6 u7:Value} (h9:w.heap.size+4≤D) (h:qL w D (fun _=>jV w g A1 n c1 u6 u7) X Y xs W) (v6 v7:Value):qL w D (fun _=>jV w g A1 n c1 v6 v7) X Y ys ((W.setCell ⟨w.heap.size+2,0,none⟩ v6).setCell ⟨w.heap.size+3,0,none⟩ v7):=by
 have g0:=h.bx (w.heap.size,bK g,23) (by simp [jV]);have g1:=h.bx (w.heap.size+1,[.slice A1 n c1],63) (by simp [jV]);have g2:Held W (w.heap.size+2) [u6] 3:=h.bx (w.heap.size+2,[u6],3) (by simp [jV]);have g3:Held W (w.heap.size+3) [u7] 34:=h.bx (w.heap.size+3,[u7],34) (by simp [jV]);have a2:Held (W.setCell ⟨w.heap.size+2,0,none⟩ v6) (w.heap.size+2) [v6] 3:=g2.set 0 v6;have b3:Held (W.setCell ⟨w.heap.size+2,0,none⟩ v6) (w.heap.size+3) [u7] 34:=g3.blk (Below.heap_setCell W _ _ _ (by show ¬ _=_;simp));refine ⟨(h.bw.setCell (p:=⟨w.heap.size+2,0,none⟩) (by show _≤w.heap.size+2;omega) v6).setCell (p:=⟨w.heap.size+3,0,none⟩) (by show _≤w.heap.size+3;omega) v7,Nat.le_trans h.sz D8,h.sep,?_⟩;intro p hp
 have hp2:p=(w.heap.size,bK g,23)∨p=(w.heap.size+1,[.slice A1 n c1],63)∨p=(w.heap.size+2,[v6],3)∨p=(w.heap.size+3,[v7],34):=by simpa [jV] using hp
 rcases hp2 with rfl | rfl | rfl | rfl
 · exact g0.blk (vg (by omega) (by omega))
 · exact g1.blk (vg (by omega) (by omega))
 · exact a2.blk (Below.heap_setCell _ _ _ _ (by show ¬ _=_;simp))
 · exact b3.set 0 v7
def Ae (w:World) (D:Nat) (g:Sk.Game) (l:List En) (C:List (Int × Int)) (A1:Option Addr) (c1:Nat) (X Y:Nat→Prop) (xs:List Stp) (W:World):Prop:=
 qL w D (fun _=>jV w g A1 C.length c1 (.int .i64 0) (.int .i64 0)) X Y xs W∧Sk.qN g (bare l) C=Ui g l C xs.length
theorem Ae.abides (h9:w.heap.size+4≤D):qc (Ae w D g l C A1 c1):=fun X Y pre W X' Y' W' h ht hX hY=>⟨qL.abides (by omega) (fun _=>zZ h9) X Y pre W X' Y' W' h.1 ht hX hY,h.2⟩
end
theorem yU {W:World} {g h:Nat} {u v:Value} {t1 t2 t3 t4:TypeId} {d1 d2:TypeDesc} {fn:Func} {p q:Tmp} (hg:Held W g [u] t1) (hh:Held W h [v] t2) (hu:Tryz.prog.underlying t3=some d1) (hv:Tryz.prog.underlying t4=some d2) (h1:d1.isRow=false) (h2:d2.isRow=false)
 (hr:fn.results= #[.cell p t3,.cell q t4]) (tmps:Array Value) (hp:tmps.getD p undef=ptr g) (hq:tmps.getD q undef=ptr h):(results fn tmps).run Tryz.prog W= .ok (.tuple #[u,v]) W:=by
 have e:(results fn tmps).run Tryz.prog W=((asAddr (tmps.getD p undef)).run Tryz.prog W).andThen fun a w₁=>((loadVar t3 a).run Tryz.prog w₁).andThen fun v w₂=>((asAddr (tmps.getD q undef)).run Tryz.prog w₂).andThen fun a w₃=>((loadVar t4 a).run Tryz.prog w₃).andThen fun v' w₄=> .ok (.tuple #[v,v']) w₄:=by
  simp only [results,hr]
  simp [Sem.run_bind,Result.andThen]
 rw [e,hp,hq]
 simp only [ptr,asAddr,Sem.run_pure,Result.andThen_ok,pR hg hu h1,pR hh hv h2]
theorem zD (S S':Nat→Prop) (g:Sk.Game) (l:List En) (C:List (Int × Int)) (A A1:Option Addr) (c c1:Nat) (w:World) (hp:ni w S A c l) (hc:RdQ w S' A1 c1 C):
 Calls Tryz.prog 34 #[lX g,.slice A l.length c,.slice A1 C.length c1] w fun e w'=>e= .returned (.tuple #[.int .i64 (Xo g l C),.int .i64 (TS g l C)])∧Below w.heap.size w w':=by
 refine callsIn_wide.1 (callsIn_of_wp_marks (F:=Fence.wide) (n:=5) Tryz.func34 rfl trivial ?_ rfl)
 simp only [Tryz.ntmps34,List.size_toArray,List.length_cons,List.length_nil,Nat.reduceAdd,Nat.reduceSub,Array.replicate_succ,
  Array.replicate_zero,List.push_toArray,List.append_toArray,List.nil_append,List.cons_append]
 refine wpIn_wide.2 ?_
 generalize hQ':bodyPostM Fence.wide 5 Tryz.prog _ _=Q'
 have HQ:=hide hQ';clear hQ';obtain ⟨d1,d2,d3⟩:=Reads.bd hc;obtain ⟨b1,b2,b3⟩:=hp.bd;refine lW ?_
 go_upto_region 0 with (fail)
 go_cut [3,5,6,7] from 3 to 8 (fun v3 v5 v6 v7 wx=>v3=ptr w.heap.size∧v5=ptr (w.heap.size+1)∧v6=ptr (w.heap.size+2)∧v7=ptr (w.heap.size+3)∧aG w wx [(bK g,23),([.slice A1 C.length c1],63),([.int .i64 0],3),([.int .i64 0],34)])
 case first=>
  go_wp2;go_meet;exact ⟨rfl,rfl,rfl,rfl,(((((aG.nil w).new (by simp) (bK g) _).new (by simp) ([.slice A1 C.length c1]) _).new (by simp) ([.int .i64 0]) _).new (by simp) ([.int .i64 0]) _)⟩
 case rest=>
  obtain ⟨rfl,rfl,rfl,rfl,hB⟩:=hcut;have hsz:=hB.size (by simp)
  simp only [List.length_cons,List.length_nil] at hsz
  have k1:=(hB.get 1 rfl).cell (j:=0) rfl
  have hrG:∀ W:World,(fun w':World=>∀ p q,p<w.heap.size+4→w'.cell? ⟨p,q,none⟩=wc.cell? ⟨p,q,none⟩) W→W.rangeAt w.heap.size 0 (bK g):=fun W h j v hj=>by rw [h _ _ (by omega)];exact (hB.au rfl).range j v hj
  obtain ⟨bn,hbn⟩:∃ b,((C.length:Int) != (l.length:Int))=b:=⟨_,rfl⟩
  have hEv:fst [Sk.iO g (bare l),jg bn 2]=TS g l C:=by
   unfold TS
   rw [← hbn];rw [show ((C.length:Int) != (l.length:Int))=decide (C.length≠l.length) by rw [Bool.eq_iff_iff];simp;omega]
  go_upto_region 1 with (fail)
  go_cut [8] from 8 to 22 (fun v8 wx=>v8= .int .i64 (TS g l C)∧aG w wx [(bK g,23),([.slice A1 C.length c1],63),([.int .i64 0],3),([.int .i64 0],34)])
  case first=>
   refine wp_region_held_drew (S:=(fun w':World=>∀ p q,p<w.heap.size+4→w'.cell? ⟨p,q,none⟩=wc.cell? ⟨p,q,none⟩)) (by kernel_rfl) ?bg (fun hHeld=>?_)
   case bg=>exact fun p q h=>rfl
   refine bD 0 hrG Tryz.underlying23 ?_;refine aA 1 ?_;refine aA 3 ?_;refine aA 4 ?_;refine aA 5 ?_;refine aA 6 ?_;refine aA 7 ?_;refine aB 2 fun K hK=>?_;go_simp
   (go_at_call 20;refine (qm S g l A c _ (hp.below hB.drew.bw)).mono ?_;rintro e1 w1 ⟨rfl,hb1⟩;have hb8:Below wc.heap.size wc w1:=⟨hb1.os,hb1.tape,hb1.output,hb1.size,hb1.block⟩;have hB1:=hB.drew.call (by simp) hb1)
   refine ak hK (fun p q h=>hb8.cell (p:=⟨p,q,none⟩) (Nat.lt_of_lt_of_le h hsz)) fun hHeld=>?_;clear hK K;refine aB 8 fun K hK=>?_;go_simp
   (go_at_call 64;refine (dL _ _ _).mono ?_;rintro e1 qK ⟨rfl,rfl⟩)
   refine ak hK (by first | exact fun p q h=>hb8.cell (p:=⟨p,q,none⟩) (Nat.lt_of_lt_of_le h hsz) | exact fun p q h=>rfl) fun hHeld=>?_;clear hK K;refine aB 9 fun K hK=>?_;go_simp;refine ak hK (fun p q h=>(hb8.alloc hb8.size _).cell (p:=⟨p,q,none⟩) (Nat.lt_of_lt_of_le h hsz)) fun hHeld=>?_;clear hK K;refine aB 10 fun K hK=>?_;go_simp
   (go_at_call 67;refine (iK (fun _=>True) _ _ [Sk.iO g (bare l),jg bn 2] _ (nI.row _ _ [Sk.iO g (bare l),jg bn 2] (by simp) _ trivial)).mono ?_;rintro e1 qK ⟨rfl,rfl⟩)
   refine ak hK (fun p q h=>(hb8.alloc hb8.size _).cell (p:=⟨p,q,none⟩) (Nat.lt_of_lt_of_le h hsz)) fun hHeld=>?_;clear hK K;refine aA 11 ?_;refine wpAnyH_done (by kernel_rfl) ?_ _;go_wp2;go_meet;exact ⟨by first | rfl | rw [hEv],hB1.alloc (by simp) _⟩
  case rest=>
   obtain ⟨rfl,hB1⟩:=hcut;clear hB k1 hrG hsz hEv hbn;obtain ⟨E,hE⟩:∃ E,TS g l C=E:=⟨_,rfl⟩;have HE:=hide hE;rw [hE];clear hE
   by_cases h0:E=0
   · have h0':(E != 0)=false:=by simp [h0]
     have WG:=HE.out.trans h0;have HL:=hide (tK (FI WG).1);have Kt:=hide (FI WG).2;have hkn:=Sk.nM HL.out.1;have Fv:=hide (show Xo g l C=Sk.qN g (bare l) C by unfold Xo;rw [if_pos WG]);have Ug:=HL.out.2.2;clear WG
     go_upto_region 4 with (fail)
     have hs3:=hB1.size (by simp)
     simp only [List.length_cons,List.length_nil] at hs3
     go_wp2_with (first | ((with_reducible refine bJ 23 3 ?_);refine dW (hB1.au rfl) Tryz.underlying23 dQ ?_) | (go_at_call 75;refine (qH g _ _ _ _).mono ?_;rintro e w3 ⟨rfl,hC⟩))
     rename_i KQ XG
     have hD3:wc.heap.size+2≤w3.heap.size:=by
      have:=hC.size (by simp)
      simp only [List.length_cons,List.length_nil] at this
      omega
     have hb3:=hB1.bw.trans (hC.bw.mono (by omega));have hGm:Held w3 wc.heap.size (bK g) 23:=hC.au rfl;have Ph:Held w3 (wc.heap.size+1) [.slice A l.length c] 27:=hC.get 1 rfl
     have hK3:∀ b,(fun b=>b=wc.heap.size+0∨b=wc.heap.size+1∨(S b∧b<w.heap.size)) b→b<w3.heap.size:=by rintro b (h | h | ⟨_,h⟩) <;> omega
     have hLK:ni w3 (fun b=>b=wc.heap.size+0∨b=wc.heap.size+1∨(S b∧b<w.heap.size)) A c l:=(hp.more (S':=(fun b=>b=wc.heap.size+0∨b=wc.heap.size+1∨(S b∧b<w.heap.size))) (fun b hb h=> .inr (.inr ⟨h,hb⟩))).below hb3;have hG3:Held w3 w.heap.size (bK g) 23:=(hB1.au rfl).below hC.bw;have hS3:Held w3 (w.heap.size+1) [.slice A1 C.length c1] 63:=(hB1.get 1 rfl).below hC.bw;have hI3:Held w3 (w.heap.size+2) [.int .i64 0] 3:=(hB1.get 2 rfl).below hC.bw;have hE3:Held w3 (w.heap.size+3) [.int .i64 0] 34:=(hB1.get 3 rfl).below hC.bw;refine (wpIn_wide (n:=5)).1 ?_
     refine jI (F:=Fence.wide) rfl (by decide) rfl trivial (fun _ _=>rfl) (pU g l A c (fun b=>b=wc.heap.size+0∨b=wc.heap.size+1∨(S b∧b<w.heap.size)) _ _ 4 w3 (by decide) HL.out.1 HL.out.2.1 HL.out.2.2 hK3 hGm (.inl rfl) Ph (.inr (.inl rfl)) hLK) hK3 (Below.refl _ _) (fun _=>rfl) (Ae w w3.heap.size g l C A1 c1) (qL w w3.heap.size (fun _=>jV w g A1 C.length c1 (.int .i64 (Sk.qN g (bare l) C)) (.int .i64 0))) (Ae.abides (by omega)) (qL.abides (by omega) (fun _=>zZ (by omega)))
      (fun X Y pre W lp o o' h hlp hl ho=>?ip) (fun X Y pre W lp o o' h hlp hl ho=>h.putObj (by omega) hlp hl ho o') (fun X Y pre x W lp o o' h hlp hl ho=>h.putObj) ?h0 (fun x a W=>∃ Be v0 v1 v2 v3 v4 v8 v11 v12 v13 v14 v15 v16 v17 v18 v19 v20 v21 v22 v23 v24 v25 v26 v27 v28 v29 v30 v31 v32 v33 v34 v35 v36 v37 v38 v39,a= {tmps:= #[v0,v1,v2,v3,v4,ptr (w.heap.size+1),ptr (w.heap.size+2),ptr (w.heap.size+3),v8,.int .i64 ((x.i:Int)+1),ptr Be,v11,v12,v13,v14,v15,v16,v17,v18,v19,v20,v21,v22,v23,v24,v25,v26,v27,v28,v29,v30,v31,v32,v33,v34,v35,v36,v37,v38,v39],defers:=[] }∧w3.heap.size≤Be∧Held W Be (qI x) 138) ?assign ?ap ?body ?done ?stop
     case ap=>
      rintro x a' W lp o o' ⟨Be,v0,v1,v2,v3,v4,v8,v11,v12,v13,v14,v15,v16,v17,v18,v19,v20,v21,v22,v23,v24,v25,v26,v27,v28,v29,v30,v31,v32,v33,v34,v35,v36,v37,v38,v39,e2,h1,h2⟩ hlp hl ho
      exact ⟨Be,v0,v1,v2,v3,v4,v8,v11,v12,v13,v14,v15,v16,v17,v18,v19,v20,v21,v22,v23,v24,v25,v26,v27,v28,v29,v30,v31,v32,v33,v34,v35,v36,v37,v38,v39,e2,h1,h2.putObj hl ho _⟩
     case assign=>
      intro lp X Y pre x W K' hi ht hk AP;have hb:=((Below.refl W.heap.size W).alloc (Nat.le_refl _) (.cells jD.toArray 138));have hb':=below_setCells W.heap.size (Nat.le_refl _) (qI x) 0 _ _ hb;have hE0:=Held.new W jD 138;have hsz:w3.heap.size≤W.heap.size:=?szi
      case szi=>exact hi.1.sz
      have fin:∀ v0 v1 v2 v3 v4 v8 v11 v12 v13 v14 v15 v16 v17 v18 v19 v20 v21 v22 v23 v24 v25 v26 v27 v28 v29 v30 v31 v32 v33 v34 v35 v36 v37 v38 v39:Value,K' {tmps:= #[v0,v1,v2,v3,v4,ptr (w.heap.size+1),ptr (w.heap.size+2),ptr (w.heap.size+3),v8,.int .i64 ((x.i:Int)+1),ptr W.heap.size,v11,v12,v13,v14,v15,v16,v17,v18,v19,v20,v21,v22,v23,v24,v25,v26,v27,v28,v29,v30,v31,v32,v33,v34,v35,v36,v37,v38,v39],defers:=[] } ((W.alloc (.cells jD.toArray 138)).setCells W.heap.size 0 (qI x)):=fun _ _ _ _ _ _ _ _ _ _ _ _ _ _ _ _ _ _ _ _ _ _ _ _ _ _ _ _ _ _ _ _ _ _ _=>
       hk _ _ ⟨hb'.size,fun k o hk hl _=>(hb'.block k (Array.getElem?_eq_some_iff.1 hl).1).trans hl⟩
        ⟨hb'.size,fun b h=>hb'.block b (AP b h),fun b h=>hb'.block b (Nat.lt_of_lt_of_le (hK3 b h) hsz)⟩
        ((Ae.abides (by omega)) _ _ _ _ _ _ _ hi (Turn.of_below hb') (fun b h=> .inl h) (fun b h=> .inl h))
        ht.putObj
        ⟨W.heap.size,_,_,_,_,_,_,_,_,_,_,_,_,_,_,_,_,_,_,_,_,_,_,_,_,_,_,_,_,_,_,_,_,_,_,_,rfl,hsz,hE0.whole _ rfl⟩
      have FIN:=hide fin;clear hk fin hb hb' hi ht AP hsz
      simp [Aq]
      apply wpIn_seq_k;intro K1 hK1;refine aZ (by kernel_rfl) (by rintro ⟨_,_,h⟩;exact h) ?_;go_wp2;refine aZ (by kernel_rfl) (by rintro ⟨_,_,h⟩;exact h) ?_
      go_wp2_with (refine fF 138 (.tmp 10) (.tmp 29) rfl ?_;refine dU hE0 (qI x) rfl qo (wO _) rfl (.tmp 10) (.tmp 29) rfl rfl rfl ?_)
      exact FIN.out _ _ _ _ _ _ _ _ _ _ _ _ _ _ _ _ _ _ _ _ _ _ _ _ _ _ _ _ _ _ _ _ _ _ _
     case ip=>exact ⟨h.1.putObj (by omega) hlp hl ho o',h.2⟩
     case h0=>
      intro W hW;refine ⟨⟨(hb3.trans (hW.mono (by omega))),hW.size,fun b h=>h.elim (fun h=>h.elim) (fun h=>h.elim),?_⟩,(Ox g l C).symm⟩;intro p hp
      have hp2:p=(w.heap.size,bK g,23)∨p=(w.heap.size+1,[.slice A1 C.length c1],63)∨p=(w.heap.size+2,[.int .i64 0],3)∨p=(w.heap.size+3,[.int .i64 0],34):=by simpa [jV] using hp
      rcases hp2 with rfl | rfl | rfl | rfl
      · exact hG3.below hW
      · exact hS3.below hW
      · exact hI3.below hW
      · exact hE3.below hW
     case body=>
      rintro lp X Y pre x a' W hi ht ⟨Be,v0,v1,v2,v3,v4,v8,v11,v12,v13,v14,v15,v16,v17,v18,v19,v20,v21,v22,v23,v24,v25,v26,v27,v28,v29,v30,v31,v32,v33,v34,v35,v36,v37,v38,v39,rfl,hBe,hE⟩ hlt AP hWs
      have hbx:=hi.1.bx;have hSc:Held W (w.heap.size+1) [.slice A1 C.length c1] 63:=hbx (w.heap.size+1,[.slice A1 C.length c1],63) (by simp [jV]);have KN:Held W (w.heap.size+2) [.int .i64 0] 3:=hbx (w.heap.size+2,[.int .i64 0],3) (by simp [jV]);have KO:Held W (w.heap.size+3) [.int .i64 0] 34:=hbx (w.heap.size+3,[.int .i64 0],34) (by simp [jV])
      have hkC:pre.length<C.length:=by have:=Kt.out;omega
      have hrc:=Reads.below hc hi.1.bw;obtain ⟨b,o,rfl,_,hbl,hcs⟩:=Reads.at_ hrc (by omega)
      have h00:W.rangeAt b (o+pre.length*2) [.int .i64 C[pre.length].1,.int .i64 C[pre.length].2]:=fun j v hj=>by
       have h2:=hcs _ _ (uJ (f:=ajT) (n:=2) (fun _=>rfl) pre.length hkC (j:=j) (v:=v) hj)
       rwa [← Nat.add_assoc] at h2
      have hst:=Ea ht;have hstep:=Ov (g:=g) (l:=l) (C:=C) hlt hkC;rw [hst] at hstep
      have hsr:∀ W',(fun w':World=>(∀ q,w'.cell? ⟨w.heap.size+1,q,none⟩=W.cell? ⟨w.heap.size+1,q,none⟩)∧∀ b q,b<W.heap.size→w'.cell? ⟨b,q,none⟩=W.cell? ⟨b,q,none⟩) W'→W'.rangeAt Be 19 [.int .i64 x.t.s0,.int .i64 x.t.s1]:=fun W' hS j v hj=>by
       rw [hS.2 Be _ hE.lt]
       have hj2:(aC x.t)[1+j]? =some v:=by
        match j,hj with
        | 0,hj=>exact hj
        | 1,hj=>exact hj
       have h1:=hE.cell (J8 x.i x.e x.s x.t x.rule (1+j) v hj2);rw [show 19+j=18+(1+j) by omega];exact h1
      have hcr:∀ W',(fun w':World=>(∀ q,w'.cell? ⟨w.heap.size+1,q,none⟩=W.cell? ⟨w.heap.size+1,q,none⟩)∧∀ b q,b<W.heap.size→w'.cell? ⟨b,q,none⟩=W.cell? ⟨b,q,none⟩) W'→W'.rangeAt b (o+pre.length*2) [.int .i64 C[pre.length].1,.int .i64 C[pre.length].2]:=fun W' hS j v hj=>by
       rw [hS.2 b _ hbl];exact h00 j v hj
      have k5:=hSc.cell (j:=0) rfl;have hxi:=ht.i
      have i1:(0:Int)≤(pre.length:Int):=by omega
      have i2:(pre.length:Int)<(C.length:Int):=by omega
      have hgp:=NY;have hsc:=fun w=>Tf x.t.s0 x.t.s1 C[pre.length].1 C[pre.length].2 w
      have hwr:IntKind.i64.wrap (pre.length:Int)=(pre.length:Int):=by rw [IntKind.wrap_i64];have:=Ug;omega
      have hSZ:=hi.1.sz;have HX:=hide AP;have HIF:=hide hi.2;obtain ⟨bq,hbq⟩:∃ q,(x.t.s0 == C[pre.length].1 && x.t.s1 == C[pre.length].2)=q:=⟨_,rfl⟩;rw [hbq] at hstep
      simp only [hbq] at hsc
      clear hbq hst hcs hrc h00 hbx ht AP
      cases bq with
      | true=>
        have hf2:Sk.qN g (bare l) C=Ui g l C (pre++[x]).length:=by
         rw [HIF.out,hstep,List.length_append,List.length_singleton];rfl
        have hi2:qL w w3.heap.size (fun _=>jV w g (some ⟨b,o,none⟩) C.length c1 (.int .i64 0) (.int .i64 0)) X Y (pre++[x]) W.drew:=qL.abides (by omega) (fun _=>zZ (by omega)) X Y (pre++[x]) W X Y W.drew ⟨hi.1.bw,hi.1.sz,hi.1.sep,hi.1.bx⟩ ⟨rfl,rfl,rfl,Nat.le_refl _,fun _ _ _=>rfl⟩ (fun b h=> .inl h) (fun b h=> .inl h);have fin:∀ a,uM (fun b=>b=wc.heap.size+0∨b=wc.heap.size+1∨(S b∧b<w.heap.size)) w3.heap.size X Y (Ae w w3.heap.size g l C (some ⟨b,o,none⟩) c1) (qL w w3.heap.size (fun _=>jV w g (some ⟨b,o,none⟩) C.length c1 (.int .i64 (Sk.qN g (bare l) C)) (.int .i64 0))) (pre++[x]) W .normal a W.drew:=fun a=>⟨⟨Nat.le_refl _,fun k o _ hl _=>hl⟩,⟨Nat.le_refl _,fun _ _=>rfl,fun _ _=>rfl⟩,⟨hi2,hf2⟩⟩;have FIN:=hide fin;clear fin hi2 hf2 hstep hi hSc KN KO;apply wpIn_block;apply wpIn_seq_k;intro K4 hK4;rw [hxi];refine kJ (S:=(fun w':World=>(∀ q,w'.cell? ⟨w.heap.size+1,q,none⟩=W.cell? ⟨w.heap.size+1,q,none⟩)∧∀ b q,b<W.heap.size→w'.cell? ⟨b,q,none⟩=W.cell? ⟨b,q,none⟩)) (by kernel_rfl) (by rintro ⟨_,_,h⟩;exact h) (by kernel_rfl) ?bV (fun hHeld=>?_)
        case bV=>exact ⟨fun q=>rfl,fun b q _=>rfl⟩
        refine aA 0 ?_;refine aA 1 ?_;refine bD 2 hsr Tryz.underlying24 ?_;refine aA 3 ?_;refine aA 4 ?_;refine aA 5 ?_;refine aA 6 ?_;refine bD 7 hcr Tryz.underlying24 ?_;refine aA 8 ?_;refine wpAnyH_done (by kernel_rfl) ?_ _;refine hK4 _ _ ?_;refine wpIn_cond_split rfl (fun h=>by cases h) (fun _=>?_);refine wpIn_skip ?_;exact FIN.out {tmps:= #[],defers:=[] }
      | false=>
        have hf2:Sk.qN g (bare l) C=(pre.length:Int)+1:=by rw [HIF.out,hstep];rfl
        have p6:=KN.cell (j:=0) rfl;have pf6:=KN.frozen 0;have p7:=KO.cell (j:=0) rfl;have pf7:=KO.frozen 0;have q1:=Ht (ys:=pre++[x]) (by omega) hi.1 (.int .i64 ((pre.length:Int)+1)) (.int .i64 0);have hi2:=qL.abides (by omega) (fun _=>zZ (by omega)) X Y (pre++[x]) _ X Y ((W.setCell ⟨w.heap.size+2,0,none⟩ (.int .i64 ((pre.length:Int)+1))).setCell ⟨w.heap.size+3,0,none⟩ (.int .i64 0)).drew q1 ⟨rfl,rfl,rfl,Nat.le_refl _,fun _ _ _=>rfl⟩ (fun b h=> .inl h) (fun b h=> .inl h)
        have hi3:(qL w w3.heap.size (fun _=>jV w g (some ⟨b,o,none⟩) C.length c1 (.int .i64 (Sk.qN g (bare l) C)) (.int .i64 0))) X Y (pre++[x]) ((W.setCell ⟨w.heap.size+2,0,none⟩ (.int .i64 ((pre.length:Int)+1))).setCell ⟨w.heap.size+3,0,none⟩ (.int .i64 0)).drew:=by rw [hf2];exact hi2
        have fin:∀ a,uM (fun b=>b=wc.heap.size+0∨b=wc.heap.size+1∨(S b∧b<w.heap.size)) w3.heap.size X Y (Ae w w3.heap.size g l C (some ⟨b,o,none⟩) c1) (qL w w3.heap.size (fun _=>jV w g (some ⟨b,o,none⟩) C.length c1 (.int .i64 (Sk.qN g (bare l) C)) (.int .i64 0))) (pre++[x]) W .ret a ((W.setCell ⟨w.heap.size+2,0,none⟩ (.int .i64 ((pre.length:Int)+1))).setCell ⟨w.heap.size+3,0,none⟩ (.int .i64 0)).drew:=fun a=>⟨⟨D8,fun k o hk hl _=>(vg (by omega) (by omega)).trans hl⟩,hi3⟩;have FIN:=hide fin;clear fin q1 hi2 hi3 hf2 hstep hi hSc KN KO;apply wpIn_block;apply wpIn_seq_k;intro K4 hK4;rw [hxi];refine kJ (S:=(fun w':World=>(∀ q,w'.cell? ⟨w.heap.size+1,q,none⟩=W.cell? ⟨w.heap.size+1,q,none⟩)∧∀ b q,b<W.heap.size→w'.cell? ⟨b,q,none⟩=W.cell? ⟨b,q,none⟩)) (by kernel_rfl) (by rintro ⟨_,_,h⟩;exact h) (by kernel_rfl) ?dJ (fun hHeld=>?_)
        case dJ=>exact ⟨fun q=>rfl,fun b q _=>rfl⟩
        refine aA 0 ?_;refine aA 1 ?_;refine bD 2 hsr Tryz.underlying24 ?_;refine aA 3 ?_;refine aA 4 ?_;refine aA 5 ?_;refine aA 6 ?_;refine bD 7 hcr Tryz.underlying24 ?_;refine aA 8 ?_;refine wpAnyH_done (by kernel_rfl) ?_ _;refine hK4 _ _ ?_;refine wpIn_cond_split rfl (fun _=>?_) (fun h=>by cases h);apply wpIn_seq_k;intro K5 hK5;refine aZ (by kernel_rfl) (by rintro ⟨_,_,h⟩;exact h) ?_;go_wp2;refine wpIn_ret ?_;exact FIN.out {tmps:= #[],defers:=[] }
     case done=>
      intro D X Y xs W hD hS hi hdef;have KN:Held W (w.heap.size+2) [.int .i64 0] 3:=hi.1.bx (w.heap.size+2,[.int .i64 0],3) (by simp [jV]);have KO:Held W (w.heap.size+3) [.int .i64 0] 34:=hi.1.bx (w.heap.size+3,[.int .i64 0],34) (by simp [jV])
      have hz:Sk.qN g (bare l) C=0:=by rw [hi.2,hS,Uj]
      have p6:=KN.cell (j:=0) rfl;have pf6:=KN.frozen 0;have p7:=KO.cell (j:=0) rfl;have pf7:=KO.frozen 0;have q1:=Ht (ys:=xs) (by omega) hi.1 (.int .i64 0) (.int .i64 0);have q2:Held _ (w.heap.size+2) [.int .i64 0] 3:=q1.bx (w.heap.size+2,[.int .i64 0],3) (by simp [jV]);have q3:Held _ (w.heap.size+3) [.int .i64 0] 34:=q1.bx (w.heap.size+3,[.int .i64 0],34) (by simp [jV]);have hd:=(vg (W:=W) (w:=w) (v6:= .int .i64 0) (v7:= .int .i64 0) (k:=D) (by omega) (by omega)).trans hdef
      have fin:∀ (a:Act),a.defers=[{target:= .collected D,args:= #[] }]→a.tmps.getD 6 undef=ptr (w.heap.size+2)→a.tmps.getD 7 undef=ptr (w.heap.size+3)→Kv Q' .ret a ((W.setCell ⟨w.heap.size+2,0,none⟩ (.int .i64 0)).setCell ⟨w.heap.size+3,0,none⟩ (.int .i64 0)):=by
       intro a e1 e6 e7
       show Q' .ret _ _
       rw [← HQ.out];refine mF e1 hd (yU (p:=6) (q:=7) (q2.putObj hd rfl _) (q3.putObj hd rfl _) Tryz.underlying3 Tryz.underlying34 rfl rfl rfl _ e6 e7) ⟨?_,jQ q1.bw (by omega) _⟩;rw [Fv.out,hz,HE.out,h0]
      have FIN:=hide fin;clear fin q1 q2 q3 hd KN KO hi hdef hS hz;refine XG _ _ ?_
      dsimp only
      refine lW ?_;go_wp2;exact FIN.out _ rfl rfl rfl
     case stop=>
      intro D X Y pre W hD hSp hx hdef;have q2:Held W (w.heap.size+2) [.int .i64 (Sk.qN g (bare l) C)] 3:=hx.bx (w.heap.size+2,[.int .i64 (Sk.qN g (bare l) C)],3) (by simp [jV]);have q3:Held W (w.heap.size+3) [.int .i64 0] 34:=hx.bx (w.heap.size+3,[.int .i64 0],34) (by simp [jV]);refine wpIn_ret ?_
      show Q' .ret _ _
      rw [← HQ.out];refine mF rfl hdef (yU (p:=6) (q:=7) (q2.putObj hdef rfl _) (q3.putObj hdef rfl _) Tryz.underlying3 Tryz.underlying34 rfl rfl rfl _ rfl rfl) ⟨?_,jQ hx.bw (by omega) _⟩;rw [Fv.out,HE.out,h0]
   · have h0':(E != 0)=true:=by simp [h0]
     have Fv:=hide (show Xo g l C=0 by unfold Xo;rw [if_neg (by rw [HE.out];exact h0)]);clear h0;have p6:=(hB1.get 2 rfl).cell (j:=0) rfl;have pf6:=(hB1.get 2 rfl).frozen 0;have p7:=(hB1.get 3 rfl).cell (j:=0) rfl;have pf7:=(hB1.get 3 rfl).frozen 0;go_wp2;have hF:=(hB1.set 2 rfl 0 (.int .i64 0)).set 3 rfl 0 (.int .i64 E)
     show Q' .ret _ _
     rw [← HQ.out];refine wE (yU (p:=6) (q:=7) (hF.get 2 rfl) (hF.get 3 rfl) Tryz.underlying3 Tryz.underlying34 rfl rfl rfl _ rfl rfl) rfl ⟨?_,hF.bw⟩;rw [Fv.out,HE.out]
theorem Bx.YT {w W:World} {a b c d:Nat × List Value × TypeId} (h:Bx w W [a,b,c,d]):Bx w W [d,a,b,c]:=by
 have h1:=h.nd;refine ⟨h.bw,fun p hp=>h.bx p (by simp only [List.mem_cons] at hp ⊢;rcases hp with h | h | h | h | h <;> simp [h]),?_⟩
 simp at h1 ⊢
 omega
def P7 (g:Sk.Game) (s:Sk.State) (e:Sk.Entry):Int:=fst [pq g s e,jg (decide (e.kind≠Sk.cO)) 13]
def Jp (g:Sk.Game) (s:Sk.State) (e:Sk.Entry):Int:=if P7 g s e≠0 then P7 g s e else if Sk.legal g s e≠0 then 18 else 0
def Vl (g:Sk.Game) (s:Sk.State) (e:Sk.Entry):Sk.dI:=if Jp g s e=0 then Sk.judge g s e else ⟨0,0,0,false⟩
theorem P8 {g:Sk.Game} {s:Sk.State} {e:Sk.Entry} (h:P7 g s e=0):pq g s e=0∧e.kind=Sk.cO:=by
 unfold P7 at h
 rw [xB] at h
 by_cases h1:pq g s e=0
 · rw [if_neg (by simpa using h1)] at h
   refine ⟨h1,?_⟩
   by_cases h2:e.kind=Sk.cO
   · exact h2
   · rw [decide_eq_true h2] at h;cases h
 · rw [if_pos h1] at h;exact absurd h h1
theorem zF (S:Nat→Prop) (g:Sk.Game) (s:Sk.State) (e:En) (w:World) (he:iL w S e):Calls Tryz.prog 43 #[lX g,jE s,rU e] w fun e_ w'=>e_= .returned (.tuple #[FD (Vl g s e.x),.int .i64 (Jp g s e.x)])∧Below w.heap.size w w':=by
 go_enter Tryz.func43,Tryz.ntmps43
 go_upto_region 0 with (fail)
 go_cut [3,4,5,6,7] (fun v3 v4 v5 v6 v7 wx=>v3=ptr (w.heap.size)∧v4=ptr (w.heap.size+1)∧v5=ptr (w.heap.size+2)∧v6=ptr (w.heap.size+3)∧v7= .int .i64 0∧Bx w wx [(w.heap.size,bK g,23),(w.heap.size+1,aC s,26),(w.heap.size+2,dn e,83),(w.heap.size+3,dV ⟨0,0,0,false⟩,78)])
 case first=>
  go_wp2;go_meet;exact ⟨rfl,rfl,rfl,rfl,rfl,Bx.of (((((aG.nil w).new (by simp) (bK g) 23).new (by simp) (aC s) 26).new (by simp) (dn e) 83).new (by simp) (dV ⟨0,0,0,false⟩) 78) _ rfl⟩
 case rest=>
  obtain ⟨rfl,rfl,rfl,rfl,rfl,hL⟩:=hcut;obtain ⟨nk,hnk⟩:∃ q,decide (e.x.kind≠Sk.cO)=q:=⟨_,rfl⟩
  have apb:(!(e.x.kind.toList == [115,104,111,116]))=nk:=by rw [← hnk,fB];simp
  have HNK:=hide (show P7 g s e.x=fst [pq g s e.x,jg nk 13] by unfold P7;rw [hnk]);clear hnk
  go_upto_region 1 with (fail)
  go_cut [8] from 9 to 19 (fun v8 wx=>v8= .int .i64 (fst [pq g s e.x,jg nk 13])∧Bx w wx [(w.heap.size,bK g,23),(w.heap.size+1,aC s,26),(w.heap.size+2,dn e,83),(w.heap.size+3,dV ⟨0,0,0,false⟩,78)])
  case first=>
   have adr:∀ W:World,Bx w W [(w.heap.size,bK g,23),(w.heap.size+1,aC s,26),(w.heap.size+2,dn e,83),(w.heap.size+3,dV ⟨0,0,0,false⟩,78)]∧W.cell? ⟨w.heap.size+2,0,none⟩=some (.string e.x.kind)→W.rangeAt (w.heap.size) 0 (bK g):=fun W h=>h.1.rng 0 rfl 0 _ rfl;have ady:∀ W:World,Bx w W [(w.heap.size,bK g,23),(w.heap.size+1,aC s,26),(w.heap.size+2,dn e,83),(w.heap.size+3,dV ⟨0,0,0,false⟩,78)]∧W.cell? ⟨w.heap.size+2,0,none⟩=some (.string e.x.kind)→W.rangeAt (w.heap.size+1) 0 (aC s):=fun W h=>h.1.rng 1 rfl 0 _ rfl;have adH:∀ W:World,Bx w W [(w.heap.size,bK g,23),(w.heap.size+1,aC s,26),(w.heap.size+2,dn e,83),(w.heap.size+3,dV ⟨0,0,0,false⟩,78)]∧W.cell? ⟨w.heap.size+2,0,none⟩=some (.string e.x.kind)→W.rangeAt (w.heap.size+2) 0 (dn e):=fun W h=>h.1.rng 2 rfl 0 _ rfl;have hL:=hL.drew;refine wp_region_held_drew (S:=(fun w':World=>Bx w w' [(w.heap.size,bK g,23),(w.heap.size+1,aC s,26),(w.heap.size+2,dn e,83),(w.heap.size+3,dV ⟨0,0,0,false⟩,78)]∧w'.cell? ⟨w.heap.size+2,0,none⟩=some (.string e.x.kind))) (by kernel_rfl) ?bg (fun hHeld=>?_)
   case bg=>exact ⟨hL,(hL.get 2 rfl).cell (j:=0) rfl⟩
   refine bD 0 adr Tryz.underlying23 ?_;refine bD 1 ady Tryz.underlying26 ?_;refine bD 2 adH Tryz.underlying83 ?_;refine aA 4 ?_;refine aA 5 ?_;refine aA 6 ?_;refine aB 3 fun K hK=>?_;go_simp
   (go_at_call 79;refine (Hu S g s e _ (he.below hL.bw)).mono ?_;rintro e Zb ⟨rfl,PE⟩)
   have hL:=hL.call PE;refine ak hK (⟨hL,(hL.get 2 rfl).cell (j:=0) rfl⟩) fun hHeld=>?_;clear hK K;refine aB 7 fun K hK=>?_;go_simp
   (go_at_call 64;refine (dL nk 13 _).mono ?_;rintro e W9 ⟨rfl,rfl⟩)
   refine ak hK (⟨hL,(hL.get 2 rfl).cell (j:=0) rfl⟩) fun hHeld=>?_;clear hK K;refine aB 8 fun K hK=>?_;go_simp;have hL:=hL.alloc (.cells #[.int .i64 (pq g s e.x),.int .i64 (jg nk 13)] 34);refine ak hK (⟨hL,(hL.get 2 rfl).cell (j:=0) rfl⟩) fun hHeld=>?_;clear hK K;refine aB 9 fun K hK=>?_;go_simp
   (go_at_call 67;refine (iK (fun _=>True) _ _ [pq g s e.x,jg nk 13] _ (nI.row _ _ [pq g s e.x,jg nk 13] (by simp) _ trivial)).mono ?_;rintro e ZH ⟨rfl,rfl⟩)
   refine ak hK (⟨hL,(hL.get 2 rfl).cell (j:=0) rfl⟩) fun hHeld=>?_;clear hK K;refine aA 10 ?_;refine wpAnyH_done (by kernel_rfl) ?_ _;go_wp2;go_meet;exact ⟨by rfl,hL⟩
  case rest=>
   obtain ⟨rfl,hL⟩:=hcut;clear apb;rw [← HNK.out];clear HNK
   by_cases h0:P7 g s e.x=0
   rotate_left
   · have h0':(P7 g s e.x != 0)=true:=by simp [h0]
     have HM:=hide (show Vl g s e.x=⟨0,0,0,false⟩∧Jp g s e.x=P7 g s e.x by have hE:Jp g s e.x=P7 g s e.x:=(by unfold Jp;rw [if_pos h0]);exact ⟨by unfold Vl;rw [if_neg (by rw [hE];exact h0)],hE⟩);clear h0;have hL4:=hL.YT
     go_wp2_with (first | ((with_reducible refine isS 78 6 21 ?_);refine fU (hL4.head) (dV ⟨0,0,0,false⟩) dS (fZ _) ?_))
     have hL:=hL4.put (dV ⟨0,0,0,false⟩) rfl;refine bodyPost_ret (rC (p:=6) (u:=7) hL.head Tryz.underlying78 rfl dS rfl _ rfl) rfl ⟨?_,hL.bw⟩;rw [HM.out.1,HM.out.2];rfl
   · have h0':(P7 g s e.x != 0)=false:=by simp [h0]
     obtain ⟨hca,hkd⟩:=P8 h0;obtain ⟨ho,hen⟩:=IB hca
     by_cases h1:Sk.legal g s e.x=0
     rotate_left
     · have h1':(Sk.legal g s e.x != 0)=true:=by simp [h1]
       have HM:=hide (show Vl g s e.x=⟨0,0,0,false⟩∧Jp g s e.x=18 by have hE:Jp g s e.x=18:=(by unfold Jp;rw [if_neg (by simpa using h0),if_pos h1]);exact ⟨by unfold Vl;rw [if_neg (by rw [hE];decide)],hE⟩);clear h0 h1 hca hkd
       go_upto_region 5 with (first | ((with_reducible refine bJ 23 3 ?_);refine ig (hL.rn 0 0 (bK g)) Tryz.underlying23 dQ ?_) | ((with_reducible refine iy 23 3 ?_);refine kP (hL.rn 0 0 (bK g)) Tryz.underlying23 dQ ?_) | ((with_reducible refine bJ 26 4 ?_);refine ig (hL.rn 1 0 (aC s)) Tryz.underlying26 aj ?_) | ((with_reducible refine iy 26 4 ?_);refine kP (hL.rn 1 0 (aC s)) Tryz.underlying26 aj ?_) | ((with_reducible refine bJ 83 5 ?_);refine ig (hL.rn 2 0 (dn e)) Tryz.underlying83 bI ?_) | ((with_reducible refine iy 83 5 ?_);refine kP (hL.rn 2 0 (dn e)) Tryz.underlying83 bI ?_) | (go_at_call 80;refine (sO S g s e _ ho hen (he.below hL.bw)).mono ?_;rintro e1 w4 ⟨rfl,hb4⟩;have hL:=hL.call hb4))
       have hL:=hL.YT
       go_wp2_with (first | ((with_reducible refine isS 78 6 28 ?_);refine fU (hL.head) (dV ⟨0,0,0,false⟩) dS (fZ _) ?_))
       have hL:=hL.put (dV ⟨0,0,0,false⟩) rfl;refine bodyPost_ret (rC (p:=6) (u:=7) hL.head Tryz.underlying78 rfl dS rfl _ rfl) rfl ⟨?_,hL.bw⟩;rw [HM.out.1,HM.out.2];rfl
     · have h1':(Sk.legal g s e.x != 0)=false:=by simp [h1]
       have hE:Jp g s e.x=0:=by unfold Jp;rw [if_neg (by simpa using h0),if_neg (by simpa using h1)]
       have PV:=fun W (hb:Below w.heap.size w W)=>qG S g s e W ho.inr.turn ho.inr.colour (he.below hb);obtain ⟨v,hv⟩:∃ q,Sk.judge g s e.x=q:=⟨_,rfl⟩;have eg:=qA g.kind;obtain ⟨gj,hgj⟩:∃ q,gV g.kind=q:=⟨_,rfl⟩
       simp only [hgj,hv] at PV eg
       have Zf:=hide PV;have HGJ:=hide hgj;have hkn:=Sk.nM ho.game;have rlj:=@Ho;have HM:=hide (show Vl g s e.x=v∧Jp g s e.x=0 from ⟨by unfold Vl;rw [if_pos hE,hv],hE⟩);clear h0 h1 hca hkd hE PV hgj hv
       go_upto_region 6 with (first | ((with_reducible refine bJ 23 3 ?_);refine ig (hL.rn 0 0 (bK g)) Tryz.underlying23 dQ ?_) | ((with_reducible refine iy 23 3 ?_);refine kP (hL.rn 0 0 (bK g)) Tryz.underlying23 dQ ?_) | ((with_reducible refine bJ 26 4 ?_);refine ig (hL.rn 1 0 (aC s)) Tryz.underlying26 aj ?_) | ((with_reducible refine iy 26 4 ?_);refine kP (hL.rn 1 0 (aC s)) Tryz.underlying26 aj ?_) | ((with_reducible refine bJ 83 5 ?_);refine ig (hL.rn 2 0 (dn e)) Tryz.underlying83 bI ?_) | ((with_reducible refine iy 83 5 ?_);refine kP (hL.rn 2 0 (dn e)) Tryz.underlying83 bI ?_) | (go_at_call 80;refine (sO S g s e _ ho hen (he.below hL.bw)).mono ?_;rintro e1 w4 ⟨rfl,hb4⟩;have hL:=hL.call hb4))
       have hL:=hL.YT;have aep:∀ W:World,Bx w W [(w.heap.size,bK g,23),(w.heap.size+1,aC s,26),(w.heap.size+2,dn e,83)]∧W.cell? ⟨w.heap.size,0,none⟩=some (.string g.kind)→W.rangeAt (w.heap.size+1) 0 ([.int .i64 s.turn,.int .i64 s.s0,.int .i64 s.s1,.int .i64 s.brk,.string s.phase,.int .i64 s.aY,.int .i64 s.colour,.bool s.free,.bool s.aN,.int .i64 s.aO,.int .i64 s.t0,.int .i64 s.t1,.int .i64 s.ay]):=fun W h=>h.1.rng 1 rfl 0 _ rfl;have aey:∀ W:World,Bx w W [(w.heap.size,bK g,23),(w.heap.size+1,aC s,26),(w.heap.size+2,dn e,83)]∧W.cell? ⟨w.heap.size,0,none⟩=some (.string g.kind)→W.rangeAt (w.heap.size+2) 0 ([.string e.x.kind,.string e.x.called,.slice e.A e.x.hits.length e.a,.slice e.B e.x.aF.length e.b,.int .i64 e.x.aX]):=fun W h=>h.1.rng 2 rfl 0 _ rfl;have hL:=hL.drew;refine wp_region_held_drew (S:=(fun w':World=>Bx w w' [(w.heap.size,bK g,23),(w.heap.size+1,aC s,26),(w.heap.size+2,dn e,83)]∧w'.cell? ⟨w.heap.size,0,none⟩=some (.string g.kind))) (by kernel_rfl) ?bV (fun hHeld=>?_)
       case bV=>exact ⟨hL.tail,(hL.tail.get 0 rfl).cell (j:=0) rfl⟩
       refine aA 1 ?_;refine aA 2 ?_;refine bD 5 aep Tryz.underlying26 ?_;refine bD 6 aey Tryz.underlying83 ?_;refine aB 0 fun K hK=>?_;go_simp
       (go_at_call 63;refine (fK _).mono ?_;rintro e w6a ⟨rfl,g3⟩;have AX:=g3.bw;have hl1:=AL (lC (n:=w4.heap.size) g3 (by simp)) hkn HGJ.out)
       have hL:=hL.call AX;refine ak hK (⟨hL.tail,(hL.tail.get 0 rfl).cell (j:=0) rfl⟩) fun hHeld=>?_;clear hK K;refine aB 3 fun K hK=>?_;go_simp;refine ak hK (⟨hL.tail,(hL.tail.get 0 rfl).cell (j:=0) rfl⟩) fun hHeld=>?_;clear hK K;refine aA 4 ?_;refine aB 7 fun K hK=>?_;go_simp
       (go_at_fn gj;refine (Zf.out _ hL.bw).mono ?_;rintro e w6b ⟨rfl,EF⟩)
       have hL:=hL.call EF;refine ak hK (⟨hL.tail,(hL.tail.get 0 rfl).cell (j:=0) rfl⟩) fun hHeld=>?_;clear hK K;refine aB 8 fun K hK=>?_;refine aQ hL.head (dV v) rfl dS (fZ _) (.tmp 6) (.tmp 36) rfl rfl rfl ?_;have hL:=hL.put (dV v) rfl;refine ak hK (⟨hL.tail,(hL.tail.get 0 rfl).cell (j:=0) rfl⟩) fun hHeld=>?_;clear hK K;refine aA 9 ?_;refine wpAnyH_done (by kernel_rfl) ?_ _;go_wp2;refine bodyPost_ret (rC (p:=6) (u:=7) hL.head Tryz.underlying78 rfl dS rfl _ rfl) rfl ⟨?_,hL.bw⟩;rw [HM.out.1,HM.out.2];rfl
end Go.Proofs.YtjbbfmofpjflmaaGreatDoor
