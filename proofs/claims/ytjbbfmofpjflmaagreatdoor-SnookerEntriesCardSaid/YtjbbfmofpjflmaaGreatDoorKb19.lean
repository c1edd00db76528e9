/- Parts of a proof. -/
import Derived.Test.YtjbbfmofpjflmaaGreatDoorKb18
import Derived.Test.YtjbbfmofpjflmaaGreatDoorKb24
import Derived.Test.YtjbbfmofpjflmaaGreatDoorKb25
set_option maxHeartbeats 4000000
set_option maxRecDepth 100000
set_option linter.unusedVariables false
set_option linter.unusedSimpArgs false
namespace Go.Proofs.YtjbbfmofpjflmaaGreatDoor
open Go.RowKit
def amv (r:M.Rules) (l:List Sh) (k:Nat):M.State:=M.final r (M.start r) (plain (l.take k))
structure Ent where
 i:Nat
 e:Sh
 s:M.State
 A:Option Addr
 c:Nat
 t:M.State
 A':Option Addr
 c':Nat
 rule:Int
theorem Held.KG {g:Nat} {t:TypeId}:∀ (vs pre mid post:List Value) (W:World),Held W g (pre++mid++post) t→mid.length=vs.length→Held (W.setCells g pre.length vs) g (pre++vs++post) t
 | [],pre,mid,post,W,h,hl=>by
   obtain rfl:=List.eq_nil_of_length_eq_zero (by simpa using hl);exact h
 | v::r,pre,[],post,W,h,hl=>by cases hl
 | v::r,pre,u::mid,post,W,h,hl=>by
   have h1:=h.set pre.length v;rw [show (pre++u::mid++post).set pre.length v=(pre++[v])++mid++post by simp] at h1;have h2:=Held.KG r (pre++[v]) mid post _ h1 (by simpa using hl);rw [List.length_append] at h2
   simpa [World.setCells] using h2
structure Told (r:M.Rules) (l:List Sh) (X Y:Nat→Prop) (pre:List Ent) (x:Ent) (W:World):Prop where
 i:x.i=pre.length
 lt:pre.length<l.length
 e:l[pre.length]? =some x.e
 s:x.s=amv r l pre.length
 t:x.t=M.step r x.s x.e.x
 rule:x.rule=M.legal r x.s x.e.x
 a:jV W Y x.A x.c x.s.cO
 b:jV W Y x.A' x.c' x.t.cO
 xy:∀ b,Y b→¬ X b
theorem jV.own {W:World} {S:Nat→Prop} {A:Option Addr} {c:Nat} {zs:List Int} (h:jV W S A c zs):jV W (fun b=>S b∧b<W.heap.size∧∃ o,A=some ⟨b,o,none⟩) A c zs:=
 ⟨h.1,h.2.1,h.2.2.1,h.2.2.2.1,fun hn=>by
  obtain ⟨b,o,e,hS,hb,hc⟩:=Reads.at_ h hn
  exact ⟨b,o,e,⟨hS,hb,o,e⟩,hb,hc⟩⟩
theorem aK {ops:Array Oper} {rest:List Oper} {op:Oper} {a:Act} {W:World} {Q:Exit→Act→World→Prop} {g o:Nat} {cs:List Value} {t:TypeId} {d:TypeDesc} (h:W.rangeAt g o cs) (hu:Tryz.prog.underlying t=some d) (hd:d.isRow=true) (hi:(Tryz.prog.info? t).map (·.size)=some cs.length) (hgd:op.guard=none) (x:Operand) (ho:op.op= .load t x) (hx:a.eval x= .pointer (some ⟨g,o,none⟩))
 (k:wpList Tryz.prog ops Q rest (a.put op.dst (.agg cs.toArray)) W):qY Tryz.prog ops Q op rest a W:=
 wpList_load_mid hgd t x ho g o hx cs d h hu hd hi k
theorem Ce {ops:Array Oper} {rest:List Oper} {op:Oper} {a:Act} {W:World} {Q:Exit→Act→World→Prop} {g o:Nat} {vs:List Value} {t:TypeId} (h:W.there g o vs.length) (hi:(Tryz.prog.info? t).map (·.size)=some vs.length) (h1:∀ v∈vs,v.oneCell'=true) (hgd:op.guard=none) (x y:Operand) (ho:op.op= .store t x y)
 (hx:a.eval x= .pointer (some ⟨g,o,none⟩)) (hy:a.eval y= .agg vs.toArray)
 (k:wpList Tryz.prog ops Q rest (a.put op.dst undef) (W.setCells g o vs)):qY Tryz.prog ops Q op rest a W:=
 wpList_store_mid hgd t x y ho g o vs.toArray hx hy (by rw [iw rfl rfl];exact h) (by rw [iw rfl rfl];exact hi) (all_oneCell_toArray h1) (by rw [List.toList_toArray];exact k)
theorem FY {W W':World} {Bx Bf:Nat} {cx cf:List Value} {tx tf:TypeId} (hX:Held W Bx cx tx) (hF:Held W Bf cf tf) (hb:Below W.heap.size W W'):(∀ q,W'.cell? ⟨Bx,q,none⟩=W.cell? ⟨Bx,q,none⟩)∧(∀ q,W'.cell? ⟨Bf,q,none⟩=W.cell? ⟨Bf,q,none⟩):=
 ⟨fun q=>hb.cell (p:=⟨Bx,q,none⟩) hX.lt,fun q=>hb.cell (p:=⟨Bf,q,none⟩) hF.lt⟩
theorem qw {W:World} {Bx Bf:Nat} {cx cf:List Value} {tx tf:TypeId} (hX:Held W Bx cx tx) (hF:Held W Bf cf tf) (o:Obj):(∀ q,(W.alloc o).cell? ⟨Bx,q,none⟩=W.cell? ⟨Bx,q,none⟩)∧(∀ q,(W.alloc o).cell? ⟨Bf,q,none⟩=W.cell? ⟨Bf,q,none⟩):=
 FY hX hF ((Below.refl _ _).alloc (Nat.le_refl _) o)
theorem nX {W W' W2:World} {Bx Bf:Nat} (h:(∀ q,W'.cell? ⟨Bx,q,none⟩=W.cell? ⟨Bx,q,none⟩)∧(∀ q,W'.cell? ⟨Bf,q,none⟩=W.cell? ⟨Bf,q,none⟩)) (k:(∀ q,W2.cell? ⟨Bx,q,none⟩=W'.cell? ⟨Bx,q,none⟩)∧(∀ q,W2.cell? ⟨Bf,q,none⟩=W'.cell? ⟨Bf,q,none⟩)):
 (∀ q,W2.cell? ⟨Bx,q,none⟩=W.cell? ⟨Bx,q,none⟩)∧(∀ q,W2.cell? ⟨Bf,q,none⟩=W.cell? ⟨Bf,q,none⟩):=⟨fun q=>(k.1 q).trans (h.1 q),fun q=>(k.2 q).trans (h.2 q)⟩
theorem dh {W W':World} {B:Nat} (h:Below B W.drew W'):Below B W W':=⟨h.os,h.tape,h.output,h.size,h.block⟩
theorem Um {ops:Array Oper} {rest:List Oper} {op:Oper} {a:Act} {W:World} {Q:Exit→Act→World→Prop} {g n:Nat} {cs:List Value} {t:TypeId} {d:TypeDesc} {ro:Option Nat} (h:Held W g cs t) (hu:Tryz.prog.underlying t=some d) (hd:d.isRow=true) (hi:(Tryz.prog.info? t).map (·.size)=some cs.length) (hgd:op.guard=none) (x:Operand) (ho:op.op= .load t x) (hx:a.eval x= .pointer (some ⟨g,0,none⟩))
 (k:wpListIn (jQ ro) n Tryz.prog ops Q rest (a.put op.dst (.agg cs.toArray)) W):wpListIn (jQ ro) n Tryz.prog ops Q (op::rest) a W:=
 wpListIn_plain hgd fun _ hK=>Ez (fun c e=>by rw [ho] at e;cases e) (wp_load_mid t x ho g 0 hx cs d h.range hu hd hi (hK _ _ k))
theorem Held.nH {g b:Nat} (hne:b≠g):∀ (vs:List Value) (o:Nat) (W:World),(W.setCells g o vs).heap[b]? =W.heap[b]?
 | [],_,_=>rfl
 | v::r,o,W=>(Held.nH hne r (o+1) _).trans (Below.heap_setCell W ⟨g,o,none⟩ v b hne)
theorem kY {X:Nat→Prop} {W:World} {g:Nat} (hX:X g) (vs:List Value) (o:Nat):Turn X W (W.setCells g o vs):=
 ⟨(below_setCells (B:=0) g (Nat.zero_le _) vs o W W (Below.refl _ _)).os,(below_setCells (B:=0) g (Nat.zero_le _) vs o W W (Below.refl _ _)).tape,(below_setCells (B:=0) g (Nat.zero_le _) vs o W W (Below.refl _ _)).output,by rw [setCells_size];exact Nat.le_refl _,fun b _ hn=>Held.nH (fun e=>hn (by rw [e];exact hX)) vs o W⟩
theorem Ep {W:World} {Bx Bf Be:Nat} (vs:List Value) (o:Nat) (h1:Bx≠Be) (h2:Bf≠Be):(∀ q,(W.setCells Be o vs).cell? ⟨Bx,q,none⟩=W.cell? ⟨Bx,q,none⟩)∧(∀ q,(W.setCells Be o vs).cell? ⟨Bf,q,none⟩=W.cell? ⟨Bf,q,none⟩):=
 ⟨fun q=>jv vs o Bx q h1,fun q=>jv vs o Bf q h2⟩
theorem vY {F:Fence} {n:Nat} {P:Program} {fn:Func} {R:Ending→World→Prop} {a:Act} {w:World} {v:Value} (hr:(results fn a.tmps).run P w= .ok v w) (hd:a.defers=[]) (hR:R (.returned v) w):bodyPostM F n P fn R .ret a w:=by
 show LeavesInM F n P fn a.tmps R a.defers .returning w
 rw [hd];exact ⟨v,hr,hR⟩
theorem mG {F:Fence} {n:Nat} {P:Program} {fn:Func} {R:Ending→World→Prop} {a:Act} {w:World} {D:Nat} {v:Value} (hd:a.defers=[{target:= .collected D,args:= #[] }]) (hD:w.heap[D]? =some (.deferred (some [])))
 (hr:(results fn a.tmps).run P (w.putObj D (.deferred none))= .ok v (w.putObj D (.deferred none))) (hR:R (.returned v) (w.putObj D (.deferred none))):bodyPostM F n P fn R .ret a w:=by
 show LeavesInM F n P fn a.tmps R a.defers .returning w
 rw [hd];exact ⟨by simp,.inl ⟨D,_,rfl,run_takeDeferred hD,v,hr,hR⟩⟩
theorem CY {W:World} {g:Nat} {cs:List Value} {t:TypeId} {d:TypeDesc} {fn:Func} {p u u2:Tmp} (h:Held W g cs t) (hu:Tryz.prog.underlying t=some d) (hd:d.isRow=true) (hi:(Tryz.prog.info? t).map (·.size)=some cs.length) (hr:fn.results= #[.cell p t,.tmp u,.tmp u2]) (tmps:Array Value) (hp:tmps.getD p undef= .pointer (some ⟨g,0,none⟩)):
 (results fn tmps).run Tryz.prog W= .ok (.tuple #[.agg cs.toArray,tmps.getD u undef,tmps.getD u2 undef]) W:=by
 have h0:=run_loadVar_row W g t t cs.toArray (0,0) d h hu (by cases d <;> first | rfl | cases hd) (by rw [iw rfl rfl];exact hi)
 have e:(results fn tmps).run Tryz.prog W=((asAddr (tmps.getD p undef)).run Tryz.prog W).andThen fun a w₁=>((loadVar t a).run Tryz.prog w₁).andThen fun v w₂=> .ok (.tuple #[v,tmps.getD u undef,tmps.getD u2 undef]) w₂:=by
  simp only [results,hr]
  simp [Sem.run_bind,Result.andThen]
 rw [e,hp]
 simp only [asAddr,Sem.run_pure,Result.andThen_ok,h0]
theorem Held.putObj {W:World} {g l:Nat} {cs:List Value} {t:TypeId} {o:Obj} (h:Held W g cs t) (hl:W.heap[l]? =some o) (ho:o.isCells=false) (o':Obj):Held (W.putObj l o') g cs t:=by
 have hne:g≠l:=fun e=>by
  subst e;rw [show W.heap[g]? =_ from h] at hl
  cases hl
  cases ho
 exact (World.putObj_heap_other hne).trans h
theorem Held.turn {X:Nat→Prop} {W W':World} {g:Nat} {cs:List Value} {t:TypeId} (h:Held W g cs t) (ht:Turn X W W') (hX:¬ X g):Held W' g cs t:=(ht.block g h.lt hX).trans h
theorem Reads.putObj {W:World} {S:Nat→Prop} {size:Nat} {A:Option Addr} {n c:Nat} {xs:List Value} {l:Nat} {o:Obj} (h:Reads W S size A n c xs) (hl:W.heap[l]? =some o) (ho:o.isCells=false) (hS:¬ S l) (o':Obj):Reads (W.putObj l o') S size A n c xs:=
 h.keep (by simp) fun b q hb _=>World.cell?_of_block (World.putObj_heap_other (fun e=>hS (e ▸ hb)))
theorem Reads.turn {X:Nat→Prop} {W W':World} {S:Nat→Prop} {size:Nat} {A:Option Addr} {n c:Nat} {xs:List Value} (h:Reads W S size A n c xs) (ht:Turn X W W') (hX:∀ b,S b→¬ X b):Reads W' S size A n c xs:=
 h.keep ht.size fun b q hb hlt=>World.cell?_of_block (ht.block b hlt (hX b hb))
theorem Held.blk {W W':World} {g:Nat} {cs:List Value} {t:TypeId} (h:Held W g cs t) (hb:W'.heap[g]? =W.heap[g]?):Held W' g cs t:=hb.trans h
theorem jO {B:Nat} {w W:World} (h:Below B w W) {l:Nat} (hl:B≤l) (o:Obj):Below B w (W.putObj l o):=h.trans (EG o hl)
structure nR (W:World) (D:Nat) (X Y:Nat→Prop) (e:TypeId) (size:Nat) (v:Value) (n:Nat) (xs:List Value):Prop where
 own:W.ownsRow D e size v n xs
 far:∀ g,v.ownBlock=some g→¬ X g∧¬ Y g
theorem jm {W W':World} {D:Nat} {e:TypeId} {size:Nat} {v:Value} {n:Nat} {xs:List Value} (h:W.ownsRow D e size v n xs) (hb:∀ g,v.ownBlock=some g→W'.heap[g]? =W.heap[g]?):W'.ownsRow D e size v n xs:=by
 obtain ⟨h1,h2 | ⟨g,cap,cur,rfl,h3,h4,h5⟩⟩:=h
 · exact ⟨h1,.inl h2⟩
 · exact ⟨h1,.inr ⟨g,cap,cur,rfl,h3,(hb g rfl).trans h4,h5⟩⟩
theorem fV {W:World} {D:Nat} {e:TypeId} {size:Nat} {v:Value} {n:Nat} {xs:List Value} (h:W.ownsRow D e size v n xs) {g:Nat} (hg:v.ownBlock=some g):D≤g∧∃ o:Obj,W.heap[g]? =some o∧o.isCells=true:=by
 obtain ⟨h1,⟨rfl,_⟩ | ⟨g',cap,cur,rfl,h3,h4,h5⟩⟩:=h
 · cases hg
 · cases hg;exact ⟨h3,_,h4,rfl⟩
theorem nR.putObj {W:World} {D:Nat} {X Y:Nat→Prop} {e:TypeId} {size:Nat} {v:Value} {n:Nat} {xs:List Value} {l:Nat} {o:Obj} (h:nR W D X Y e size v n xs) (hl:W.heap[l]? =some o) (ho:o.isCells=false) (o':Obj):nR (W.putObj l o') D X Y e size v n xs:=
 ⟨jm h.own (fun g hg=>World.putObj_heap_other (fun e=>by
  obtain ⟨_,o2,h2,h3⟩:=fV h.own hg
  rw [e,hl] at h2;cases h2;rw [ho] at h3;cases h3)),h.far⟩
theorem nR.turn {W W':World} {D:Nat} {X Y X' Y':Nat→Prop} {e:TypeId} {size:Nat} {v:Value} {n:Nat} {xs:List Value} (h:nR W D X Y e size v n xs) (ht:Turn X W W') (hX:sQ W X X') (hY:sQ W Y Y'):nR W' D X' Y' e size v n xs:=by
 have hlt:∀ g,v.ownBlock=some g→g<W.heap.size:=fun g hg=>by
  obtain ⟨_,o,h2,_⟩:=fV h.own hg;exact (Array.getElem?_eq_some_iff.1 h2).1
 refine ⟨jm h.own fun g hg=>ht.block g (hlt g hg) (h.far g hg).1,fun g hg=>⟨fun h'=>?_,fun h'=>?_⟩⟩
 · rcases hX g h' with h2 | h2
   · exact (h.far g hg).1 h2
   · have:=hlt g hg;omega
 · rcases hY g h' with h2 | h2
   · exact (h.far g hg).2 h2
   · have:=hlt g hg;omega
def KI (W:World) (X Q:Nat→Prop) (A:Option Addr) (c:Nat) (zs:List Int):Prop:=∃ Z:Nat→Prop,jV W Z A c zs∧∀ b,Z b→(∃ o:Obj,W.heap[b]? =some o∧o.isCells=true)∧¬ X b∧Q b
theorem cells_of_cell {W:World} {a:Addr} {v:Value} (h:W.cell? a=some v):∃ o:Obj,W.heap[a.block]? =some o∧o.isCells=true:=by
 unfold World.cell? at h
 split at h
 · rename_i e;exact ⟨_,e,rfl⟩
 · cases h
theorem KI.of {W:World} {S X Q:Nat→Prop} {A:Option Addr} {c:Nat} {zs:List Int} (h:jV W S A c zs) (hS:∀ b,S b→b<W.heap.size→¬ X b∧Q b):KI W X Q A c zs:=by
 refine ⟨fun b=>(∃ o:Obj,W.heap[b]? =some o∧o.isCells=true)∧¬ X b∧Q b,⟨h.1,h.2.1,h.2.2.1,h.2.2.2.1,fun hn=>?_⟩,fun b hb=>hb⟩;obtain ⟨b,o,e,hs,hlt,hc⟩:=Reads.at_ h hn;refine ⟨b,o,e,⟨?_,hS b hs hlt⟩,hlt,hc⟩;have h0:=hc 0 (.int .i64 (zs[0])) (by rw [List.getElem?_map,List.getElem?_eq_getElem hn];rfl);exact cells_of_cell h0
theorem KI.lt {W:World} {b:Nat} (h:∃ o:Obj,W.heap[b]? =some o∧o.isCells=true):b<W.heap.size:=by
 obtain ⟨o,h,_⟩:=h;exact (Array.getElem?_eq_some_iff.1 h).1
theorem KI.turn {W W':World} {X X' Q:Nat→Prop} {A:Option Addr} {c:Nat} {zs:List Int} (h:KI W X Q A c zs) (ht:Turn X W W') (hX:sQ W X X'):KI W' X' Q A c zs:=by
 obtain ⟨Z,h1,h2⟩:=h;refine KI.of (Reads.turn h1 ht fun b hb=>(h2 b hb).2.1) fun b hb _=>⟨fun hx=>?_,(h2 b hb).2.2⟩
 rcases hX b hx with h | h
 · exact (h2 b hb).2.1 h
 · have:=KI.lt (h2 b hb).1;omega
theorem KI.putObj {W:World} {X Q:Nat→Prop} {A:Option Addr} {c:Nat} {zs:List Int} {l:Nat} {o:Obj} (h:KI W X Q A c zs) (hl:W.heap[l]? =some o) (ho:o.isCells=false) (o':Obj):KI (W.putObj l o') X Q A c zs:=by
 obtain ⟨Z,h1,h2⟩:=h;refine KI.of (Reads.putObj h1 hl ho (fun hz=>?_) o') fun b hb _=>(h2 b hb).2;obtain ⟨o2,h3,h4⟩:=(h2 l hz).1;rw [hl] at h3;cases h3;rw [ho] at h4;cases h4
theorem KI.out {W:World} {X Q:Nat→Prop} {A:Option Addr} {c:Nat} {zs:List Int} (h:KI W X Q A c zs):jV W Q A c zs:=by
 obtain ⟨Z,h1,h2⟩:=h;exact h1.more fun b _ hb=>(h2 b hb).2.2
theorem KI.keep {W W':World} {X Q:Nat→Prop} {A:Option Addr} {c:Nat} {zs:List Int} (h:KI W X Q A c zs) (hs:W.heap.size≤W'.heap.size) (hk:∀ b,Q b→b<W.heap.size→W'.heap[b]? =W.heap[b]?):KI W' X Q A c zs:=by
 obtain ⟨Z,h1,h2⟩:=h;exact KI.of (h1.keep hs fun b o hb hlt=>World.cell?_of_block (hk b (h2 b hb).2.2 hlt)) fun b hb _=>(h2 b hb).2
theorem vH {X:Nat→Prop} {B:Nat} {w W W':World} (h:Below B w W) (ht:Turn X W W') (hX:∀ b,X b→B≤b) (hB:B≤W.heap.size):Below B w W':=
 ⟨ht.os.trans h.os,ht.tape.trans h.tape,ht.output.trans h.output,Nat.le_trans h.size ht.size,fun b hb=>(ht.block b (Nat.lt_of_lt_of_le hb hB) (fun hx=>by have:=hX b hx;omega)).trans (h.block b hb)⟩
def JU (Q:Exit→Act→World→Prop):Exit→Act→World→Prop
 | .ret,a,w=>Q .ret a w
 | _,_,_=>False
theorem lY {P:Program} {c:Code} {Q:Exit→Act→World→Prop} {a:Act} {w:World} (h:c.wp P (JU Q) a w):c.wp P Q a w:=wp_mono h (fun e a w h=>by cases e <;> first | exact h | exact h.elim)
theorem bG {P:Program} {Q:Exit→Act→World→Prop} {n:Nat} {ro:Option Nat} {id:Nat} {l:List Oper} {a:Act} {w:World} (hnd:uQ l.toArray=true) (hno:¬ LetsOut Q) (h:wpList P l.toArray Q l a w):(Code.region id l.toArray false).wpIn (jQ ro) n P Q a w:=
 xI hnd hno (by rw [List.toList_toArray];exact h)
structure Bx (w W:World) (L:List (Nat × List Value × TypeId)):Prop where
 bw:Below w.heap.size w W
 bx:∀ p∈L,w.heap.size≤p.1∧Held W p.1 p.2.1 p.2.2
 nd:L.Pairwise (fun a b=>a.1≠b.1)
section
variable {w W W':World} {L:List (Nat × List Value × TypeId)} {g:Nat} {cs:List Value} {t:TypeId}
theorem Bx.nil (w:World):Bx w w []:=⟨Below.refl _ _,fun p h=>(nomatch h),List.Pairwise.nil⟩
theorem Bx.get (h:Bx w W L) (i:Nat) (he:L[i]? =some (g,cs,t)):Held W g cs t:=(h.bx _ (List.mem_of_getElem? he)).2
theorem Bx.head (h:Bx w W ((g,cs,t)::L)):Held W g cs t:=h.get 0 rfl
theorem Bx.tail {p:Nat × List Value × TypeId} (h:Bx w W (p::L)):Bx w W L:=⟨h.bw,fun q hq=>h.bx q (List.mem_cons_of_mem _ hq),(List.pairwise_cons.1 h.nd).2⟩
theorem Bx.rng (h:Bx w W L) (i:Nat) (he:L[i]? =some (g,cs,t)) (o:Nat) (vs:List Value) (hv:(cs.drop o).take vs.length=vs):W.rangeAt g o vs:=fun j v hj=>by
 have hl:j<vs.length:=(List.getElem?_eq_some_iff.1 hj).1;rw [← hv,List.getElem?_take_of_lt hl,List.getElem?_drop] at hj;exact (h.get i he).cell hj
theorem Bx.call (h:Bx w W L) (hb:Below W.heap.size W W'):Bx w W' L:=⟨h.bw.trans (hb.mono h.bw.size),fun p hp=>⟨(h.bx p hp).1,(h.bx p hp).2.below hb⟩,h.nd⟩
theorem Bx.drew (h:Bx w W L):Bx w W.drew L:=⟨h.bw.drew,h.bx,h.nd⟩
theorem Bx.drewN (h:Bx w W L) (n:Nat):Bx w (W.drewN n) L:=⟨below_drewN h.bw n,h.bx,h.nd⟩
theorem Bx.alloc (h:Bx w W L) (o:Obj):Bx w (W.alloc o) L:=h.call ((Below.refl _ _).alloc (Nat.le_refl _) o)
theorem Bx.lt (h:Bx w W L):∀ p∈L,p.1<W.heap.size:=fun p hp=>(h.bx p hp).2.lt
theorem Bx.add (h:Bx w W L) (cs:List Value) (t:TypeId):Bx w (W.alloc (.cells cs.toArray t)) ((W.heap.size,cs,t)::L):=by
 refine ⟨(h.alloc _).bw,?_,List.pairwise_cons.2 ⟨fun p hp=>by have:=h.lt p hp;show W.heap.size≠p.1;omega,h.nd⟩⟩;intro p hp
 rcases List.mem_cons.1 hp with rfl | hp
 · exact ⟨h.bw.size,Held.new W cs t⟩
 · exact (h.alloc _).bx p hp
theorem Bx.ne (h:Bx w W ((g,cs,t)::L)):∀ p∈L,g≠p.1:=(List.pairwise_cons.1 h.nd).1
theorem Bx.put (h:Bx w W ((g,cs,t)::L)) (vs:List Value) (hl:cs.length=vs.length):Bx w (W.setCells g 0 vs) ((g,vs,t)::L):=by
 have hg:=(h.bx (g,cs,t) (List.mem_cons_self ..)).1;refine ⟨below_setCells _ hg vs 0 _ _ h.bw,?_,List.pairwise_cons.2 ⟨h.ne,h.tail.nd⟩⟩;intro p hp
 rcases List.mem_cons.1 hp with rfl | hp
 · exact ⟨hg,h.head.whole vs hl⟩
 · exact ⟨(h.tail.bx p hp).1,(h.tail.bx p hp).2.blk (Held.nH (fun e=>h.ne p hp e.symm) vs 0 W)⟩
theorem Bx.set (h:Bx w W ((g,cs,t)::L)) (o:Nat) (v:Value):Bx w (W.setCell ⟨g,o,none⟩ v) ((g,cs.set o v,t)::L):=by
 have hg:=(h.bx (g,cs,t) (List.mem_cons_self ..)).1;refine ⟨h.bw.setCell (p:=⟨g,o,none⟩) hg v,?_,List.pairwise_cons.2 ⟨h.ne,h.tail.nd⟩⟩;intro p hp
 rcases List.mem_cons.1 hp with rfl | hp
 · exact ⟨hg,h.head.set o v⟩
 · exact ⟨(h.tail.bx p hp).1,(h.tail.bx p hp).2.blk (Below.heap_setCell W ⟨g,o,none⟩ v p.1 (fun e=>h.ne p hp e.symm))⟩
theorem Bx.swap {p q:Nat × List Value × TypeId} (h:Bx w W (p::q::L)):Bx w W (q::p::L):=by
 have h1:=List.pairwise_cons.1 h.nd;have h2:=List.pairwise_cons.1 h1.2;refine ⟨h.bw,fun r hr=>h.bx r ?_,List.pairwise_cons.2 ⟨?_,List.pairwise_cons.2 ⟨fun r hr=>h1.1 r (List.mem_cons_of_mem _ hr),h2.2⟩⟩⟩
 · simp only [List.mem_cons] at hr ⊢
   rcases hr with h | h | h
   · exact .inr (.inl h)
   · exact .inl h
   · exact .inr (.inr h)
 · intro r hr
   rcases List.mem_cons.1 hr with rfl | hr
   · exact fun e=>h1.1 q (List.mem_cons_self ..) e.symm
   · exact h2.1 r hr
theorem Bx.of {L2:List (List Value × TypeId)} (h:aJ w W L2) (M:List (Nat × List Value × TypeId)) (hM:M=(L2.zipIdx.map fun p=>(w.heap.size+p.2,p.1.1,p.1.2))):Bx w W M:=by
 subst hM;refine ⟨h.bw,?_,?_⟩
 · intro p hp
   obtain ⟨q,hq,rfl⟩:=List.mem_map.1 hp;obtain ⟨⟨cs,t⟩,i⟩:=q;have hq2:=List.mem_zipIdx_iff_getElem?.1 hq;exact ⟨by show w.heap.size≤w.heap.size+i;omega,h.get i hq2⟩
 · rw [List.pairwise_map]
   refine List.pairwise_iff_getElem.2 fun i j hi hj hij=>?_
   simp only [List.getElem_zipIdx]
   omega
end
def Hs (W:World) (L:List (Nat × List Value × TypeId)):Prop:=∀ p∈L,Held W p.1 p.2.1 p.2.2
section
variable {w W W':World} {L:List (Nat × List Value × TypeId)} {g D:Nat} {cs:List Value} {t:TypeId}
theorem Bx.hs (h:Bx w W L):Hs W L:=fun p hp=>(h.bx p hp).2
theorem Hs.get (h:Hs W L) (i:Nat) (he:L[i]? =some (g,cs,t)):Held W g cs t:=h _ (List.mem_of_getElem? he)
theorem Hs.rng (h:Hs W L) (i:Nat) (he:L[i]? =some (g,cs,t)) (o:Nat) (vs:List Value) (hv:(cs.drop o).take vs.length=vs):W.rangeAt g o vs:=fun j v hj=>by
 have hl:j<vs.length:=(List.getElem?_eq_some_iff.1 hj).1;rw [← hv,List.getElem?_take_of_lt hl,List.getElem?_drop] at hj;exact (h.get i he).cell hj
theorem Hs.grown {row:Option Nat} (h:Hs W L) (hg:W.grownBy W' row) (hr:∀ p∈L,row≠some p.1):Hs W' L:=fun p hp=>(h p hp).blk (hg.block p.1 (h p hp).lt (fun e=>hr p hp e.symm))
theorem Bx.grown {row:Option Nat} (h:Bx w W L) (hD:w.heap.size≤D) (hL:∀ p∈L,p.1<D) (hg:W.grownBy W' row) (hr:∀ b,row=some b→D≤b):Bx w W' L:=by
 refine ⟨⟨hg.os.trans h.bw.os,hg.tape.trans h.bw.tape,hg.output.trans h.bw.output,Nat.le_trans h.bw.size hg.size,fun b hb=>?_⟩,fun p hp=>⟨(h.bx p hp).1,?_⟩,h.nd⟩
 · exact (hg.block b (Nat.lt_of_lt_of_le hb h.bw.size) (fun e=>by have:=hr b e.symm;omega)).trans (h.bw.block b hb)
 · exact (h.bx p hp).2.blk (hg.block p.1 (h.bx p hp).2.lt (fun e=>by have:=hr _ e.symm;have:=hL p hp;omega))
end
theorem uD {α:Type} {f:α→List Value} {n:Nat} (hf:∀ a,(f a).length=n):∀ {l:List α} (k:Nat) (hk:k<l.length) {j:Nat} {v:Value},(f l[k])[j]? =some v→(l.flatMap f)[k*n+j]? =some v
 | x::l,0,_,j,v,h=>by
   have h':(f x)[j]? =some v:=h;have hj:j<(f x).length:=(List.getElem?_eq_some_iff.1 h').1;rw [List.flatMap_cons,Nat.zero_mul,Nat.zero_add,List.getElem?_append_left hj];exact h'
 | x::l,k+1,hk,j,v,h=>by
   have h':(f (l[k]'(by simpa using hk)))[j]? =some v:=h;have ih:=uD hf (l:=l) k (by simpa using hk) h';rw [List.flatMap_cons,List.getElem?_append_right (by rw [hf,Nat.succ_mul];omega),hf,show (k+1)*n+j - n=k*n+j by rw [Nat.succ_mul];omega];exact ih
theorem fA {ops:Array Oper} {rest:List Oper} {op:Oper} {a:Act} {W:World} {Q:Exit→Act→World→Prop} {g o:Nat} {cs:List Value} {t:TypeId} {d:TypeDesc} (h:W.rangeAt g o cs) (hu:Tryz.prog.underlying t=some d) (hd:d.isRow=true) (hi:(Tryz.prog.info? t).map (·.size)=some cs.length) (hw:Region.wanted op (yielded ops a.tmps)=true) (x:Operand) (ho:op.op= .load t x) (hx:a.eval x= .pointer (some ⟨g,o,none⟩))
 (k:wpList Tryz.prog ops Q rest (a.put op.dst (.agg cs.toArray)) W):qY Tryz.prog ops Q op rest a W:=
 BigFrame.wpList_want hw fun _ hK=>wp_load_mid t x ho g o hx cs d h hu hd hi (hK _ _ k)
theorem eu {op:Oper} {a:Act} {W:World} {Q:Exit→Act→World→Prop} {g o:Nat} {cs:List Value} {t:TypeId} {d:TypeDesc} {K:Act→World→Prop} (h:W.rangeAt g o cs) (hu:Tryz.prog.underlying t=some d) (hd:d.isRow=true) (hi:(Tryz.prog.info? t).map (·.size)=some cs.length) (x:Operand) (ho:op.op= .load t x) (hx:a.eval x= .pointer (some ⟨g,o,none⟩))
 (k:K (a.put op.dst (.agg cs.toArray)) W):Hy Tryz.prog Q op K a W:=wp_load_mid t x ho g o hx cs d h hu hd hi k
theorem oU {P:Program} {w:World} {g:Nat} {u:Value} {t ty:TypeId} {d:TypeDesc} (h:Held w g [u] t) (hu:P.underlying ty=some d) (hd:d.isRow=false):(loadVar ty ⟨g,0,none⟩).run P w= .ok u w:=by
 have hc:=h.cell (j:=0) rfl
 have hagg:(isAgg ty).run P w= .ok false w:=by
  unfold isAgg
  rw [Sem.run_bind,run_underlying hu w]
  cases d <;> simp_all [TypeDesc.isRow]
 simp [loadVar,Sem.run_bind,hagg,hc]
theorem bY:(Tryz.prog.info? 28).map (·.size)=some 4:=by kernel_rfl
theorem iQ:(Tryz.prog.info? 39).map (·.size)=some 13:=by kernel_rfl
theorem JB (w:World):Calls Tryz.prog 52 #[] w fun e w'=>e= .returned (.slice (some ⟨w.heap.size,0,none⟩) 8 8)∧w'=w.alloc (.cells (Sk.cO.map Value.string).toArray 9):=by
 go_enter Tryz.func52,Tryz.ntmps52
 go_wp2;go_ret;exact ⟨rfl,rfl⟩
theorem at_eq {b:ByteArray} {l:List ByteArray} {n:Int} {x:ByteArray}:Sk.at_ b (x::l) n=if x=b then n else Sk.at_ b l (n+1):=rfl
theorem H8 {k:Nat} (hk:k<8):Sk.cO.drop k=(Sk.cO[k]'hk)::Sk.cO.drop (k+1):=List.drop_eq_getElem_cons _
theorem iO (x:ByteArray) (w:World):Calls Tryz.prog 55 #[.string x] w fun e w'=>e= .returned (.int .i64 (Sk.value x))∧Below w.heap.size w w':=by
 have hcell:∀ k (hk:k<8),(w.alloc (.cells (Sk.cO.map Value.string).toArray 9)).cell? ⟨w.heap.size,k,none⟩=some (.string (Sk.cO[k]'hk)):=fun k hk=>by
  have h:=jW w 9 (Sk.cO.map Value.string) w.heap.size rfl k (.string (Sk.cO[k]'hk)) (by rw [List.getElem?_map,List.getElem?_eq_getElem hk];rfl)
  rwa [oJ,Nat.zero_add] at h
 have hbw:Below w.heap.size w (w.alloc (.cells (Sk.cO.map Value.string).toArray 9)):=(Below.refl _ _).alloc (Nat.le_refl _) _;have HB:Hid (∃ G,Calls Tryz.prog 52 #[] w fun e w'=>e= .returned (.slice (some ⟨G,0,none⟩) 8 8)∧(∀ k (hk:k<8),w'.cell? ⟨G,k,none⟩=some (.string (Sk.cO[k]'hk)))∧Below w.heap.size w w'):=hide ⟨w.heap.size,(JB w).mono (fun e w' ⟨h1,h2⟩=>⟨h1,by subst h2;exact hcell,by subst h2;exact hbw⟩)⟩;obtain ⟨G,hB⟩:=HB.out;have HB:=hide hB;clear hcell hbw hB
 go_enter Tryz.func55,Tryz.ntmps55
 go_wp2_with (go_at_call 52;refine HB.out.mono ?_;rintro e w1 ⟨rfl,hcell,hbw⟩)
 have HC:=hide hcell;clear hcell
 go_loopw [4] (fun i wr=>∃ k:Nat,k≤8∧i= .int .i64 k∧Aside (Sk.at_ x (Sk.cO.drop k) k=Sk.value x)∧Aside (∀ k (hk:k<8),wr.cell? ⟨G,k,none⟩=some (.string (Sk.cO[k]'hk)))∧Aside (Below w.heap.size w wr)) (fun i _=>8 - (intOf i).toNat)
 case atStart=>exact ⟨0,by omega,rfl,rfl,HC.out,hbw⟩
 case round=>
  obtain ⟨k,hk,rfl,hat,hcA,hbA⟩:=hrel;have hcell:=hcA.out;have hbw:=hbA.out
  by_cases hlt:k<8
  · have hc:=hcell k hlt
    have hd:=H8 hlt;obtain ⟨y,hy⟩:∃ q,Sk.cO[k]'hlt=q:=⟨_,rfl⟩;rw [hy] at hc hd;have hlt1:decide ((k:Int)<8)=true:=decide_eq_true (by omega)
    have i1:(0:Int)≤(k:Int):=by omega
    have i2:(k:Int)<8:=by omega
    have hA:=hat.out;rw [hd,at_eq] at hA;have HA:=hide hA;clear hA hd hy hcell
    by_cases he:y=x
    · have he1:=lq he
      have HR:=hide (show (k:Int)=Sk.value x by rw [← HA.out,if_pos he]);clear he;go_wp2;go_ret;exact ⟨bf HR.out,hbw⟩
    · have he1:=kZ he
      have HR:=hide (show Sk.at_ x (Sk.cO.drop (k+1)) ((k:Int)+1)=Sk.value x by rw [← HA.out,if_neg he]);clear he;go_wp2
      go_roundw
      case rel=>exact ⟨k+1,by omega,by go_num,by have:=HR.out;exact (by push_cast;exact this),hcA.out,hbA.out⟩
      case measure=>simp [intOf];omega
  · obtain rfl:k=8:=by omega
    have HR:=hide (show (-1:Int)=Sk.value x from hat.out);clear hcell;go_wp2;go_ret;exact ⟨bf HR.out,hbw⟩
theorem jo (n a b:Int) (w:World):Calls Tryz.prog 69 #[.int .i64 n,.int .i64 a,.int .i64 b] w fun e w'=>e= .returned (.bool (Sk.out n a b))∧w'=w:=by
 rcases h1:decide (n<a) with _ | _
 · go_enter Tryz.func69,Tryz.ntmps69
   go_wp2;go_ret;exact ⟨aN (by unfold Sk.out;simp at h1;simp;omega),rfl⟩
 · go_enter Tryz.func69,Tryz.ntmps69
   go_wp2;go_ret;exact ⟨aN (by unfold Sk.out;simp at h1;simp;omega),rfl⟩
theorem yB (h:Bool) (n m:Int) (w:World):Calls Tryz.prog 65 #[.bool h,.int .i64 n,.int .i64 m] w fun e w'=>e= .returned (.bool (Sk.qR h n m))∧w'=w:=by
 cases h
 · go_enter Tryz.func65,Tryz.ntmps65
   go_wp2;go_ret;exact ⟨aN (by unfold Sk.qR;simp;rfl),rfl⟩
 · go_enter Tryz.func65,Tryz.ntmps65
   go_wp2_with (go_at_call 69;refine (jo n 1 m _).mono ?_;rintro e w2 ⟨rfl,rfl⟩)
   go_ret;exact ⟨aN (by unfold Sk.qR;simp),rfl⟩
theorem Gy (g:Sk.Game) (p:ByteArray) (w:World):Calls Tryz.prog 70 #[lZ g,.string p] w fun e w'=>e= .returned (.bool (Sk.fH g p))∧Below w.heap.size w w':=by
 have e0:=gG g.kind [115,110,111,111,107,101,114];have e1:=gG p [114,101,100];have e2:=gG p [99,111,108,111,117,114];have e3:=gG p [102,105,110,97,108];have e4:=gG p [112,108,97,121];have HE:=hide (show Sk.fH g p=if (g.kind.toList == [115,110,111,111,107,101,114]) then (p.toList == [114,101,100]) || (p.toList == [99,111,108,111,117,114]) || (p.toList == [102,105,110,97,108]) else (p.toList == [112,108,97,121]) by rw [e0,e1,e2,e3,e4];unfold Sk.fH;by_cases h:g.kind=Sk.aW <;> simp [h,Bool.or_assoc]);clear e0 e1 e2 e3 e4
 go_enter Tryz.func70,Tryz.ntmps70
 go_upto_region 0 with (fail)
 go_cut [2,4] (fun v2 v4 wx=>v2=ptr (w.heap.size)∧v4= .bool false∧Bx w wx [(w.heap.size,bT g,28)])
 case first=>
  go_wp2;go_meet;exact ⟨rfl,rfl,Bx.of ((aJ.nil w).new (by simp) (bT g) 28) _ rfl⟩
 case rest=>
  obtain ⟨rfl,rfl,hL⟩:=hcut;have k0:=(hL.get 0 rfl).cell (j:=0) rfl
  rcases ha0:(g.kind.toList == [115,110,111,111,107,101,114]) with _ | _
  · go_wp2
    go_ret;exact ⟨aN (by rw [HE.out];simp [ha0]),hL.bw⟩
  · rcases ha1:(p.toList == [114,101,100]) with _ | _
    · rcases ha2:(p.toList == [99,111,108,111,117,114]) with _ | _
      · go_wp2
        go_ret;exact ⟨aN (by rw [HE.out];simp [ha0,ha1,ha2]),hL.bw⟩
      · go_wp2
        go_ret;exact ⟨aN (by rw [HE.out];simp [ha0,ha1,ha2]),hL.bw⟩
    · go_wp2
      go_ret;exact ⟨aN (by rw [HE.out];simp [ha0,ha1]),hL.bw⟩
theorem UH (g:Sk.Game) (s b c:Bool) (hs:(g.kind.toList == [115,110,111,111,107,101,114])=s) (hb:(g.kind.toList == [98,105,108,108,105,97,114,100,115])=b) (hc:(g.kind.toList == [99,97,114,111,109])=c):
 Sk.dn g=if (!s && !b && !c) then 13 else if (!Sk.qR s g.bI 15 || !Sk.qR (b || c) g.target 1000 || !Sk.qR c g.turns 100) then 3 else 0:=by
 rw [gG] at hs hb hc;rw [← Sk.Q5]
 unfold Sk.EI
 subst hs hb hc
 by_cases h1:g.kind=Sk.aW <;> by_cases h2:g.kind=Sk.bM <;> by_cases h3:g.kind=Sk.dZ <;> simp [h1,h2,h3,or_assoc]
theorem pV (g:Sk.Game) (w:World):Calls Tryz.prog 17 #[lZ g] w fun e w'=>e= .returned (.int .i64 (Sk.dn g))∧Below w.heap.size w w':=by
 obtain ⟨s,hs⟩:∃ q,(g.kind.toList == [115,110,111,111,107,101,114])=q:=⟨_,rfl⟩;obtain ⟨b,hb⟩:∃ q,(g.kind.toList == [98,105,108,108,105,97,114,100,115])=q:=⟨_,rfl⟩;obtain ⟨c,hc⟩:∃ q,(g.kind.toList == [99,97,114,111,109])=q:=⟨_,rfl⟩;rw [UH g s b c hs hb hc];have M1:=fun W=>yB s g.bI 15 W;have M2:=fun W=>yB (b || c) g.target 1000 W;have M3:=fun W=>yB c g.turns 100 W;obtain ⟨m1,h1⟩:∃ q,Sk.qR s g.bI 15=q:=⟨_,rfl⟩;obtain ⟨m2,h2⟩:∃ q,Sk.qR (b || c) g.target 1000=q:=⟨_,rfl⟩;obtain ⟨m3,h3⟩:∃ q,Sk.qR c g.turns 100=q:=⟨_,rfl⟩
 simp only [h1,h2,h3] at M1 M2 M3 ⊢
 clear h1 h2 h3;have M1:=hide M1;have M2:=hide M2;have M3:=hide M3;have tk1:=hide True.intro;have tk2:=hide True.intro
 go_enter Tryz.func17,Tryz.ntmps17
 go_upto_region 0 with (fail)
 go_cut [1,2] (fun v1 v2 wx=>v1=ptr (w.heap.size)∧v2= .int .i64 0∧Bx w wx [(w.heap.size,bT g,28)])
 case first=>
  go_wp2;go_meet;exact ⟨rfl,rfl,Bx.of ((aJ.nil w).new (by simp) (bT g) 28) _ rfl⟩
 case rest=>
  obtain ⟨rfl,rfl,hL⟩:=hcut;have k0:=(hL.get 0 rfl).cell (j:=0) rfl
  go_upto_region 1 with (fail)
  go_cut [3,4,5] from 6 to 15 (fun v3 v4 v5 wx=>v3= .bool s∧v4= .bool b∧v5= .bool c∧Bx w wx [(w.heap.size,bT g,28)])
  case first=>
   go_wp2
   go_quiet (fail)
   go_wp2;go_meet;exact ⟨rfl,rfl,rfl,hL.drewN nq⟩
  case rest=>
   obtain ⟨rfl,rfl,rfl,hL⟩:=hcut;clear k0 hs hb hc;have k1:=(hL.get 0 rfl).cell (j:=1) rfl;have k2:=(hL.get 0 rfl).cell (j:=2) rfl;have k3:=(hL.get 0 rfl).cell (j:=3) rfl
   cases s <;> cases b <;> cases c <;> cases m1 <;> cases m2 <;> cases m3 <;>
    (go_wp2_with (first | (clear tk1;go_at_call 65;refine (M1.out _).mono ?_;rintro e w2 ⟨rfl,rfl⟩) | (clear tk2;go_at_call 65;refine (M2.out _).mono ?_;rintro e w2 ⟨rfl,rfl⟩) | (go_at_call 65;refine (M3.out _).mono ?_;rintro e w2 ⟨rfl,rfl⟩))
     go_ret
     exact ⟨bf rfl,hL.bw⟩)
theorem Turn.mono {X X':Nat→Prop} {W W':World} (h:Turn X W W') (hX:∀ b,X b→X' b):Turn X' W W':=⟨h.os,h.tape,h.output,h.size,fun b hb hn=>h.block b hb (fun hx=>hn (hX b hx))⟩
theorem yx {W:World} {D:Nat} {e:TypeId} {size:Nat} {v:Value} {n:Nat} {xs:List Value} (h:W.ownsRow D e size v n xs):∃ A c,v= .slice A n c:=by
 obtain ⟨h1,⟨rfl,rfl⟩ | ⟨g',cap,cur,rfl,h3⟩⟩:=h
 · exact ⟨none,0,rfl⟩
 · exact ⟨_,cap,rfl⟩
theorem Told.putObj {r:M.Rules} {l:List Sh} {X Y:Nat→Prop} {pre:List Ent} {x:Ent} {W:World} {lp:Nat} {o:Obj} (h:Told r l X Y pre x W) (hl:W.heap[lp]? =some o) (ho:o.isCells=false) (o':Obj):Told r l X Y pre x (W.putObj lp o'):=
 ⟨h.i,h.lt,h.e,h.s,h.t,h.rule,(KI.of (X:=fun _=>False) (Q:=Y) h.a (fun b hb _=>⟨fun h=>h,hb⟩) |>.putObj hl ho o').out,(KI.of (X:=fun _=>False) (Q:=Y) h.b (fun b hb _=>⟨fun h=>h,hb⟩) |>.putObj hl ho o').out,h.xy⟩
theorem zK {W w4:World} {D B g1 k cap k' H:Nat} {X Y:Nat→Prop} {e ty:TypeId} {size n:Nat} {v:Value} {xs ys:List Value} {o:Obj} (hV:Held W B [v] ty) (hB:B<D) (lD:nR W D X Y e size v n xs) (hXW:∀ b,X b∨Y b→b<W.heap.size) (hDW:D≤W.heap.size)
 (hgrow:(W.alloc o).grownBy w4 v.ownBlock) (hown4:w4.ownsRow D e size (.slice (some ⟨g1,0,none⟩) k cap) k' ys) (hat:v.ownBlock=some g1∨g1=H) (hH:W.heap.size+1=H):
 Held w4 B [v] ty∧Turn (fun b=>b=B∨v.ownBlock=some b) W (w4.setCell ⟨B,0,none⟩ (.slice (some ⟨g1,0,none⟩) k cap))∧Held (w4.setCell ⟨B,0,none⟩ (.slice (some ⟨g1,0,none⟩) k cap)) B [.slice (some ⟨g1,0,none⟩) k cap] ty∧nR (w4.setCell ⟨B,0,none⟩ (.slice (some ⟨g1,0,none⟩) k cap)) D X Y e size (.slice (some ⟨g1,0,none⟩) k cap) k' ys:=by
 have hne:B≠g1:=by
  rcases hat with h | h
  · have:=(fV lD.own h).1;omega
  · omega
 have Vu:Held w4 B [v] ty:=(hV.alloc o).blk (hgrow.block _ (by simp;omega) (fun e=>by have:=(fV lD.own e.symm).1;omega));refine ⟨Vu,?_,Vu.set 0 _,jm (W:=w4) hown4 (fun g hg=>?_),fun g hg=>?_⟩
 · exact ((Turn.of_below ((Below.refl W.heap.size W).alloc (Nat.le_refl _) o)).mono (X:=fun _=>False) (fun b h=>h.elim)).trans ((show Turn (fun b=>b=B∨v.ownBlock=some b) _ w4 from ⟨hgrow.os,hgrow.tape,hgrow.output,hgrow.size,fun b hb hn=>hgrow.block b hb (fun e=>hn (.inr e.symm))⟩).trans (kY (X:=fun b=>b=B∨v.ownBlock=some b) (W:=w4) (g:=B) (.inl rfl) [.slice (some ⟨g1,0,none⟩) k cap] 0) (fun b h=> .inl h)) (fun b h=> .inl h)
 · cases hg
   exact Below.heap_setCell w4 ⟨B,0,none⟩ _ g1 (fun e=>hne e.symm)
 · cases hg
   rcases hat with h | h
   · exact lD.far _ h
   · exact ⟨fun hx=>by have:g1<W.heap.size:=hXW _ (.inl hx);omega,fun hx=>by have:g1<W.heap.size:=hXW _ (.inr hx);omega⟩
def jq (g:Sk.Game) (l:List En) (k:Nat):Sk.State:=Sk.final g (Sk.start g) (bare (l.take k))
theorem qV (g:Sk.Game) (l:List En):jq g l 0=Sk.start g:=by unfold jq;simp [bare,Sk.final]
theorem qU (g:Sk.Game) (l:List En) (k:Nat) (hk:k<l.length):jq g l (k+1)=Sk.step g (jq g l k) l[k].x:=by
 unfold jq Sk.final bare
 rw [List.take_succ_eq_append_getElem hk,List.map_append,List.foldl_append]
 rfl
theorem zF {g:Sk.Game} {l:List En} (hg:Sk.dn g=0) (hl:∀ e∈l,Sk.dV g e.x=0):∀ k,k≤l.length→Sk.Ok g (jq g l k)
 | 0,_=>by rw [qV];exact Sk.GZ hg
 | k+1,hk=>by
   rw [qU g l k (by omega)];exact Sk.step_ok (zF hg hl k (by omega)) (hl _ (List.getElem_mem _))
structure Stp where
 i:Nat
 e:En
 s:Sk.State
 t:Sk.State
 rule:Int
def qB (x:Stp):List Value:=dU x.e++aO x.s++aO x.t++[.int .i64 x.rule]
def zT (x:Stp):Array Value:= #[.int .i64 ((x.i:Int)+1),.agg (qB x).toArray]
def RQ:List Value:=[.string ⟨#[]⟩,.string ⟨#[]⟩,.slice none 0 0,.slice none 0 0,.int .i64 0]
def jB:List Value:=RQ++aO Sk.zero++aO Sk.zero++[.int .i64 0]
theorem pX:(Tryz.prog.info? 138).map (·.size)=some 32:=by kernel_rfl
theorem wC (x:Stp):∀ v∈qB x,v.oneCell'=true:=by
 intro v hv
 unfold qB at hv
 rw [List.mem_append,List.mem_append,List.mem_append] at hv
 rcases hv with ((h | h) | h) | h
 · revert v;simp [dU,Value.oneCell']
 · exact bH _ v h
 · exact bH _ v h
 · rw [List.mem_singleton] at h;subst h;rfl
theorem zy (e:En):∀ v∈dU e,v.oneCell'=true:=by simp [dU,Value.oneCell']
structure rC (g:Sk.Game) (l:List En) (X Y:Nat→Prop) (pre:List Stp) (x:Stp) (W:World):Prop where
 i:x.i=pre.length
 lt:pre.length<l.length
 e:l[pre.length]? =some x.e
 s:x.s=jq g l pre.length
 t:x.t=Sk.step g x.s x.e.x
 rule:x.rule=Sk.legal g x.s x.e.x
structure Vb (g:Sk.Game) (l:List En) (K:Nat→Prop) (J:(Nat→Prop)→(Nat→Prop)→List Stp→World→Prop) (W:World) (Bf k:Nat) (X Y:Nat→Prop) (pre:List Stp) (wr:World):Prop where
 len:pre.length=k
 j:J X Y pre wr
 f:Held wr Bf (aO (jq g l k)) 26
 xf:X Bf
 xs:∀ b,X b∨Y b→W.heap.size≤b∧b<wr.heap.size
 k:∀ b,K b→wr.heap[b]? =W.heap[b]?
 sz:W.heap.size≤wr.heap.size
theorem Rz {x:Stp} {W:World} {g:Nat} {t:TypeId} (h:Held W g (qB x) t):W.there g 18 13:=fun j hj=>by
 have h1:(qB x).length=32:=rfl;rw [h.cell (List.getElem?_eq_getElem (show 18+j<(qB x).length by omega))];exact ⟨rfl,h.frozen _⟩
theorem Ye {k:Nat} {e:En} {s t:Sk.State} {ru:Int} {W:World} {g:Nat} {ty:TypeId} (h:Held W g (qB ⟨k,e,s,t,ru⟩) ty) (t2:Sk.State):Held (W.setCells g 18 (aO t2)) g (qB ⟨k,e,s,t2,ru⟩) ty:=
 Held.KG (aO t2) (dU e++aO s) (aO t) [.int .i64 ru] W h rfl
theorem JL (k:Nat) (e:En) (s t:Sk.State) (ru:Int):∀ j v,(aO t)[j]? =some v→(qB ⟨k,e,s,t,ru⟩)[18+j]? =some v:=by
 intro j v hj;have hl:j<13:=(List.getElem?_eq_some_iff.1 hj).1
 unfold qB
 rw [List.getElem?_append_left (by simp [dU,aO];omega),List.getElem?_append_right (by simp [dU,aO])];rw [show 18+j - (dU e++aO s).length=j by simp [dU,aO]];exact hj
theorem qA (g:Sk.Game) (n c:Nat) (A:Option Addr) (w:World):Calls Tryz.prog 75 #[lZ g,.slice A n c] w fun e w'=>e= .returned (.func (.func 130) #[] #[ptr w.heap.size,ptr (w.heap.size+1)])∧aJ w w' [(bT g,23),([.slice A n c],27)]:=by
 go_enter Tryz.func75,Tryz.ntmps75
 go_wp2;go_ret;exact ⟨rfl,(((aJ.nil w).new (by simp) (bT g) _).new (by simp) ([.slice A n c]) _)⟩
theorem FX {W W':World} {Bg:Nat} {cg:List Value} {tg:TypeId} (hG:Held W Bg cg tg) (hb:Below W.heap.size W W'):∀ q,W'.cell? ⟨Bg,q,none⟩=W.cell? ⟨Bg,q,none⟩:=fun q=>hb.cell (p:=⟨Bg,q,none⟩) hG.lt
theorem qp {W:World} {Bg:Nat} {cg:List Value} {tg:TypeId} (hG:Held W Bg cg tg) (o:Obj):∀ q,(W.alloc o).cell? ⟨Bg,q,none⟩=W.cell? ⟨Bg,q,none⟩:=FX hG ((Below.refl _ _).alloc (Nat.le_refl _) o)
theorem Eo {W:World} {Bg Be:Nat} (vs:List Value) (o:Nat) (h1:Bg≠Be):∀ q,(W.setCells Be o vs).cell? ⟨Bg,q,none⟩=W.cell? ⟨Bg,q,none⟩:=fun q=>jv vs o Bg q h1
theorem nV {W W' W2:World} {Bg:Nat} (h:∀ q,W'.cell? ⟨Bg,q,none⟩=W.cell? ⟨Bg,q,none⟩) (k:∀ q,W2.cell? ⟨Bg,q,none⟩=W'.cell? ⟨Bg,q,none⟩):∀ q,W2.cell? ⟨Bg,q,none⟩=W.cell? ⟨Bg,q,none⟩:=fun q=>(k q).trans (h q)
theorem iW.J5 {w:World} {S:Nat→Prop} {e:En} (h:iW w S e):iW w.drew S e:=⟨h.hits,h.aV⟩
theorem oV (g:Sk.Game) (l:List En) (Al:Option Addr) (cl:Nat) (K:Nat→Prop) (Bg Bl n:Nat) (w:World) (hn:1≤n) (hck0:Sk.dn g=0) (hck:∀ e∈l,Sk.dV g e.x=0) (hlen:l.length≤1000)
 (hKw:∀ b,K b→b<w.heap.size) (hBg:Held w Bg (bT g) 23) (hKg:K Bg) (hBl:Held w Bl [.slice Al l.length cl] 27) (hKl:K Bl) (hL:qh w K Al cl l):
 DJ (jQ none) n Tryz.prog 130 #[ptr Bg,ptr Bl] zT K (rC g l) (fun xs=>xs.length=l.length) (fun _=>True) l.length w:=by
 intro l0 J Jx W hW hJ hJx hY h0;refine mg ?_;have Y6:=hBg.below hW;have ag7:=hBl.below hW;have hLW:=hL.below hW;have hkn:=Sk.nJ hck0;have hKW:∀ b,K b→b<W.heap.size:=fun b hb=>Nat.lt_of_lt_of_le (hKw b hb) hW.size;have HY:=hide hY;clear hY hBg hBl hL
 go_enter Tryz.func130,Tryz.ntmps130
 go_upto_region 0 with (fail)
 go_cut [4] (fun v4 wx=>∃ Bf X Y,v4=ptr Bf∧Vb g l K J W Bf 0 X Y [] wx)
 case first=>
  go_wp2_with (first | ((with_reducible (refine ah 23 (.tmp 1) ?lx ?_));(case lx=>rfl);refine au (Y6) Tryz.underlying23 rfl cZ rfl (.tmp 1) rfl rfl ?_) | (go_at_call 74;refine (sG g hkn _).mono ?_;rintro e w1 ⟨rfl,hb1⟩;have hG1:=Held.new w1 (aO Sk.zero) 26) | ((with_reducible (refine aH 26 (.tmp 4) (.tmp 9) ?lx ?_));(case lx=>rfl);refine aC (hG1) (aO (Sk.start g)) rfl ak (bH _) rfl (.tmp 4) (.tmp 9) rfl rfl rfl ?_))
  go_meet;have hbT:Below W.heap.size W ((w1.alloc (.cells (aO Sk.zero).toArray 26)).setCells w1.heap.size 0 (aO (Sk.start g))):=below_setCells _ hb1.size _ _ _ _ (hb1.alloc hb1.size _);refine ⟨w1.heap.size,(fun b=>b=w1.heap.size),(fun _=>False),rfl,⟨rfl,hJ _ _ _ _ _ _ _ h0 (Turn.of_below hbT) (fun b h=>by subst h;exact .inr hb1.size) (fun b h=>h.elim),by rw [qV];exact hG1.whole _ rfl,rfl,?_,fun b hb=>hbT.block b (hKW b hb),hbT.size⟩⟩
  rintro b (h | h)
  · subst h;exact ⟨hb1.size,by rw [setCells_size];simp⟩
  · exact h.elim
 case rest=>
  obtain ⟨Bf,X0,Y0,rfl,hI⟩:=hcut;have Y7:Held wc Bl [.slice Al l.length cl] 27:=(hI.k Bl hKl).trans ag7;have s0:=Y7.cell (j:=0) rfl;go_wp2
  go_loopw [12] (fun i wr=>∃ (k:Nat) (X Y:Nat→Prop) (pre:List Stp),k≤l.length∧i= .int .i64 k∧Vb g l K J W Bf k X Y pre wr) (fun i _=>l.length - (intOf i).toNat)
  case atStart=>exact ⟨0,X0,Y0,[],Nat.zero_le _,rfl,hI⟩
  case round=>
   clear hI s0 Y7;obtain ⟨k,X,Y,pre,hk,rfl,hI⟩:=hrel
   by_cases hlt:k<l.length
   · have hLr:qh wr K Al cl l:=hLW.keep hI.sz (fun b o hb _=>World.cell?_of_block (hI.k b hb))
     have hGr:Held wr Bg (bT g) 23:=(hI.k Bg hKg).trans Y6;have atO:=hLr.bd;obtain ⟨b,o,rfl,_,hbl,hc⟩:=hLr.at_ k hlt;have hrg:=tC hLr hlt (Below.refl _ _) rfl;have hent:=hLr.ent k hlt;have hce:=hck _ (List.getElem_mem hlt);have hOk:=zF hck0 hck k (by omega);have hsc:=qU g l k hlt;have hle:l[k]? =some l[k]:=List.getElem?_eq_getElem hlt;obtain ⟨e,he⟩:∃ e,l[k]=e:=⟨_,rfl⟩;rw [he] at hrg hent hce hsc hle;have hF:=hI.f;obtain ⟨s,hs⟩:∃ s,jq g l k=s:=⟨_,rfl⟩;rw [hs] at hF hOk hsc;have HI:=hide hI;have DI:=hide hsc;have HS:=hide hs;have HLE:=hide hle;clear hI hc hsc hs hle he hLr
     go_upto_region 3 with (fail)
     go_cut [5,6] from 14 to 16 (fun v5 v6 wx=>∃ Bx,v5= .int .i64 k∧v6=ptr Bx∧wr.heap.size≤Bx∧Held wx Bx (dU e) 83∧Below wr.heap.size wr wx)
     case first=>
      have hX0:=Held.new wr RQ 83
      go_wp2_with (first | (refine ah 83 (.tmp 15) rfl ?_;refine aK hrg Tryz.underlying83 rfl bF rfl (.tmp 15) rfl rfl ?_) | (refine aH 83 (.tmp 6) (.tmp 16) rfl ?_;refine aC hX0 (dU e) rfl bF (zy e) rfl (.tmp 6) (.tmp 16) rfl rfl rfl ?_))
      go_meet;exact ⟨wr.heap.size,rfl,rfl,Nat.le_refl _,hX0.whole _ rfl,below_setCells _ (Nat.le_refl _) _ _ _ _ ((Below.refl _ _).alloc (Nat.le_refl _) _)⟩
     case rest=>
      rename World=>W1
      obtain ⟨Bx,rfl,rfl,hBx,hX,hb1⟩:=hcut;have hFx:=hF.below hb1;have CX:=hGr.below hb1;have hex:=hent.below hb1;have hL4:=fun W h=>oG K g s e W hOk hce h;obtain ⟨ru,Xm⟩:∃ q,Sk.legal g s e.x=q:=⟨_,rfl⟩;rw [Xm] at hL4;have HL4:=hide hL4;have Yt:=hide Xm;clear hL4 Xm
      go_upto_region 4 with (fail)
      go_cut [7] from 17 to 24 (fun v7 wy=>∃ Be,v7=ptr Be∧W1.heap.size≤Be∧Held wy Be (qB ⟨k,e,s,s,ru⟩) 138∧Below W1.heap.size W1 wy)
      case first=>
       have hrX:∀ W:World,(fun w':World=>((∀ q,w'.cell? ⟨Bx,q,none⟩=W1.cell? ⟨Bx,q,none⟩)∧(∀ q,w'.cell? ⟨Bf,q,none⟩=W1.cell? ⟨Bf,q,none⟩))∧(∀ q,w'.cell? ⟨Bg,q,none⟩=W1.cell? ⟨Bg,q,none⟩)) W→W.rangeAt Bx 0 [.string e.x.kind,.string e.x.called,.slice e.A e.x.hits.length e.a,.slice e.B e.x.aV.length e.b,.int .i64 e.x.bD]:=fun W h j v hj=>by rw [Nat.zero_add,h.1.1 j];exact hX.cell hj
       have ZP:∀ W:World,(fun w':World=>((∀ q,w'.cell? ⟨Bx,q,none⟩=W1.cell? ⟨Bx,q,none⟩)∧(∀ q,w'.cell? ⟨Bf,q,none⟩=W1.cell? ⟨Bf,q,none⟩))∧(∀ q,w'.cell? ⟨Bg,q,none⟩=W1.cell? ⟨Bg,q,none⟩)) W→W.rangeAt Bf 0 [.int .i64 s.turn,.int .i64 s.s0,.int .i64 s.s1,.int .i64 s.brk,.string s.phase,.int .i64 s.bI,.int .i64 s.colour,.bool s.free,.bool s.aT,.int .i64 s.aP,.int .i64 s.t0,.int .i64 s.t1,.int .i64 s.aB]:=fun W h j v hj=>by rw [Nat.zero_add,h.1.2 j];exact hFx.cell hj
       have hrG:∀ W:World,(fun w':World=>((∀ q,w'.cell? ⟨Bx,q,none⟩=W1.cell? ⟨Bx,q,none⟩)∧(∀ q,w'.cell? ⟨Bf,q,none⟩=W1.cell? ⟨Bf,q,none⟩))∧(∀ q,w'.cell? ⟨Bg,q,none⟩=W1.cell? ⟨Bg,q,none⟩)) W→W.rangeAt Bg 0 [.string g.kind,.int .i64 g.bI,.int .i64 g.target,.int .i64 g.turns]:=fun W h j v hj=>by rw [Nat.zero_add,h.2 j];exact CX.cell hj
       refine wp_region_held_drew (S:=(fun w':World=>((∀ q,w'.cell? ⟨Bx,q,none⟩=W1.cell? ⟨Bx,q,none⟩)∧(∀ q,w'.cell? ⟨Bf,q,none⟩=W1.cell? ⟨Bf,q,none⟩))∧(∀ q,w'.cell? ⟨Bg,q,none⟩=W1.cell? ⟨Bg,q,none⟩))) (by kernel_rfl) ?bW (fun hHeld=>?_)
       case bW=>exact ⟨⟨fun q=>rfl,fun q=>rfl⟩,fun q=>rfl⟩
       refine bJ 0 hrX Tryz.underlying83 ?_;refine bJ 1 ZP Tryz.underlying26 ?_;refine bJ 2 ZP Tryz.underlying26 ?_;refine bJ 3 hrG Tryz.underlying23 ?_;refine bJ 4 ZP Tryz.underlying26 ?_;refine bJ 5 hrX Tryz.underlying83 ?_;refine iF 6 8 (fun K hK=>?_) fun K hK=>?_
       · go_simp
         (first | (go_at_call 80;refine (HL4.out W1.drew hex.J5).mono ?_;rintro e4 w4 ⟨rfl,hb4⟩;have xY:=And.intro (FY hX.drew hFx.drew hb4) (FX CX.drew hb4)) | (go_at_call 80;refine (HL4.out (W1.drew.alloc _) (hex.J5.below ((Below.refl _ _).alloc (Nat.le_refl _) _))).mono ?_;rintro e4 w4 ⟨rfl,hb4⟩;have Ak:=And.intro (FY (hX.drew.alloc _) (hFx.drew.alloc _) hb4) (FX (CX.drew.alloc _) hb4)))
         refine ay hK (by first | exact xY | exact ⟨(nX (qw hX.drew hFx.drew _) Ak.1),(nV (qp CX.drew _) Ak.2)⟩) fun hHeld=>?_;clear hK K;refine aF 7 ?_;refine aG 8 fun K hK=>?_;go_simp;refine ay hK (by first | exact ⟨(nX xY.1 (qw (hX.drew.below hb4) (hFx.drew.below hb4) _)),(nV xY.2 (qp (CX.drew.below hb4) _))⟩ | exact ⟨(qw hX.drew hFx.drew _),(qp CX.drew _)⟩) fun hHeld=>?_;clear hK K;refine aG 9 fun K hK=>?_
         first | (have hk5:=And.intro (nX (nX xY.1 (qw (hX.drew.below hb4) (hFx.drew.below hb4) (.cells jB.toArray 138))) (Ep (Be:=w4.heap.size) (qB ⟨k,e,s,s,ru⟩) 0 (by have:=hX.lt;have:=hb4.size;simp at this;omega) (by have:=hFx.lt;have:=hb4.size;simp at this;omega))) (nV (nV xY.2 (qp (CX.drew.below hb4) (.cells jB.toArray 138))) (Eo (Be:=w4.heap.size) (qB ⟨k,e,s,s,ru⟩) 0 (by have:=CX.lt;have:=hb4.size;simp at this;omega)));have hE0:=Held.new w4 jB 138;refine aU hE0 (qB ⟨k,e,s,s,ru⟩) rfl pX (wC _) (.tmp 7) (.tmp 24) rfl rfl rfl ?_) | (have hk5:=And.intro (nX (nX (qw hX.drew hFx.drew (.cells jB.toArray 138)) Ak.1) (Ep (Be:=W1.heap.size) (qB ⟨k,e,s,s,ru⟩) 0 (by have:=hX.lt;omega) (by have:=hFx.lt;omega))) (nV (nV (qp CX.drew (.cells jB.toArray 138)) Ak.2) (Eo (Be:=W1.heap.size) (qB ⟨k,e,s,s,ru⟩) 0 (by have:=CX.lt;omega)));have hE0:=(Held.new W1.drew jB 138).below hb4;refine aU hE0 (qB ⟨k,e,s,s,ru⟩) rfl pX (wC _) (.tmp 7) (.tmp 24) rfl rfl rfl ?_)
         refine ay hK (hk5) fun hHeld=>?_;clear hK K;refine wpAnyH_done (by kernel_rfl) ?_ _;clear hk5 hrX ZP hrG
         first | clear xY | clear Ak
         go_wp2;go_meet
         first | exact ⟨w4.heap.size,rfl,hb4.size,hE0.whole _ rfl,below_setCells _ hb4.size _ _ _ _ ((dh hb4).alloc hb4.size _)⟩ | exact ⟨W1.heap.size,rfl,Nat.le_refl _,hE0.whole _ rfl,below_setCells _ (Nat.le_refl _) _ _ _ _ (((dh (Below.refl _ W1.drew)).alloc (Nat.le_refl _) _).trans (hb4.mono (by simp)))⟩
       · go_simp
         refine ay hK (by first | exact ⟨(nX xY.1 (qw (hX.drew.below hb4) (hFx.drew.below hb4) _)),(nV xY.2 (qp (CX.drew.below hb4) _))⟩ | exact ⟨(qw hX.drew hFx.drew _),(qp CX.drew _)⟩) fun hHeld=>?_;clear hK K;refine aG 6 fun K hK=>?_;go_simp
         (first | (go_at_call 80;refine (HL4.out W1.drew hex.J5).mono ?_;rintro e4 w4 ⟨rfl,hb4⟩;have xY:=And.intro (FY hX.drew hFx.drew hb4) (FX CX.drew hb4)) | (go_at_call 80;refine (HL4.out (W1.drew.alloc _) (hex.J5.below ((Below.refl _ _).alloc (Nat.le_refl _) _))).mono ?_;rintro e4 w4 ⟨rfl,hb4⟩;have Ak:=And.intro (FY (hX.drew.alloc _) (hFx.drew.alloc _) hb4) (FX (CX.drew.alloc _) hb4)))
         refine ay hK (by first | exact xY | exact ⟨(nX (qw hX.drew hFx.drew _) Ak.1),(nV (qp CX.drew _) Ak.2)⟩) fun hHeld=>?_;clear hK K;refine aF 7 ?_;refine aG 9 fun K hK=>?_
         first | (have hk5:=And.intro (nX (nX xY.1 (qw (hX.drew.below hb4) (hFx.drew.below hb4) (.cells jB.toArray 138))) (Ep (Be:=w4.heap.size) (qB ⟨k,e,s,s,ru⟩) 0 (by have:=hX.lt;have:=hb4.size;simp at this;omega) (by have:=hFx.lt;have:=hb4.size;simp at this;omega))) (nV (nV xY.2 (qp (CX.drew.below hb4) (.cells jB.toArray 138))) (Eo (Be:=w4.heap.size) (qB ⟨k,e,s,s,ru⟩) 0 (by have:=CX.lt;have:=hb4.size;simp at this;omega)));have hE0:=Held.new w4 jB 138;refine aU hE0 (qB ⟨k,e,s,s,ru⟩) rfl pX (wC _) (.tmp 7) (.tmp 24) rfl rfl rfl ?_) | (have hk5:=And.intro (nX (nX (qw hX.drew hFx.drew (.cells jB.toArray 138)) Ak.1) (Ep (Be:=W1.heap.size) (qB ⟨k,e,s,s,ru⟩) 0 (by have:=hX.lt;omega) (by have:=hFx.lt;omega))) (nV (nV (qp CX.drew (.cells jB.toArray 138)) Ak.2) (Eo (Be:=W1.heap.size) (qB ⟨k,e,s,s,ru⟩) 0 (by have:=CX.lt;omega)));have hE0:=(Held.new W1.drew jB 138).below hb4;refine aU hE0 (qB ⟨k,e,s,s,ru⟩) rfl pX (wC _) (.tmp 7) (.tmp 24) rfl rfl rfl ?_)
         refine ay hK (hk5) fun hHeld=>?_;clear hK K;refine wpAnyH_done (by kernel_rfl) ?_ _;clear hk5 hrX ZP hrG
         first | clear xY | clear Ak
         go_wp2;go_meet
         first | exact ⟨w4.heap.size,rfl,hb4.size,hE0.whole _ rfl,below_setCells _ hb4.size _ _ _ _ ((dh hb4).alloc hb4.size _)⟩ | exact ⟨W1.heap.size,rfl,Nat.le_refl _,hE0.whole _ rfl,below_setCells _ (Nat.le_refl _) _ _ _ _ (((dh (Below.refl _ W1.drew)).alloc (Nat.le_refl _) _).trans (hb4.mono (by simp)))⟩
      case rest=>
       obtain ⟨Be,rfl,Y5,hE,hb2⟩:=hcut;have hEF:=hE.cell (j:=31) rfl;have hFe:=hFx.below hb2;have hXe:=hX.below hb2;have hGe:=CX.below hb2;have ajd:=hex.below hb2;have kP:=hb1.trans (hb2.mono hb1.size)
       go_upto_if 27 with (fail)
       go_cut [] from 25 to 32 (fun wz=>Held wz Be (qB ⟨k,e,s,Sk.step g s e.x,ru⟩) 138∧Below W1.heap.size W1 wz)
       case first=>
        rcases zr:(ru == 0) with _ | _
        · have hst:Sk.step g s e.x=s:=by
           unfold Sk.step
           rw [if_neg (by rw [Yt.out];simpa using zr)]
          have HST:=hide hst;clear hst;go_wp2;go_meet;rw [HST.out];exact ⟨hE,hb2⟩
        · have hl0:Sk.legal g s e.x=0:=by rw [Yt.out];simpa using zr
          have hst:Sk.step g s e.x=Sk.next g s e.x:=by
           unfold Sk.step
           rw [if_pos hl0]
          have hn5:=fun W h=>sF K g s e W hOk hce ((Sk.uP.1 hl0).call) h;have HST:=hide hst;have HN5:=hide hn5;clear hst hn5 hl0
          go_wp2_with (first | ((with_reducible (refine ah 23 (.tmp 1) ?lx ?_));(case lx=>rfl);refine au (hGe) Tryz.underlying23 rfl cZ rfl (.tmp 1) rfl rfl ?_) | ((with_reducible (refine ah 26 (.tmp 4) ?lx ?_));(case lx=>rfl);refine au (hFe) Tryz.underlying26 rfl ak rfl (.tmp 4) rfl rfl ?_) | ((with_reducible (refine ah 83 (.tmp 6) ?lx ?_));(case lx=>rfl);refine au (hXe) Tryz.underlying83 rfl bF rfl (.tmp 6) rfl rfl ?_) | (go_at_call 81;refine (HN5.out _ (ajd.below (Below.refl _ _))).mono ?_;rintro e5 w5 ⟨rfl,hb5⟩;have Vq:=hE.below hb5) | (refine aH 26 (.tmp 32) (.tmp 31) rfl ?_;refine Ce (o:=18) (vs:=aO (Sk.next g s e.x)) (Rz Vq) ak (bH _) rfl (.tmp 32) (.tmp 31) rfl rfl rfl ?_))
          go_meet;rw [HST.out];exact ⟨Ye Vq _,below_setCells _ Y5 _ _ _ _ (hb2.trans (hb5.mono hb2.size))⟩
       case rest=>
        rename World=>W3
        obtain ⟨hE',hb3⟩:=hcut;have hf3:=hFx.below hb3;have ahe:W3.rangeAt Be 18 (aO (Sk.step g s e.x)):=fun j v hj=>hE'.cell (JL k e s (Sk.step g s e.x) ru j v hj)
        have hfb:Bf≠Be:=by have:=hFx.lt;omega
        go_upto_region 7 with (fail)
        go_cut [] from 33 to 34 (fun wz=>Held wz Be (qB ⟨k,e,s,Sk.step g s e.x,ru⟩) 138∧Held wz Bf (aO (Sk.step g s e.x)) 26∧Turn (fun b=>b=Bf) wr wz∧wr.heap.size≤wz.heap.size)
        case first=>
         go_wp2_with (first | (refine ah 26 (.tmp 33) rfl ?_;refine aK ahe Tryz.underlying26 rfl ak rfl (.tmp 33) rfl rfl ?_) | ((with_reducible (refine aH 26 (.tmp 4) (.tmp 34) ?lx ?_));(case lx=>rfl);refine aC (hf3) (aO (Sk.step g s e.x)) rfl ak (bH _) rfl (.tmp 4) (.tmp 34) rfl rfl rfl ?_))
         go_meet;have Zj:=hb1.trans (hb3.mono hb1.size);exact ⟨(wI hfb.symm _ _ _).trans hE',hf3.whole _ rfl,((Turn.of_below Zj).mono (X:=fun _=>False) (fun b h=>h.elim)).trans (kY (X:=fun b=>b=Bf) rfl _ 0) (fun b h=> .inl h),by rw [setCells_size];exact Zj.size⟩
        case rest=>
         rename World=>W4
         obtain ⟨hE4,hf4,ht4,hs4⟩:=hcut;have atl:wr.heap.size≤Be:=Nat.le_trans hb1.size Y5;have hxk:=HI.out;obtain ⟨X',hX'⟩:∃ X':Nat→Prop,X'=fun b=>X b∨b=Be:=⟨_,rfl⟩
         have gX:sQ wr X X':=fun b h=>by rw [hX'] at h;rcases h with h | h;exact .inl h;exact .inr (by omega)
         have xf':X' Bf:=by rw [hX'];exact .inl hxk.xf
         have xe':X' Be:=by rw [hX'];exact .inr rfl
         have xs':∀ b,X' b∨Y b→W.heap.size≤b∧b<W4.heap.size:=fun b h=>by
          have s1:=hxk.sz;have s3:=hE4.lt;rw [hX'] at h
          rcases h with (h | h) | h
          · have:=hxk.xs b (.inl h);omega
          · subst h;omega
          · have:=hxk.xs b (.inr h);omega
         have hj4:=hJ _ _ _ _ X' Y _ hxk.j (ht4.mono (fun b h=>by subst h;exact hxk.xf)) gX (fun b h=> .inl h)
         have hk4:∀ b,K b→W4.heap[b]? =W.heap[b]? :=fun b hb=>(ht4.block b (Nat.lt_of_lt_of_le (hKW b hb) hxk.sz) (fun e=>by
          have h1:=hKW b hb;have h2:=(hxk.xs Bf (.inl hxk.xf)).1
          omega)).trans (hxk.k b hb)
         have hT:rC g l X' Y pre ⟨k,e,s,Sk.step g s e.x,ru⟩ W4:=⟨hxk.len.symm,by rw [hxk.len];exact hlt,by rw [hxk.len];exact HLE.out,by rw [hxk.len];exact HS.out.symm,rfl,Yt.out.symm⟩;obtain ⟨fn',aeM,assign',body',hy,hR⟩:=HY.out X' Y pre ⟨k,e,s,Sk.step g s e.x,ru⟩ W4 hj4 xs' (by rw [hxk.len];exact hlt) hT;have auR:=hxk.sz;have ZQ:=hxk.len;clear hX' gX hxk hT
         have hlen':(pre++[(⟨k,e,s,Sk.step g s e.x,ru⟩:Stp)]).length=k+1:=by rw [List.length_append,ZQ];rfl
         have hs1:jq g l (k+1)=Sk.step g s e.x:=DI.out;have HLEN:=hide hlen';have Ho:=hide hs1;clear hlen' hs1 ZQ;obtain ⟨xx,hxx⟩:∃ q:Stp,(⟨k,e,s,Sk.step g s e.x,ru⟩:Stp)=q:=⟨_,rfl⟩;rw [hxx] at hy hR HLEN hE4
         have hyx:zT xx= #[.int .i64 ((k:Int)+1),.agg (qB xx).toArray]:=by rw [← hxx];rfl
         rw [hyx] at hy;have HXX:=hide hxx
         have hwr:IntKind.i64.wrap ((k:Int)+1)=(k:Int)+1:=by rw [IntKind.wrap_i64];omega
         clear hyx hxx
         go_upto_region 8 with (fail)
         go_cut [40] from 35 to 40 (fun v wx=>(v= .bool false∧J X' Y (pre++[xx]) wx∧oI K X' Y W4 wx)∨(v= .bool true∧Jx X' Y (pre++[xx]) wx))
         case first=>
          refine (wpIn_wide (n:=n)).1 ?_;have akh:(jQ none).round=none:=rfl;have ai6:(jQ none).depth=none:=rfl;have ajr:∀ f,(jQ none).fn f=True:=fun _=>rfl;refine wpIn_region_lit ?_
          gi_wp2_with (refine Um hE4 Tryz.underlying138 rfl pX rfl (.tmp 7) rfl rfl ?_)
          refine hR.mono ?_
          rintro e4 W5 (⟨rfl,WQ,hk5⟩ | ⟨rfl,FI⟩)
          · gi_wp2
            go_meet;exact .inl ⟨rfl,WQ,hk5⟩
          · gi_wp2
            go_meet;exact .inr ⟨rfl,FI⟩
         case rest=>
          clear hy hR
          rcases hcut with ⟨rfl,WQ,hk5⟩ | ⟨rfl,FI⟩
          · have hf5:Held wc Bf (aO (Sk.step g s e.x)) 26:=(hk5.block Bf (.inl xf')).trans hf4
            clear hJx;go_wp2
            go_roundw
            case rel=>
             refine ⟨k+1,X',Y,pre++[xx],by omega,by go_num,HLEN.out,WQ,by rw [Ho.out];exact hf5,xf',fun b h=>?_,fun b h=>(hk5.keep b h).trans (hk4 b h),?_⟩
             · have h1:=xs' b h
               have h2:=hk5.size;exact ⟨h1.1,by omega⟩
             · have:=hk5.size;omega
            case measure=>simp [intOf];omega
          · go_wp2
            refine bodyPost_ret (results_none rfl _ _ _) rfl ?_;exact ⟨⟨_,rfl⟩,.inr ⟨X',Y,pre++[xx],FI⟩⟩
   · obtain rfl:k=l.length:=by omega
     go_wp2
     go_end0
     exact ⟨⟨_,rfl⟩,.inl ⟨X,Y,pre,hI.len,hI.j⟩⟩
theorem rC.putObj {g:Sk.Game} {l:List En} {X Y:Nat→Prop} {pre:List Stp} {x:Stp} {W W':World} (h:rC g l X Y pre x W):rC g l X Y pre x W':=⟨h.i,h.lt,h.e,h.s,h.t,h.rule⟩
structure qC (w:World) (D:Nat) (boxes:Nat→List (Nat × List Value × TypeId)) (X Y:Nat→Prop) (xs:List Stp) (W:World):Prop where
 bw:Below w.heap.size w W
 sz:D≤W.heap.size
 sep:∀ b,X b∨Y b→D≤b
 bx:∀ p∈boxes xs.length,Held W p.1 p.2.1 p.2.2
theorem Rn {D:Nat} {X Y X' Y':Nat→Prop} {W:World} (h:∀ b,X b∨Y b→D≤b) (hs:D≤W.heap.size) (hX:sQ W X X') (hY:sQ W Y Y'):∀ b,X' b∨Y' b→D≤b:=by
 rintro b (hb | hb)
 · rcases hX b hb with h2 | h2
   · exact h b (.inl h2)
   · exact Nat.le_trans hs h2
 · rcases hY b hb with h2 | h2
   · exact h b (.inr h2)
   · exact Nat.le_trans hs h2
section
variable {w:World} {D:Nat} {boxes:Nat→List (Nat × List Value × TypeId)}
theorem qC.abides (hw:w.heap.size≤D) (hD:∀ k,∀ p∈boxes k,p.1<D):pI (qC w D boxes):=by
 intro X Y pre W X' Y' W' h ht hX hY;exact ⟨vH h.bw ht (fun b hb=>by have:=h.sep b (.inl hb);omega) (by have:=h.sz;omega),Nat.le_trans h.sz ht.size,Rn h.sep h.sz hX hY,fun p hp=>(h.bx p hp).turn ht (fun hx=>by have:=h.sep _ (.inl hx);have:=hD _ p hp;omega)⟩
theorem qC.putObj {X Y:Nat→Prop} {pre:List Stp} {W:World} {lp:Nat} {o:Obj} (h:qC w D boxes X Y pre W) (hD:w.heap.size≤D) (hlp:D≤lp) (hl:W.heap[lp]? =some o) (ho:o.isCells=false) (o':Obj):qC w D boxes X Y pre (W.putObj lp o'):=
 ⟨jO h.bw (by omega) _,by simpa using h.sz,h.sep,fun p hp=>(h.bx p hp).putObj hl ho _⟩
end
def EZ (e ty:TypeId) (size D B:Nat) (len:Nat→Nat) (rows:Nat→List Value) (X Y:Nat→Prop) (xs:List Stp) (W:World):Prop:=∃ v,Held W B [v] ty∧nR W D X Y e size v (len xs.length) (rows xs.length)
section
variable {e ty:TypeId} {size D B:Nat} {len:Nat→Nat} {rows:Nat→List Value}
theorem EZ.turn {X Y X' Y':Nat→Prop} {pre:List Stp} {W W':World} (hB:B<D) (h:EZ e ty size D B len rows X Y pre W) (ht:Turn X W W') (hs:∀ b,X b∨Y b→D≤b) (hX:sQ W X X') (hY:sQ W Y Y'):EZ e ty size D B len rows X' Y' pre W':=by
 obtain ⟨v,hv,ho⟩:=h;exact ⟨v,hv.turn ht (fun hx=>by have:=hs _ (.inl hx);omega),ho.turn ht hX hY⟩
theorem EZ.putObj {X Y:Nat→Prop} {pre:List Stp} {W:World} {lp:Nat} {o:Obj} (h:EZ e ty size D B len rows X Y pre W) (hl:W.heap[lp]? =some o) (ho:o.isCells=false) (o':Obj):EZ e ty size D B len rows X Y pre (W.putObj lp o'):=by
 obtain ⟨v,hv,hw⟩:=h;exact ⟨v,hv.putObj hl ho _,hw.putObj hl ho _⟩
end
def DK (w:World) (D:Nat) (boxes:Nat→List (Nat × List Value × TypeId)) (e ty:TypeId) (size B:Nat) (len:Nat→Nat) (rows:Nat→List Value) (X Y:Nat→Prop) (xs:List Stp) (W:World):Prop:=
 qC w D boxes X Y xs W∧EZ e ty size D B len rows X Y xs W
theorem DK.abides {w:World} {D:Nat} {boxes:Nat→List (Nat × List Value × TypeId)} {e ty:TypeId} {size B:Nat} {len:Nat→Nat} {rows:Nat→List Value} (hw:w.heap.size≤D) (hB:B<D) (hD:∀ k,∀ p∈boxes k,p.1<D):pI (DK w D boxes e ty size B len rows):=
 fun X Y pre W X' Y' W' h ht hX hY=>⟨qC.abides hw hD X Y pre W X' Y' W' h.1 ht hX hY,h.2.turn hB ht h.1.sep hX hY⟩
theorem Yd {Z X Y K:Nat→Prop} {W W6:World} {D:Nat} (hWs:D≤W.heap.size) (hX:∀ b,X b∨Y b→D≤b∧b<W.heap.size) (hZ:∀ b,Z b→(b<D∧¬ K b)∨((∃ o:Obj,W.heap[b]? =some o∧o.isCells=true)∧D≤b∧¬ X b∧¬ Y b)) (hK:∀ b,K b→b<D)
 (hT:Turn Z W W6):KeepsFrom D W W6∧oI K X Y W W6:=by
 refine ⟨⟨hT.size,fun k o hk hl hc=>(hT.block k (Array.getElem?_eq_some_iff.1 hl).1 ?_).trans hl⟩,⟨hT.size,fun b h=>hT.block b (hX b h).2 ?_,fun b h=>hT.block b (Nat.lt_of_lt_of_le (hK b h) hWs) ?_⟩⟩
 · intro h
   rcases hZ k h with h | ⟨⟨o2,h2,h3⟩,_⟩
   · omega
   · rw [hl] at h2;cases h2;rw [hc] at h3;cases h3
 · have h1:=(hX b h).1
   intro h2
   rcases hZ b h2 with h3 | h3
   · omega
   · exact h.elim h3.2.2.1 h3.2.2.2
 · intro h2
   rcases hZ b h2 with h3 | h3
   · exact h3.2 h
   · have:=hK b h;omega
theorem VO {W:World} {D:Nat} {X Y:Nat→Prop} {e:TypeId} {size:Nat} {v:Value} {n:Nat} {xs:List Value} (h:nR W D X Y e size v n xs) {b:Nat} (hb:v.ownBlock=some b):(∃ o:Obj,W.heap[b]? =some o∧o.isCells=true)∧D≤b∧¬ X b∧¬ Y b:=
 ⟨(fV h.own hb).2,(fV h.own hb).1,(h.far b hb).1,(h.far b hb).2⟩
theorem G8 {g:Sk.Game} {l:List En} {X Y:Nat→Prop} {pre:List Stp} {x:Stp} {W:World} (ht:rC g l X Y pre x W):x.e∈l:=by
 have h:=ht.e;have hl:=ht.lt;rw [List.getElem?_eq_getElem hl] at h;rw [← Option.some.inj h];exact List.getElem_mem hl
theorem Dz {g:Sk.Game} {l:List En} {X Y:Nat→Prop} {pre:List Stp} {x:Stp} {W:World} (ht:rC g l X Y pre x W):jq g l (pre.length+1)=x.t:=by
 have h:=ht.e;have hl:=ht.lt;rw [List.getElem?_eq_getElem hl] at h;have h2:=Option.some.inj h;rw [qU g l _ hl,ht.t,ht.s,h2]
def kV (g:Sk.Game) (l:List En) (k:Nat):List Sk.qZ:=Sk.gu g (Sk.start g) 1 (bare (l.take k))
def VP (l:List Sk.qZ):List Value:=l.flatMap fun x=>[.int .i64 x.number,.int .i64 x.rule]
theorem JH (a b:List Sk.qZ):VP (a++b)=VP a++VP b:=by simp [VP]
theorem Bj (g:Sk.Game) (l:List En) (k:Nat):(kV g l k).length≤k:=by
 have go:∀ (l2:List Sk.Entry) (s:Sk.State) (n:Int),(Sk.gu g s n l2).length≤l2.length:=by
  intro l2
  induction l2 with
  | nil=>intro s n;exact Nat.le_refl _
  | cons y l2 ih=>
    intro s n
    have:=ih (Sk.step g s y) (n+1)
    rw [Sk.gu,List.length_append,List.length_cons]
    split <;> simp <;> omega
 have:=go (bare (l.take k)) (Sk.start g) 1
 unfold kV
 rw [kQ,List.length_take] at this
 omega
theorem GV (g:Sk.Game) (l:List En) (k:Nat) (hk:k<l.length):kV g l (k+1)=kV g l k++(if Sk.legal g (jq g l k) l[k].x=0 then [] else [⟨(k:Int)+1,Sk.legal g (jq g l k) l[k].x⟩]):=by
 have go:∀ (l2:List Sk.Entry) (s:Sk.State) (n:Int) (x:Sk.Entry),Sk.gu g s n (l2++[x])=Sk.gu g s n l2++(if Sk.legal g (Sk.final g s l2) x=0 then [] else [⟨n+l2.length,Sk.legal g (Sk.final g s l2) x⟩]):=by
  intro l2
  induction l2 with
  | nil=>intro s n x;simp [Sk.gu,Sk.final]
  | cons y l2 ih=>
    intro s n x;rw [List.cons_append,Sk.gu,Sk.gu,ih,List.append_assoc]
    simp only [Sk.final,List.foldl_cons,List.length_cons]
    rw [show n+1+(l2.length:Int)=n+((l2.length+1:Nat):Int) by push_cast;omega]
    rfl
 unfold kV jq
 rw [List.take_succ_eq_append_getElem hk]
 unfold bare
 rw [List.map_append,List.map_cons,List.map_nil,go]
 congr 2
 simp only [List.length_map,List.length_take,Nat.min_eq_left (Nat.le_of_lt hk)]
 rw [Int.add_comm]
theorem Nb {g:Sk.Game} {l:List En} {X Y:Nat→Prop} {pre:List Stp} {x:Stp} {W:World} (ht:rC g l X Y pre x W):kV g l (pre.length+1)=kV g l pre.length++(if x.rule=0 then [] else [⟨(pre.length:Int)+1,x.rule⟩]):=by
 have h:=ht.e;have hl:=ht.lt;rw [List.getElem?_eq_getElem hl] at h;have h2:=Option.some.inj h;rw [GV g l _ hl,h2,ht.rule,ht.s]
theorem tq {g:Sk.Game} {l:List En} (h:Sk.iq g (bare l)=0):Sk.dn g=0∧(∀ e∈l,Sk.dV g e.x=0)∧l.length≤1000:=by
 unfold Sk.iq at h
 split at h
 · rename_i h2;exact absurd h h2
 · rename_i h2
   split at h
   · cases h
   · rename_i h3
     refine ⟨by simpa using h2,?_,by rw [kQ] at h3;omega⟩;clear h2 h3
     induction l with
     | nil=>intro e he;cases he
     | cons y l ih=>
       rw [bare,List.map_cons,Sk.lu] at h
       by_cases h5:Sk.dV g y.x=0
       · intro e he
         rcases List.mem_cons.1 he with rfl | he
         · exact h5
         · refine ih ?_ e he
           rw [if_neg (by simpa using h5)] at h;exact h
       · rw [if_pos h5] at h
         exact absurd h h5
theorem Gf (g:Sk.Game) (s:Sk.State) (e:Sk.Entry):0≤Sk.legal g s e∧Sk.legal g s e≤5:=by
 unfold Sk.legal
 repeat' split
 all_goals decide
theorem UK:(Tryz.prog.info? 140).map (fun i=>(i.zero,i.size,i.bytes))=some (some (.agg #[.int .i64 0,.int .i64 0]),2,16):=by kernel_rfl
theorem Rt (g:Sk.Game) (l:List En):jq g l l.length=Sk.final g (Sk.start g) (bare l):=by unfold jq;rw [List.take_length]
theorem Bh (g:Sk.Game) (l:List En):kV g l l.length=Sk.gu g (Sk.start g) 1 (bare l):=by unfold kV;rw [List.take_length]
theorem Bv {w:World} {D:Nat} {boxes:Nat→List (Nat × List Value × TypeId)} {e ty:TypeId} {size B:Nat} {len:Nat→Nat} {rows:Nat→List Value} {Z X Y K:Nat→Prop} {Ix:(Nat→Prop)→(Nat→Prop)→List Stp→World→Prop} {x:Stp} {pre:List Stp} {W W6:World} {a:Act}
 (hi:qC w D boxes X Y pre W) (hw:w.heap.size≤D) (hX:∀ b,X b∨Y b→D≤b∧b<W.heap.size) (hK:∀ b,K b→b<D) (hT:Turn Z W W6) (hZ:∀ b,Z b→(w.heap.size≤b∧b<D∧¬ K b)∨((∃ o:Obj,W.heap[b]? =some o∧o.isCells=true)∧D≤b∧¬ X b∧¬ Y b))
 (hbx:∀ p∈boxes (pre.length+1),Held W6 p.1 p.2.1 p.2.2) (hrow:EZ e ty size D B len rows X Y (pre++[x]) W6):uF K D X Y (DK w D boxes e ty size B len rows) Ix (pre++[x]) W .normal a W6:=by
 obtain ⟨h1,h2⟩:=Yd hi.sz hX (fun b hb=>(hZ b hb).elim (fun h=> .inl h.2) .inr) hK hT;refine ⟨h1,h2,⟨vH hi.bw hT (fun b hb=>(hZ b hb).elim (fun h=>h.1) (fun h=>Nat.le_trans hw h.2.1)) (Nat.le_trans hw hi.sz),Nat.le_trans hi.sz hT.size,hi.sep,?_⟩,hrow⟩;rw [List.length_append,List.length_singleton];exact hbx
def X6 (g:Sk.Game) (l:List En):Sk.State:=if Sk.iq g (bare l)=0 then Sk.final g (Sk.start g) (bare l) else Sk.zero
def UL (g:Sk.Game) (l:List En):List Sk.qZ:=if Sk.iq g (bare l)=0 then Sk.gu g (Sk.start g) 1 (bare l) else []
theorem xH (S:Nat→Prop) (g:Sk.Game) (l:List En) (A:Option Addr) (c:Nat) (w:World) (hp:qh w S A c l):
 Calls Tryz.prog 25 #[lZ g,.slice A l.length c] w fun e w'=>∃ A2 c2,e= .returned (.tuple #[kW (X6 g l),.slice A2 (UL g l).length c2,.int .i64 (Sk.iq g (bare l))])∧Reads w' (fun b=>w.heap.size≤b) 2 A2 (UL g l).length c2 (VP (UL g l))∧Below w.heap.size w w':=by
 refine callsIn_wide.1 (callsIn_of_wp_marks (F:=Fence.wide) (n:=5) Tryz.func25 rfl trivial ?_ rfl)
 simp only [Tryz.ntmps25,List.size_toArray,List.length_cons,List.length_nil,Nat.reduceAdd,Nat.reduceSub,Array.replicate_succ,
  Array.replicate_zero,List.push_toArray,List.append_toArray,List.nil_append,List.cons_append]
 refine wpIn_wide.2 ?_
 generalize hQ':bodyPostM Fence.wide 5 Tryz.prog _ _=Q'
 have hck:=fun W h=>pW S g l A c W h;obtain ⟨E,hE⟩:∃ E,Sk.iq g (bare l)=E:=⟨_,rfl⟩;rw [hE] at hck;have pq:=hide hck;have HE:=hide hE;have HQ:=hide hQ';clear hck hE hQ'
 go_upto_region 0 with (fail)
 go_cut [2,4] from 2 to 7 (fun v2 v4 wx=>v2=ptr w.heap.size∧v4=ptr (w.heap.size+1)∧aJ w wx [(bT g,23),(aO Sk.zero,26)])
 case first=>
  go_wp2;go_meet;exact ⟨rfl,rfl,(((aJ.nil w).new (by simp) (bT g) _).new (by simp) (aO Sk.zero) _)⟩
 case rest=>
  obtain ⟨rfl,rfl,hB⟩:=hcut
  by_cases h0:E=0
  · have h0':(E != 0)=false:=by simp [h0]
    go_upto_region 4 with (first | ((with_reducible (refine ah 23 (.tmp 2) ?lx ?_));(case lx=>rfl);refine au (hB.aA rfl) Tryz.underlying23 rfl cZ rfl (.tmp 2) rfl rfl ?_) | (go_at_call 20;refine (pq.out _ (hp.below hB.bw)).mono ?_;rintro e w1 ⟨rfl,hb1⟩;have hB1:=hB.call (by simp) hb1))
    have hck0:=HE.out.trans h0;have HL:=hide (tq hck0);have hkn:=Sk.nJ HL.out.1;have hrs:X6 g l=Sk.final g (Sk.start g) (bare l)∧UL g l=Sk.gu g (Sk.start g) 1 (bare l):=⟨by unfold X6;rw [if_pos hck0],by unfold UL;rw [if_pos hck0]⟩;have EW:=hide hrs;clear h0' hrs hck0
    go_cut [8] from 19 to 21 (fun v8 wx=>∃ B8,v8=ptr B8∧aJ w wx [(bT g,23),(aO Sk.zero,26)]∧w.heap.size+2≤B8∧Held wx B8 (aO (Sk.start g)) 26)
    case first=>
     go_wp2_with (first | ((with_reducible (refine ah 23 (.tmp 2) ?lx ?_));(case lx=>rfl);refine au (hB1.aA rfl) Tryz.underlying23 rfl cZ rfl (.tmp 2) rfl rfl ?_) | (go_at_call 74;refine (sG g hkn _).mono ?_;rintro e w2 ⟨rfl,hb2⟩;have hB2:=hB1.call (by simp) hb2;have hG2:=Held.new w2 (aO Sk.zero) 26) | ((with_reducible (refine aH 26 (.tmp 8) (.tmp 20) ?lx ?_));(case lx=>rfl);refine aC (hG2) (aO (Sk.start g)) rfl ak (bH _) rfl (.tmp 8) (.tmp 20) rfl rfl rfl ?_))
     go_meet;have hs1:=hB1.size (by simp);have hs2:=hb2.size
     simp only [List.length_cons,List.length_nil] at hs1
     exact ⟨w2.heap.size,rfl,(hB2.alloc (by simp) _).fM (by simpa using Nat.le_trans hs1 hs2) _ _,by omega,hG2.whole _ rfl⟩
    case rest=>
     obtain ⟨B8,rfl,hB2,EX,hG⟩:=hcut
     have auK:w.heap.size+2≤wc.heap.size:=by simpa using hB2.size (by simp)
     go_wp2_with (first | ((with_reducible (refine ah 23 (.tmp 2) ?lx ?_));(case lx=>rfl);refine au ((hB2.alloc (by simp) _).aA rfl) Tryz.underlying23 rfl cZ rfl (.tmp 2) rfl rfl ?_) | (go_at_call 75;refine (qA g _ _ _ _).mono ?_;rintro e w3 ⟨rfl,hC⟩))
     rename_i KQ WR
     have hD3:wc.heap.size+3≤w3.heap.size:=by
      have:=hC.size (by simp)
      simp only [List.length_cons,List.length_nil,World.size_alloc] at this
      omega
     have hb3:=(hB2.bw.trans (((Below.refl _ _).alloc (Nat.le_refl _) _).mono (by omega))).trans (hC.bw.mono (by simp;omega));have atd:=hG.lt
     have Y8:Held w3 (wc.heap.size+1) (bT g) 23:=by simpa using hC.aA rfl
     have Oq:Held w3 (wc.heap.size+1+1) [.slice A l.length c] 27:=by simpa using hC.get 1 rfl
     have hK3:∀ b,(fun b=>b=wc.heap.size+1∨b=wc.heap.size+2∨(S b∧b<w.heap.size)) b→b<w3.heap.size:=by rintro b (h | h | ⟨_,h⟩) <;> omega
     have Zb:qh w3 (fun b=>b=wc.heap.size+1∨b=wc.heap.size+2∨(S b∧b<w.heap.size)) A c l:=(hp.more (S':=(fun b=>b=wc.heap.size+1∨b=wc.heap.size+2∨(S b∧b<w.heap.size))) (fun b hb h=> .inr (.inr ⟨h,hb⟩))).below hb3
     have hZ3:Held w3 (w.heap.size+1) (aO Sk.zero) 26:=by have:=(hB2.get 1 rfl).alloc (.cells #[.slice none 0 0] 47);exact this.upto hC.bw (by simp;omega)
     have hG3:Held w3 B8 (aO (Sk.start g)) 26:=(hG.alloc (.cells #[.slice none 0 0] 47)).upto hC.bw (by simp;omega);have hA3:Held w3 wc.heap.size [.slice none 0 0] 47:=(Held.new wc [.slice none 0 0] 47).upto hC.bw (by simp)
     have hbd:∀ k,∀ p∈((fun k=>[(B8,aO (jq g l k),26),(w.heap.size+1,aO Sk.zero,26)]) k),p.1<w3.heap.size:=by
      intro k p hp
      have hp2:p=(B8,aO (jq g l k),26)∨p=(w.heap.size+1,aO Sk.zero,26):=by simpa using hp
      rcases hp2 with rfl | rfl
      · show B8<w3.heap.size;omega
      · show w.heap.size+1<w3.heap.size;omega
     have YO:=hide hbd;clear hbd;refine (wpIn_wide (n:=5)).1 ?_
     refine jD (F:=Fence.wide) rfl (by decide) rfl trivial (fun _ _=>rfl) (oV g l A c (fun b=>b=wc.heap.size+1∨b=wc.heap.size+2∨(S b∧b<w.heap.size)) _ _ 4 w3 (by decide) HL.out.1 HL.out.2.1 HL.out.2.2 hK3 Y8 (.inl rfl) Oq (.inr (.inl rfl)) Zb) hK3 (Below.refl _ _) (fun _=>rfl) (DK w w3.heap.size (fun k=>[(B8,aO (jq g l k),26),(w.heap.size+1,aO Sk.zero,26)]) 140 47 2 wc.heap.size (fun k=>(kV g l k).length) (fun k=>VP (kV g l k))) (fun _ _ _ _=>False) (DK.abides (by omega) (by omega) YO.out) (fun _ _ _ _ _ _ _ h _ _ _=>h)
      (fun X Y pre W lp o o' h hlp hl ho=>?ip) (fun _ _ _ _ _ _ _ h _ _ _=>h) (fun X Y pre x W lp o o' h hlp hl ho=>h.putObj) ?h0 (fun x a W=>∃ Be v0 v1 v2 v3 v4 v5 v6 v7 v12 v13 v14 v15 v16 v17 v18 v19 v20 v21 v22 v23 v24 v25 v26 v27 v28 v29 v30 v31 v32 v33 v34 v35 v36 v37 v38 v39,a= {tmps:= #[v0,v1,v2,v3,v4,v5,v6,v7,ptr B8,ptr wc.heap.size,.int .i64 ((x.i:Int)+1),ptr Be,v12,v13,v14,v15,v16,v17,v18,v19,v20,v21,v22,v23,v24,v25,v26,v27,v28,v29,v30,v31,v32,v33,v34,v35,v36,v37,v38,v39],defers:=[] }∧w3.heap.size≤Be∧Held W Be (qB x) 138) ?assign ?ap ?body ?done ?stop
     case ap=>
      rintro x a' W lp o o' ⟨Be,v0,v1,v2,v3,v4,v5,v6,v7,v12,v13,v14,v15,v16,v17,v18,v19,v20,v21,v22,v23,v24,v25,v26,v27,v28,v29,v30,v31,v32,v33,v34,v35,v36,v37,v38,v39,e2,h1,h2⟩ hlp hl ho
      exact ⟨Be,v0,v1,v2,v3,v4,v5,v6,v7,v12,v13,v14,v15,v16,v17,v18,v19,v20,v21,v22,v23,v24,v25,v26,v27,v28,v29,v30,v31,v32,v33,v34,v35,v36,v37,v38,v39,e2,h1,h2.putObj hl ho _⟩
     case stop=>exact fun _ _ _ _ _ _ _ h _=>h.elim
     case assign=>
      intro lp X Y pre x W K' hi ht hk Ac;have hb:=((Below.refl W.heap.size W).alloc (Nat.le_refl _) (.cells jB.toArray 138));have hb':=below_setCells W.heap.size (Nat.le_refl _) (qB x) 0 _ _ hb;have hE0:=Held.new W jB 138;have hsz:w3.heap.size≤W.heap.size:=?szi
      case szi=>exact hi.1.sz
      have fin:∀ v0 v1 v2 v3 v4 v5 v6 v7 v12 v13 v14 v15 v16 v17 v18 v19 v20 v21 v22 v23 v24 v25 v26 v27 v28 v29 v30 v31 v32 v33 v34 v35 v36 v37 v38 v39:Value,K' {tmps:= #[v0,v1,v2,v3,v4,v5,v6,v7,ptr B8,ptr wc.heap.size,.int .i64 ((x.i:Int)+1),ptr W.heap.size,v12,v13,v14,v15,v16,v17,v18,v19,v20,v21,v22,v23,v24,v25,v26,v27,v28,v29,v30,v31,v32,v33,v34,v35,v36,v37,v38,v39],defers:=[] } ((W.alloc (.cells jB.toArray 138)).setCells W.heap.size 0 (qB x)):=fun _ _ _ _ _ _ _ _ _ _ _ _ _ _ _ _ _ _ _ _ _ _ _ _ _ _ _ _ _ _ _ _ _ _ _ _=>
       hk _ _ ⟨hb'.size,fun k o hk hl _=>(hb'.block k (Array.getElem?_eq_some_iff.1 hl).1).trans hl⟩
        ⟨hb'.size,fun b h=>hb'.block b (Ac b h),fun b h=>hb'.block b (Nat.lt_of_lt_of_le (hK3 b h) hsz)⟩
        ((DK.abides (by omega) (by omega) YO.out) _ _ _ _ _ _ _ hi (Turn.of_below hb') (fun b h=> .inl h) (fun b h=> .inl h))
        ht.putObj
        ⟨W.heap.size,_,_,_,_,_,_,_,_,_,_,_,_,_,_,_,_,_,_,_,_,_,_,_,_,_,_,_,_,_,_,_,_,_,_,_,_,rfl,hsz,hE0.whole _ rfl⟩
      have FIN:=hide fin;clear hk fin hb hb' hi ht Ac hsz
      simp [zT]
      apply wpIn_seq_k;intro K1 hK1;refine bG (by kernel_rfl) (by rintro ⟨_,_,h⟩;exact h) ?_;go_wp2;refine bG (by kernel_rfl) (by rintro ⟨_,_,h⟩;exact h) ?_
      go_wp2_with (refine aH 138 (.tmp 11) (.tmp 25) rfl ?_;refine aC hE0 (qB x) rfl pX (wC _) rfl (.tmp 11) (.tmp 25) rfl rfl rfl ?_)
      exact FIN.out _ _ _ _ _ _ _ _ _ _ _ _ _ _ _ _ _ _ _ _ _ _ _ _ _ _ _ _ _ _ _ _ _ _ _ _
     case ip=>exact ⟨h.1.putObj (by omega) hlp hl ho o',h.2.putObj hl ho o'⟩
     case h0=>
      intro W hW;refine ⟨⟨(hb3.trans (hW.mono (by omega))),hW.size,fun b h=>h.elim (fun h=>h.elim) (fun h=>h.elim),?_⟩,⟨.slice none 0 0,hA3.below hW,World.ownsRow_nil _ _ _ _,fun g hg=>by cases hg⟩⟩;intro p hp
      have hp2:p=(B8,aO (jq g l 0),26)∨p=(w.heap.size+1,aO Sk.zero,26):=by simpa using hp
      rcases hp2 with rfl | rfl
      · show Held W B8 (aO (jq g l 0)) 26
        rw [qV];exact hG3.below hW
      · exact hZ3.below hW
     case body=>
      rintro lp X Y pre x a' W hi ht ⟨Be,v0,v1,v2,v3,v4,v5,v6,v7,v12,v13,v14,v15,v16,v17,v18,v19,v20,v21,v22,v23,v24,v25,v26,v27,v28,v29,v30,v31,v32,v33,v34,v35,v36,v37,v38,v39,rfl,Y5,hE⟩ hlt Ac hWs
      obtain ⟨v,hV,lD⟩:=hi.2;have hbx:=hi.1.bx;have hF:Held W B8 (aO (jq g l pre.length)) 26:=hbx (B8,aO (jq g l pre.length),26) (by simp);have hZ:Held W (w.heap.size+1) (aO Sk.zero) 26:=hbx (w.heap.size+1,aO Sk.zero,26) (by simp);have h18:W.rangeAt Be 18 (aO x.t):=fun j v hj=>hE.cell (JL x.i x.e x.s x.t x.rule j v hj);apply wpIn_block;apply wpIn_seq_k;intro K1 hK1;refine bG (by kernel_rfl) (by rintro ⟨_,_,h⟩;exact h) ?_
      go_wp2_with (first | (refine ah 26 (.tmp 26) rfl ?_;refine aK (g:=Be) (o:=18) h18 Tryz.underlying26 rfl ak rfl (.tmp 26) rfl rfl ?_) | ((with_reducible (refine aH 26 (.tmp 8) (.tmp 27) ?lx ?_));(case lx=>rfl);refine aC (hF) (aO x.t) rfl ak (bH _) rfl (.tmp 8) (.tmp 27) rfl rfl rfl ?_))
      obtain ⟨W1,hW1⟩:∃ W1,W.setCells B8 0 (aO x.t)=W1:=⟨_,rfl⟩
      have hoth:∀ b,b≠B8→W1.heap[b]? =W.heap[b]? :=fun b hb=>by rw [← hW1];exact Held.nH hb _ _ _
      have hs1:W1.heap.size=W.heap.size:=by rw [← hW1];exact setCells_size _ _ _ _
      have hF1:Held W1 B8 (aO x.t) 26:=by rw [← hW1];exact hF.whole _ rfl
      have hZ1:Held W1 (w.heap.size+1) (aO Sk.zero) 26:=hZ.blk (hoth _ (by omega));have hE1:=hE.blk (hoth Be (by omega));have hV1:=hV.blk (hoth wc.heap.size (by omega))
      have hT1:Turn (fun b=>b=B8) W W1:=by rw [← hW1];exact kY (X:=fun b=>b=B8) rfl _ _
      have hown1:nR W1 w3.heap.size X Y 140 2 v (kV g l pre.length).length (VP (kV g l pre.length)):=⟨jm lD.own (fun g hg=>hoth g (by have:=(fV lD.own hg).1;omega)),lD.far⟩;rw [hW1]
      have hl0:0≤x.rule∧x.rule≤5:=by rw [ht.rule];exact Gf _ _ _
      have hst:=Dz ht;have hrf:=Nb ht;have hti:=ht.i;have hlen:=Bj g l pre.length;have HI:=hide hi.1;have HST:=hide hst;have HRF:=hide hrf;have HX:=hide Ac;have SE:=HL.out.2.2;have Yr:=hide hK3;have HOW:=hide lD;have hsz3:=hi.1.sz;clear hst hrf Ac hi ht hW1 h18 hF hZ hbx hK3 lD;have e31:=hE1.cell (j:=31) rfl;have c9:=hV1.cell (j:=0) rfl;have f9:=hV1.frozen 0;apply wpIn_seq_k;intro K2 hK2;refine bG (by kernel_rfl) (by rintro ⟨_,_,h⟩;exact h) ?_;go_wp2;refine wpIn_cond_split rfl (fun h=>?_) (fun h=>?_)
      · have h0:x.rule≠0:=by simpa using h
        clear h;obtain ⟨i0,hi0,hz0,hz1,hz2⟩:=info_parts UK;refine bG (by kernel_rfl) (by rintro ⟨_,_,h⟩;exact h) ?_
        go_wp2_with (at_builtin;refine wpList_append_lies _ rfl _ _ _ rfl (w3.heap.size) 140 i0 (.agg #[.int .i64 0,.int .i64 0]) 2 16 Tryz.underlying47 hi0 hz0 hz1 hz2 rfl (by omega) _ _ _ rfl (hown1.own.alloc _) ⟨W.heap.size,0,none⟩ 1 1 [.int .i64 ((pre.length:Int)+1),.int .i64 x.rule] rfl rfl (jW _ _ _ _ hs1) ?c1 (by omega) ?c2 ?c3 ?c4 (W.heap.size+1) (by simp [hs1]) ?_)
        case c1=>simp [Value.oneCell']
        case c2=>simp only [maxLen];omega
        case c3=>omega
        case c4=>simp;omega
        intro g1 cap w4 hown4 hgrow hat hlt4;obtain ⟨Vu,Vt,Nj,xU⟩:=zK hV1 (by omega) hown1 (fun b hb=>by have:=(HX.out b hb).2;omega) (by omega) hgrow hown4 hat (by omega);have f94:=Vu.frozen 0;have c94:=Vu.cell (j:=0) rfl;have hob:∀ b,v.ownBlock=some b→w3.heap.size≤b:=fun b h=>(fV hown1.own h).1;have Yy:=(hT1.mono (fun b h=> .inl h)).trans (Vt.mono (X':=fun b=>b=B8∨b=wc.heap.size∨v.ownBlock=some b) (fun b h=> .inr h)) (fun b h=> .inl h)
        have fin:=Bv (Ix:=(fun _ _ _ _=>False)) (a:={tmps:= #[],defers:=[] }) (x:=x) HI.out (boxes:=(fun k=>[(B8,aO (jq g l k),26),(w.heap.size+1,aO Sk.zero,26)])) (e:=140) (ty:=47) (size:=2) (B:=wc.heap.size) (len:=fun k=>(kV g l k).length) (rows:=fun k=>VP (kV g l k)) (by omega) HX.out Yr.out Yy (by
         rintro b (h | h | h)
         · refine .inl ⟨by omega,by omega,?_⟩
           rintro (h2 | h2 | ⟨_,h2⟩) <;> omega
         · refine .inl ⟨by omega,by omega,?_⟩
           rintro (h2 | h2 | ⟨_,h2⟩) <;> omega
         · exact .inr (VO HOW.out h)) (by
         intro p hp
         have hp2:p=(B8,aO (jq g l (pre.length+1)),26)∨p=(w.heap.size+1,aO Sk.zero,26):=by simpa using hp
         rcases hp2 with rfl | rfl
         · show Held _ B8 (aO (jq g l (pre.length+1))) 26
           rw [HST.out]
           exact hF1.turn Vt (by
            rintro (h2 | h2)
            · omega
            · have:=hob _ h2;omega)
         · exact hZ1.turn Vt (by
            rintro (h2 | h2)
            · omega
            · have:=hob _ h2;omega)) ⟨_,Nj,by
         have e:kV g l (pre++[x]).length=kV g l pre.length++[⟨(pre.length:Int)+1,x.rule⟩]:=by
          rw [List.length_append,List.length_singleton,HRF.out,if_neg h0]
         dsimp only
         rw [e,List.length_append,List.length_singleton,JH]
         exact xU⟩
        have FIN:=hide fin;clear fin Yy Vt xU Nj hob hE1 hV1 hF1 hZ1 hown1 e31 c9 f9 hgrow hown4;go_wp2;exact FIN.out
      · have h0:x.rule=0:=by simpa using h
        clear h;refine wpIn_skip ?_
        simp only [Exit.inBlock]
        refine Bv HI.out (by omega) HX.out Yr.out hT1 ?_ ?_ ⟨v,hV1,?_⟩
        · rintro b rfl
          refine .inl ⟨by omega,by omega,?_⟩
          rintro (h2 | h2 | ⟨_,h2⟩) <;> omega
        · intro p hp
          have hp2:p=(B8,aO (jq g l (pre.length+1)),26)∨p=(w.heap.size+1,aO Sk.zero,26):=by simpa using hp
          rcases hp2 with rfl | rfl
          · show Held _ B8 (aO (jq g l (pre.length+1))) 26
            rw [HST.out];exact hF1
          · exact hZ1
        · rw [List.length_append,List.length_singleton]
          dsimp only
          rw [HRF.out,if_pos h0,List.append_nil];exact hown1
     case done=>
      intro D X Y xs W hD hS hi hdef;obtain ⟨v,hV,lD⟩:=hi.2;have hF:Held W B8 (aO (jq g l xs.length)) 26:=hi.1.bx (B8,aO (jq g l xs.length),26) (by simp);have hZ:Held W (w.heap.size+1) (aO Sk.zero) 26:=hi.1.bx (w.heap.size+1,aO Sk.zero,26) (by simp);rw [hS,Rt] at hF;rw [hS] at lD
      dsimp only at lD
      rw [Bh] at lD;obtain ⟨A2,c2,rfl⟩:=yx lD.own;have hbw:=hi.1.bw;have hWs:=hi.1.sz
      have hlr:(Sk.gu g (Sk.start g) 1 (bare l)).length≤1000:=by have:=Bj g l l.length;rw [Bh] at this;have:=HL.out.2.2;omega
      have hrg:∀ W':World,(fun w':World=>(∀ q,w'.cell? ⟨B8,q,none⟩=W.cell? ⟨B8,q,none⟩)∧(∀ q,w'.cell? ⟨wc.heap.size,q,none⟩=W.cell? ⟨wc.heap.size,q,none⟩)) W'→W'.rangeAt B8 0 (aO (Sk.final g (Sk.start g) (bare l))):=fun W' h j v hj=>by rw [h.1];exact hF.range j v hj
      have c9:=hV.cell (j:=0) rfl;have Hw:=hide hdef;have hZ5:=(hZ.drew).whole (aO (Sk.final g (Sk.start g) (bare l))) rfl;have ho5:∀ b,b≠w.heap.size+1→((W.drew).setCells (w.heap.size+1) 0 (aO (Sk.final g (Sk.start g) (bare l)))).heap[b]? =W.heap[b]? :=fun b hb=>Held.nH hb (aO (Sk.final g (Sk.start g) (bare l))) 0 W.drew;have vX:Below w.heap.size w ((W.drew).setCells (w.heap.size+1) 0 (aO (Sk.final g (Sk.start g) (bare l)))):=below_setCells _ (by omega) _ _ _ _ (show Below w.heap.size w W.drew from ⟨hbw.os,hbw.tape,hbw.output,hbw.size,hbw.block⟩)
      have fin:∀ (a:Act),a.defers=[{target:= .collected D,args:= #[] }]→a.tmps.getD 4 undef=ptr (w.heap.size+1)→a.tmps.getD 5 undef= .slice A2 (Sk.gu g (Sk.start g) 1 (bare l)).length c2→a.tmps.getD 6 undef= .int .i64 0→Q' .ret a ((W.drew).setCells (w.heap.size+1) 0 (aO (Sk.final g (Sk.start g) (bare l)))):=by
       intro a e1 e4 e5 e6;have hd5:=(ho5 D (by omega)).trans Hw.out;rw [← HQ.out];refine mG e1 hd5 (CY (p:=4) (hZ5.putObj hd5 rfl _) Tryz.underlying26 rfl ak rfl _ e4) ⟨A2,c2,?_,?_,jO vX (by omega) _⟩
       · rw [e5,e6,HE.out,EW.out.1,EW.out.2,h0];rfl
       · rw [EW.out.2]
         exact Reads.Aw (jm lD.own (fun g hg=>by
          have h1:=fV lD.own hg
          have hne:g≠D:=fun e=>by
           obtain ⟨_,o2,h2,h3⟩:=h1;rw [e,Hw.out] at h2;cases h2;cases h3
          exact (World.putObj_heap_other hne).trans (ho5 g (by omega)))) (fun g hg=>by omega) (by omega)
      have FIN:=hide fin;clear fin hZ5 vX hi hdef lD hV;refine WR _ _ ?_
      dsimp only
      refine lY ?_
      go_upto_region 12 with (fail)
      go_cut [5,6] from 38 to 40 (fun v5 v6 wx=>v5= .slice A2 (Sk.gu g (Sk.start g) 1 (bare l)).length c2∧v6= .int .i64 0∧wx=((W.drew).setCells (w.heap.size+1) 0 (aO (Sk.final g (Sk.start g) (bare l)))))
      case first=>
       refine wp_region_held_drew (S:=(fun w':World=>(∀ q,w'.cell? ⟨B8,q,none⟩=W.cell? ⟨B8,q,none⟩)∧(∀ q,w'.cell? ⟨wc.heap.size,q,none⟩=W.cell? ⟨wc.heap.size,q,none⟩))) (by kernel_rfl) ?bW (fun hHeld=>?_)
       case bW=>first | exact hk3 | exact ⟨fun q=>rfl,fun q=>rfl⟩
       refine bJ 0 hrg Tryz.underlying26 ?_;refine aF 1 ?_;refine aG 2 fun K hK=>?_;have hk3:(∀ q,((W.drew).setCells (w.heap.size+1) 0 (aO (Sk.final g (Sk.start g) (bare l)))).cell? ⟨B8,q,none⟩=W.cell? ⟨B8,q,none⟩)∧(∀ q,((W.drew).setCells (w.heap.size+1) 0 (aO (Sk.final g (Sk.start g) (bare l)))).cell? ⟨wc.heap.size,q,none⟩=W.cell? ⟨wc.heap.size,q,none⟩):=⟨fun q=>World.cell?_of_block (ho5 B8 (by omega)),fun q=>World.cell?_of_block (ho5 wc.heap.size (by omega))⟩;refine aU (hZ.drew) (aO (Sk.final g (Sk.start g) (bare l))) rfl ak (bH _) (.tmp 4) (.tmp 38) rfl rfl rfl ?_;refine ay hK (by first | (first | exact hk3 | exact ⟨fun q=>rfl,fun q=>rfl⟩) | (dsimp only;first | exact hk3 | exact ⟨fun q=>rfl,fun q=>rfl⟩)) fun hHeld=>?_;clear hK K;refine aF 3 ?_;refine aF 4 ?_;refine wpAnyH_done (by kernel_rfl) ?_ _;go_wp2;go_meet;exact ⟨rfl,rfl,rfl⟩
      case rest=>
       obtain ⟨rfl,rfl,rfl⟩:=hcut;go_wp2;exact FIN.out _ rfl rfl rfl rfl
  · have h0':(E != 0)=true:=by simp [h0]
    have hrs:X6 g l=Sk.zero∧UL g l=[]:=by
     have:=HE.out
     exact ⟨by unfold X6;rw [if_neg (by rw [this];exact h0)],by unfold UL;rw [if_neg (by rw [this];exact h0)]⟩
    have EW:=hide hrs;clear h0 hrs
    go_wp2_with (first | ((with_reducible (refine ah 23 (.tmp 2) ?lx ?_));(case lx=>rfl);refine au (hB.aA rfl) Tryz.underlying23 rfl cZ rfl (.tmp 2) rfl rfl ?_) | (go_at_call 20;refine (pq.out _ (hp.below hB.bw)).mono ?_;rintro e w1 ⟨rfl,hb1⟩;have hB1:=hB.call (by simp) hb1) | ((with_reducible (refine aH 26 (.tmp 4) (.tmp 17) ?lx ?_));(case lx=>rfl);refine aC (hB1.get 1 rfl) (aO Sk.zero) rfl ak (bH _) rfl (.tmp 4) (.tmp 17) rfl rfl rfl ?_))
    have hF:=hB1.put 1 rfl (aO Sk.zero) rfl;rw [← HQ.out];refine vY (CY (p:=4) (hF.get 1 rfl) Tryz.underlying26 rfl ak rfl _ rfl) rfl ⟨none,0,?_,?_,hF.bw⟩
    · rw [EW.out.1,EW.out.2,HE.out];rfl
    · rw [EW.out.2];exact Reads.none_ _ _ _
def sW (g:Sk.Game) (p:Int) (s:Sk.State) (e:Sk.Entry) (sum:Int):Int:=if Sk.legal g s e=0∧e.kind=Sk.dJ∧s.turn=p then sum+(Sk.judge g s e).points else sum
def wJ (s t:Sk.State):Bool:=decide (t.turn=s.turn∧t.aB<0)
def nU (x:List Int × Int) (sum:Int) (go:Bool):List Int × Int:=if go=true then (x.1,sum) else (x.1++(if 0<sum then [sum] else []),0)
def sO (g:Sk.Game) (p:Int) (l:List En):Nat→List Int × Int
 | 0=>([],0)
 | k+1=>match l[k]? with
   | none=>sO g p l k
   | some e=>nU (sO g p l k) (sW g p (jq g l k) e.x (sO g p l k).2) (wJ (jq g l k) (Sk.step g (jq g l k) e.x) && decide (k+1<l.length))
theorem zL (g:Sk.Game) (p:Int) (l:List En) (k:Nat) {e:En} (h:l[k]? =some e):sO g p l (k+1)=nU (sO g p l k) (sW g p (jq g l k) e.x (sO g p l k).2) (wJ (jq g l k) (Sk.step g (jq g l k) e.x) && decide (k+1<l.length)):=by
 rw [sO,h]
theorem RF {g:Sk.Game} {l:List En} {X Y:Nat→Prop} {pre:List Stp} {x:Stp} {W:World} (p:Int) (ht:rC g l X Y pre x W):sO g p l (pre.length+1)=nU (sO g p l pre.length) (sW g p x.s x.e.x (sO g p l pre.length).2) (wJ x.s x.t && decide (pre.length+1<l.length)):=by
 rw [zL g p l _ ht.e, ← ht.s, ← ht.t]
theorem NI (g:Sk.Game) (p:Int) (l:List En):∀ k,k≤l.length→(sO g p l k).1++Sk.qG g p (jq g l k) (sO g p l k).2 (bare (l.drop k))=Sk.breaks g p (bare l)
 | 0,_=>by
   rw [sO,qV];rfl
 | k+1,hk=>by
   have ih:=NI g p l k (by omega);have hg:l[k]? =some l[k]:=List.getElem?_eq_getElem (by omega);rw [zL g p l k hg,qU g l k (by omega), ← ih,List.drop_eq_getElem_cons (by omega:k<l.length)];obtain ⟨e,he⟩:∃ e,l[k]=e:=⟨_,rfl⟩;rw [he];obtain ⟨s,hs⟩:∃ s,jq g l k=s:=⟨_,rfl⟩;obtain ⟨x,hx⟩:∃ x,sO g p l k=x:=⟨_,rfl⟩;rw [hs,hx];have hb:bare (e::l.drop (k+1))=e.x::bare (l.drop (k+1)):=rfl;rw [hb,Sk.qG]
   have hne:(bare (l.drop (k+1))≠[])↔k+1<l.length:=by
    rw [← List.length_pos_iff,kQ,List.length_drop];omega
   show _=x.1++(if (Sk.step g s e.x).turn=s.turn∧(Sk.step g s e.x).aB<0∧bare (l.drop (k+1))≠[] then _ else _)
   by_cases hc:(Sk.step g s e.x).turn=s.turn∧(Sk.step g s e.x).aB<0∧k+1<l.length
   · have hgo:(wJ s (Sk.step g s e.x) && decide (k+1<l.length))=true:=by unfold wJ;simp [hc]
     rw [nU,if_pos hgo,if_pos ⟨hc.1,hc.2.1,hne.2 hc.2.2⟩]
     rfl
   · have hgo:(wJ s (Sk.step g s e.x) && decide (k+1<l.length))=false:=by
      cases h:(wJ s (Sk.step g s e.x) && decide (k+1<l.length))
      · rfl
      · unfold wJ at h
        rw [Bool.and_eq_true,decide_eq_true_eq,decide_eq_true_eq] at h;exact absurd ⟨h.1.1,h.1.2,h.2⟩ hc
     have hno:¬ ((Sk.step g s e.x).turn=s.turn∧(Sk.step g s e.x).aB<0∧bare (l.drop (k+1))≠[]):=fun h=>hc ⟨h.1,h.2.1,hne.1 h.2.2⟩;rw [nU,if_neg (by rw [hgo];decide),if_neg hno];rw [List.append_assoc]
     rfl
theorem Wu (g:Sk.Game) (p:Int) (l:List En):(sO g p l l.length).1=Sk.breaks g p (bare l):=by
 have:=NI g p l l.length (Nat.le_refl _)
 rw [List.drop_length] at this
 simpa [bare,Sk.qG] using this
theorem yN {g:Sk.Game} {p:Int} {s:Sk.State} {e:Sk.Entry} {sum:Int} (ho:Sk.Ok g s) (hk:Sk.dV g e=0):sum≤sW g p s e sum∧sW g p s e sum≤sum+1000000:=by
 unfold sW
 split
 · rename_i h
   have hc:=(Sk.uP.1 h.1).call;have hv:=Sk.Ap g s e ho.inr.colour (fun hg hp=>by have:=Sk.vM hk h.2.1 hc hg hp;omega);have hu:=Sk.FW (g:=g) (s:=s) (e:=e) ho.inr.colour.2 (Sk.Fp hk h.2.1)
   have:=hv.points
   omega
 · omega
theorem zM {g:Sk.Game} {p:Int} {l:List En} (hg:Sk.dn g=0) (hl:∀ e∈l,Sk.dV g e.x=0):∀ k,k≤l.length→0≤(sO g p l k).2∧(sO g p l k).2≤1000000*k∧(sO g p l k).1.length≤k
 | 0,_=>by rw [sO];simp
 | k+1,hk=>by
   have ih:=zM hg hl k (p:=p) (by omega);have he:l[k]? =some l[k]:=List.getElem?_eq_getElem (by omega);have ha:=yN (p:=p) (sum:=(sO g p l k).2) (zF hg hl k (by omega)) (hl _ (List.getElem_mem (by omega:k<l.length)));rw [zL g p l k he]
   unfold nU
   split
   · dsimp only;omega
   · dsimp only
     rw [List.length_append];refine ⟨by omega,by omega,?_⟩
     split
     · rw [List.length_singleton];omega
     · simp;omega
theorem Un:(Tryz.prog.info? 3).map (fun i=>(i.zero,i.size,i.bytes))=some (some (.int .i64 0),1,8):=by kernel_rfl
def Vd (g:Sk.Game) (l:List En) (p:Int):Int:=fst [Sk.iq g (bare l),iL (Sk.out p 0 1) 3]
def Ve (g:Sk.Game) (l:List En) (p:Int):List Int:=if Vd g l p=0 then Sk.breaks g p (bare l) else []
theorem NH {g:Sk.Game} {l:List En} {p:Int} (h:Vd g l p=0):Sk.iq g (bare l)=0∧(p=0∨p=1):=by
 unfold Vd at h
 rw [rQ] at h
 by_cases h1:Sk.iq g (bare l)=0
 · rw [if_neg (by simpa using h1),G9 (by decide)] at h
   refine ⟨h1,?_⟩
   unfold Sk.out at h
   simp at h
   omega
 · rw [if_pos h1] at h;exact absurd h h1
theorem Nc {v:Sk.fF} {w:World}:(Instr.field 78 (RH v) 0).run Tryz.prog w= .ok (.int .i64 v.points) w:=by kernel_rfl
theorem Turn.refl' (X:Nat→Prop) (W:World):Turn X W W:=Turn.refl X W
theorem UW (x:Stp):∀ j v,(dU x.e)[j]? =some v→(qB x)[0+j]? =some v:=by
 intro j v hj;have hl:j<5:=(List.getElem?_eq_some_iff.1 hj).1
 unfold qB
 rw [Nat.zero_add,List.append_assoc,List.append_assoc,List.getElem?_append_left (by simp [dU];omega)];exact hj
theorem UY (x:Stp):∀ j v,(aO x.s)[j]? =some v→(qB x)[5+j]? =some v:=by
 intro j v hj;have hl:j<13:=(List.getElem?_eq_some_iff.1 hj).1
 unfold qB
 rw [List.append_assoc,List.append_assoc,List.getElem?_append_right (by simp [dU]),List.getElem?_append_left (by simp [dU,aO];omega)];rw [show 5+j - (dU x.e).length=j by simp [dU]];exact hj
theorem nI {W W':World} {n Be:Nat} (h:Below W.heap.size W W') (hn:n≤W.heap.size) (he:Be<W.heap.size):(∀ p q,p<n→W'.cell? ⟨p,q,none⟩=W.cell? ⟨p,q,none⟩)∧(∀ q,W'.cell? ⟨Be,q,none⟩=W.cell? ⟨Be,q,none⟩):=
 ⟨fun p q hp=>h.cell (p:=⟨p,q,none⟩) (Nat.lt_of_lt_of_le hp hn),fun q=>h.cell (p:=⟨Be,q,none⟩) he⟩
theorem Em {W W':World} {n Be B:Nat} {v:Value} (h:Below W.heap.size W W') (hn:n≤W.heap.size) (he:Be<W.heap.size) (h1:n≤B) (h2:Be≠B):(∀ p q,p<n→(W'.setCell ⟨B,0,none⟩ v).cell? ⟨p,q,none⟩=W.cell? ⟨p,q,none⟩)∧(∀ q,(W'.setCell ⟨B,0,none⟩ v).cell? ⟨Be,q,none⟩=W.cell? ⟨Be,q,none⟩):=
 ⟨fun p q hp=>(World.cell?_setCell_other _ _ _ _ (by intro h;injection h;omega)).trans (h.cell (p:=⟨p,q,none⟩) (Nat.lt_of_lt_of_le hp hn)),fun q=>(World.cell?_setCell_other _ _ _ _ (by intro h;injection h;omega)).trans (h.cell (p:=⟨Be,q,none⟩) he)⟩
theorem xE (S:Nat→Prop) (g:Sk.Game) (l:List En) (A:Option Addr) (c:Nat) (p:Int) (w:World) (hp:qh w S A c l):
 Calls Tryz.prog 26 #[lZ g,.slice A l.length c,.int .i64 p] w fun e w'=>∃ A2 c2,e= .returned (.tuple #[.slice A2 (Ve g l p).length c2,.int .i64 (Vd g l p)])∧jV w' (fun b=>w.heap.size≤b) A2 c2 (Ve g l p)∧Below w.heap.size w w':=by
 refine callsIn_wide.1 (callsIn_of_wp_marks (F:=Fence.wide) (n:=5) Tryz.func26 rfl trivial ?_ rfl)
 simp only [Tryz.ntmps26,List.size_toArray,List.length_cons,List.length_nil,Nat.reduceAdd,Nat.reduceSub,Array.replicate_succ,
  Array.replicate_zero,List.push_toArray,List.append_toArray,List.nil_append,List.cons_append]
 refine wpIn_wide.2 ?_
 generalize hQ':bodyPostM Fence.wide 5 Tryz.prog _ _=Q'
 have HQ:=hide hQ';clear hQ';refine lY ?_
 go_upto_region 0 with (fail)
 go_cut [3,4,5] from 3 to 8 (fun v3 v4 v5 wx=>v3=ptr w.heap.size∧v4=ptr (w.heap.size+1)∧v5=ptr (w.heap.size+2)∧aJ w wx [(bT g,23),([.slice A l.length c],27),([.int .i64 p],3)])
 case first=>
  go_wp2;go_meet;exact ⟨rfl,rfl,rfl,((((aJ.nil w).new (by simp) (bT g) _).new (by simp) ([.slice A l.length c]) _).new (by simp) ([.int .i64 p]) _)⟩
 case rest=>
  obtain ⟨rfl,rfl,rfl,hB⟩:=hcut;have hsz:=hB.size (by simp)
  simp only [List.length_cons,List.length_nil] at hsz
  have k1:=(hB.get 1 rfl).cell (j:=0) rfl;have k2:=(hB.get 2 rfl).cell (j:=0) rfl
  have hrG:∀ W:World,(fun w':World=>∀ p q,p<w.heap.size+3→w'.cell? ⟨p,q,none⟩=wc.cell? ⟨p,q,none⟩) W→W.rangeAt w.heap.size 0 (bT g):=fun W h j v hj=>by rw [h _ _ (by omega)];exact (hB.aA rfl).range j v hj
  go_upto_region 1 with (fail)
  go_cut [8] from 8 to 21 (fun v8 wx=>v8= .int .i64 (Vd g l p)∧aJ w wx [(bT g,23),([.slice A l.length c],27),([.int .i64 p],3)])
  case first=>
   refine wp_region_held_drew (S:=(fun w':World=>∀ p q,p<w.heap.size+3→w'.cell? ⟨p,q,none⟩=wc.cell? ⟨p,q,none⟩)) (by kernel_rfl) ?dS (fun hHeld=>?_)
   case dS=>exact fun p q h=>rfl
   refine bJ 0 hrG Tryz.underlying23 ?_;refine aF 1 ?_;refine aF 3 ?_;refine aG 2 fun K hK=>?_;go_simp
   (go_at_call 20;refine (pW S g l A c _ (hp.below hB.drew.bw)).mono ?_;rintro e1 w1 ⟨rfl,hb1⟩;have hb8:Below wc.heap.size wc w1:=⟨hb1.os,hb1.tape,hb1.output,hb1.size,hb1.block⟩;have hB1:=hB.drew.call (by simp) hb1)
   refine ay hK (fun p q h=>hb8.cell (p:=⟨p,q,none⟩) (Nat.lt_of_lt_of_le h hsz)) fun hHeld=>?_;clear hK K;refine aG 4 fun K hK=>?_;go_simp
   (go_at_call 66;refine (ji _ _ _ _).mono ?_;rintro e1 pz ⟨rfl,rfl⟩)
   refine ay hK (by first | exact fun p q h=>hb8.cell (p:=⟨p,q,none⟩) (Nat.lt_of_lt_of_le h hsz) | exact fun p q h=>rfl) fun hHeld=>?_;clear hK K;refine aG 5 fun K hK=>?_;go_simp
   (go_at_call 64;refine (dF _ _ _).mono ?_;rintro e1 pz ⟨rfl,rfl⟩)
   refine ay hK (by first | exact fun p q h=>hb8.cell (p:=⟨p,q,none⟩) (Nat.lt_of_lt_of_le h hsz) | exact fun p q h=>rfl) fun hHeld=>?_;clear hK K;refine aG 6 fun K hK=>?_;go_simp;refine ay hK (fun p q h=>(hb8.alloc hb8.size _).cell (p:=⟨p,q,none⟩) (Nat.lt_of_lt_of_le h hsz)) fun hHeld=>?_;clear hK K;refine aG 7 fun K hK=>?_;go_simp
   (go_at_call 67;refine (fZ (fun _=>True) _ _ [Sk.iq g (bare l),iL (Sk.out p 0 1) 3] _ (jV.row _ _ [Sk.iq g (bare l),iL (Sk.out p 0 1) 3] (by simp) _ trivial)).mono ?_;rintro e1 pz ⟨rfl,rfl⟩)
   refine ay hK (fun p q h=>(hb8.alloc hb8.size _).cell (p:=⟨p,q,none⟩) (Nat.lt_of_lt_of_le h hsz)) fun hHeld=>?_;clear hK K;refine aF 8 ?_;refine wpAnyH_done (by kernel_rfl) ?_ _;go_wp2;go_meet;exact ⟨rfl,hB1.alloc (by simp) _⟩
  case rest=>
   obtain ⟨rfl,hB1⟩:=hcut;clear hB k1 k2 hrG hsz;obtain ⟨E,hE⟩:∃ E,Vd g l p=E:=⟨_,rfl⟩;have HE:=hide hE;rw [hE];clear hE
   by_cases h0:E=0
   · have h0':(E != 0)=false:=by simp [h0]
     have Vy:=HE.out.trans h0;have HL:=hide (tq (NH Vy).1);have hkn:=Sk.nJ HL.out.1;have EW:=hide (show Ve g l p=Sk.breaks g p (bare l) by unfold Ve;rw [if_pos Vy]);clear Vy
     go_upto_region 4 with (fail)
     go_cut [9] from 9 to 10 (fun v9 wx=>∃ B9,v9=ptr B9∧w.heap.size+3≤B9∧Held wx B9 [.slice none 0 0] 50∧aJ w wx [(bT g,23),([.slice A l.length c],27),([.int .i64 p],3)])
     case first=>
      go_wp2;go_meet;have hs1:=hB1.size (by simp)
      simp only [List.length_cons,List.length_nil] at hs1
      exact ⟨wc.heap.size,rfl,by omega,Held.new wc [.slice none 0 0] 50,hB1.alloc (by simp) _⟩
     case rest=>
      obtain ⟨B9,rfl,kC,Ou,hB2⟩:=hcut;clear hB1
      go_upto_region 5 with (fail)
      go_cut [10] from 10 to 11 (fun v10 wx=>∃ B10,v10=ptr B10∧B9<B10∧Held wx B10 [.int .i64 0] 3∧Held wx B9 [.slice none 0 0] 50∧aJ w wx [(bT g,23),([.slice A l.length c],27),([.int .i64 p],3)])
      case first=>
       have hz0:=Held.new wc [.int .i64 0] 3;have hs0:=hB2.size (by simp)
       simp only [List.length_cons,List.length_nil] at hs0
       have hl9:=Ou.lt;go_wp2;go_meet;exact ⟨wc.heap.size,rfl,hl9,hz0,Ou.alloc _,hB2.alloc (by simp) _⟩
      case rest=>
       obtain ⟨B10,rfl,arI,Zh,ahs,hB3⟩:=hcut;clear hB2 Ou;have hs3:=hB3.size (by simp)
       simp only [List.length_cons,List.length_nil] at hs3
       have k1:=(hB3.get 1 rfl).cell (j:=0) rfl
       go_wp2_with (first | ((with_reducible (refine ah 23 (.tmp 3) ?lx ?_));(case lx=>rfl);refine au (hB3.aA rfl) Tryz.underlying23 rfl cZ rfl (.tmp 3) rfl rfl ?_) | (go_at_call 75;refine (qA g _ _ _ _).mono ?_;rintro e w3 ⟨rfl,hC⟩))
       rename_i KQ WR
       have hD3:wc.heap.size+2≤w3.heap.size:=by
        have:=hC.size (by simp)
        simp only [List.length_cons,List.length_nil] at this
        omega
       have hb3:=hB3.bw.trans (hC.bw.mono (by omega));have arB:=Zh.lt;have Y8:Held w3 wc.heap.size (bT g) 23:=hC.aA rfl;have Oq:Held w3 (wc.heap.size+1) [.slice A l.length c] 27:=hC.get 1 rfl
       have hK3:∀ b,(fun b=>b=wc.heap.size+0∨b=wc.heap.size+1∨(S b∧b<w.heap.size)) b→b<w3.heap.size:=by rintro b (h | h | ⟨_,h⟩) <;> omega
       have Zb:qh w3 (fun b=>b=wc.heap.size+0∨b=wc.heap.size+1∨(S b∧b<w.heap.size)) A c l:=(hp.more (S':=(fun b=>b=wc.heap.size+0∨b=wc.heap.size+1∨(S b∧b<w.heap.size))) (fun b hb h=> .inr (.inr ⟨h,hb⟩))).below hb3;have _HL:=trivial;have hG3:Held w3 w.heap.size (bT g) 23:=(hB3.aA rfl).below hC.bw;have hL3:Held w3 (w.heap.size+1) [.slice A l.length c] 27:=(hB3.get 1 rfl).below hC.bw;have hP3:Held w3 (w.heap.size+2) [.int .i64 p] 3:=(hB3.get 2 rfl).below hC.bw;have hS3:Held w3 B10 [.int .i64 0] 3:=Zh.below hC.bw;have hA3:Held w3 B9 [.slice none 0 0] 50:=ahs.below hC.bw
       have hbd:∀ k,∀ p'∈((fun k=>[(w.heap.size,bT g,23),(w.heap.size+1,[.slice A l.length c],27),(w.heap.size+2,[.int .i64 p],3),(B10,[.int .i64 (sO g p l k).2],3)]) k),p'.1<w3.heap.size:=by
        intro k p' hp'
        have hp2:p'=(w.heap.size,bT g,23)∨p'=(w.heap.size+1,[.slice A l.length c],27)∨p'=(w.heap.size+2,[.int .i64 p],3)∨p'=(B10,[.int .i64 (sO g p l k).2],3):=by simpa using hp'
        rcases hp2 with rfl | rfl | rfl | rfl
        · show w.heap.size<w3.heap.size;omega
        · show w.heap.size+1<w3.heap.size;omega
        · show w.heap.size+2<w3.heap.size;omega
        · show B10<w3.heap.size;omega
       have YO:=hide hbd;clear hbd;refine (wpIn_wide (n:=5)).1 ?_
       refine jD (F:=Fence.wide) rfl (by decide) rfl trivial (fun _ _=>rfl) (oV g l A c (fun b=>b=wc.heap.size+0∨b=wc.heap.size+1∨(S b∧b<w.heap.size)) _ _ 4 w3 (by decide) HL.out.1 HL.out.2.1 HL.out.2.2 hK3 Y8 (.inl rfl) Oq (.inr (.inl rfl)) Zb) hK3 (Below.refl _ _) (fun _=>rfl) (DK w w3.heap.size (fun k=>[(w.heap.size,bT g,23),(w.heap.size+1,[.slice A l.length c],27),(w.heap.size+2,[.int .i64 p],3),(B10,[.int .i64 (sO g p l k).2],3)]) 3 50 1 B9 (fun k=>(sO g p l k).1.length) (fun k=>(sO g p l k).1.map (Value.int .i64))) (fun _ _ _ _=>False) (DK.abides (by omega) (by omega) YO.out) (fun _ _ _ _ _ _ _ h _ _ _=>h)
        (fun X Y pre W lp o o' h hlp hl ho=>?ip) (fun _ _ _ _ _ _ _ h _ _ _=>h) (fun X Y pre x W lp o o' h hlp hl ho=>h.putObj) ?h0 (fun x a W=>∃ Be v0 v1 v2 v6 v7 v8 v13 v14 v15 v16 v17 v18 v19 v20 v21 v22 v23 v24 v25 v26 v27 v28 v29 v30 v31 v32 v33 v34 v35 v36 v37 v38 v39 v40 v41 v42 v43 v44 v45 v46 v47 v48 v49 v50 v51 v52 v53 v54 v55 v56 v57 v58 v59 v60 v61 v62 v63 v64 v65 v66 v67 v68 v69 v70 v71 v72 v73 v74 v75 v76 v77 v78 v79 v80 v81 v82 v83,a= {tmps:= #[v0,v1,v2,ptr w.heap.size,ptr (w.heap.size+1),ptr (w.heap.size+2),v6,v7,v8,ptr B9,ptr B10,.int .i64 ((x.i:Int)+1),ptr Be,v13,v14,v15,v16,v17,v18,v19,v20,v21,v22,v23,v24,v25,v26,v27,v28,v29,v30,v31,v32,v33,v34,v35,v36,v37,v38,v39,v40,v41,v42,v43,v44,v45,v46,v47,v48,v49,v50,v51,v52,v53,v54,v55,v56,v57,v58,v59,v60,v61,v62,v63,v64,v65,v66,v67,v68,v69,v70,v71,v72,v73,v74,v75,v76,v77,v78,v79,v80,v81,v82,v83],defers:=[] }∧w3.heap.size≤Be∧Held W Be (qB x) 138) ?assign ?ap ?body ?done ?stop
       case ap=>
        rintro x a' W lp o o' ⟨Be,v0,v1,v2,v6,v7,v8,v13,v14,v15,v16,v17,v18,v19,v20,v21,v22,v23,v24,v25,v26,v27,v28,v29,v30,v31,v32,v33,v34,v35,v36,v37,v38,v39,v40,v41,v42,v43,v44,v45,v46,v47,v48,v49,v50,v51,v52,v53,v54,v55,v56,v57,v58,v59,v60,v61,v62,v63,v64,v65,v66,v67,v68,v69,v70,v71,v72,v73,v74,v75,v76,v77,v78,v79,v80,v81,v82,v83,e2,h1,h2⟩ hlp hl ho
        exact ⟨Be,v0,v1,v2,v6,v7,v8,v13,v14,v15,v16,v17,v18,v19,v20,v21,v22,v23,v24,v25,v26,v27,v28,v29,v30,v31,v32,v33,v34,v35,v36,v37,v38,v39,v40,v41,v42,v43,v44,v45,v46,v47,v48,v49,v50,v51,v52,v53,v54,v55,v56,v57,v58,v59,v60,v61,v62,v63,v64,v65,v66,v67,v68,v69,v70,v71,v72,v73,v74,v75,v76,v77,v78,v79,v80,v81,v82,v83,e2,h1,h2.putObj hl ho _⟩
       case stop=>exact fun _ _ _ _ _ _ _ h _=>h.elim
       case assign=>
        intro lp X Y pre x W K' hi ht hk Ac;have hb:=((Below.refl W.heap.size W).alloc (Nat.le_refl _) (.cells jB.toArray 138));have hb':=below_setCells W.heap.size (Nat.le_refl _) (qB x) 0 _ _ hb;have hE0:=Held.new W jB 138;have hsz:w3.heap.size≤W.heap.size:=?szi
        case szi=>exact hi.1.sz
        have fin:∀ v0 v1 v2 v6 v7 v8 v13 v14 v15 v16 v17 v18 v19 v20 v21 v22 v23 v24 v25 v26 v27 v28 v29 v30 v31 v32 v33 v34 v35 v36 v37 v38 v39 v40 v41 v42 v43 v44 v45 v46 v47 v48 v49 v50 v51 v52 v53 v54 v55 v56 v57 v58 v59 v60 v61 v62 v63 v64 v65 v66 v67 v68 v69 v70 v71 v72 v73 v74 v75 v76 v77 v78 v79 v80 v81 v82 v83:Value,K' {tmps:= #[v0,v1,v2,ptr w.heap.size,ptr (w.heap.size+1),ptr (w.heap.size+2),v6,v7,v8,ptr B9,ptr B10,.int .i64 ((x.i:Int)+1),ptr W.heap.size,v13,v14,v15,v16,v17,v18,v19,v20,v21,v22,v23,v24,v25,v26,v27,v28,v29,v30,v31,v32,v33,v34,v35,v36,v37,v38,v39,v40,v41,v42,v43,v44,v45,v46,v47,v48,v49,v50,v51,v52,v53,v54,v55,v56,v57,v58,v59,v60,v61,v62,v63,v64,v65,v66,v67,v68,v69,v70,v71,v72,v73,v74,v75,v76,v77,v78,v79,v80,v81,v82,v83],defers:=[] } ((W.alloc (.cells jB.toArray 138)).setCells W.heap.size 0 (qB x)):=fun _ _ _ _ _ _ _ _ _ _ _ _ _ _ _ _ _ _ _ _ _ _ _ _ _ _ _ _ _ _ _ _ _ _ _ _ _ _ _ _ _ _ _ _ _ _ _ _ _ _ _ _ _ _ _ _ _ _ _ _ _ _ _ _ _ _ _ _ _ _ _ _ _ _ _ _ _=>
         hk _ _ ⟨hb'.size,fun k o hk hl _=>(hb'.block k (Array.getElem?_eq_some_iff.1 hl).1).trans hl⟩
          ⟨hb'.size,fun b h=>hb'.block b (Ac b h),fun b h=>hb'.block b (Nat.lt_of_lt_of_le (hK3 b h) hsz)⟩
          ((DK.abides (by omega) (by omega) YO.out) _ _ _ _ _ _ _ hi (Turn.of_below hb') (fun b h=> .inl h) (fun b h=> .inl h))
          ht.putObj
          ⟨W.heap.size,_,_,_,_,_,_,_,_,_,_,_,_,_,_,_,_,_,_,_,_,_,_,_,_,_,_,_,_,_,_,_,_,_,_,_,_,_,_,_,_,_,_,_,_,_,_,_,_,_,_,_,_,_,_,_,_,_,_,_,_,_,_,_,_,_,_,_,_,_,_,_,_,_,_,_,_,_,rfl,hsz,hE0.whole _ rfl⟩
        have FIN:=hide fin;clear hk fin hb hb' hi ht Ac hsz
        simp [zT]
        apply wpIn_seq_k;intro K1 hK1;refine bG (by kernel_rfl) (by rintro ⟨_,_,h⟩;exact h) ?_;go_wp2;refine bG (by kernel_rfl) (by rintro ⟨_,_,h⟩;exact h) ?_
        go_wp2_with (refine aH 138 (.tmp 12) (.tmp 28) rfl ?_;refine aC hE0 (qB x) rfl pX (wC _) rfl (.tmp 12) (.tmp 28) rfl rfl rfl ?_)
        exact FIN.out _ _ _ _ _ _ _ _ _ _ _ _ _ _ _ _ _ _ _ _ _ _ _ _ _ _ _ _ _ _ _ _ _ _ _ _ _ _ _ _ _ _ _ _ _ _ _ _ _ _ _ _ _ _ _ _ _ _ _ _ _ _ _ _ _ _ _ _ _ _ _ _ _ _ _ _ _
       case ip=>exact ⟨h.1.putObj (by omega) hlp hl ho o',h.2.putObj hl ho o'⟩
       case h0=>
        intro W hW;refine ⟨⟨(hb3.trans (hW.mono (by omega))),hW.size,fun b h=>h.elim (fun h=>h.elim) (fun h=>h.elim),?_⟩,⟨.slice none 0 0,hA3.below hW,World.ownsRow_nil _ _ _ _,fun g hg=>by cases hg⟩⟩;intro p' hp'
        have hp2:p'=(w.heap.size,bT g,23)∨p'=(w.heap.size+1,[.slice A l.length c],27)∨p'=(w.heap.size+2,[.int .i64 p],3)∨p'=(B10,[.int .i64 (sO g p l 0).2],3):=by simpa using hp'
        rcases hp2 with rfl | rfl | rfl | rfl
        · exact hG3.below hW
        · exact hL3.below hW
        · exact hP3.below hW
        · exact hS3.below hW
       case body=>
        rintro lp X Y pre x a' W hi ht ⟨Be,v0,v1,v2,v6,v7,v8,v13,v14,v15,v16,v17,v18,v19,v20,v21,v22,v23,v24,v25,v26,v27,v28,v29,v30,v31,v32,v33,v34,v35,v36,v37,v38,v39,v40,v41,v42,v43,v44,v45,v46,v47,v48,v49,v50,v51,v52,v53,v54,v55,v56,v57,v58,v59,v60,v61,v62,v63,v64,v65,v66,v67,v68,v69,v70,v71,v72,v73,v74,v75,v76,v77,v78,v79,v80,v81,v82,v83,rfl,Y5,hE⟩ hlt Ac hWs
        obtain ⟨v,hV,lD⟩:=hi.2;have hbx:=hi.1.bx;have WL:Held W w.heap.size (bT g) 23:=hbx (w.heap.size,bT g,23) (by simp);have Zc:Held W (w.heap.size+1) [.slice A l.length c] 27:=hbx (w.heap.size+1,[.slice A l.length c],27) (by simp);have WT:Held W (w.heap.size+2) [.int .i64 p] 3:=hbx (w.heap.size+2,[.int .i64 p],3) (by simp);have pG:Held W B10 [.int .i64 (sO g p l pre.length).2] 3:=hbx (B10,[.int .i64 (sO g p l pre.length).2],3) (by simp);have hbk:=RF p ht;have Uk:=zM HL.out.1 HL.out.2.1 (p:=p) pre.length (by omega);have hck1:=HL.out.2.1 x.e (G8 ht)
        have hok:Sk.Ok g x.s:=by rw [ht.s];exact zF HL.out.1 HL.out.2.1 _ (by omega)
        have had:=yN (p:=p) (sum:=(sO g p l pre.length).2) hok hck1;have hti:=ht.i;have Xm:=ht.rule;have hen:iW W S x.e:=(hp.2 x.e (G8 ht)).below hi.1.bw;have HBW:=hide hi.1.bw;have HI:=hide hi.1;have HX:=hide Ac;have Yr:=hide hK3;have HOW:=hide lD;have hW3:=hi.1.sz;have SE:=HL.out.2.2;obtain ⟨k2,hk2⟩:∃ q,sO g p l pre.length=q:=⟨_,rfl⟩;rw [hk2] at hbk Uk had pG
        dsimp only at lD
        rw [hk2] at lD;rw [hti];obtain ⟨sm,hsm⟩:∃ q,sW g p x.s x.e.x k2.2=q:=⟨_,rfl⟩;rw [hsm] at hbk had;have RY:=hide hbk;have HK2:=hide hk2;clear hbk hbx hi Ac hk2 hK3 hti ht;apply wpIn_block;apply wpIn_seq_k;intro K1 hK1
        have J:∀ (v0 v1 v2 v6 v7 v8 v13 v14 v15 v16 v17 v18 v19 v20 v21 v22 v23 v24 v25 v26 v27 v28 v29 v30 v31 v32 v33 v34 v35 v36 v37 v38 v39 v40 v41 v42 v43 v44 v45 v46 v47 v48 v49 v50 v51 v52 v53 v54 v55 v56 v57 v58 v59 v60 v61 v62 v63 v64 v65 v66 v67 v68 v69 v70 v71 v72 v73 v74 v75 v76 v77 v78 v79 v80 v81 v82 v83:Value) (W6:World),Turn (fun b=>b=B10) W W6→Held W6 B10 [.int .i64 sm] 3→K1 {tmps:= #[v0,v1,v2,ptr w.heap.size,ptr (w.heap.size+1),ptr (w.heap.size+2),v6,v7,v8,ptr B9,ptr B10,.int .i64 ((pre.length:Int)+1),ptr Be,v13,v14,v15,v16,v17,v18,v19,v20,v21,v22,v23,v24,v25,v26,v27,v28,v29,v30,v31,v32,v33,v34,v35,v36,v37,v38,v39,v40,v41,v42,v43,v44,v45,v46,v47,v48,v49,v50,v51,v52,v53,v54,v55,v56,v57,v58,v59,v60,v61,v62,v63,v64,v65,v66,v67,v68,v69,v70,v71,v72,v73,v74,v75,v76,v77,v78,v79,v80,v81,v82,v83],defers:=[] } W6:=by
         intro v0 v1 v2 v6 v7 v8 v13 v14 v15 v16 v17 v18 v19 v20 v21 v22 v23 v24 v25 v26 v27 v28 v29 v30 v31 v32 v33 v34 v35 v36 v37 v38 v39 v40 v41 v42 v43 v44 v45 v46 v47 v48 v49 v50 v51 v52 v53 v54 v55 v56 v57 v58 v59 v60 v61 v62 v63 v64 v65 v66 v67 v68 v69 v70 v71 v72 v73 v74 v75 v76 v77 v78 v79 v80 v81 v82 v83 W6 Si Zi;refine hK1 _ _ ?_;clear hK1 pG hok hck1 Xm hen hsm;have Vr:Held W6 Be (qB x) 138:=hE.turn Si (show ¬ (Be=B10) by omega);have Ls:Held W6 B9 [v] 50:=hV.turn Si (show ¬ (B9=B10) by omega);have TL:Held W6 (w.heap.size+1) [.slice A l.length c] 27:=Zc.turn Si (show ¬ (w.heap.size+1=B10) by omega);have WM:Held W6 w.heap.size (bT g) 23:=WL.turn Si (show ¬ (w.heap.size=B10) by omega);have WU:Held W6 (w.heap.size+2) [.int .i64 p] 3:=WT.turn Si (show ¬ (w.heap.size+2=B10) by omega);have hs6:=Si.size;have zn:nR W6 w3.heap.size X Y 3 1 v k2.1.length (k2.1.map (Value.int .i64)):=⟨jm lD.own (fun g hg=>Si.block g (by have:=(fV lD.own hg).2;obtain ⟨o,h,_⟩:=this;exact (Array.getElem?_eq_some_iff.1 h).1) (by have:=(fV lD.own hg).1;omega)),lD.far⟩;clear hE hV Zc WL WT lD;apply wpIn_seq_k;intro K3 Za
         have J2:nU k2 sm (wJ x.s x.t && decide (pre.length+1<l.length))=(k2.1++(if 0<sm then [sm] else []),0)→∀ (v0 v1 v2 v6 v7 v8 v13 v14 v15 v16 v17 v18 v19 v20 v21 v22 v23 v24 v25 v26 v27 v28 v29 v30 v31 v32 v33 v34 v35 v36 v37 v38 v39 v40 v41 v42 v43 v44 v45 v46 v47 v48 v49 v50 v51 v52 v53 v54 v55 v56 v57 v58 v59 v60 v61 v62 v63 v64 v65 v66 v67 v68 v69 v70 v71 v72 v73 v74 v75 v76 v77 v78 v79 v80 v81 v82 v83:Value),K3 {tmps:= #[v0,v1,v2,ptr w.heap.size,ptr (w.heap.size+1),ptr (w.heap.size+2),v6,v7,v8,ptr B9,ptr B10,.int .i64 ((pre.length:Int)+1),ptr Be,v13,v14,v15,v16,v17,v18,v19,v20,v21,v22,v23,v24,v25,v26,v27,v28,v29,v30,v31,v32,v33,v34,v35,v36,v37,v38,v39,v40,v41,v42,v43,v44,v45,v46,v47,v48,v49,v50,v51,v52,v53,v54,v55,v56,v57,v58,v59,v60,v61,v62,v63,v64,v65,v66,v67,v68,v69,v70,v71,v72,v73,v74,v75,v76,v77,v78,v79,v80,v81,v82,v83],defers:=[] } W6:=by
          intro hnx v0 v1 v2 v6 v7 v8 v13 v14 v15 v16 v17 v18 v19 v20 v21 v22 v23 v24 v25 v26 v27 v28 v29 v30 v31 v32 v33 v34 v35 v36 v37 v38 v39 v40 v41 v42 v43 v44 v45 v46 v47 v48 v49 v50 v51 v52 v53 v54 v55 v56 v57 v58 v59 v60 v61 v62 v63 v64 v65 v66 v67 v68 v69 v70 v71 v72 v73 v74 v75 v76 v77 v78 v79 v80 v81 v82 v83;refine Za _ _ ?_;clear Za;rw [hnx] at RY;clear hnx;have c9:=Ls.cell (j:=0) rfl;have f9:=Ls.frozen 0;have c10:=Zi.cell (j:=0) rfl;have f10:=Zi.frozen 0;apply wpIn_seq_k;intro K5 hK5;apply wpIn_seq_k;intro K6 hK6
          by_cases h0:0<sm
          · have h0':decide (0<sm)=true:=decide_eq_true h0
            rw [if_pos h0] at RY;clear h0;refine bG (by kernel_rfl) (by rintro ⟨_,_,h⟩;exact h) ?_;go_wp2;refine wpIn_cond_true rfl ?_;clear h0';obtain ⟨i0,hi0,hz0,hz1,hz2⟩:=info_parts Un;refine bG (by kernel_rfl) (by rintro ⟨_,_,h⟩;exact h) ?_
            go_wp2_with (at_builtin;refine wpList_append_lies _ rfl _ _ _ rfl (w3.heap.size) 3 i0 (.int .i64 0) 1 8 Tryz.underlying50 hi0 hz0 hz1 hz2 rfl (by omega) _ _ _ rfl (zn.own.alloc _) ⟨W6.heap.size,0,none⟩ 1 1 [.int .i64 sm] rfl rfl (jW _ _ _ _ rfl) ?c1 (by omega) ?c2 ?c3 ?c4 (W6.heap.size+1) (by simp) ?_)
            case c1=>simp [Value.oneCell']
            case c2=>simp only [maxLen];omega
            case c3=>omega
            case c4=>simp;omega
            intro g1 cap w4 hown4 hgrow hat hlt4;obtain ⟨Vu,Vt,Nj,xU⟩:=zK Ls (by omega) zn (fun b hb=>by have:=(HX.out b hb).2;omega) (by omega) hgrow hown4 hat rfl;have f94:=Vu.frozen 0;have c94:=Vu.cell (j:=0) rfl;have hob:∀ b,v.ownBlock=some b→w3.heap.size≤b:=fun b h=>(fV zn.own h).1
            have hnb:¬ (B10=B9∨v.ownBlock=some B10):=by
             rintro (h2 | h2)
             · omega
             · have:=hob _ h2;omega
            have Lr:=Zi.turn Vt hnb;have c105:=Lr.cell (j:=0) rfl;have f105:=Lr.frozen 0;have HT4:=hide Vt;have HO5:=hide xU;have HV5:=hide Nj;clear Vt xU Nj hown4 hgrow;go_wp2;obtain ⟨W7,hW7⟩:∃ W7,w4.setCell ⟨B9,0,none⟩ (.slice (some ⟨g1,0,none⟩) (k2.1.length+1) cap)=W7:=⟨_,rfl⟩;rw [hW7] at HT4 HO5 HV5 Lr ⊢;have c107:=Lr.cell (j:=0) rfl;have f107:=Lr.frozen 0;refine bG (by kernel_rfl) (by rintro ⟨_,_,h⟩;exact h) ?_;go_wp2;have Yy:=((Si.mono (X':=fun b=>b=B10∨b=B9∨v.ownBlock=some b) (fun b h=> .inl h)).trans (HT4.out.mono (X':=fun b=>b=B10∨b=B9∨v.ownBlock=some b) (fun b h=> .inr h)) (fun b h=> .inl h)).trans (kY (X:=fun b=>b=B10∨b=B9∨v.ownBlock=some b) (W:=W7) (g:=B10) (.inl rfl) [.int .i64 0] 0) (fun b h=> .inl h);have WW:Held (W7.setCell ⟨B10,0,none⟩ (.int .i64 0)) B10 [.int .i64 0] 3:=Lr.set 0 _;have tN:∀ b,b≠B10→(W7.setCell ⟨B10,0,none⟩ (.int .i64 0)).heap[b]? =W7.heap[b]? :=fun b hb=>Below.heap_setCell W7 ⟨B10,0,none⟩ _ b hb;refine Bv (Ix:=(fun _ _ _ _=>False)) HI.out (boxes:=(fun k=>[(w.heap.size,bT g,23),(w.heap.size+1,[.slice A l.length c],27),(w.heap.size+2,[.int .i64 p],3),(B10,[.int .i64 (sO g p l k).2],3)])) (e:=3) (ty:=50) (size:=1) (B:=B9) (len:=fun k=>(sO g p l k).1.length) (rows:=fun k=>(sO g p l k).1.map (Value.int .i64)) (by omega) HX.out Yr.out Yy ?_ ?_ ⟨_,HV5.out.blk (tN B9 (by omega)),?_⟩
            · rintro b (h | h | h)
              · refine .inl ⟨by omega,by omega,?_⟩
                rintro (h2 | h2 | ⟨_,h2⟩) <;> omega
              · refine .inl ⟨by omega,by omega,?_⟩
                rintro (h2 | h2 | ⟨_,h2⟩) <;> omega
              · exact .inr (VO HOW.out h)
            · intro p' hp'
              rw [RY.out] at hp'
              have hp2:p'=(w.heap.size,bT g,23)∨p'=(w.heap.size+1,[.slice A l.length c],27)∨p'=(w.heap.size+2,[.int .i64 p],3)∨p'=(B10,[.int .i64 0],3):=by simpa using hp'
              rcases hp2 with rfl | rfl | rfl | rfl
              · exact (WM.turn HT4.out (by rintro (h2 | h2);omega;have:=hob _ h2;omega)).blk (tN _ (by omega))
              · exact (TL.turn HT4.out (by rintro (h2 | h2);omega;have:=hob _ h2;omega)).blk (tN _ (by omega))
              · exact (WU.turn HT4.out (by rintro (h2 | h2);omega;have:=hob _ h2;omega)).blk (tN _ (by omega))
              · exact WW
            · rw [List.length_append,List.length_singleton]
              dsimp only
              rw [RY.out]
              dsimp only
              rw [List.length_append,List.length_singleton,List.map_append];exact ⟨jm HO5.out.own (fun g hg=>tN g (by have:=(fV HO5.out.own hg).1;omega)),HO5.out.far⟩
          · have h0':decide (0<sm)=false:=decide_eq_false h0
            rw [if_neg h0,List.append_nil] at RY;clear h0;refine bG (by kernel_rfl) (by rintro ⟨_,_,h⟩;exact h) ?_;go_wp2;refine wpIn_cond_false rfl (wpIn_skip ?_);refine hK5 _ _ ?_;refine bG (by kernel_rfl) (by rintro ⟨_,_,h⟩;exact h) ?_;go_wp2;have Yy:=Si.trans (kY (X:=fun b=>b=B10) (W:=W6) (g:=B10) rfl [.int .i64 0] 0) (fun b h=> .inl h);have WW:Held (W6.setCell ⟨B10,0,none⟩ (.int .i64 0)) B10 [.int .i64 0] 3:=Zi.set 0 _;have tN:∀ b,b≠B10→(W6.setCell ⟨B10,0,none⟩ (.int .i64 0)).heap[b]? =W6.heap[b]? :=fun b hb=>Below.heap_setCell W6 ⟨B10,0,none⟩ _ b hb;refine Bv (Ix:=(fun _ _ _ _=>False)) HI.out (boxes:=(fun k=>[(w.heap.size,bT g,23),(w.heap.size+1,[.slice A l.length c],27),(w.heap.size+2,[.int .i64 p],3),(B10,[.int .i64 (sO g p l k).2],3)])) (e:=3) (ty:=50) (size:=1) (B:=B9) (len:=fun k=>(sO g p l k).1.length) (rows:=fun k=>(sO g p l k).1.map (Value.int .i64)) (by omega) HX.out Yr.out Yy ?_ ?_ ⟨v,Ls.blk (tN B9 (by omega)),?_⟩
            · rintro b rfl
              refine .inl ⟨by omega,by omega,?_⟩
              rintro (h2 | h2 | ⟨_,h2⟩) <;> omega
            · intro p' hp'
              rw [RY.out] at hp'
              have hp2:p'=(w.heap.size,bT g,23)∨p'=(w.heap.size+1,[.slice A l.length c],27)∨p'=(w.heap.size+2,[.int .i64 p],3)∨p'=(B10,[.int .i64 0],3):=by simpa using hp'
              rcases hp2 with rfl | rfl | rfl | rfl
              · exact WM.blk (tN _ (by omega))
              · exact TL.blk (tN _ (by omega))
              · exact WU.blk (tN _ (by omega))
              · exact WW
            · rw [List.length_append,List.length_singleton]
              dsimp only
              rw [RY.out];exact ⟨jm zn.own (fun g hg=>tN g (by have:=(fV zn.own hg).1;omega)),zn.far⟩
         have e18:=Vr.cell (j:=18) rfl;have e5:=Vr.cell (j:=5) rfl;have e30:=Vr.cell (j:=30) rfl;have z1:=TL.cell (j:=0) rfl;apply wpIn_seq_k;intro K4 hK4
         by_cases b1:x.t.turn=x.s.turn
         · have b1':(x.t.turn == x.s.turn)=true:=by simp [b1]
           by_cases b2:x.t.aB<0
           · have b2':decide (x.t.aB<0)=true:=decide_eq_true b2
             by_cases b3:pre.length+1<l.length
             · have b3':decide ((pre.length:Int)+1<(l.length:Int))=true:=decide_eq_true (by omega)
               have hnx:nU k2 sm (wJ x.s x.t && decide (pre.length+1<l.length))=(k2.1,sm):=by unfold nU wJ;rw [if_pos (by simp [b1,b2,b3])]
               rw [hnx] at RY;clear J2 hnx b1 b2 b3;refine bG (by kernel_rfl) (by rintro ⟨_,_,h⟩;exact h) ?_;go_wp2;refine wpIn_cond_true rfl (wpIn_exit ?_)
               simp only [Exit.inBlock,Exit.then,if_true]
               refine Bv HI.out (by omega) HX.out Yr.out Si ?_ ?_ ⟨v,Ls,?_⟩
               · rintro b rfl
                 refine .inl ⟨by omega,by omega,?_⟩
                 rintro (h2 | h2 | ⟨_,h2⟩) <;> omega
               · intro p' hp'
                 rw [RY.out] at hp'
                 have hp2:p'=(w.heap.size,bT g,23)∨p'=(w.heap.size+1,[.slice A l.length c],27)∨p'=(w.heap.size+2,[.int .i64 p],3)∨p'=(B10,[.int .i64 sm],3):=by simpa using hp'
                 rcases hp2 with rfl | rfl | rfl | rfl
                 · exact WM
                 · exact TL
                 · exact WU
                 · exact Zi
               · rw [List.length_append,List.length_singleton]
                 dsimp only
                 rw [RY.out];exact zn
             · have b3':decide ((pre.length:Int)+1<(l.length:Int))=false:=decide_eq_false (by omega)
               have HJ2:=hide (J2 (by unfold nU wJ;rw [if_neg (by simp [b3])]));clear J2 b1 b2 b3;refine bG (by kernel_rfl) (by rintro ⟨_,_,h⟩;exact h) ?_;go_wp2;refine wpIn_cond_false rfl (wpIn_skip ?_);exact HJ2.out _ _ _ _ _ _ _ _ _ _ _ _ _ _ _ _ _ _ _ _ _ _ _ _ _ _ _ _ _ _ _ _ _ _ _ _ _ _ _ _ _ _ _ _ _ _ _ _ _ _ _ _ _ _ _ _ _ _ _ _ _ _ _ _ _ _ _ _ _ _ _ _ _ _ _ _ _
           · have b2':decide (x.t.aB<0)=false:=decide_eq_false b2
             have HJ2:=hide (J2 (by unfold nU wJ;rw [if_neg (by simp [b2])]));clear J2 b1 b2;refine bG (by kernel_rfl) (by rintro ⟨_,_,h⟩;exact h) ?_;go_wp2;refine wpIn_cond_false rfl (wpIn_skip ?_);exact HJ2.out _ _ _ _ _ _ _ _ _ _ _ _ _ _ _ _ _ _ _ _ _ _ _ _ _ _ _ _ _ _ _ _ _ _ _ _ _ _ _ _ _ _ _ _ _ _ _ _ _ _ _ _ _ _ _ _ _ _ _ _ _ _ _ _ _ _ _ _ _ _ _ _ _ _ _ _ _
         · have b1':(x.t.turn == x.s.turn)=false:=by simp [b1]
           have HJ2:=hide (J2 (by unfold nU wJ;rw [if_neg (by simp [b1])]));clear J2 b1;refine bG (by kernel_rfl) (by rintro ⟨_,_,h⟩;exact h) ?_;go_wp2;refine wpIn_cond_false rfl (wpIn_skip ?_);exact HJ2.out _ _ _ _ _ _ _ _ _ _ _ _ _ _ _ _ _ _ _ _ _ _ _ _ _ _ _ _ _ _ _ _ _ _ _ _ _ _ _ _ _ _ _ _ _ _ _ _ _ _ _ _ _ _ _ _ _ _ _ _ _ _ _ _ _ _ _ _ _ _ _ _ _ _ _ _ _
        clear hK1;have Yt:=hide Xm;clear Xm;have e31:=hE.cell (j:=31) rfl;have e0:=hE.cell (j:=0) rfl;have e5:=hE.cell (j:=5) rfl;have z2:=WT.cell (j:=0) rfl;apply wpIn_seq_k;intro K2 hK2
        by_cases a1:x.rule=0
        · have a1':(x.rule == 0)=true:=by simp [a1]
          by_cases a2:x.e.x.kind=Sk.dJ
          · have a2':=wt a2
            by_cases a3:x.s.turn=p
            · have a3':(x.s.turn == p)=true:=by simp [a3]
              have xZ:sm=k2.2+(Sk.judge g x.s x.e.x).points:=by rw [← hsm];unfold sW;rw [if_pos ⟨by rw [← Yt.out];exact a1,a2,a3⟩]
              have OO:=fun W hb=>qy S g x.s x.e W hok.inr.turn hok.inr.colour (hen.below (w':=W) hb);obtain ⟨vv,hvv⟩:∃ q,Sk.judge g x.s x.e.x=q:=⟨_,rfl⟩;have eg:=qm g.kind;obtain ⟨gj,hgj⟩:∃ q,gq g.kind=q:=⟨_,rfl⟩
              simp only [hgj,hvv] at OO eg xZ
              have Yp:=hide OO;have HGB:=hide hgj;have hkn:=Sk.nJ HL.out.1;have g0:=WL.cell (j:=0) rfl;have s10:=pG.cell (j:=0) rfl;have avx:=pG.frozen 0
              have hwr:IntKind.i64.wrap (k2.2+vv.points)=sm:=by rw [← xZ,IntKind.wrap_i64];omega
              have vdp:=@Nc;have rlj:=@GI;have hBel:=hE.lt;have ars:=pG.lt
              have Vq:∀ w':World,(fun w':World=>(∀ p q,p<w.heap.size+3→w'.cell? ⟨p,q,none⟩=W.cell? ⟨p,q,none⟩)∧(∀ q,w'.cell? ⟨Be,q,none⟩=W.cell? ⟨Be,q,none⟩)) w'→w'.rangeAt Be 5 [.int .i64 x.s.turn,.int .i64 x.s.s0,.int .i64 x.s.s1,.int .i64 x.s.brk,.string x.s.phase,.int .i64 x.s.bI,.int .i64 x.s.colour,.bool x.s.free,.bool x.s.aT,.int .i64 x.s.aP,.int .i64 x.s.t0,.int .i64 x.s.t1,.int .i64 x.s.aB]:=fun w' h j v hj=>by rw [h.2];exact hE.cell (UY x j v hj)
              have hE0:∀ w':World,(fun w':World=>(∀ p q,p<w.heap.size+3→w'.cell? ⟨p,q,none⟩=W.cell? ⟨p,q,none⟩)∧(∀ q,w'.cell? ⟨Be,q,none⟩=W.cell? ⟨Be,q,none⟩)) w'→w'.rangeAt Be 0 [.string x.e.x.kind,.string x.e.x.called,.slice x.e.A x.e.x.hits.length x.e.a,.slice x.e.B x.e.x.aV.length x.e.b,.int .i64 x.e.x.bD]:=fun w' h j v hj=>by rw [h.2];exact hE.cell (UW x j v hj)
              have xK:=Vq;have hrE:=hE0;have HJ:=hide J;have HSM:=hide xZ;have HSU:=hide pG;clear J OO hgj hvv a1 a2 a3 xZ hsm Vq hE0;refine bG (by kernel_rfl) (by rintro ⟨_,_,h⟩;exact h) ?_;go_wp2;refine wpIn_cond_true rfl ?_;refine kJ (S:=(fun w':World=>(∀ p q,p<w.heap.size+3→w'.cell? ⟨p,q,none⟩=W.cell? ⟨p,q,none⟩)∧(∀ q,w'.cell? ⟨Be,q,none⟩=W.cell? ⟨Be,q,none⟩))) (by kernel_rfl) (by rintro ⟨_,_,h⟩;exact h) (by kernel_rfl) ?iJ (fun hHeld=>?_)
              case iJ=>exact ⟨fun _ _ _=>rfl,fun _=>rfl⟩
              refine aF 2 ?_;refine aF 3 ?_;refine aF 6 ?_;refine bJ 7 xK Tryz.underlying26 ?_;refine aF 8 ?_;refine bJ 9 hrE Tryz.underlying83 ?_;refine iF 0 1 (fun K hK=>?_) fun K hK=>?_
              · go_simp
                refine ay hK (by first | exact nI kP (by omega) hBel | exact nI (dh hb1) (by omega) hBel | exact ⟨fun _ _ _=>rfl,fun _=>rfl⟩) fun hHeld=>?_;clear hK K;refine aG 1 fun K hK=>?_;go_simp
                (go_at_call 63;refine (fJ _).mono ?_;rintro e1 w1 ⟨rfl,g3⟩;have hl1:=zZ (lG (n:=W.heap.size) g3 (by simp)) hkn HGB.out;have hb1:=g3.bw;have amm:=(pG.below (dh hb1)).cell (j:=0) rfl)
                refine ay hK (nI (dh hb1) (by omega) hBel) fun hHeld=>?_;clear hK K;refine aG 4 fun K hK=>?_;go_simp;refine ay hK (nI (dh hb1) (by omega) hBel) fun hHeld=>?_;clear hK K;refine aF 5 ?_;refine aG 10 fun K hK=>?_;go_simp
                (go_at_fn gj;refine (Yp.out _ ((dh hb1))).mono ?_;rintro e2 w2 ⟨rfl,hb2⟩;have kP:=(dh hb1).trans (hb2.mono (dh hb1).size);have X7:=(pG.below kP).cell (j:=0) rfl;have Rh:=(pG.below kP).frozen 0)
                refine ay hK (nI kP (by omega) hBel) fun hHeld=>?_;clear hK K;refine aF 11 ?_;refine aF 12 ?_;refine aG 13 fun K hK=>?_;go_simp;refine ay hK (Em kP (by omega) hBel (by omega) (by omega)) fun hHeld=>?_;clear hK K;refine wpAnyH_done (by kernel_rfl) ?_ _
                try simp only [Exit.then]
                exact HJ.out _ _ _ _ _ _ _ _ _ _ _ _ _ _ _ _ _ _ _ _ _ _ _ _ _ _ _ _ _ _ _ _ _ _ _ _ _ _ _ _ _ _ _ _ _ _ _ _ _ _ _ _ _ _ _ _ _ _ _ _ _ _ _ _ _ _ _ _ _ _ _ _ _ _ _ _ _ _ (((Turn.of_below kP).mono (X:=fun _=>False) (fun b h=>h.elim)).trans (kY (X:=fun b=>b=B10) (W:=w2) (g:=B10) rfl [.int .i64 sm] 0) (fun b h=> .inl h)) ((HSU.out.below kP).set 0 _)
              · go_simp
                (go_at_call 63;refine (fJ _).mono ?_;rintro e1 w1 ⟨rfl,g3⟩;have hl1:=zZ (lG (n:=W.heap.size) g3 (by simp)) hkn HGB.out;have hb1:=g3.bw;have amm:=(pG.below (dh hb1)).cell (j:=0) rfl)
                refine ay hK (nI (dh hb1) (by omega) hBel) fun hHeld=>?_;clear hK K;refine iF 0 4 (fun K hK=>?_) fun K hK=>?_
                · go_simp
                  refine ay hK (by first | exact nI kP (by omega) hBel | exact nI (dh hb1) (by omega) hBel | exact ⟨fun _ _ _=>rfl,fun _=>rfl⟩) fun hHeld=>?_;clear hK K;refine aG 4 fun K hK=>?_;go_simp;refine ay hK (nI (dh hb1) (by omega) hBel) fun hHeld=>?_;clear hK K;refine aF 5 ?_;refine aG 10 fun K hK=>?_;go_simp
                  (go_at_fn gj;refine (Yp.out _ ((dh hb1))).mono ?_;rintro e2 w2 ⟨rfl,hb2⟩;have kP:=(dh hb1).trans (hb2.mono (dh hb1).size);have X7:=(pG.below kP).cell (j:=0) rfl;have Rh:=(pG.below kP).frozen 0)
                  refine ay hK (nI kP (by omega) hBel) fun hHeld=>?_;clear hK K;refine aF 11 ?_;refine aF 12 ?_;refine aG 13 fun K hK=>?_;go_simp;refine ay hK (Em kP (by omega) hBel (by omega) (by omega)) fun hHeld=>?_;clear hK K;refine wpAnyH_done (by kernel_rfl) ?_ _
                  try simp only [Exit.then]
                  exact HJ.out _ _ _ _ _ _ _ _ _ _ _ _ _ _ _ _ _ _ _ _ _ _ _ _ _ _ _ _ _ _ _ _ _ _ _ _ _ _ _ _ _ _ _ _ _ _ _ _ _ _ _ _ _ _ _ _ _ _ _ _ _ _ _ _ _ _ _ _ _ _ _ _ _ _ _ _ _ _ (((Turn.of_below kP).mono (X:=fun _=>False) (fun b h=>h.elim)).trans (kY (X:=fun b=>b=B10) (W:=w2) (g:=B10) rfl [.int .i64 sm] 0) (fun b h=> .inl h)) ((HSU.out.below kP).set 0 _)
                · go_simp
                  refine ay hK (nI (dh hb1) (by omega) hBel) fun hHeld=>?_;clear hK K;refine aF 5 ?_;refine iF 0 10 (fun K hK=>?_) fun K hK=>?_
                  · go_simp
                    refine ay hK (by first | exact nI kP (by omega) hBel | exact nI (dh hb1) (by omega) hBel | exact ⟨fun _ _ _=>rfl,fun _=>rfl⟩) fun hHeld=>?_;clear hK K;refine aG 10 fun K hK=>?_;go_simp
                    (go_at_fn gj;refine (Yp.out _ ((dh hb1))).mono ?_;rintro e2 w2 ⟨rfl,hb2⟩;have kP:=(dh hb1).trans (hb2.mono (dh hb1).size);have X7:=(pG.below kP).cell (j:=0) rfl;have Rh:=(pG.below kP).frozen 0)
                    refine ay hK (nI kP (by omega) hBel) fun hHeld=>?_;clear hK K;refine aF 11 ?_;refine aF 12 ?_;refine aG 13 fun K hK=>?_;go_simp;refine ay hK (Em kP (by omega) hBel (by omega) (by omega)) fun hHeld=>?_;clear hK K;refine wpAnyH_done (by kernel_rfl) ?_ _
                    try simp only [Exit.then]
                    exact HJ.out _ _ _ _ _ _ _ _ _ _ _ _ _ _ _ _ _ _ _ _ _ _ _ _ _ _ _ _ _ _ _ _ _ _ _ _ _ _ _ _ _ _ _ _ _ _ _ _ _ _ _ _ _ _ _ _ _ _ _ _ _ _ _ _ _ _ _ _ _ _ _ _ _ _ _ _ _ _ (((Turn.of_below kP).mono (X:=fun _=>False) (fun b h=>h.elim)).trans (kY (X:=fun b=>b=B10) (W:=w2) (g:=B10) rfl [.int .i64 sm] 0) (fun b h=> .inl h)) ((HSU.out.below kP).set 0 _)
                  · go_simp
                    (go_at_fn gj;refine (Yp.out _ ((dh hb1))).mono ?_;rintro e2 w2 ⟨rfl,hb2⟩;have kP:=(dh hb1).trans (hb2.mono (dh hb1).size);have X7:=(pG.below kP).cell (j:=0) rfl;have Rh:=(pG.below kP).frozen 0)
                    refine ay hK (nI kP (by omega) hBel) fun hHeld=>?_;clear hK K;refine aF 11 ?_;refine aG 0 fun K hK=>?_;go_simp;refine ay hK (by first | exact nI kP (by omega) hBel | exact nI (dh hb1) (by omega) hBel | exact ⟨fun _ _ _=>rfl,fun _=>rfl⟩) fun hHeld=>?_;clear hK K;refine aF 12 ?_;refine aG 13 fun K hK=>?_;go_simp;refine ay hK (Em kP (by omega) hBel (by omega) (by omega)) fun hHeld=>?_;clear hK K;refine wpAnyH_done (by kernel_rfl) ?_ _
                    try simp only [Exit.then]
                    exact HJ.out _ _ _ _ _ _ _ _ _ _ _ _ _ _ _ _ _ _ _ _ _ _ _ _ _ _ _ _ _ _ _ _ _ _ _ _ _ _ _ _ _ _ _ _ _ _ _ _ _ _ _ _ _ _ _ _ _ _ _ _ _ _ _ _ _ _ _ _ _ _ _ _ _ _ _ _ _ _ (((Turn.of_below kP).mono (X:=fun _=>False) (fun b h=>h.elim)).trans (kY (X:=fun b=>b=B10) (W:=w2) (g:=B10) rfl [.int .i64 sm] 0) (fun b h=> .inl h)) ((HSU.out.below kP).set 0 _)
            · have a3':(x.s.turn == p)=false:=by simp [a3]
              have xZ:k2.2=sm:=by rw [← hsm];unfold sW;rw [if_neg (fun h=>a3 h.2.2)]
              rw [xZ] at pG;have HJ:=hide J;clear J a1 a2 a3 hsm xZ;refine bG (by kernel_rfl) (by rintro ⟨_,_,h⟩;exact h) ?_;go_wp2;refine wpIn_cond_false rfl (wpIn_skip ?_);exact HJ.out _ _ _ _ _ _ _ _ _ _ _ _ _ _ _ _ _ _ _ _ _ _ _ _ _ _ _ _ _ _ _ _ _ _ _ _ _ _ _ _ _ _ _ _ _ _ _ _ _ _ _ _ _ _ _ _ _ _ _ _ _ _ _ _ _ _ _ _ _ _ _ _ _ _ _ _ _ _ (Turn.refl' _ _) pG
          · have a2':=wf a2
            have xZ:k2.2=sm:=by rw [← hsm];unfold sW;rw [if_neg (fun h=>a2 h.2.1)]
            rw [xZ] at pG;have HJ:=hide J;clear J a1 a2 hsm xZ;refine bG (by kernel_rfl) (by rintro ⟨_,_,h⟩;exact h) ?_;go_wp2;refine wpIn_cond_false rfl (wpIn_skip ?_);exact HJ.out _ _ _ _ _ _ _ _ _ _ _ _ _ _ _ _ _ _ _ _ _ _ _ _ _ _ _ _ _ _ _ _ _ _ _ _ _ _ _ _ _ _ _ _ _ _ _ _ _ _ _ _ _ _ _ _ _ _ _ _ _ _ _ _ _ _ _ _ _ _ _ _ _ _ _ _ _ _ (Turn.refl' _ _) pG
        · have a1':(x.rule == 0)=false:=by simp [a1]
          have xZ:k2.2=sm:=by rw [← hsm];unfold sW;rw [if_neg (fun h=>a1 (by rw [Yt.out];exact h.1))]
          rw [xZ] at pG;have HJ:=hide J;clear J a1 hsm xZ;refine bG (by kernel_rfl) (by rintro ⟨_,_,h⟩;exact h) ?_;go_wp2;refine wpIn_cond_false rfl (wpIn_skip ?_);exact HJ.out _ _ _ _ _ _ _ _ _ _ _ _ _ _ _ _ _ _ _ _ _ _ _ _ _ _ _ _ _ _ _ _ _ _ _ _ _ _ _ _ _ _ _ _ _ _ _ _ _ _ _ _ _ _ _ _ _ _ _ _ _ _ _ _ _ _ _ _ _ _ _ _ _ _ _ _ _ _ (Turn.refl' _ _) pG
       case done=>
        intro D X Y xs W hD hS hi hdef;obtain ⟨v,hV,lD⟩:=hi.2;rw [hS] at lD
        dsimp only at lD
        have hlr:=(zM HL.out.1 HL.out.2.1 (p:=p) l.length (Nat.le_refl _)).2.2;rw [Wu] at lD hlr;obtain ⟨A2,c2,rfl⟩:=yx lD.own;have hbw:=hi.1.bw;have hWs:=hi.1.sz;have SE:=HL.out.2.2;have c9:=hV.cell (j:=0) rfl;have Hw:=hide hdef
        have fin:∀ (a:Act),a.defers=[{target:= .collected D,args:= #[] }]→a.tmps.getD 6 undef= .slice A2 (Sk.breaks g p (bare l)).length c2→a.tmps.getD 7 undef= .int .i64 0→Q' .ret a W:=by
         intro a e1 e6 e7;rw [← HQ.out];refine mG e1 Hw.out (results_tmp2 rfl _ _ _) ⟨A2,c2,?_,?_,jO hbw (by omega) _⟩
         · rw [e6,e7,HE.out,EW.out,h0]
         · rw [EW.out]
           exact Reads.Aw (lD.putObj Hw.out rfl _).own (S:=fun b=>w.heap.size≤b) (fun g hg=>by omega) (by omega)
        have FIN:=hide fin;clear fin hi hdef lD hV;refine WR _ _ ?_
        dsimp only
        refine lY ?_;go_wp2;exact FIN.out _ rfl rfl rfl
   · have h0':(E != 0)=true:=by simp [h0]
     have EW:=hide (show Ve g l p=[] by unfold Ve;rw [if_neg (by rw [HE.out];exact h0)]);clear h0;go_wp2
     show Q' .ret _ _
     rw [← HQ.out];refine vY (results_tmp2 rfl _ _ _) rfl ⟨none,0,?_,?_,hB1.bw⟩
     · rw [EW.out,HE.out];rfl
     · rw [EW.out];exact Reads.none_ _ _ _
def ad4 (a:Int × Int):List Value:=[.int .i64 a.1,.int .i64 a.2]
def RdQ (w:World) (S:Nat→Prop) (A:Option Addr) (c:Nat) (C:List (Int × Int)):Prop:=Reads w S 2 A C.length c (C.flatMap ad4)
theorem Ru (a b c d:Int) (w:World):(Op.equalIn 10000 24 (.agg #[.int .i64 a,.int .i64 b]) (.agg #[.int .i64 c,.int .i64 d])).run Tryz.prog w= .ok ((a == c) && (b == d)) w:=by
 obtain ⟨i,hi,hz0,hz1,hz2⟩:=info_parts (show (Tryz.prog.info? 3).map (fun i=>(i.zero,i.size,i.bytes))=some (some (.int .i64 0),1,8) by kernel_rfl)
 have hu:Tryz.prog.underlying 24=some (.array 2 3):=by kernel_rfl
 have hui:Tryz.prog.underlying 3=some (.int .i64):=by kernel_rfl
 have hc:Tryz.prog.cellsOf 3=1:=by kernel_rfl
 have h2:List.range 2=[0,1]:=rfl
 have p:∀ (x y:Value) (w:World),(part 3 #[x,y] (0*1)).run Tryz.prog w= .ok x w:=fun x y w=>by kernel_rfl
 have p':∀ (x y:Value) (w:World),(part 3 #[x,y] (1*1)).run Tryz.prog w= .ok y w:=fun x y w=>by kernel_rfl
 have q:∀ (a b:Int) (w:World),(Op.equalIn 9999 3 (.int .i64 a) (.int .i64 b)).run Tryz.prog w= .ok (a == b) w:=fun a b w=>run_equalIn_int w 9998 _ _ _ a b hui;rw [show (10000:Nat)=9999+1 from rfl,run_equalIn_array w 9999 _ _ hu hi,h2,hc]
 unfold Op.eqItems Op.eqItems Op.eqItems
 simp only [Sem.run_bind,p,p',q,Result.andThen_ok]
 have p1:∀ (x y:Value) (w:World),(part 3 #[x,y] 1).run Tryz.prog w= .ok y w:=fun x y w=>by kernel_rfl
 cases h1:(a == c) <;> cases h2:(b == d) <;> simp [q,p1,h2]
theorem MR:Tryz.prog.eqGuardType Tryz.prog.depth 24=false:=by kernel_rfl
def RZ (g:Sk.Game) (l:List En) (C:List (Int × Int)):Int:=fst [Sk.iq g (bare l),iL (decide (C.length≠l.length)) 2]
def Wq (g:Sk.Game) (l:List En) (C:List (Int × Int)):Int:=if RZ g l C=0 then Sk.qE g (bare l) C else 0
theorem E5 {g:Sk.Game} {l:List En} {C:List (Int × Int)} (h:RZ g l C=0):Sk.iq g (bare l)=0∧C.length=l.length:=by
 unfold RZ at h
 rw [rQ] at h
 by_cases h1:Sk.iq g (bare l)=0
 · rw [if_neg (by simpa using h1)] at h
   refine ⟨h1,?_⟩
   unfold iL at h
   by_cases h2:C.length=l.length
   · exact h2
   · rw [if_pos (by simpa using h2)] at h;cases h
 · rw [if_pos h1] at h;exact absurd h h1
def SH (g:Sk.Game) (l:List En) (C:List (Int × Int)) (k:Nat):Int:=Sk.qF g (jq g l k) (k+1) (bare (l.drop k)) (C.drop k)
theorem Nz (g:Sk.Game) (l:List En) (C:List (Int × Int)):SH g l C 0=Sk.qE g (bare l) C:=by unfold SH;rw [qV];rfl
theorem SI (g:Sk.Game) (l:List En) (C:List (Int × Int)):SH g l C l.length=0:=by unfold SH;rw [List.drop_length];rfl
theorem Ny {g:Sk.Game} {l:List En} {C:List (Int × Int)} {k:Nat} (hk:k<l.length) (hc:k<C.length):SH g l C k=if ((jq g l (k+1)).s0 == C[k].1 && (jq g l (k+1)).s1 == C[k].2)=true then SH g l C (k+1) else (k:Int)+1:=by
 unfold SH
 rw [List.drop_eq_getElem_cons hk,List.drop_eq_getElem_cons hc,qU g l k hk]
 show Sk.qF g (jq g l k) (k+1) (l[k].x::bare (l.drop (k+1))) (C[k]::C.drop (k+1))=_
 rw [Sk.qF];obtain ⟨a,b⟩:=C[k]
 have e:(((k+1:Nat):Int)+1)=(k:Int)+1+1:=by push_cast;omega
 rw [e]
 by_cases h:((Sk.step g (jq g l k) l[k].x).s0,(Sk.step g (jq g l k) l[k].x).s1)=(a,b)
 · have h':=h
   injection h' with h1 h2
   rw [if_pos h,if_pos (by simp [h1,h2])]
 · rw [if_neg h,if_neg (by intro hh;rw [Bool.and_eq_true,beq_iff_eq,beq_iff_eq] at hh;exact h (by rw [hh.1,hh.2]))]
def jU (w:World) (g:Sk.Game) (A1:Option Addr) (n c1:Nat) (u6 u7:Value):List (Nat × List Value × TypeId):=
 [(w.heap.size,bT g,23),(w.heap.size+1,[.slice A1 n c1],63),(w.heap.size+2,[u6],3),(w.heap.size+3,[u7],34)]
section
variable {w:World} {D:Nat} {g:Sk.Game} {l:List En} {C:List (Int × Int)} {A1:Option Addr} {n c1:Nat}
theorem zG (h9:w.heap.size+4≤D) {u6 u7:Value}:∀ p∈jU w g A1 n c1 u6 u7,p.1<D:=by
 intro p hp
 have hp2:p=(w.heap.size,bT g,23)∨p=(w.heap.size+1,[.slice A1 n c1],63)∨p=(w.heap.size+2,[u6],3)∨p=(w.heap.size+3,[u7],34):=by simpa [jU] using hp
 rcases hp2 with rfl | rfl | rfl | rfl <;> (dsimp only;omega)
theorem uU {W:World} {v6 v7:Value} {k:Nat} (h2:k≠w.heap.size+2) (h3:k≠w.heap.size+3):((W.setCell ⟨w.heap.size+2,0,none⟩ v6).setCell ⟨w.heap.size+3,0,none⟩ v7).heap[k]? =W.heap[k]? :=
 (Below.heap_setCell _ _ _ _ h3).trans (Below.heap_setCell _ _ _ _ h2)
theorem Dx {W:World} {v6 v7:Value}:W.heap.size≤((W.setCell ⟨w.heap.size+2,0,none⟩ v6).setCell ⟨w.heap.size+3,0,none⟩ v7).heap.size:=
 (((Below.refl 0 W).setCell (p:=⟨w.heap.size+2,0,none⟩) (Nat.zero_le _) v6).setCell (p:=⟨w.heap.size+3,0,none⟩) (Nat.zero_le _) v7).size
theorem GN {X Y:Nat→Prop} {xs ys:List Stp} {W:World} {u6 u7:Value} (h9:w.heap.size+4≤D) (h:qC w D (fun _=>jU w g A1 n c1 u6 u7) X Y xs W) (v6 v7:Value):qC w D (fun _=>jU w g A1 n c1 v6 v7) X Y ys ((W.setCell ⟨w.heap.size+2,0,none⟩ v6).setCell ⟨w.heap.size+3,0,none⟩ v7):=by
 have g0:=h.bx (w.heap.size,bT g,23) (by simp [jU]);have g1:=h.bx (w.heap.size+1,[.slice A1 n c1],63) (by simp [jU]);have g2:Held W (w.heap.size+2) [u6] 3:=h.bx (w.heap.size+2,[u6],3) (by simp [jU]);have g3:Held W (w.heap.size+3) [u7] 34:=h.bx (w.heap.size+3,[u7],34) (by simp [jU]);have a2:Held (W.setCell ⟨w.heap.size+2,0,none⟩ v6) (w.heap.size+2) [v6] 3:=g2.set 0 v6;have b3:Held (W.setCell ⟨w.heap.size+2,0,none⟩ v6) (w.heap.size+3) [u7] 34:=g3.blk (Below.heap_setCell W _ _ _ (by show ¬ _=_;simp));refine ⟨(h.bw.setCell (p:=⟨w.heap.size+2,0,none⟩) (by show _≤w.heap.size+2;omega) v6).setCell (p:=⟨w.heap.size+3,0,none⟩) (by show _≤w.heap.size+3;omega) v7,Nat.le_trans h.sz Dx,h.sep,?_⟩;intro p hp
 have hp2:p=(w.heap.size,bT g,23)∨p=(w.heap.size+1,[.slice A1 n c1],63)∨p=(w.heap.size+2,[v6],3)∨p=(w.heap.size+3,[v7],34):=by simpa [jU] using hp
 rcases hp2 with rfl | rfl | rfl | rfl
 · exact g0.blk (uU (by omega) (by omega))
 · exact g1.blk (uU (by omega) (by omega))
 · exact a2.blk (Below.heap_setCell _ _ _ _ (by show ¬ _=_;simp))
 · exact b3.set 0 v7
def zJ (w:World) (D:Nat) (g:Sk.Game) (l:List En) (C:List (Int × Int)) (A1:Option Addr) (c1:Nat) (X Y:Nat→Prop) (xs:List Stp) (W:World):Prop:=
 qC w D (fun _=>jU w g A1 C.length c1 (.int .i64 0) (.int .i64 0)) X Y xs W∧Sk.qE g (bare l) C=SH g l C xs.length
theorem zJ.abides (h9:w.heap.size+4≤D):pI (zJ w D g l C A1 c1):=fun X Y pre W X' Y' W' h ht hX hY=>⟨qC.abides (by omega) (fun _=>zG h9) X Y pre W X' Y' W' h.1 ht hX hY,h.2⟩
end
theorem yE {W:World} {g h:Nat} {u v:Value} {t1 t2 t3 t4:TypeId} {d1 d2:TypeDesc} {fn:Func} {p q:Tmp} (hg:Held W g [u] t1) (hh:Held W h [v] t2) (hu:Tryz.prog.underlying t3=some d1) (hv:Tryz.prog.underlying t4=some d2) (h1:d1.isRow=false) (h2:d2.isRow=false)
 (hr:fn.results= #[.cell p t3,.cell q t4]) (tmps:Array Value) (hp:tmps.getD p undef=ptr g) (hq:tmps.getD q undef=ptr h):(results fn tmps).run Tryz.prog W= .ok (.tuple #[u,v]) W:=by
 have e:(results fn tmps).run Tryz.prog W=((asAddr (tmps.getD p undef)).run Tryz.prog W).andThen fun a w₁=>((loadVar t3 a).run Tryz.prog w₁).andThen fun v w₂=>((asAddr (tmps.getD q undef)).run Tryz.prog w₂).andThen fun a w₃=>((loadVar t4 a).run Tryz.prog w₃).andThen fun v' w₄=> .ok (.tuple #[v,v']) w₄:=by
  simp only [results,hr]
  simp [Sem.run_bind,Result.andThen]
 rw [e,hp,hq]
 simp only [ptr,asAddr,Sem.run_pure,Result.andThen_ok,oU hg hu h1,oU hh hv h2]
theorem zf (S S':Nat→Prop) (g:Sk.Game) (l:List En) (C:List (Int × Int)) (A A1:Option Addr) (c c1:Nat) (w:World) (hp:qh w S A c l) (hc:RdQ w S' A1 c1 C):
 Calls Tryz.prog 34 #[lZ g,.slice A l.length c,.slice A1 C.length c1] w fun e w'=>e= .returned (.tuple #[.int .i64 (Wq g l C),.int .i64 (RZ g l C)])∧Below w.heap.size w w':=by
 refine callsIn_wide.1 (callsIn_of_wp_marks (F:=Fence.wide) (n:=5) Tryz.func34 rfl trivial ?_ rfl)
 simp only [Tryz.ntmps34,List.size_toArray,List.length_cons,List.length_nil,Nat.reduceAdd,Nat.reduceSub,Array.replicate_succ,
  Array.replicate_zero,List.push_toArray,List.append_toArray,List.nil_append,List.cons_append]
 refine wpIn_wide.2 ?_
 generalize hQ':bodyPostM Fence.wide 5 Tryz.prog _ _=Q'
 have HQ:=hide hQ';clear hQ';obtain ⟨d1,d2,d3⟩:=Reads.bd hc;obtain ⟨b1,b2,b3⟩:=hp.bd;refine lY ?_
 go_upto_region 0 with (fail)
 go_cut [3,5,6,7] from 3 to 8 (fun v3 v5 v6 v7 wx=>v3=ptr w.heap.size∧v5=ptr (w.heap.size+1)∧v6=ptr (w.heap.size+2)∧v7=ptr (w.heap.size+3)∧aJ w wx [(bT g,23),([.slice A1 C.length c1],63),([.int .i64 0],3),([.int .i64 0],34)])
 case first=>
  go_wp2;go_meet;exact ⟨rfl,rfl,rfl,rfl,(((((aJ.nil w).new (by simp) (bT g) _).new (by simp) ([.slice A1 C.length c1]) _).new (by simp) ([.int .i64 0]) _).new (by simp) ([.int .i64 0]) _)⟩
 case rest=>
  obtain ⟨rfl,rfl,rfl,rfl,hB⟩:=hcut;have hsz:=hB.size (by simp)
  simp only [List.length_cons,List.length_nil] at hsz
  have k1:=(hB.get 1 rfl).cell (j:=0) rfl
  have hrG:∀ W:World,(fun w':World=>∀ p q,p<w.heap.size+4→w'.cell? ⟨p,q,none⟩=wc.cell? ⟨p,q,none⟩) W→W.rangeAt w.heap.size 0 (bT g):=fun W h j v hj=>by rw [h _ _ (by omega)];exact (hB.aA rfl).range j v hj
  obtain ⟨bn,hbn⟩:∃ b,((C.length:Int) != (l.length:Int))=b:=⟨_,rfl⟩
  have hEv:fst [Sk.iq g (bare l),iL bn 2]=RZ g l C:=by
   unfold RZ
   rw [← hbn];rw [show ((C.length:Int) != (l.length:Int))=decide (C.length≠l.length) by rw [Bool.eq_iff_iff];simp;omega]
  go_upto_region 1 with (fail)
  go_cut [8] from 8 to 22 (fun v8 wx=>v8= .int .i64 (RZ g l C)∧aJ w wx [(bT g,23),([.slice A1 C.length c1],63),([.int .i64 0],3),([.int .i64 0],34)])
  case first=>
   refine wp_region_held_drew (S:=(fun w':World=>∀ p q,p<w.heap.size+4→w'.cell? ⟨p,q,none⟩=wc.cell? ⟨p,q,none⟩)) (by kernel_rfl) ?bW (fun hHeld=>?_)
   case bW=>exact fun p q h=>rfl
   refine bJ 0 hrG Tryz.underlying23 ?_;refine aF 1 ?_;refine aF 3 ?_;refine aF 4 ?_;refine aF 5 ?_;refine aF 6 ?_;refine aF 7 ?_;refine aG 2 fun K hK=>?_;go_simp
   (go_at_call 20;refine (pW S g l A c _ (hp.below hB.drew.bw)).mono ?_;rintro e1 w1 ⟨rfl,hb1⟩;have hb8:Below wc.heap.size wc w1:=⟨hb1.os,hb1.tape,hb1.output,hb1.size,hb1.block⟩;have hB1:=hB.drew.call (by simp) hb1)
   refine ay hK (fun p q h=>hb8.cell (p:=⟨p,q,none⟩) (Nat.lt_of_lt_of_le h hsz)) fun hHeld=>?_;clear hK K;refine aG 8 fun K hK=>?_;go_simp
   (go_at_call 64;refine (dF _ _ _).mono ?_;rintro e1 pz ⟨rfl,rfl⟩)
   refine ay hK (by first | exact fun p q h=>hb8.cell (p:=⟨p,q,none⟩) (Nat.lt_of_lt_of_le h hsz) | exact fun p q h=>rfl) fun hHeld=>?_;clear hK K;refine aG 9 fun K hK=>?_;go_simp;refine ay hK (fun p q h=>(hb8.alloc hb8.size _).cell (p:=⟨p,q,none⟩) (Nat.lt_of_lt_of_le h hsz)) fun hHeld=>?_;clear hK K;refine aG 10 fun K hK=>?_;go_simp
   (go_at_call 67;refine (fZ (fun _=>True) _ _ [Sk.iq g (bare l),iL bn 2] _ (jV.row _ _ [Sk.iq g (bare l),iL bn 2] (by simp) _ trivial)).mono ?_;rintro e1 pz ⟨rfl,rfl⟩)
   refine ay hK (fun p q h=>(hb8.alloc hb8.size _).cell (p:=⟨p,q,none⟩) (Nat.lt_of_lt_of_le h hsz)) fun hHeld=>?_;clear hK K;refine aF 11 ?_;refine wpAnyH_done (by kernel_rfl) ?_ _;go_wp2;go_meet;exact ⟨by first | rfl | rw [hEv],hB1.alloc (by simp) _⟩
  case rest=>
   obtain ⟨rfl,hB1⟩:=hcut;clear hB k1 hrG hsz hEv hbn;obtain ⟨E,hE⟩:∃ E,RZ g l C=E:=⟨_,rfl⟩;have HE:=hide hE;rw [hE];clear hE
   by_cases h0:E=0
   · have h0':(E != 0)=false:=by simp [h0]
     have Vy:=HE.out.trans h0;have HL:=hide (tq (E5 Vy).1);have Va:=hide (E5 Vy).2;have hkn:=Sk.nJ HL.out.1;have EW:=hide (show Wq g l C=Sk.qE g (bare l) C by unfold Wq;rw [if_pos Vy]);have SE:=HL.out.2.2;clear Vy
     go_upto_region 4 with (fail)
     have hs3:=hB1.size (by simp)
     simp only [List.length_cons,List.length_nil] at hs3
     go_wp2_with (first | ((with_reducible (refine ah 23 (.tmp 3) ?lx ?_));(case lx=>rfl);refine au (hB1.aA rfl) Tryz.underlying23 rfl cZ rfl (.tmp 3) rfl rfl ?_) | (go_at_call 75;refine (qA g _ _ _ _).mono ?_;rintro e w3 ⟨rfl,hC⟩))
     rename_i KQ WR
     have hD3:wc.heap.size+2≤w3.heap.size:=by
      have:=hC.size (by simp)
      simp only [List.length_cons,List.length_nil] at this
      omega
     have hb3:=hB1.bw.trans (hC.bw.mono (by omega));have Y8:Held w3 wc.heap.size (bT g) 23:=hC.aA rfl;have Oq:Held w3 (wc.heap.size+1) [.slice A l.length c] 27:=hC.get 1 rfl
     have hK3:∀ b,(fun b=>b=wc.heap.size+0∨b=wc.heap.size+1∨(S b∧b<w.heap.size)) b→b<w3.heap.size:=by rintro b (h | h | ⟨_,h⟩) <;> omega
     have Zb:qh w3 (fun b=>b=wc.heap.size+0∨b=wc.heap.size+1∨(S b∧b<w.heap.size)) A c l:=(hp.more (S':=(fun b=>b=wc.heap.size+0∨b=wc.heap.size+1∨(S b∧b<w.heap.size))) (fun b hb h=> .inr (.inr ⟨h,hb⟩))).below hb3;have hG3:Held w3 w.heap.size (bT g) 23:=(hB1.aA rfl).below hC.bw;have hS3:Held w3 (w.heap.size+1) [.slice A1 C.length c1] 63:=(hB1.get 1 rfl).below hC.bw;have hI3:Held w3 (w.heap.size+2) [.int .i64 0] 3:=(hB1.get 2 rfl).below hC.bw;have hE3:Held w3 (w.heap.size+3) [.int .i64 0] 34:=(hB1.get 3 rfl).below hC.bw;refine (wpIn_wide (n:=5)).1 ?_
     refine jD (F:=Fence.wide) rfl (by decide) rfl trivial (fun _ _=>rfl) (oV g l A c (fun b=>b=wc.heap.size+0∨b=wc.heap.size+1∨(S b∧b<w.heap.size)) _ _ 4 w3 (by decide) HL.out.1 HL.out.2.1 HL.out.2.2 hK3 Y8 (.inl rfl) Oq (.inr (.inl rfl)) Zb) hK3 (Below.refl _ _) (fun _=>rfl) (zJ w w3.heap.size g l C A1 c1) (qC w w3.heap.size (fun _=>jU w g A1 C.length c1 (.int .i64 (Sk.qE g (bare l) C)) (.int .i64 0))) (zJ.abides (by omega)) (qC.abides (by omega) (fun _=>zG (by omega)))
      (fun X Y pre W lp o o' h hlp hl ho=>?ip) (fun X Y pre W lp o o' h hlp hl ho=>h.putObj (by omega) hlp hl ho o') (fun X Y pre x W lp o o' h hlp hl ho=>h.putObj) ?h0 (fun x a W=>∃ Be v0 v1 v2 v3 v4 v8 v11 v12 v13 v14 v15 v16 v17 v18 v19 v20 v21 v22 v23 v24 v25 v26 v27 v28 v29 v30 v31 v32 v33 v34 v35 v36 v37 v38 v39,a= {tmps:= #[v0,v1,v2,v3,v4,ptr (w.heap.size+1),ptr (w.heap.size+2),ptr (w.heap.size+3),v8,.int .i64 ((x.i:Int)+1),ptr Be,v11,v12,v13,v14,v15,v16,v17,v18,v19,v20,v21,v22,v23,v24,v25,v26,v27,v28,v29,v30,v31,v32,v33,v34,v35,v36,v37,v38,v39],defers:=[] }∧w3.heap.size≤Be∧Held W Be (qB x) 138) ?assign ?ap ?body ?done ?stop
     case ap=>
      rintro x a' W lp o o' ⟨Be,v0,v1,v2,v3,v4,v8,v11,v12,v13,v14,v15,v16,v17,v18,v19,v20,v21,v22,v23,v24,v25,v26,v27,v28,v29,v30,v31,v32,v33,v34,v35,v36,v37,v38,v39,e2,h1,h2⟩ hlp hl ho
      exact ⟨Be,v0,v1,v2,v3,v4,v8,v11,v12,v13,v14,v15,v16,v17,v18,v19,v20,v21,v22,v23,v24,v25,v26,v27,v28,v29,v30,v31,v32,v33,v34,v35,v36,v37,v38,v39,e2,h1,h2.putObj hl ho _⟩
     case assign=>
      intro lp X Y pre x W K' hi ht hk Ac;have hb:=((Below.refl W.heap.size W).alloc (Nat.le_refl _) (.cells jB.toArray 138));have hb':=below_setCells W.heap.size (Nat.le_refl _) (qB x) 0 _ _ hb;have hE0:=Held.new W jB 138;have hsz:w3.heap.size≤W.heap.size:=?szi
      case szi=>exact hi.1.sz
      have fin:∀ v0 v1 v2 v3 v4 v8 v11 v12 v13 v14 v15 v16 v17 v18 v19 v20 v21 v22 v23 v24 v25 v26 v27 v28 v29 v30 v31 v32 v33 v34 v35 v36 v37 v38 v39:Value,K' {tmps:= #[v0,v1,v2,v3,v4,ptr (w.heap.size+1),ptr (w.heap.size+2),ptr (w.heap.size+3),v8,.int .i64 ((x.i:Int)+1),ptr W.heap.size,v11,v12,v13,v14,v15,v16,v17,v18,v19,v20,v21,v22,v23,v24,v25,v26,v27,v28,v29,v30,v31,v32,v33,v34,v35,v36,v37,v38,v39],defers:=[] } ((W.alloc (.cells jB.toArray 138)).setCells W.heap.size 0 (qB x)):=fun _ _ _ _ _ _ _ _ _ _ _ _ _ _ _ _ _ _ _ _ _ _ _ _ _ _ _ _ _ _ _ _ _ _ _=>
       hk _ _ ⟨hb'.size,fun k o hk hl _=>(hb'.block k (Array.getElem?_eq_some_iff.1 hl).1).trans hl⟩
        ⟨hb'.size,fun b h=>hb'.block b (Ac b h),fun b h=>hb'.block b (Nat.lt_of_lt_of_le (hK3 b h) hsz)⟩
        ((zJ.abides (by omega)) _ _ _ _ _ _ _ hi (Turn.of_below hb') (fun b h=> .inl h) (fun b h=> .inl h))
        ht.putObj
        ⟨W.heap.size,_,_,_,_,_,_,_,_,_,_,_,_,_,_,_,_,_,_,_,_,_,_,_,_,_,_,_,_,_,_,_,_,_,_,_,rfl,hsz,hE0.whole _ rfl⟩
      have FIN:=hide fin;clear hk fin hb hb' hi ht Ac hsz
      simp [zT]
      apply wpIn_seq_k;intro K1 hK1;refine bG (by kernel_rfl) (by rintro ⟨_,_,h⟩;exact h) ?_;go_wp2;refine bG (by kernel_rfl) (by rintro ⟨_,_,h⟩;exact h) ?_
      go_wp2_with (refine aH 138 (.tmp 10) (.tmp 29) rfl ?_;refine aC hE0 (qB x) rfl pX (wC _) rfl (.tmp 10) (.tmp 29) rfl rfl rfl ?_)
      exact FIN.out _ _ _ _ _ _ _ _ _ _ _ _ _ _ _ _ _ _ _ _ _ _ _ _ _ _ _ _ _ _ _ _ _ _ _
     case ip=>exact ⟨h.1.putObj (by omega) hlp hl ho o',h.2⟩
     case h0=>
      intro W hW;refine ⟨⟨(hb3.trans (hW.mono (by omega))),hW.size,fun b h=>h.elim (fun h=>h.elim) (fun h=>h.elim),?_⟩,(Nz g l C).symm⟩;intro p hp
      have hp2:p=(w.heap.size,bT g,23)∨p=(w.heap.size+1,[.slice A1 C.length c1],63)∨p=(w.heap.size+2,[.int .i64 0],3)∨p=(w.heap.size+3,[.int .i64 0],34):=by simpa [jU] using hp
      rcases hp2 with rfl | rfl | rfl | rfl
      · exact hG3.below hW
      · exact hS3.below hW
      · exact hI3.below hW
      · exact hE3.below hW
     case body=>
      rintro lp X Y pre x a' W hi ht ⟨Be,v0,v1,v2,v3,v4,v8,v11,v12,v13,v14,v15,v16,v17,v18,v19,v20,v21,v22,v23,v24,v25,v26,v27,v28,v29,v30,v31,v32,v33,v34,v35,v36,v37,v38,v39,rfl,Y5,hE⟩ hlt Ac hWs
      have hbx:=hi.1.bx;have hSc:Held W (w.heap.size+1) [.slice A1 C.length c1] 63:=hbx (w.heap.size+1,[.slice A1 C.length c1],63) (by simp [jU]);have Kr:Held W (w.heap.size+2) [.int .i64 0] 3:=hbx (w.heap.size+2,[.int .i64 0],3) (by simp [jU]);have Kt:Held W (w.heap.size+3) [.int .i64 0] 34:=hbx (w.heap.size+3,[.int .i64 0],34) (by simp [jU])
      have hkC:pre.length<C.length:=by have:=Va.out;omega
      have hrc:=Reads.below hc hi.1.bw;obtain ⟨b,o,rfl,_,hbl,hcs⟩:=Reads.at_ hrc (by omega)
      have h00:W.rangeAt b (o+pre.length*2) [.int .i64 C[pre.length].1,.int .i64 C[pre.length].2]:=fun j v hj=>by
       have h2:=hcs _ _ (uD (f:=ad4) (n:=2) (fun _=>rfl) pre.length hkC (j:=j) (v:=v) hj)
       rwa [← Nat.add_assoc] at h2
      have hst:=Dz ht;have hstep:=Ny (g:=g) (l:=l) (C:=C) hlt hkC;rw [hst] at hstep
      have hsr:∀ W',(fun w':World=>(∀ q,w'.cell? ⟨w.heap.size+1,q,none⟩=W.cell? ⟨w.heap.size+1,q,none⟩)∧∀ b q,b<W.heap.size→w'.cell? ⟨b,q,none⟩=W.cell? ⟨b,q,none⟩) W'→W'.rangeAt Be 19 [.int .i64 x.t.s0,.int .i64 x.t.s1]:=fun W' hS j v hj=>by
       rw [hS.2 Be _ hE.lt]
       have hj2:(aO x.t)[1+j]? =some v:=by
        match j,hj with
        | 0,hj=>exact hj
        | 1,hj=>exact hj
       have h1:=hE.cell (JL x.i x.e x.s x.t x.rule (1+j) v hj2);rw [show 19+j=18+(1+j) by omega];exact h1
      have hcr:∀ W',(fun w':World=>(∀ q,w'.cell? ⟨w.heap.size+1,q,none⟩=W.cell? ⟨w.heap.size+1,q,none⟩)∧∀ b q,b<W.heap.size→w'.cell? ⟨b,q,none⟩=W.cell? ⟨b,q,none⟩) W'→W'.rangeAt b (o+pre.length*2) [.int .i64 C[pre.length].1,.int .i64 C[pre.length].2]:=fun W' hS j v hj=>by
       rw [hS.2 b _ hbl];exact h00 j v hj
      have k5:=hSc.cell (j:=0) rfl;have hxi:=ht.i
      have i1:(0:Int)≤(pre.length:Int):=by omega
      have i2:(pre.length:Int)<(C.length:Int):=by omega
      have hgp:=MR;have hsc:=fun w=>Ru x.t.s0 x.t.s1 C[pre.length].1 C[pre.length].2 w
      have hwr:IntKind.i64.wrap (pre.length:Int)=(pre.length:Int):=by rw [IntKind.wrap_i64];have:=SE;omega
      have hSZ:=hi.1.sz;have HX:=hide Ac;have HIF:=hide hi.2;obtain ⟨bq,hbq⟩:∃ q,(x.t.s0 == C[pre.length].1 && x.t.s1 == C[pre.length].2)=q:=⟨_,rfl⟩;rw [hbq] at hstep
      simp only [hbq] at hsc
      clear hbq hst hcs hrc h00 hbx ht Ac
      cases bq with
      | true=>
        have hf2:Sk.qE g (bare l) C=SH g l C (pre++[x]).length:=by
         rw [HIF.out,hstep,List.length_append,List.length_singleton];rfl
        have hi2:qC w w3.heap.size (fun _=>jU w g (some ⟨b,o,none⟩) C.length c1 (.int .i64 0) (.int .i64 0)) X Y (pre++[x]) W.drew:=qC.abides (by omega) (fun _=>zG (by omega)) X Y (pre++[x]) W X Y W.drew ⟨hi.1.bw,hi.1.sz,hi.1.sep,hi.1.bx⟩ ⟨rfl,rfl,rfl,Nat.le_refl _,fun _ _ _=>rfl⟩ (fun b h=> .inl h) (fun b h=> .inl h);have fin:∀ a,uF (fun b=>b=wc.heap.size+0∨b=wc.heap.size+1∨(S b∧b<w.heap.size)) w3.heap.size X Y (zJ w w3.heap.size g l C (some ⟨b,o,none⟩) c1) (qC w w3.heap.size (fun _=>jU w g (some ⟨b,o,none⟩) C.length c1 (.int .i64 (Sk.qE g (bare l) C)) (.int .i64 0))) (pre++[x]) W .normal a W.drew:=fun a=>⟨⟨Nat.le_refl _,fun k o _ hl _=>hl⟩,⟨Nat.le_refl _,fun _ _=>rfl,fun _ _=>rfl⟩,⟨hi2,hf2⟩⟩;have FIN:=hide fin;clear fin hi2 hf2 hstep hi hSc Kr Kt;apply wpIn_block;apply wpIn_seq_k;intro K4 hK4;rw [hxi];refine kJ (S:=(fun w':World=>(∀ q,w'.cell? ⟨w.heap.size+1,q,none⟩=W.cell? ⟨w.heap.size+1,q,none⟩)∧∀ b q,b<W.heap.size→w'.cell? ⟨b,q,none⟩=W.cell? ⟨b,q,none⟩)) (by kernel_rfl) (by rintro ⟨_,_,h⟩;exact h) (by kernel_rfl) ?dI (fun hHeld=>?_)
        case dI=>exact ⟨fun q=>rfl,fun b q _=>rfl⟩
        refine aF 0 ?_;refine aF 1 ?_;refine bJ 2 hsr Tryz.underlying24 ?_;refine aF 3 ?_;refine aF 4 ?_;refine aF 5 ?_;refine aF 6 ?_;refine bJ 7 hcr Tryz.underlying24 ?_;refine aF 8 ?_;refine wpAnyH_done (by kernel_rfl) ?_ _;refine hK4 _ _ ?_;refine wpIn_cond_split rfl (fun h=>by cases h) (fun _=>?_);refine wpIn_skip ?_;exact FIN.out {tmps:= #[],defers:=[] }
      | false=>
        have hf2:Sk.qE g (bare l) C=(pre.length:Int)+1:=by rw [HIF.out,hstep];rfl
        have p6:=Kr.cell (j:=0) rfl;have pf6:=Kr.frozen 0;have p7:=Kt.cell (j:=0) rfl;have pf7:=Kt.frozen 0;have q1:=GN (ys:=pre++[x]) (by omega) hi.1 (.int .i64 ((pre.length:Int)+1)) (.int .i64 0);have hi2:=qC.abides (by omega) (fun _=>zG (by omega)) X Y (pre++[x]) _ X Y ((W.setCell ⟨w.heap.size+2,0,none⟩ (.int .i64 ((pre.length:Int)+1))).setCell ⟨w.heap.size+3,0,none⟩ (.int .i64 0)).drew q1 ⟨rfl,rfl,rfl,Nat.le_refl _,fun _ _ _=>rfl⟩ (fun b h=> .inl h) (fun b h=> .inl h)
        have hi3:(qC w w3.heap.size (fun _=>jU w g (some ⟨b,o,none⟩) C.length c1 (.int .i64 (Sk.qE g (bare l) C)) (.int .i64 0))) X Y (pre++[x]) ((W.setCell ⟨w.heap.size+2,0,none⟩ (.int .i64 ((pre.length:Int)+1))).setCell ⟨w.heap.size+3,0,none⟩ (.int .i64 0)).drew:=by rw [hf2];exact hi2
        have fin:∀ a,uF (fun b=>b=wc.heap.size+0∨b=wc.heap.size+1∨(S b∧b<w.heap.size)) w3.heap.size X Y (zJ w w3.heap.size g l C (some ⟨b,o,none⟩) c1) (qC w w3.heap.size (fun _=>jU w g (some ⟨b,o,none⟩) C.length c1 (.int .i64 (Sk.qE g (bare l) C)) (.int .i64 0))) (pre++[x]) W .ret a ((W.setCell ⟨w.heap.size+2,0,none⟩ (.int .i64 ((pre.length:Int)+1))).setCell ⟨w.heap.size+3,0,none⟩ (.int .i64 0)).drew:=fun a=>⟨⟨Dx,fun k o hk hl _=>(uU (by omega) (by omega)).trans hl⟩,hi3⟩;have FIN:=hide fin;clear fin q1 hi2 hi3 hf2 hstep hi hSc Kr Kt;apply wpIn_block;apply wpIn_seq_k;intro K4 hK4;rw [hxi];refine kJ (S:=(fun w':World=>(∀ q,w'.cell? ⟨w.heap.size+1,q,none⟩=W.cell? ⟨w.heap.size+1,q,none⟩)∧∀ b q,b<W.heap.size→w'.cell? ⟨b,q,none⟩=W.cell? ⟨b,q,none⟩)) (by kernel_rfl) (by rintro ⟨_,_,h⟩;exact h) (by kernel_rfl) ?dS (fun hHeld=>?_)
        case dS=>exact ⟨fun q=>rfl,fun b q _=>rfl⟩
        refine aF 0 ?_;refine aF 1 ?_;refine bJ 2 hsr Tryz.underlying24 ?_;refine aF 3 ?_;refine aF 4 ?_;refine aF 5 ?_;refine aF 6 ?_;refine bJ 7 hcr Tryz.underlying24 ?_;refine aF 8 ?_;refine wpAnyH_done (by kernel_rfl) ?_ _;refine hK4 _ _ ?_;refine wpIn_cond_split rfl (fun _=>?_) (fun h=>by cases h);apply wpIn_seq_k;intro K5 hK5;refine bG (by kernel_rfl) (by rintro ⟨_,_,h⟩;exact h) ?_;go_wp2;refine wpIn_ret ?_;exact FIN.out {tmps:= #[],defers:=[] }
     case done=>
      intro D X Y xs W hD hS hi hdef;have Kr:Held W (w.heap.size+2) [.int .i64 0] 3:=hi.1.bx (w.heap.size+2,[.int .i64 0],3) (by simp [jU]);have Kt:Held W (w.heap.size+3) [.int .i64 0] 34:=hi.1.bx (w.heap.size+3,[.int .i64 0],34) (by simp [jU])
      have hz:Sk.qE g (bare l) C=0:=by rw [hi.2,hS,SI]
      have p6:=Kr.cell (j:=0) rfl;have pf6:=Kr.frozen 0;have p7:=Kt.cell (j:=0) rfl;have pf7:=Kt.frozen 0;have q1:=GN (ys:=xs) (by omega) hi.1 (.int .i64 0) (.int .i64 0);have q2:Held _ (w.heap.size+2) [.int .i64 0] 3:=q1.bx (w.heap.size+2,[.int .i64 0],3) (by simp [jU]);have q3:Held _ (w.heap.size+3) [.int .i64 0] 34:=q1.bx (w.heap.size+3,[.int .i64 0],34) (by simp [jU]);have hd:=(uU (W:=W) (w:=w) (v6:= .int .i64 0) (v7:= .int .i64 0) (k:=D) (by omega) (by omega)).trans hdef
      have fin:∀ (a:Act),a.defers=[{target:= .collected D,args:= #[] }]→a.tmps.getD 6 undef=ptr (w.heap.size+2)→a.tmps.getD 7 undef=ptr (w.heap.size+3)→JU Q' .ret a ((W.setCell ⟨w.heap.size+2,0,none⟩ (.int .i64 0)).setCell ⟨w.heap.size+3,0,none⟩ (.int .i64 0)):=by
       intro a e1 e6 e7
       show Q' .ret _ _
       rw [← HQ.out];refine mG e1 hd (yE (p:=6) (q:=7) (q2.putObj hd rfl _) (q3.putObj hd rfl _) Tryz.underlying3 Tryz.underlying34 rfl rfl rfl _ e6 e7) ⟨?_,jO q1.bw (by omega) _⟩;rw [EW.out,hz,HE.out,h0]
      have FIN:=hide fin;clear fin q1 q2 q3 hd Kr Kt hi hdef hS hz;refine WR _ _ ?_
      dsimp only
      refine lY ?_;go_wp2;exact FIN.out _ rfl rfl rfl
     case stop=>
      intro D X Y pre W hD hSp hx hdef;have q2:Held W (w.heap.size+2) [.int .i64 (Sk.qE g (bare l) C)] 3:=hx.bx (w.heap.size+2,[.int .i64 (Sk.qE g (bare l) C)],3) (by simp [jU]);have q3:Held W (w.heap.size+3) [.int .i64 0] 34:=hx.bx (w.heap.size+3,[.int .i64 0],34) (by simp [jU]);refine wpIn_ret ?_
      show Q' .ret _ _
      rw [← HQ.out];refine mG rfl hdef (yE (p:=6) (q:=7) (q2.putObj hdef rfl _) (q3.putObj hdef rfl _) Tryz.underlying3 Tryz.underlying34 rfl rfl rfl _ rfl rfl) ⟨?_,jO hx.bw (by omega) _⟩;rw [EW.out,HE.out,h0]
   · have h0':(E != 0)=true:=by simp [h0]
     have EW:=hide (show Wq g l C=0 by unfold Wq;rw [if_neg (by rw [HE.out];exact h0)]);clear h0;have p6:=(hB1.get 2 rfl).cell (j:=0) rfl;have pf6:=(hB1.get 2 rfl).frozen 0;have p7:=(hB1.get 3 rfl).cell (j:=0) rfl;have pf7:=(hB1.get 3 rfl).frozen 0;go_wp2;have hF:=(hB1.set 2 rfl 0 (.int .i64 0)).set 3 rfl 0 (.int .i64 E)
     show Q' .ret _ _
     rw [← HQ.out];refine vY (yE (p:=6) (q:=7) (hF.get 2 rfl) (hF.get 3 rfl) Tryz.underlying3 Tryz.underlying34 rfl rfl rfl _ rfl rfl) rfl ⟨?_,hF.bw⟩;rw [EW.out,HE.out]
theorem Bx.X5 {w W:World} {a b c d:Nat × List Value × TypeId} (h:Bx w W [a,b,c,d]):Bx w W [d,a,b,c]:=by
 have h1:=h.nd;refine ⟨h.bw,fun p hp=>h.bx p (by simp only [List.mem_cons] at hp ⊢;rcases hp with h | h | h | h | h <;> simp [h]),?_⟩
 simp at h1 ⊢
 omega
def O1 (g:Sk.Game) (s:Sk.State) (e:Sk.Entry):Int:=fst [iU g s e,iL (decide (e.kind≠Sk.dJ)) 13]
def Jb (g:Sk.Game) (s:Sk.State) (e:Sk.Entry):Int:=if O1 g s e≠0 then O1 g s e else if Sk.legal g s e≠0 then 18 else 0
def Uo (g:Sk.Game) (s:Sk.State) (e:Sk.Entry):Sk.fF:=if Jb g s e=0 then Sk.judge g s e else ⟨0,0,0,false⟩
theorem O4 {g:Sk.Game} {s:Sk.State} {e:Sk.Entry} (h:O1 g s e=0):iU g s e=0∧e.kind=Sk.dJ:=by
 unfold O1 at h
 rw [rQ] at h
 by_cases h1:iU g s e=0
 · rw [if_neg (by simpa using h1)] at h
   refine ⟨h1,?_⟩
   by_cases h2:e.kind=Sk.dJ
   · exact h2
   · rw [decide_eq_true h2] at h;cases h
 · rw [if_pos h1] at h;exact absurd h h1
theorem zh (S:Nat→Prop) (g:Sk.Game) (s:Sk.State) (e:En) (w:World) (he:iW w S e):Calls Tryz.prog 43 #[lZ g,kW s,wF e] w fun e_ w'=>e_= .returned (.tuple #[RH (Uo g s e.x),.int .i64 (Jb g s e.x)])∧Below w.heap.size w w':=by
 go_enter Tryz.func43,Tryz.ntmps43
 go_upto_region 0 with (fail)
 go_cut [3,4,5,6,7] (fun v3 v4 v5 v6 v7 wx=>v3=ptr (w.heap.size)∧v4=ptr (w.heap.size+1)∧v5=ptr (w.heap.size+2)∧v6=ptr (w.heap.size+3)∧v7= .int .i64 0∧Bx w wx [(w.heap.size,bT g,23),(w.heap.size+1,aO s,26),(w.heap.size+2,dU e,83),(w.heap.size+3,fG ⟨0,0,0,false⟩,78)])
 case first=>
  go_wp2;go_meet;exact ⟨rfl,rfl,rfl,rfl,rfl,Bx.of (((((aJ.nil w).new (by simp) (bT g) 23).new (by simp) (aO s) 26).new (by simp) (dU e) 83).new (by simp) (fG ⟨0,0,0,false⟩) 78) _ rfl⟩
 case rest=>
  obtain ⟨rfl,rfl,rfl,rfl,rfl,hL⟩:=hcut;obtain ⟨nk,hnk⟩:∃ q,decide (e.x.kind≠Sk.dJ)=q:=⟨_,rfl⟩
  have ajM:(!(e.x.kind.toList == [115,104,111,116]))=nk:=by rw [← hnk,gG];simp
  have HNK:=hide (show O1 g s e.x=fst [iU g s e.x,iL nk 13] by unfold O1;rw [hnk]);clear hnk
  go_upto_region 1 with (fail)
  go_cut [8] from 9 to 19 (fun v8 wx=>v8= .int .i64 (fst [iU g s e.x,iL nk 13])∧Bx w wx [(w.heap.size,bT g,23),(w.heap.size+1,aO s,26),(w.heap.size+2,dU e,83),(w.heap.size+3,fG ⟨0,0,0,false⟩,78)])
  case first=>
   have Zz:∀ W:World,Bx w W [(w.heap.size,bT g,23),(w.heap.size+1,aO s,26),(w.heap.size+2,dU e,83),(w.heap.size+3,fG ⟨0,0,0,false⟩,78)]∧W.cell? ⟨w.heap.size+2,0,none⟩=some (.string e.x.kind)→W.rangeAt (w.heap.size) 0 (bT g):=fun W h=>h.1.rng 0 rfl 0 _ rfl;have ZA:∀ W:World,Bx w W [(w.heap.size,bT g,23),(w.heap.size+1,aO s,26),(w.heap.size+2,dU e,83),(w.heap.size+3,fG ⟨0,0,0,false⟩,78)]∧W.cell? ⟨w.heap.size+2,0,none⟩=some (.string e.x.kind)→W.rangeAt (w.heap.size+1) 0 (aO s):=fun W h=>h.1.rng 1 rfl 0 _ rfl;have ZB:∀ W:World,Bx w W [(w.heap.size,bT g,23),(w.heap.size+1,aO s,26),(w.heap.size+2,dU e,83),(w.heap.size+3,fG ⟨0,0,0,false⟩,78)]∧W.cell? ⟨w.heap.size+2,0,none⟩=some (.string e.x.kind)→W.rangeAt (w.heap.size+2) 0 (dU e):=fun W h=>h.1.rng 2 rfl 0 _ rfl;have hL:=hL.drew;refine wp_region_held_drew (S:=(fun w':World=>Bx w w' [(w.heap.size,bT g,23),(w.heap.size+1,aO s,26),(w.heap.size+2,dU e,83),(w.heap.size+3,fG ⟨0,0,0,false⟩,78)]∧w'.cell? ⟨w.heap.size+2,0,none⟩=some (.string e.x.kind))) (by kernel_rfl) ?bW (fun hHeld=>?_)
   case bW=>exact ⟨hL,(hL.get 2 rfl).cell (j:=0) rfl⟩
   refine bJ 0 Zz Tryz.underlying23 ?_;refine bJ 1 ZA Tryz.underlying26 ?_;refine bJ 2 ZB Tryz.underlying83 ?_;refine aF 4 ?_;refine aF 5 ?_;refine aF 6 ?_;refine aG 3 fun K hK=>?_;go_simp
   (go_at_call 79;refine (um S g s e _ (he.below hL.bw)).mono ?_;rintro e w1a ⟨rfl,OC⟩)
   have hL:=hL.call OC;refine ay hK (⟨hL,(hL.get 2 rfl).cell (j:=0) rfl⟩) fun hHeld=>?_;clear hK K;refine aG 7 fun K hK=>?_;go_simp
   (go_at_call 64;refine (dF nk 13 _).mono ?_;rintro e YK ⟨rfl,rfl⟩)
   refine ay hK (⟨hL,(hL.get 2 rfl).cell (j:=0) rfl⟩) fun hHeld=>?_;clear hK K;refine aG 8 fun K hK=>?_;go_simp;have hL:=hL.alloc (.cells #[.int .i64 (iU g s e.x),.int .i64 (iL nk 13)] 34);refine ay hK (⟨hL,(hL.get 2 rfl).cell (j:=0) rfl⟩) fun hHeld=>?_;clear hK K;refine aG 9 fun K hK=>?_;go_simp
   (go_at_call 67;refine (fZ (fun _=>True) _ _ [iU g s e.x,iL nk 13] _ (jV.row _ _ [iU g s e.x,iL nk 13] (by simp) _ trivial)).mono ?_;rintro e w1c ⟨rfl,rfl⟩)
   refine ay hK (⟨hL,(hL.get 2 rfl).cell (j:=0) rfl⟩) fun hHeld=>?_;clear hK K;refine aF 10 ?_;refine wpAnyH_done (by kernel_rfl) ?_ _;go_wp2;go_meet;exact ⟨by rfl,hL⟩
  case rest=>
   obtain ⟨rfl,hL⟩:=hcut;clear ajM;rw [← HNK.out];clear HNK
   by_cases h0:O1 g s e.x=0
   rotate_left
   · have h0':(O1 g s e.x != 0)=true:=by simp [h0]
     have HM:=hide (show Uo g s e.x=⟨0,0,0,false⟩∧Jb g s e.x=O1 g s e.x by have hE:Jb g s e.x=O1 g s e.x:=(by unfold Jb;rw [if_pos h0]);exact ⟨by unfold Uo;rw [if_neg (by rw [hE];exact h0)],hE⟩);clear h0;have hL4:=hL.X5
     go_wp2_with (first | ((with_reducible (refine aH 78 (.tmp 6) (.tmp 21) ?lx ?_));(case lx=>rfl);refine aC (hL4.head) (fG ⟨0,0,0,false⟩) rfl dQ (jd _) rfl (.tmp 6) (.tmp 21) rfl rfl rfl ?_))
     have hL:=hL4.put (fG ⟨0,0,0,false⟩) rfl;refine bodyPost_ret (mV (p:=6) (u:=7) hL.head Tryz.underlying78 rfl dQ rfl _ rfl) rfl ⟨?_,hL.bw⟩;rw [HM.out.1,HM.out.2];rfl
   · have h0':(O1 g s e.x != 0)=false:=by simp [h0]
     obtain ⟨hca,hkd⟩:=O4 h0;obtain ⟨ho,hen⟩:=vN hca
     by_cases h1:Sk.legal g s e.x=0
     rotate_left
     · have h1':(Sk.legal g s e.x != 0)=true:=by simp [h1]
       have HM:=hide (show Uo g s e.x=⟨0,0,0,false⟩∧Jb g s e.x=18 by have hE:Jb g s e.x=18:=(by unfold Jb;rw [if_neg (by simpa using h0),if_pos h1]);exact ⟨by unfold Uo;rw [if_neg (by rw [hE];decide)],hE⟩);clear h0 h1 hca hkd
       go_upto_region 5 with (first | ((with_reducible (refine ah 23 (.tmp 3) ?lx ?_));(case lx=>rfl);refine aK (hL.rng 0 rfl 0 (bT g) rfl) Tryz.underlying23 rfl cZ rfl (.tmp 3) rfl rfl ?_) | ((with_reducible (refine ah 23 (.tmp 3) ?lx ?_));(case lx=>rfl);refine fA (hL.rng 0 rfl 0 (bT g) rfl) Tryz.underlying23 rfl cZ rfl (.tmp 3) rfl rfl ?_) | ((with_reducible (refine aI 23 (.tmp 3) ?lx ?_));(case lx=>rfl);refine eu (hL.rng 0 rfl 0 (bT g) rfl) Tryz.underlying23 rfl cZ (.tmp 3) rfl rfl ?_) | ((with_reducible (refine ah 26 (.tmp 4) ?lx ?_));(case lx=>rfl);refine aK (hL.rng 1 rfl 0 (aO s) rfl) Tryz.underlying26 rfl ak rfl (.tmp 4) rfl rfl ?_) | ((with_reducible (refine ah 26 (.tmp 4) ?lx ?_));(case lx=>rfl);refine fA (hL.rng 1 rfl 0 (aO s) rfl) Tryz.underlying26 rfl ak rfl (.tmp 4) rfl rfl ?_) | ((with_reducible (refine aI 26 (.tmp 4) ?lx ?_));(case lx=>rfl);refine eu (hL.rng 1 rfl 0 (aO s) rfl) Tryz.underlying26 rfl ak (.tmp 4) rfl rfl ?_) | ((with_reducible (refine ah 83 (.tmp 5) ?lx ?_));(case lx=>rfl);refine aK (hL.rng 2 rfl 0 (dU e) rfl) Tryz.underlying83 rfl bF rfl (.tmp 5) rfl rfl ?_) | ((with_reducible (refine ah 83 (.tmp 5) ?lx ?_));(case lx=>rfl);refine fA (hL.rng 2 rfl 0 (dU e) rfl) Tryz.underlying83 rfl bF rfl (.tmp 5) rfl rfl ?_) | ((with_reducible (refine aI 83 (.tmp 5) ?lx ?_));(case lx=>rfl);refine eu (hL.rng 2 rfl 0 (dU e) rfl) Tryz.underlying83 rfl bF (.tmp 5) rfl rfl ?_) | (go_at_call 80;refine (oG S g s e _ ho hen (he.below hL.bw)).mono ?_;rintro e1 w4 ⟨rfl,hb4⟩;have hL:=hL.call hb4))
       have hL:=hL.X5
       go_wp2_with (first | ((with_reducible (refine aH 78 (.tmp 6) (.tmp 28) ?lx ?_));(case lx=>rfl);refine aC (hL.head) (fG ⟨0,0,0,false⟩) rfl dQ (jd _) rfl (.tmp 6) (.tmp 28) rfl rfl rfl ?_))
       have hL:=hL.put (fG ⟨0,0,0,false⟩) rfl;refine bodyPost_ret (mV (p:=6) (u:=7) hL.head Tryz.underlying78 rfl dQ rfl _ rfl) rfl ⟨?_,hL.bw⟩;rw [HM.out.1,HM.out.2];rfl
     · have h1':(Sk.legal g s e.x != 0)=false:=by simp [h1]
       have hE:Jb g s e.x=0:=by unfold Jb;rw [if_neg (by simpa using h0),if_neg (by simpa using h1)]
       have OO:=fun W (hb:Below w.heap.size w W)=>qy S g s e W ho.inr.turn ho.inr.colour (he.below hb);obtain ⟨v,hv⟩:∃ q,Sk.judge g s e.x=q:=⟨_,rfl⟩;have eg:=qm g.kind;obtain ⟨gj,hgj⟩:∃ q,gq g.kind=q:=⟨_,rfl⟩
       simp only [hgj,hv] at OO eg
       have Yp:=hide OO;have HGJ:=hide hgj;have hkn:=Sk.nJ ho.game;have rlj:=@GI;have HM:=hide (show Uo g s e.x=v∧Jb g s e.x=0 from ⟨by unfold Uo;rw [if_pos hE,hv],hE⟩);clear h0 h1 hca hkd hE OO hgj hv
       go_upto_region 6 with (first | ((with_reducible (refine ah 23 (.tmp 3) ?lx ?_));(case lx=>rfl);refine aK (hL.rng 0 rfl 0 (bT g) rfl) Tryz.underlying23 rfl cZ rfl (.tmp 3) rfl rfl ?_) | ((with_reducible (refine ah 23 (.tmp 3) ?lx ?_));(case lx=>rfl);refine fA (hL.rng 0 rfl 0 (bT g) rfl) Tryz.underlying23 rfl cZ rfl (.tmp 3) rfl rfl ?_) | ((with_reducible (refine aI 23 (.tmp 3) ?lx ?_));(case lx=>rfl);refine eu (hL.rng 0 rfl 0 (bT g) rfl) Tryz.underlying23 rfl cZ (.tmp 3) rfl rfl ?_) | ((with_reducible (refine ah 26 (.tmp 4) ?lx ?_));(case lx=>rfl);refine aK (hL.rng 1 rfl 0 (aO s) rfl) Tryz.underlying26 rfl ak rfl (.tmp 4) rfl rfl ?_) | ((with_reducible (refine ah 26 (.tmp 4) ?lx ?_));(case lx=>rfl);refine fA (hL.rng 1 rfl 0 (aO s) rfl) Tryz.underlying26 rfl ak rfl (.tmp 4) rfl rfl ?_) | ((with_reducible (refine aI 26 (.tmp 4) ?lx ?_));(case lx=>rfl);refine eu (hL.rng 1 rfl 0 (aO s) rfl) Tryz.underlying26 rfl ak (.tmp 4) rfl rfl ?_) | ((with_reducible (refine ah 83 (.tmp 5) ?lx ?_));(case lx=>rfl);refine aK (hL.rng 2 rfl 0 (dU e) rfl) Tryz.underlying83 rfl bF rfl (.tmp 5) rfl rfl ?_) | ((with_reducible (refine ah 83 (.tmp 5) ?lx ?_));(case lx=>rfl);refine fA (hL.rng 2 rfl 0 (dU e) rfl) Tryz.underlying83 rfl bF rfl (.tmp 5) rfl rfl ?_) | ((with_reducible (refine aI 83 (.tmp 5) ?lx ?_));(case lx=>rfl);refine eu (hL.rng 2 rfl 0 (dU e) rfl) Tryz.underlying83 rfl bF (.tmp 5) rfl rfl ?_) | (go_at_call 80;refine (oG S g s e _ ho hen (he.below hL.bw)).mono ?_;rintro e1 w4 ⟨rfl,hb4⟩;have hL:=hL.call hb4))
       have hL:=hL.X5;have ZI:∀ W:World,Bx w W [(w.heap.size,bT g,23),(w.heap.size+1,aO s,26),(w.heap.size+2,dU e,83)]∧W.cell? ⟨w.heap.size,0,none⟩=some (.string g.kind)→W.rangeAt (w.heap.size+1) 0 ([.int .i64 s.turn,.int .i64 s.s0,.int .i64 s.s1,.int .i64 s.brk,.string s.phase,.int .i64 s.bI,.int .i64 s.colour,.bool s.free,.bool s.aT,.int .i64 s.aP,.int .i64 s.t0,.int .i64 s.t1,.int .i64 s.aB]):=fun W h=>h.1.rng 1 rfl 0 _ rfl;have ZJ:∀ W:World,Bx w W [(w.heap.size,bT g,23),(w.heap.size+1,aO s,26),(w.heap.size+2,dU e,83)]∧W.cell? ⟨w.heap.size,0,none⟩=some (.string g.kind)→W.rangeAt (w.heap.size+2) 0 ([.string e.x.kind,.string e.x.called,.slice e.A e.x.hits.length e.a,.slice e.B e.x.aV.length e.b,.int .i64 e.x.bD]):=fun W h=>h.1.rng 2 rfl 0 _ rfl;have hL:=hL.drew;refine wp_region_held_drew (S:=(fun w':World=>Bx w w' [(w.heap.size,bT g,23),(w.heap.size+1,aO s,26),(w.heap.size+2,dU e,83)]∧w'.cell? ⟨w.heap.size,0,none⟩=some (.string g.kind))) (by kernel_rfl) ?dI (fun hHeld=>?_)
       case dI=>exact ⟨hL.tail,(hL.tail.get 0 rfl).cell (j:=0) rfl⟩
       refine aF 1 ?_;refine aF 2 ?_;refine bJ 5 ZI Tryz.underlying26 ?_;refine bJ 6 ZJ Tryz.underlying83 ?_;refine aG 0 fun K hK=>?_;go_simp
       (go_at_call 63;refine (fJ _).mono ?_;rintro e w6a ⟨rfl,g3⟩;have Ec:=g3.bw;have hl1:=zZ (lG (n:=w4.heap.size) g3 (by simp)) hkn HGJ.out)
       have hL:=hL.call Ec;refine ay hK (⟨hL.tail,(hL.tail.get 0 rfl).cell (j:=0) rfl⟩) fun hHeld=>?_;clear hK K;refine aG 3 fun K hK=>?_;go_simp;refine ay hK (⟨hL.tail,(hL.tail.get 0 rfl).cell (j:=0) rfl⟩) fun hHeld=>?_;clear hK K;refine aF 4 ?_;refine aG 7 fun K hK=>?_;go_simp
       (go_at_fn gj;refine (Yp.out _ hL.bw).mono ?_;rintro e w6b ⟨rfl,Ed⟩)
       have hL:=hL.call Ed;refine ay hK (⟨hL.tail,(hL.tail.get 0 rfl).cell (j:=0) rfl⟩) fun hHeld=>?_;clear hK K;refine aG 8 fun K hK=>?_;refine aU hL.head (fG v) rfl dQ (jd _) (.tmp 6) (.tmp 36) rfl rfl rfl ?_;have hL:=hL.put (fG v) rfl;refine ay hK (⟨hL.tail,(hL.tail.get 0 rfl).cell (j:=0) rfl⟩) fun hHeld=>?_;clear hK K;refine aF 9 ?_;refine wpAnyH_done (by kernel_rfl) ?_ _;go_wp2;refine bodyPost_ret (mV (p:=6) (u:=7) hL.head Tryz.underlying78 rfl dQ rfl _ rfl) rfl ⟨?_,hL.bw⟩;rw [HM.out.1,HM.out.2];rfl
end Go.Proofs.YtjbbfmofpjflmaaGreatDoor
