/- Parts of a proof. -/
import Derived.Deep.MidRow
import Derived.Test.YtcbmedfongiojaaGreatDoorKt8
set_option linter.unusedVariables false
set_option linter.unusedSimpArgs false
namespace Go.Proofs.YtcbmedfongiojaaGreatDoor
open Go.RowKit
def Held (W:World) (g:Nat) (cs:List Value) (t:TypeId):Prop:=W.heap[g]? =some (.cells cs.toArray t (0,0))
section
variable {W W':World} {g g':Nat} {cs cs':List Value} {t t':TypeId}
theorem Held.lt (h:Held W g cs t):g<W.heap.size:=(Array.getElem?_eq_some_iff.1 h).1
theorem Held.cell (h:Held W g cs t) {j:Nat} {v:Value} (hj:cs[j]? =some v):W.cell? ⟨g,j,none⟩=some v:=by
 rw [cell_of_row W g j _ _ _ h];simpa using hj
theorem Held.frozen (h:Held W g cs t) (j:Nat):W.frozen? ⟨g,j,none⟩=false:=by simp [World.frozen?,show W.heap[g]? =_ from h]
theorem Held.new (W:World) (us:List Value) (t:TypeId):Held (W.alloc (.cells us.toArray t)) W.heap.size us t:=heap_alloc_new W _
theorem Held.newAt (W:World) (us:List Value) (t:TypeId) (hg:W.heap.size=g):Held (W.alloc (.cells us.toArray t)) g us t:=by subst hg;exact heap_alloc_new W _
theorem Held.below (h:Held W g cs t) (hb:Below W.heap.size W W'):Held W' g cs t:=(hb.block g h.lt).trans h
theorem Held.upto {D:Nat} (h:Held W g cs t) (hb:Below D W W') (hD:g<D):Held W' g cs t:=(hb.block g hD).trans h
theorem Held.alloc (h:Held W g cs t) (o:Obj):Held (W.alloc o) g cs t:=h.below ((Below.refl _ _).alloc (Nat.le_refl _) o)
theorem Held.drew (h:Held W g cs t):Held W.drew g cs t:=h
theorem Held.drewN (h:Held W g cs t) (n:Nat):Held (W.drewN n) g cs t:=h
theorem Held.set (h:Held W g cs t) (o:Nat) (v:Value):Held (W.setCell ⟨g,o,none⟩ v) g (cs.set o v) t:=by
 obtain ⟨hlt,hk⟩:=Array.getElem?_eq_some_iff.1 h
 show (W.heap.modify g _)[g]? =_
 rw [Array.getElem?_eq_getElem (by rw [Array.size_modify];exact hlt),Array.getElem_modify_self,hk]
 simp
theorem Held.other (h:Held W g cs t) (hne:g≠g') (o:Nat) (v:Value):Held (W.setCell ⟨g',o,none⟩ v) g cs t:=(Below.heap_setCell W ⟨g',o,none⟩ v g hne).trans h
theorem Held.others (hne:g≠g'):∀ (vs:List Value) (o:Nat) (W:World),Held W g cs t→Held (W.setCells g' o vs) g cs t
 | [],_,_,h=>h
 | v::r,o,W,h=>Held.others hne r (o+1) _ (h.other hne o v)
theorem Held.sets:∀ (vs pre post:List Value) (W:World),Held W g (pre++post) t→post.length=vs.length→Held (W.setCells g pre.length vs) g (pre++vs) t
 | [],pre,post,W,h,hl=>by
   obtain rfl:=List.eq_nil_of_length_eq_zero (by simpa using hl);exact h
 | v::r,pre,[],W,h,hl=>by cases hl
 | v::r,pre,u::post,W,h,hl=>by
   have h1:=h.set pre.length v;rw [show (pre++u::post).set pre.length v=pre++[v]++post by simp] at h1;have h2:=Held.sets r (pre++[v]) post _ h1 (by simpa using hl);rw [List.length_append,List.append_assoc] at h2;exact h2
theorem Held.whole (h:Held W g cs t) (vs:List Value) (hl:cs.length=vs.length):Held (W.setCells g 0 vs) g vs t:=by
 have:=Held.sets vs [] cs W h hl
 simpa using this
theorem Held.range (h:Held W g cs t):W.rangeAt g 0 cs:=fun j v hj=>by rw [Nat.zero_add];exact h.cell hj
theorem Held.there (h:Held W g cs t):W.there g 0 cs.length:=fun j hj=>by
 rw [Nat.zero_add,h.cell (List.getElem?_eq_getElem hj)];exact ⟨rfl,h.frozen j⟩
theorem setCells_size (g:Nat):∀ (vs:List Value) (o:Nat) (W:World),(W.setCells g o vs).heap.size=W.heap.size
 | [],_,_=>rfl
 | v::r,o,W=>by
   rw [World.setCells,setCells_size g r]
   simp [World.setCell]
theorem below_setCells {B:Nat} (g:Nat) (hg:B≤g):∀ (vs:List Value) (o:Nat) (w W:World),Below B w W→Below B w (W.setCells g o vs)
 | [],_,_,_,h=>h
 | v::r,o,w,W,h=>below_setCells g hg r (o+1) w _ (h.setCell (p:=⟨g,o,none⟩) hg v)
end
structure aC (w W:World) (L:List (List Value × TypeId)):Prop where
 at_:∀ i e,L[i]? =some e→Held W (w.heap.size+i) e.1 e.2
 bw:Below w.heap.size w W
section
variable {w W W':World} {L:List (List Value × TypeId)}
theorem aC.get (h:aC w W L) (i:Nat) {cs:List Value} {t:TypeId} (he:L[i]? =some (cs,t)):Held W (w.heap.size+i) cs t:=h.at_ i _ he
theorem aC.aj (h:aC w W L) {cs:List Value} {t:TypeId} (he:L[0]? =some (cs,t)):Held W w.heap.size cs t:=h.at_ 0 _ he
theorem aC.nil (w:World):aC w w []:=⟨fun i e h=>by simp at h,Below.refl _ _⟩
theorem aC.new (h:aC w W L) (hs:W.heap.size=w.heap.size+L.length) (cs:List Value) (t:TypeId):aC w (W.alloc (.cells cs.toArray t)) (L++[(cs,t)]):=
 ⟨fun i e he=>by
  rcases Nat.lt_or_ge i L.length with hi | hi
  · rw [List.getElem?_append_left hi] at he
    exact (h.at_ i e he).alloc _
  · rw [List.getElem?_append_right hi] at he
    match hn:i - L.length,he with
    | 0,he=>
      simp at he
      subst he;exact Held.newAt _ _ _ (by omega)
    | k+1,he=>simp at he,h.bw.alloc (by omega) _⟩
theorem aC.lt (h:aC w W L) {i:Nat} (hi:i<L.length):w.heap.size+i<W.heap.size:=(h.at_ i _ (List.getElem?_eq_getElem hi)).lt
theorem aC.set (h:aC w W L) (i:Nat) {cs:List Value} {t:TypeId} (he:L[i]? =some (cs,t)) (o:Nat) (v:Value):aC w (W.setCell ⟨w.heap.size+i,o,none⟩ v) (L.set i (cs.set o v,t)):=
 ⟨fun j e hj=>by
  by_cases hij:i=j
  · subst hij
    rw [List.getElem?_set_self (List.getElem?_eq_some_iff.1 he).1] at hj
    injection hj with hj
    subst hj;exact (h.get i he).set o v
  · rw [List.getElem?_set_ne hij] at hj
    exact (h.at_ j e hj).other (by omega) o v,h.bw.setCell (p:=⟨w.heap.size+i,o,none⟩) (by show w.heap.size≤w.heap.size+i;omega) v⟩
theorem aC.put (h:aC w W L) (i:Nat) {cs:List Value} {t:TypeId} (he:L[i]? =some (cs,t)) (vs:List Value) (hl:cs.length=vs.length):aC w (W.setCells (w.heap.size+i) 0 vs) (L.set i (vs,t)):=
 ⟨fun j e hj=>by
  by_cases hij:i=j
  · subst hij
    rw [List.getElem?_set_self (List.getElem?_eq_some_iff.1 he).1] at hj
    injection hj with hj
    subst hj;exact (h.get i he).whole vs hl
  · rw [List.getElem?_set_ne hij] at hj
    exact Held.others (by omega) _ _ _ (h.at_ j e hj),below_setCells _ (by omega) _ _ _ _ h.bw⟩
theorem aC.far (h:aC w W L) {g:Nat} (hg:w.heap.size+L.length≤g) (o:Nat) (v:Value):aC w (W.setCell ⟨g,o,none⟩ v) L:=
 ⟨fun j e hj=>(h.at_ j e hj).other (by have:=(List.getElem?_eq_some_iff.1 hj).1;omega) o v,h.bw.setCell (p:=⟨g,o,none⟩) (by show w.heap.size≤g;omega) v⟩
theorem aC.fK (h:aC w W L) {g:Nat} (hg:w.heap.size+L.length≤g) (vs:List Value) (o:Nat):aC w (W.setCells g o vs) L:=
 ⟨fun j e hj=>Held.others (by have:=(List.getElem?_eq_some_iff.1 hj).1;omega) _ _ _ (h.at_ j e hj),below_setCells _ (by omega) _ _ _ _ h.bw⟩
theorem aC.upto {D:Nat} (h:aC w W L) (hb:Below D W W') (hD:w.heap.size+L.length≤D):aC w W' L:=
 ⟨fun j e hj=>(h.at_ j e hj).upto hb (by have:=(List.getElem?_eq_some_iff.1 hj).1;omega),h.bw.trans (hb.mono (by omega))⟩
theorem aC.size (h:aC w W L) (hL:0<L.length):w.heap.size+L.length≤W.heap.size:=by have:=h.lt (i:=L.length - 1) (by omega);omega
theorem aC.call (h:aC w W L) (hL:0<L.length) (hb:Below W.heap.size W W'):aC w W' L:=h.upto hb (h.size hL)
theorem aC.drew (h:aC w W L):aC w W.drew L:=⟨h.at_,h.bw.drew⟩
theorem aC.drewN (h:aC w W L) (n:Nat):aC w (W.drewN n) L:=⟨h.at_,below_drewN h.bw n⟩
theorem aC.alloc (h:aC w W L) (hL:0<L.length) (o:Obj):aC w (W.alloc o) L:=h.call hL ((Below.refl _ _).alloc (Nat.le_refl _) o)
end
section
variable {ops:Array Oper} {rest:List Oper} {op:Oper} {a:Act} {W:World} {Q:Exit→Act→World→Prop} {g n:Nat} {cs:List Value} {t:TypeId} {d:TypeDesc}
theorem Le (h:Held W g cs t) (hu:Tryz.prog.underlying t=some d) (hd:d.isRow=true) (hi:(Tryz.prog.info? t).map (·.size)=some cs.length) (hgd:op.guard=none) (x:Operand) (ho:op.op= .load t x) (hx:a.eval x= .pointer (some ⟨g,0,none⟩))
 (k:wpList Tryz.prog ops Q rest (a.put op.dst (.agg cs.toArray)) W):wpList Tryz.prog ops Q (op::rest) a W:=
 wpList_load_mid hgd t x ho g 0 hx cs d h.range hu hd hi k
theorem jd {cs vs:List Value} {n:Nat} (h:cs.length=n) (h':vs.length=cs.length):vs.toArray.size=n:=by simp [h,h']
theorem IV (h:Held W g cs t) (vs:List Value) (hl:vs.length=cs.length) (hi:(Tryz.prog.info? t).map (·.size)=some cs.length) (h1:∀ v∈vs,v.oneCell'=true) (hgd:op.guard=none) (x y:Operand) (ho:op.op= .store t x y)
 (hx:a.eval x= .pointer (some ⟨g,0,none⟩)) (hy:a.eval y= .agg vs.toArray)
 (k:wpList Tryz.prog ops Q rest (a.put op.dst undef) (W.setCells g 0 vs)):wpList Tryz.prog ops Q (op::rest) a W:=
 wpList_store_mid hgd t x y ho g 0 vs.toArray hx hy (by rw [jd rfl hl];exact h.there) (by rw [jd rfl hl];exact hi) (all_oneCell_toArray h1) (by rw [List.toList_toArray];exact k)
def oz (P:Program) (ops:Array Oper) (Q:Exit→Act→World→Prop) (op:Oper) (rest:List Oper) (a:Act) (W:World):Prop:=wpList P ops Q (op::rest) a W
theorem dA (t:TypeId) (x:Operand) (_:op.op= .load t x) (h:oz Tryz.prog ops Q op rest a W):wpList Tryz.prog ops Q (op::rest) a W:=h
theorem fO (t:TypeId) (x y:Operand) (_:op.op= .store t x y) (h:oz Tryz.prog ops Q op rest a W):wpList Tryz.prog ops Q (op::rest) a W:=h
theorem cO (h:Held W g cs t) (hu:Tryz.prog.underlying t=some d) (hd:d.isRow=true) (hi:(Tryz.prog.info? t).map (·.size)=some cs.length) (hgd:op.guard=none) (x:Operand) (ho:op.op= .load t x) (hx:a.eval x= .pointer (some ⟨g,0,none⟩))
 (k:wpList Tryz.prog ops Q rest (a.put op.dst (.agg cs.toArray)) W):oz Tryz.prog ops Q op rest a W:=Le h hu hd hi hgd x ho hx k
theorem dP (h:Held W g cs t) (vs:List Value) (hl:vs.length=cs.length) (hi:(Tryz.prog.info? t).map (·.size)=some cs.length) (h1:∀ v∈vs,v.oneCell'=true) (hgd:op.guard=none) (x y:Operand) (ho:op.op= .store t x y)
 (hx:a.eval x= .pointer (some ⟨g,0,none⟩)) (hy:a.eval y= .agg vs.toArray)
 (k:wpList Tryz.prog ops Q rest (a.put op.dst undef) (W.setCells g 0 vs)):oz Tryz.prog ops Q op rest a W:=IV h vs hl hi h1 hgd x y ho hx hy k
theorem Gf (h:Held W g cs t) (hu:Tryz.prog.underlying t=some d) (hd:d.isRow=true) (hi:(Tryz.prog.info? t).map (·.size)=some cs.length) (hw:Region.wanted op (yielded ops a.tmps)=true) (x:Operand) (ho:op.op= .load t x) (hx:a.eval x= .pointer (some ⟨g,0,none⟩))
 (k:wpList Tryz.prog ops Q rest (a.put op.dst (.agg cs.toArray)) W):oz Tryz.prog ops Q op rest a W:=
 BigFrame.wpList_want hw fun _ hK=>wp_load_mid t x ho g 0 hx cs d h.range hu hd hi (hK _ _ k)
def Dp (P:Program) (Q:Exit→Act→World→Prop) (op:Oper) (K:Act→World→Prop) (a:Act) (W:World):Prop:=op.wp P a W K Q
theorem Gg {K:Act→World→Prop} (h:Held W g cs t) (hu:Tryz.prog.underlying t=some d) (hd:d.isRow=true) (hi:(Tryz.prog.info? t).map (·.size)=some cs.length) (x:Operand) (ho:op.op= .load t x) (hx:a.eval x= .pointer (some ⟨g,0,none⟩))
 (k:K (a.put op.dst (.agg cs.toArray)) W):Dp Tryz.prog Q op K a W:=wp_load_mid t x ho g 0 hx cs d h.range hu hd hi k
theorem dh (t:TypeId) (k:Nat) (h:oz Tryz.prog ops Q op rest a W) (_:op.op= .load t (.tmp k):=by with_unfolding_all rfl):wpList Tryz.prog ops Q (op::rest) a W:=h
theorem isS (t:TypeId) (k m:Nat) (h:oz Tryz.prog ops Q op rest a W) (_:op.op= .store t (.tmp k) (.tmp m):=by with_unfolding_all rfl):wpList Tryz.prog ops Q (op::rest) a W:=h
theorem iV {K:Act→World→Prop} (t:TypeId) (k:Nat) (h:Dp Tryz.prog Q op K a W) (_:op.op= .load t (.tmp k):=by with_unfolding_all rfl):op.wp Tryz.prog a W K Q:=h
theorem dO {x:Operand} (h:Held W g cs t) (hu:Tryz.prog.underlying t=some d) (hi:(Tryz.prog.info? t).map (·.size)=some cs.length) (k:wpList Tryz.prog ops Q rest (a.put op.dst (.agg cs.toArray)) W) (ho:op.op= .load t x:=by rfl) (hx:a.eval x= .pointer (some ⟨g,0,none⟩):=by rfl) (hd:d.isRow=true:=by rfl)
 (hw:Region.wanted op (yielded ops a.tmps)=true:=by rfl):oz Tryz.prog ops Q op rest a W:=Gf h hu hd hi hw x ho hx k
theorem nI {x:Operand} {o:Nat} (h:W.rangeAt g o cs) (hu:Tryz.prog.underlying t=some d) (hi:(Tryz.prog.info? t).map (·.size)=some cs.length) (k:wpList Tryz.prog ops Q rest (a.put op.dst (.agg cs.toArray)) W) (ho:op.op= .load t x:=by rfl) (hx:a.eval x= .pointer (some ⟨g,o,none⟩):=by rfl) (hd:d.isRow=true:=by rfl)
 (hw:Region.wanted op (yielded ops a.tmps)=true:=by rfl):oz Tryz.prog ops Q op rest a W:=BigFrame.wpList_want hw fun _ hK=>wp_load_mid t x ho g o hx cs d h hu hd hi (hK _ _ k)
theorem nO {K:Act→World→Prop} {x:Operand} (h:Held W g cs t) (hu:Tryz.prog.underlying t=some d) (hi:(Tryz.prog.info? t).map (·.size)=some cs.length) (k:K (a.put op.dst (.agg cs.toArray)) W) (ho:op.op= .load t x:=by rfl) (hx:a.eval x= .pointer (some ⟨g,0,none⟩):=by rfl) (hd:d.isRow=true:=by rfl):Dp Tryz.prog Q op K a W:=Gg h hu hd hi x ho hx k
theorem nJ {K:Act→World→Prop} {x:Operand} {o:Nat} (h:W.rangeAt g o cs) (hu:Tryz.prog.underlying t=some d) (hi:(Tryz.prog.info? t).map (·.size)=some cs.length) (k:K (a.put op.dst (.agg cs.toArray)) W) (ho:op.op= .load t x:=by rfl) (hx:a.eval x= .pointer (some ⟨g,o,none⟩):=by rfl) (hd:d.isRow=true:=by rfl):Dp Tryz.prog Q op K a W:=wp_load_mid t x ho g o hx cs d h hu hd hi k
theorem iZ {x y:Operand} (h:Held W g cs t) (vs:List Value) (hi:(Tryz.prog.info? t).map (·.size)=some cs.length) (h1:∀ v∈vs,v.oneCell'=true) (k:wpList Tryz.prog ops Q rest (a.put op.dst undef) (W.setCells g 0 vs)) (ho:op.op= .store t x y:=by rfl) (hx:a.eval x= .pointer (some ⟨g,0,none⟩):=by rfl) (hy:a.eval y= .agg vs.toArray:=by rfl)
 (hl:vs.length=cs.length:=by rfl) (hgd:op.guard=none:=by rfl):oz Tryz.prog ops Q op rest a W:=dP h vs hl hi h1 hgd x y ho hx hy k
theorem aP {fn:Func} {p:Tmp} (h:Held W g cs t) (hu:Tryz.prog.underlying t=some d) (hd:d.isRow=true) (hi:(Tryz.prog.info? t).map (·.size)=some cs.length) (hr:fn.results= #[.cell p t]) (tmps:Array Value) (hp:tmps.getD p undef= .pointer (some ⟨g,0,none⟩)):
 (results fn tmps).run Tryz.prog W= .ok (.agg cs.toArray) W:=
 results_cell_row hr tmps W g t cs.toArray (0,0) d hp h hu (by cases d <;> first | rfl | cases hd) (by rw [jd rfl rfl];exact hi)
end
structure kU (D:Nat) (W W':World):Prop where
 sz:W.heap.size≤W'.heap.size
 block:∀ b,D≤b→b<W.heap.size→W'.heap[b]? =W.heap[b]?
section
variable {D:Nat} {W W' W2:World} {S:Nat→Prop} {size n c:Nat} {A:Option Addr} {xs:List Value}
theorem kU.refl (D:Nat) (W:World):kU D W W:=⟨Nat.le_refl _,fun _ _ _=>rfl⟩
theorem kU.trans (h:kU D W W') (k:kU D W' W2):kU D W W2:=⟨Nat.le_trans h.sz k.sz,fun b hb hl=>(k.block b hb (Nat.lt_of_lt_of_le hl h.sz)).trans (h.block b hb hl)⟩
theorem kU.setCell (h:kU D W W') {g:Nat} (hg:g<D) (o:Nat) (v:Value):kU D W (W'.setCell ⟨g,o,none⟩ v):=
 h.trans ⟨by simp [World.setCell],fun b hb _=>Below.heap_setCell _ _ _ b (by show b≠g;omega)⟩
theorem kU.setCells {g:Nat} (hg:g<D):∀ (vs:List Value) (o:Nat) (W':World),kU D W W'→kU D W (W'.setCells g o vs)
 | [],_,_,h=>h
 | v::r,o,W',h=>kU.setCells hg r (o+1) _ (h.setCell hg o v)
theorem kU.call (h:kU D W W') (hb:Below W'.heap.size W' W2):kU D W W2:=h.trans ⟨hb.size,fun b _ hl=>hb.block b hl⟩
theorem kU.drew (h:kU D W W'):kU D W W'.drew:=⟨h.sz,h.block⟩
theorem Reads.above (h:Reads W S size A n c xs) (hS:∀ b,S b→D≤b) (ha:kU D W W'):Reads W' S size A n c xs:=
 h.keep ha.sz fun b o hb hl=>World.cell?_of_block (ha.block b (hS b hb) hl)
theorem kX.above {zs:List Int} (h:kX W S A c zs) (hS:∀ b,S b→D≤b) (ha:kU D W W'):kX W' S A c zs:=Reads.above h hS ha
end
def spot (g k:ByteArray) (bC:Int) (good:Bool):Bool:=if g=M.zH then decide (bC=8∧k=M.uD) else if g=M.xP then decide (bC=9∧good=false) else !good
theorem aC.cells {w W W':World} {L:List (List Value × TypeId)} (h:aC w W L) (hb:Below W.heap.size W W'):∀ p q,p<w.heap.size+L.length→W'.cell? ⟨p,q,none⟩=W.cell? ⟨p,q,none⟩:=
 fun p q hp=>hb.cell (p:=⟨p,q,none⟩) (by
  rcases Nat.eq_zero_or_pos L.length with h0 | h0
  · exact Nat.lt_of_lt_of_le (by rw [h0] at hp;simpa using hp) h.bw.size
  · exact Nat.lt_of_lt_of_le hp (h.size h0))
theorem kX.sets {S:Nat→Prop} {A:Option Addr} {c:Nat} {zs:List Int} {g:Nat} (hg:¬ S g):∀ (vs:List Value) (o:Nat) (W:World),kX W S A c zs→kX (W.setCells g o vs) S A c zs
 | [],_,_,h=>h
 | v::r,o,W,h=>kX.sets hg r (o+1) _ (h.setCell (p:=⟨g,o,none⟩) hg v)
section
variable {w W W':World} {L:List (List Value × TypeId)} {D:Nat} {G:List Value}
end
end Go.Proofs.YtcbmedfongiojaaGreatDoor
