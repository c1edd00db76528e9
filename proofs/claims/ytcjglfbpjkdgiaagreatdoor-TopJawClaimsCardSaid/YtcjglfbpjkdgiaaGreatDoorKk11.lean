/- Parts of a proof. -/
import Derived.Deep.MidRow
import Derived.Test.YtcjglfbpjkdgiaaGreatDoorKk17
set_option maxHeartbeats 1600000
set_option maxRecDepth 100000
set_option linter.unusedVariables false
set_option linter.unusedSimpArgs false
namespace Go.Proofs.YtcjglfbpjkdgiaaGreatDoor
open Go.RowKit
def Held (W:World) (g:Nat) (cs:List Value) (t:TypeId):Prop:=W.heap[g]? =some (.cells cs.toArray t (0,0))
section
variable {W W':World} {g g':Nat} {cs cs':List Value} {t t':TypeId}
theorem Held.lt (h:Held W g cs t):g<W.heap.size:=(Array.getElem?_eq_some_iff.1 h).1
theorem Held.cell (h:Held W g cs t) {j:Nat} {v:Value} (hj:cs[j]? =some v):W.cell? ⟨g,j,none⟩=some v:=by
 rw [cell_of_row W g j _ _ _ h];simpa using hj
theorem Held.frozen (h:Held W g cs t) (j:Nat):W.frozen? ⟨g,j,none⟩=false:=by simp [World.frozen?,show W.heap[g]? =_ from h]
theorem Held.new (W:World) (us:List Value) (t:TypeId):Held (W.alloc (.cells us.toArray t)) W.heap.size us t:=heap_alloc_new W _
theorem Held.newAt (W:World) (us:List Value) (t:TypeId) (hg:W.heap.size=g):Held (W.alloc (.cells us.toArray t)) g us t:=by subst hg;exact heap_alloc_new W _
theorem Held.below (h:Held W g cs t) (hb:Below W.heap.size W W'):Held W' g cs t:=(hb.block g h.lt).trans h
theorem Held.upto {D:Nat} (h:Held W g cs t) (hb:Below D W W') (hD:g<D):Held W' g cs t:=(hb.block g hD).trans h
theorem Held.alloc (h:Held W g cs t) (o:Obj):Held (W.alloc o) g cs t:=h.below ((Below.refl _ _).alloc (Nat.le_refl _) o)
theorem Held.drew (h:Held W g cs t):Held W.drew g cs t:=h
theorem Held.drewN (h:Held W g cs t) (n:Nat):Held (W.drewN n) g cs t:=h
theorem Held.set (h:Held W g cs t) (o:Nat) (v:Value):Held (W.setCell ⟨g,o,none⟩ v) g (cs.set o v) t:=by
 obtain ⟨hlt,hk⟩:=Array.getElem?_eq_some_iff.1 h
 show (W.heap.modify g _)[g]? =_
 rw [Array.getElem?_eq_getElem (by rw [Array.size_modify];exact hlt),Array.getElem_modify_self,hk]
 simp
theorem Held.other (h:Held W g cs t) (hne:g≠g') (o:Nat) (v:Value):Held (W.setCell ⟨g',o,none⟩ v) g cs t:=(Below.heap_setCell W ⟨g',o,none⟩ v g hne).trans h
theorem Held.others (hne:g≠g'):∀ (vs:List Value) (o:Nat) (W:World),Held W g cs t→Held (W.setCells g' o vs) g cs t
 | [],_,_,h=>h
 | v::r,o,W,h=>Held.others hne r (o+1) _ (h.other hne o v)
theorem Held.sets:∀ (vs pre post:List Value) (W:World),Held W g (pre++post) t→post.length=vs.length→Held (W.setCells g pre.length vs) g (pre++vs) t
 | [],pre,post,W,h,hl=>by
   obtain rfl:=List.eq_nil_of_length_eq_zero (by simpa using hl);exact h
 | v::r,pre,[],W,h,hl=>by cases hl
 | v::r,pre,u::post,W,h,hl=>by
   have h1:=h.set pre.length v;rw [show (pre++u::post).set pre.length v=pre++[v]++post by simp] at h1;have h2:=Held.sets r (pre++[v]) post _ h1 (by simpa using hl);rw [List.length_append,List.append_assoc] at h2;exact h2
theorem Held.whole (h:Held W g cs t) (vs:List Value) (hl:cs.length=vs.length):Held (W.setCells g 0 vs) g vs t:=by
 have:=Held.sets vs [] cs W h hl
 simpa using this
theorem Held.range (h:Held W g cs t):W.rangeAt g 0 cs:=fun j v hj=>by rw [Nat.zero_add];exact h.cell hj
theorem Held.there (h:Held W g cs t):W.there g 0 cs.length:=fun j hj=>by
 rw [Nat.zero_add,h.cell (List.getElem?_eq_getElem hj)];exact ⟨rfl,h.frozen j⟩
theorem setCells_size (g:Nat):∀ (vs:List Value) (o:Nat) (W:World),(W.setCells g o vs).heap.size=W.heap.size
 | [],_,_=>rfl
 | v::r,o,W=>by
   rw [World.setCells,setCells_size g r]
   simp [World.setCell]
theorem below_setCells {B:Nat} (g:Nat) (hg:B≤g):∀ (vs:List Value) (o:Nat) (w W:World),Below B w W→Below B w (W.setCells g o vs)
 | [],_,_,_,h=>h
 | v::r,o,w,W,h=>below_setCells g hg r (o+1) w _ (h.setCell (p:=⟨g,o,none⟩) hg v)
end
structure aX (w W:World) (L:List (List Value × TypeId)):Prop where
 at_:∀ i e,L[i]? =some e→Held W (w.heap.size+i) e.1 e.2
 bw:Below w.heap.size w W
section
variable {w W W':World} {L:List (List Value × TypeId)}
theorem aX.get (h:aX w W L) (i:Nat) {cs:List Value} {t:TypeId} (he:L[i]? =some (cs,t)):Held W (w.heap.size+i) cs t:=h.at_ i _ he
theorem aX.ah (h:aX w W L) {cs:List Value} {t:TypeId} (he:L[0]? =some (cs,t)):Held W w.heap.size cs t:=h.at_ 0 _ he
theorem aX.nil (w:World):aX w w []:=⟨fun i e h=>by simp at h,Below.refl _ _⟩
theorem aX.new (h:aX w W L) (hs:W.heap.size=w.heap.size+L.length) (cs:List Value) (t:TypeId):aX w (W.alloc (.cells cs.toArray t)) (L++[(cs,t)]):=
 ⟨fun i e he=>by
  rcases Nat.lt_or_ge i L.length with hi | hi
  · rw [List.getElem?_append_left hi] at he
    exact (h.at_ i e he).alloc _
  · rw [List.getElem?_append_right hi] at he
    match hn:i - L.length,he with
    | 0,he=>
      simp at he
      subst he;exact Held.newAt _ _ _ (by omega)
    | k+1,he=>simp at he,h.bw.alloc (by omega) _⟩
theorem aX.lt (h:aX w W L) {i:Nat} (hi:i<L.length):w.heap.size+i<W.heap.size:=(h.at_ i _ (List.getElem?_eq_getElem hi)).lt
theorem aX.set (h:aX w W L) (i:Nat) {cs:List Value} {t:TypeId} (he:L[i]? =some (cs,t)) (o:Nat) (v:Value):aX w (W.setCell ⟨w.heap.size+i,o,none⟩ v) (L.set i (cs.set o v,t)):=
 ⟨fun j e hj=>by
  by_cases hij:i=j
  · subst hij
    rw [List.getElem?_set_self (List.getElem?_eq_some_iff.1 he).1] at hj
    injection hj with hj
    subst hj;exact (h.get i he).set o v
  · rw [List.getElem?_set_ne hij] at hj
    exact (h.at_ j e hj).other (by omega) o v,h.bw.setCell (p:=⟨w.heap.size+i,o,none⟩) (by show w.heap.size≤w.heap.size+i;omega) v⟩
theorem aX.put (h:aX w W L) (i:Nat) {cs:List Value} {t:TypeId} (he:L[i]? =some (cs,t)) (vs:List Value) (hl:cs.length=vs.length):aX w (W.setCells (w.heap.size+i) 0 vs) (L.set i (vs,t)):=
 ⟨fun j e hj=>by
  by_cases hij:i=j
  · subst hij
    rw [List.getElem?_set_self (List.getElem?_eq_some_iff.1 he).1] at hj
    injection hj with hj
    subst hj;exact (h.get i he).whole vs hl
  · rw [List.getElem?_set_ne hij] at hj
    exact Held.others (by omega) _ _ _ (h.at_ j e hj),below_setCells _ (by omega) _ _ _ _ h.bw⟩
theorem aX.far (h:aX w W L) {g:Nat} (hg:w.heap.size+L.length≤g) (o:Nat) (v:Value):aX w (W.setCell ⟨g,o,none⟩ v) L:=
 ⟨fun j e hj=>(h.at_ j e hj).other (by have:=(List.getElem?_eq_some_iff.1 hj).1;omega) o v,h.bw.setCell (p:=⟨g,o,none⟩) (by show w.heap.size≤g;omega) v⟩
theorem aX.Ig (h:aX w W L) {g:Nat} (hg:w.heap.size+L.length≤g) (vs:List Value) (o:Nat):aX w (W.setCells g o vs) L:=
 ⟨fun j e hj=>Held.others (by have:=(List.getElem?_eq_some_iff.1 hj).1;omega) _ _ _ (h.at_ j e hj),below_setCells _ (by omega) _ _ _ _ h.bw⟩
theorem aX.upto {D:Nat} (h:aX w W L) (hb:Below D W W') (hD:w.heap.size+L.length≤D):aX w W' L:=
 ⟨fun j e hj=>(h.at_ j e hj).upto hb (by have:=(List.getElem?_eq_some_iff.1 hj).1;omega),h.bw.trans (hb.mono (by omega))⟩
theorem aX.size (h:aX w W L) (hL:0<L.length):w.heap.size+L.length≤W.heap.size:=by have:=h.lt (i:=L.length - 1) (by omega);omega
theorem aX.call (h:aX w W L) (hL:0<L.length) (hb:Below W.heap.size W W'):aX w W' L:=h.upto hb (h.size hL)
theorem aX.drew (h:aX w W L):aX w W.drew L:=⟨h.at_,h.bw.drew⟩
theorem aX.drewN (h:aX w W L) (n:Nat):aX w (W.drewN n) L:=⟨h.at_,below_drewN h.bw n⟩
theorem aX.alloc (h:aX w W L) (hL:0<L.length) (o:Obj):aX w (W.alloc o) L:=h.call hL ((Below.refl _ _).alloc (Nat.le_refl _) o)
end
section
variable {ops:Array Oper} {rest:List Oper} {op:Oper} {a:Act} {W:World} {Q:Exit→Act→World→Prop} {g n:Nat} {cs:List Value} {t:TypeId} {d:TypeDesc}
theorem EG (h:Held W g cs t) (hu:Tryz.prog.underlying t=some d) (hd:d.isRow=true) (hi:(Tryz.prog.info? t).map (·.size)=some cs.length) (hgd:op.guard=none) (x:Operand) (ho:op.op= .load t x) (hx:a.eval x= .pointer (some ⟨g,0,none⟩))
 (k:wpList Tryz.prog ops Q rest (a.put op.dst (.agg cs.toArray)) W):wpList Tryz.prog ops Q (op::rest) a W:=
 wpList_load_mid hgd t x ho g 0 hx cs d h.range hu hd hi k
theorem gU {cs vs:List Value} {n:Nat} (h:cs.length=n) (h':vs.length=cs.length):vs.toArray.size=n:=by simp [h,h']
theorem CP (h:Held W g cs t) (vs:List Value) (hl:vs.length=cs.length) (hi:(Tryz.prog.info? t).map (·.size)=some cs.length) (h1:∀ v∈vs,v.oneCell'=true) (hgd:op.guard=none) (x y:Operand) (ho:op.op= .store t x y)
 (hx:a.eval x= .pointer (some ⟨g,0,none⟩)) (hy:a.eval y= .agg vs.toArray)
 (k:wpList Tryz.prog ops Q rest (a.put op.dst undef) (W.setCells g 0 vs)):wpList Tryz.prog ops Q (op::rest) a W:=
 wpList_store_mid hgd t x y ho g 0 vs.toArray hx hy (by rw [gU rfl hl];exact h.there) (by rw [gU rfl hl];exact hi) (all_oneCell_toArray h1) (by rw [List.toList_toArray];exact k)
def sO (P:Program) (ops:Array Oper) (Q:Exit→Act→World→Prop) (op:Oper) (rest:List Oper) (a:Act) (W:World):Prop:=wpList P ops Q (op::rest) a W
theorem aB (t:TypeId) (x:Operand) (_:op.op= .load t x) (h:sO Tryz.prog ops Q op rest a W):wpList Tryz.prog ops Q (op::rest) a W:=h
theorem aO (t:TypeId) (x y:Operand) (_:op.op= .store t x y) (h:sO Tryz.prog ops Q op rest a W):wpList Tryz.prog ops Q (op::rest) a W:=h
theorem ak (h:Held W g cs t) (hu:Tryz.prog.underlying t=some d) (hd:d.isRow=true) (hi:(Tryz.prog.info? t).map (·.size)=some cs.length) (hgd:op.guard=none) (x:Operand) (ho:op.op= .load t x) (hx:a.eval x= .pointer (some ⟨g,0,none⟩))
 (k:wpList Tryz.prog ops Q rest (a.put op.dst (.agg cs.toArray)) W):sO Tryz.prog ops Q op rest a W:=EG h hu hd hi hgd x ho hx k
theorem aF (h:Held W g cs t) (vs:List Value) (hl:vs.length=cs.length) (hi:(Tryz.prog.info? t).map (·.size)=some cs.length) (h1:∀ v∈vs,v.oneCell'=true) (hgd:op.guard=none) (x y:Operand) (ho:op.op= .store t x y)
 (hx:a.eval x= .pointer (some ⟨g,0,none⟩)) (hy:a.eval y= .agg vs.toArray)
 (k:wpList Tryz.prog ops Q rest (a.put op.dst undef) (W.setCells g 0 vs)):sO Tryz.prog ops Q op rest a W:=CP h vs hl hi h1 hgd x y ho hx hy k
theorem iE (h:Held W g cs t) (hu:Tryz.prog.underlying t=some d) (hd:d.isRow=true) (hi:(Tryz.prog.info? t).map (·.size)=some cs.length) (hw:Region.wanted op (yielded ops a.tmps)=true) (x:Operand) (ho:op.op= .load t x) (hx:a.eval x= .pointer (some ⟨g,0,none⟩))
 (k:wpList Tryz.prog ops Q rest (a.put op.dst (.agg cs.toArray)) W):sO Tryz.prog ops Q op rest a W:=
 BigFrame.wpList_want hw fun _ hK=>wp_load_mid t x ho g 0 hx cs d h.range hu hd hi (hK _ _ k)
def LH (P:Program) (Q:Exit→Act→World→Prop) (op:Oper) (K:Act→World→Prop) (a:Act) (W:World):Prop:=op.wp P a W K Q
theorem iR {K:Act→World→Prop} (t:TypeId) (x:Operand) (_:op.op= .load t x) (h:LH Tryz.prog Q op K a W):op.wp Tryz.prog a W K Q:=h
theorem iF {K:Act→World→Prop} (h:Held W g cs t) (hu:Tryz.prog.underlying t=some d) (hd:d.isRow=true) (hi:(Tryz.prog.info? t).map (·.size)=some cs.length) (x:Operand) (ho:op.op= .load t x) (hx:a.eval x= .pointer (some ⟨g,0,none⟩))
 (k:K (a.put op.dst (.agg cs.toArray)) W):LH Tryz.prog Q op K a W:=wp_load_mid t x ho g 0 hx cs d h.range hu hd hi k
theorem bf {fn:Func} {p:Tmp} (h:Held W g cs t) (hu:Tryz.prog.underlying t=some d) (hd:d.isRow=true) (hi:(Tryz.prog.info? t).map (·.size)=some cs.length) (hr:fn.results= #[.cell p t]) (tmps:Array Value) (hp:tmps.getD p undef= .pointer (some ⟨g,0,none⟩)):
 (results fn tmps).run Tryz.prog W= .ok (.agg cs.toArray) W:=
 results_cell_row hr tmps W g t cs.toArray (0,0) d hp h hu (by cases d <;> first | rfl | cases hd) (by rw [gU rfl rfl];exact hi)
end
structure iG (D:Nat) (W W':World):Prop where
 sz:W.heap.size≤W'.heap.size
 block:∀ b,D≤b→b<W.heap.size→W'.heap[b]? =W.heap[b]?
section
variable {D:Nat} {W W' W2:World} {S:Nat→Prop} {size n c:Nat} {A:Option Addr} {xs:List Value}
theorem iG.refl (D:Nat) (W:World):iG D W W:=⟨Nat.le_refl _,fun _ _ _=>rfl⟩
theorem iG.trans (h:iG D W W') (k:iG D W' W2):iG D W W2:=⟨Nat.le_trans h.sz k.sz,fun b hb hl=>(k.block b hb (Nat.lt_of_lt_of_le hl h.sz)).trans (h.block b hb hl)⟩
theorem iG.setCell (h:iG D W W') {g:Nat} (hg:g<D) (o:Nat) (v:Value):iG D W (W'.setCell ⟨g,o,none⟩ v):=
 h.trans ⟨by simp [World.setCell],fun b hb _=>Below.heap_setCell _ _ _ b (by show b≠g;omega)⟩
theorem iG.setCells {g:Nat} (hg:g<D):∀ (vs:List Value) (o:Nat) (W':World),iG D W W'→iG D W (W'.setCells g o vs)
 | [],_,_,h=>h
 | v::r,o,W',h=>iG.setCells hg r (o+1) _ (h.setCell hg o v)
theorem iG.call (h:iG D W W') (hb:Below W'.heap.size W' W2):iG D W W2:=h.trans ⟨hb.size,fun b _ hl=>hb.block b hl⟩
theorem iG.drew (h:iG D W W'):iG D W W'.drew:=⟨h.sz,h.block⟩
theorem Reads.above (h:Reads W S size A n c xs) (hS:∀ b,S b→D≤b) (ha:iG D W W'):Reads W' S size A n c xs:=
 h.keep ha.sz fun b o hb hl=>World.cell?_of_block (ha.block b (hS b hb) hl)
theorem bQ.above {zs:List Int} (h:bQ W S A c zs) (hS:∀ b,S b→D≤b) (ha:iG D W W'):bQ W' S A c zs:=Reads.above h hS ha
end
def aY:List Value:=[.string ⟨#[]⟩,.int .i64 0,.int .i64 0,.int .i64 0,.bool false,.bool false,.bool false,.bool false,.int .i64 0,.slice none 0 0,.int .i64 0,.int .i64 0,.int .i64 0,.int .i64 0,.int .i64 0,.int .i64 0,.bool false,.int .i64 0]
theorem bM (r:M.Rules) (s:M.State) (A:Option Addr) (c:Nat):∀ v∈aj r s A c,v.oneCell'=true:=by simp [aj,Value.oneCell']
theorem ay:(Tryz.prog.info? 99).map (·.size)=some 18:=by kernel_rfl
theorem bG:(Tryz.prog.info? 27).map (·.size)=some 7:=by kernel_rfl
theorem bg:(Tryz.prog.info? 53).map (·.size)=some 15:=by kernel_rfl
theorem dn (k:ByteArray) (l:List UInt8):(k.toList == l)=decide (k=⟨l.toArray⟩):=by
 rw [Bool.eq_iff_iff,beq_iff_eq,decide_eq_true_eq];exact ⟨fun e=>kU (by rw [e,ByteArray.toList_eq]),fun e=>by subst e;rw [ByteArray.toList_eq]⟩
theorem iU (r:M.Rules) (s:M.State) (A:Option Addr) (c:Nat) (w:World) (h0:0≤s.turn) (h1:s.turn≤1):
 Calls Tryz.prog 103 #[dX r s A c] w fun e w'=>e= .returned (dX r {s with turn:=1 - s.turn,run:=0 } A c)∧Below w.heap.size w w':=by
 go_enter Tryz.func103,Tryz.ntmps103
 go_upto_region 2 with (fail)
 go_cut [] (fun wx=>aX w wx [(aj r ({s with turn:=1 - s.turn,run:=0 }) A c,99),(aY,99)])
 case first=>
  go_wp2;go_meet;exact (((aX.nil w).new (by simp) (aj r ({s with turn:=1 - s.turn,run:=0 }) A c) _).new (by simp) (aY) _)
 case rest=>
  have hB:=hcut
  go_wp2_with (first | (refine aB 99 (.tmp 1) rfl ?_;refine ak (hB.get 0 rfl) Tryz.underlying99 rfl ay rfl (.tmp 1) rfl rfl ?_) | (refine aO 99 (.tmp 2) (.tmp 11) rfl ?_;refine aF (hB.get 1 rfl) (aj r ({s with turn:=1 - s.turn,run:=0 }) A c) rfl ay (bM _ _ _ _) rfl (.tmp 2) (.tmp 11) rfl rfl rfl ?_))
  have hZ:=hB.put 1 rfl (aj r ({s with turn:=1 - s.turn,run:=0 }) A c) rfl;exact bodyPost_ret (bf (p:=2) (hZ.get 1 rfl) Tryz.underlying99 rfl ay rfl _ rfl) rfl ⟨rfl,hZ.bw⟩
theorem tV (r:M.Rules) (s:M.State) (A:Option Addr) (c:Nat) (w:World) (h0:0≤s.bI) (h1:s.bI≤1000000):
 Calls Tryz.prog 158 #[dX r s A c] w fun e w'=>∃ A' c',e= .returned (dX r {s with au:=M.jr r,bI:=s.bI+1 } A' c')∧bQ w' (fun b=>w.heap.size≤b) A' c' (M.jr r)∧Below w.heap.size w w':=by
 go_enter Tryz.func158,Tryz.ntmps158
 go_upto_region 0 with (fail)
 go_cut [1,2] (fun v1 v2 wx=>v1=ptr w.heap.size∧v2=ptr (w.heap.size+1)∧aX w wx [(aj r (s) A c,99),(aY,99)])
 case first=>
  go_wp2;go_meet;exact ⟨rfl,rfl,(((aX.nil w).new (by simp) (aj r (s) A c) _).new (by simp) (aY) _)⟩
 case rest=>
  obtain ⟨rfl,rfl,hB⟩:=hcut;have hF:=hB.ah rfl;have k0:=hF.cell (j:=0) rfl;have EK:=hF.frozen 0;have k1:=hF.cell (j:=1) rfl;have Lm:=hF.frozen 1;have k2:=hF.cell (j:=2) rfl;have Um:=hF.frozen 2;have k9:=hF.cell (j:=9) rfl;have kf9:=hF.frozen 9;have k15:=hF.cell (j:=15) rfl;have aFw:=hF.frozen 15
  go_wp2_with (first | (go_at_call 68;refine (Dw r _).mono ?_;rintro e w1 ⟨A1,c1,rfl,hr1,hb1⟩;have hB1:=hB.call (by simp) hb1;have hF1:=hB1.ah rfl;have q15:=hF1.cell (j:=15) rfl;have aGj:=hF1.frozen 15;have q9:=hF1.cell (j:=9) rfl;have qf9:=hF1.frozen 9;have hB2:aX w ((w1.setCell ⟨w.heap.size,9,none⟩ (.slice A1 (M.jr r).length c1)).setCell ⟨w.heap.size,15,none⟩ (.int .i64 (s.bI+1))) [(aj r ({s with au:=M.jr r,bI:=s.bI+1 }) A1 c1,99),(aY,99)]:=((hB1.set 0 rfl 9 _).set 0 rfl 15 _)) | (refine aB 99 (.tmp 1) rfl ?_;refine ak (hB2.ah rfl) Tryz.underlying99 rfl ay rfl (.tmp 1) rfl rfl ?_) | (refine aO 99 (.tmp 2) (.tmp 14) rfl ?_;refine aF (hB2.get 1 rfl) (aj r ({s with au:=M.jr r,bI:=s.bI+1 }) A1 c1) rfl ay (bM _ _ _ _) rfl (.tmp 2) (.tmp 14) rfl rfl rfl ?_))
  have hZ:=hB2.put 1 rfl (aj r ({s with au:=M.jr r,bI:=s.bI+1 }) A1 c1) rfl;refine bodyPost_ret (bf (p:=2) (hZ.get 1 rfl) Tryz.underlying99 rfl ay rfl _ rfl) rfl ⟨A1,c1,rfl,?_,hZ.bw⟩;have hsz:=hB.size (by simp)
  simp only [List.length_cons,List.length_nil] at hsz
  exact (hr1.above (D:=w.heap.size+2) (fun b h=>Nat.le_trans hsz h) (iG.setCells (by omega) _ _ _ (((iG.refl _ _).setCell (by omega) _ _).setCell (by omega) _ _))).more (fun b _ h=>by omega)
theorem IE (S:Nat→Prop) (A:Option Addr) (c:Nat) (l:List M.kL) (x:M.kL) (w:World) (h:fP w S A c l):
 Calls Tryz.prog 238 #[.slice A l.length c,.agg #[.int .i64 x.aT,.int .i64 x.aP]] w fun e w'=>(∃ i:Int,e= .returned (.int .i64 i)∧decide (0≤i)=decide (x∈l))∧Below w.heap.size w w':=by
 obtain ⟨b1,b2,b3⟩:=h.bd;rw [BP];obtain ⟨xb,xp⟩:=x
 go_enter Tryz.func238,Tryz.ntmps238
 go_wp2
 go_loopw [8] (fun i wr=>∃ k:Nat,k≤l.length∧i= .int .i64 k∧Aside ((l.take k).any (fun y=>decide (y=⟨xb,xp⟩))=false)∧Keeps w (w.alloc (.cells #[.int .i64 xb,.int .i64 xp] 71)) 1 wr) (fun i _=>l.length - (intOf i).toNat)
 case atStart=>exact ⟨0,Nat.zero_le _,rfl,by simp [Aside],Keeps.Nr w _⟩
 case round=>
  obtain ⟨k,hk,rfl,hall,KR⟩:=hrel;have hq0:wr.cell? ⟨w.heap.size,0,none⟩=some (.int .i64 xb):=(KR.cell _ _ (by omega)).trans ((Held.new w [.int .i64 xb,.int .i64 xp] _).cell (j:=0) rfl);have hq1:wr.cell? ⟨w.heap.size,1,none⟩=some (.int .i64 xp):=(KR.cell _ _ (by omega)).trans ((Held.new w [.int .i64 xb,.int .i64 xp] _).cell (j:=1) rfl)
  by_cases hlt:k<l.length
  · obtain ⟨b,o,rfl,_,hbl,hc⟩:=(fP.below h KR.bw).at_ k hlt
    obtain ⟨hck1,sZ⟩:=hc k hlt;clear hc
    by_cases he:l[k]=⟨xb,xp⟩
    · have HP:=hide (lg (p:=fun y=>decide (y=(⟨xb,xp⟩:M.kL))) hlt (by simp [he]))
      have he1:(xb == l[k].aT)=true:=by simp [he]
      have he2:(xp == l[k].aP)=true:=by simp [he]
      clear he;go_wp2
      go_quiet (fail)
      go_wp2;go_ret;exact ⟨⟨k,rfl,by rw [HP.out];simp⟩,below_drewN KR.bw _⟩
    · have HP:=hide (kN (p:=fun y=>decide (y=(⟨xb,xp⟩:M.kL))) hlt hall.out (by simp [he]))
      have he':((xb == l[k].aT) && (xp == l[k].aP))=false:=by
       rw [Bool.eq_false_iff];intro hb;simp at hb;exact he (by rw [hb.1,hb.2])
      rcases hb1:(xb == l[k].aT) with _ | _ <;> rcases hb2:(xp == l[k].aP) with _ | _ <;> rw [hb1,hb2] at he'
      all_goals first | (cases he';done) | skip
      all_goals
       clear he';have HE:=hide he;clear he;go_wp2
       go_quiet (fail)
       go_wp2
       go_roundw
       case rel=>exact ⟨k+1,by omega,by go_num,HP.out,KR.drewN _⟩
       case measure=>simp [intOf];omega
  · have HA:=hide (show l.any (fun y=>decide (y=(⟨xb,xp⟩:M.kL)))=false by have:=hall.out;rwa [List.take_of_length_le (by omega)] at this)
    go_wp2;go_ret;exact ⟨⟨-1,rfl,by rw [HA.out];rfl⟩,KR.bw⟩
theorem P7 (S:Nat→Prop) (A:Option Addr) (c:Nat) (l:List M.kL) (x:M.kL) (w:World) (h:fP w S A c l):
 Calls Tryz.prog 197 #[.slice A l.length c,.agg #[.int .i64 x.aT,.int .i64 x.aP]] w fun e w'=>e= .returned (.bool (decide (x∈l)))∧Below w.heap.size w w':=by
 have hx:=fun W hw=>IE S A c l x W hw;obtain ⟨xb,xp⟩:=x;have K0:Keeps w (w.alloc (.cells #[.int .i64 xb,.int .i64 xp] 71)) 1 (w.alloc (.cells #[.int .i64 xb,.int .i64 xp] 71)):=Keeps.Nr w _
 go_enter Tryz.func197,Tryz.ntmps197
 go_wp2_with (go_at_call 238;refine (hx _ (h.below K0.bw)).mono ?_;rintro e w2 ⟨⟨i,rfl,hi⟩,hb2⟩)
 go_ret;exact ⟨rfl,(K0.call hb2).bw⟩
def spot (g k:ByteArray) (aT:Int) (good:Bool):Bool:=if g=M.bF then decide (aT=8∧k=M.dS) else if g=M.dA then decide (aT=9∧good=false) else !good
theorem KD (r:M.Rules) (s:M.State) (x:M.aV) (A P:Option Addr) (c d:Nat) (aT:Int) (gd:Bool) (w:World):
 Calls Tryz.prog 198 #[dX r s A c,iy x P d,.int .i64 aT,.bool gd] w fun e w'=>e= .returned (.bool (spot r.game x.kind aT gd))∧Below w.heap.size w w':=by
 obtain ⟨g,tg,fo⟩:=r;obtain ⟨a0,a1,a2,a3,a4,gr,bl,b0,b1,b2,b3,b4,b5,b6,b7⟩:=s;obtain ⟨pl,kd,ba,po,fi,cu,aC⟩:=x
 simp only
 have e1:(g.toList == [101,105,103,104,116])=decide (g=M.bF):=dn g [101,105,103,104,116];have e2:(g.toList == [110,105,110,101])=decide (g=M.dA):=dn g [110,105,110,101];have e3:(kd.toList == [98,114,101,97,107])=decide (kd=M.dS):=dn kd [98,114,101,97,107]
 have hs:spot g kd aT gd=if (g.toList == [101,105,103,104,116])=true then ((aT == 8) && (kd.toList == [98,114,101,97,107])) else if (g.toList == [110,105,110,101])=true then ((aT == 9) && !gd) else !gd:=by
  rw [e1,e2,e3]
  unfold spot
  by_cases h1:g=M.bF
  · simp [h1,qC]
  · by_cases h2:g=M.dA
    · simp [h2,qC]
    · simp [h1,h2]
 rw [hs];clear hs e1 e2 e3
 rcases Bool.eq_false_or_eq_true (g.toList == [101,105,103,104,116]) with y1 | y1
 · rcases Bool.eq_false_or_eq_true (aT == 8) with y2 | y2
   all_goals
    rw [y1,y2]
    go_enter Tryz.func198,Tryz.ntmps198
    go_wp2;go_ret;exact ⟨rfl,((Below.refl _ _).alloc (Nat.le_refl _) _).alloc (by simp) _⟩
 · rcases Bool.eq_false_or_eq_true (g.toList == [110,105,110,101]) with y3 | y3
   · rcases Bool.eq_false_or_eq_true (aT == 9) with y2 | y2
     all_goals
      rw [y1,y3,y2]
      go_enter Tryz.func198,Tryz.ntmps198
      go_wp2;go_ret;exact ⟨rfl,((Below.refl _ _).alloc (Nat.le_refl _) _).alloc (by simp) _⟩
   · rw [y1,y3]
     go_enter Tryz.func198,Tryz.ntmps198
     go_wp2;go_ret;exact ⟨rfl,((Below.refl _ _).alloc (Nat.le_refl _) _).alloc (by simp) _⟩
theorem Io (S:Nat→Prop) (r:M.Rules) (s:M.State) (x:M.aV) (A P:Option Addr) (c d:Nat) (w:World) (hp:bQ w S A c s.au) (hpp:fP w S P d x.aC) (hx:vW x) (hpos:∀ p∈x.aC,0≤p.aT) (hr:M.aQ r=0) (hg:0≤s.group∧s.group≤2):
 Calls Tryz.prog 154 #[dX r s A c,iy x P d] w fun e w'=>e= .returned (.bool (M.good r s x))∧Below w.heap.size w w':=by
 have hF:=fun W h h'=>xC S r s x A P c d W h h' hx hpos hr hg;have hgs:=M.yU r s x
 generalize M.iw r s x=fl at hF hgs
 generalize M.good r s x=gd at hgs ⊢
 have HF:=hide hF;have HG:=hide hgs;clear hF hgs
 go_enter Tryz.func154,Tryz.ntmps154
 go_upto_region 0 with (fail)
 go_cut [2,3] (fun v2 v3 wx=>v2=ptr w.heap.size∧v3=ptr (w.heap.size+1)∧aX w wx [(aj r (s) A c,99),(aA ⟨x,P,d⟩,27)])
 case first=>
  go_wp2;go_meet;exact ⟨rfl,rfl,(((aX.nil w).new (by simp) (aj r (s) A c) _).new (by simp) (aA ⟨x,P,d⟩) _)⟩
 case rest=>
  obtain ⟨rfl,rfl,hB⟩:=hcut
  go_upto_region 1 with (fail)
  go_cut [5] (fun v wx=>v= .bool (decide (fl=0∧0<(M.objects x).length))∧aX w wx [(aj r (s) A c,99),(aA ⟨x,P,d⟩,27)])
  case first=>
   rcases Bool.eq_false_or_eq_true (fl == 0) with z1 | z1
   · by_cases z2:0<(M.objects x).length
     all_goals
      go_wp2_with (first | (refine aB 99 (.tmp 2) rfl ?_;refine ak (hB.ah rfl) Tryz.underlying99 rfl ay rfl (.tmp 2) rfl rfl ?_) | (refine aB 27 (.tmp 3) rfl ?_;refine ak (hB1.get 1 rfl) Tryz.underlying27 rfl bG rfl (.tmp 3) rfl rfl ?_) | (refine aB 27 (.tmp 3) rfl ?_;refine iE (hB1.get 1 rfl) Tryz.underlying27 rfl bG rfl (.tmp 3) rfl rfl ?_) | (refine iR 27 (.tmp 3) rfl ?_;refine iF (hB1.get 1 rfl) Tryz.underlying27 rfl bG (.tmp 3) rfl rfl ?_) | (refine aB 27 (.tmp 3) rfl ?_;refine ak (hB.get 1 rfl) Tryz.underlying27 rfl bG rfl (.tmp 3) rfl rfl ?_) | (go_at_call 39;refine (HF.out _ (hp.below hB.bw) (hpp.below hB.bw)).mono ?_;rintro e w1 ⟨rfl,hb1⟩;have hB1:=hB.call (by simp) hb1) | (go_at_call 81;refine (jW S x P d _ (hpp.below hB1.bw) hpos).mono ?_;rintro e w2 ⟨A1,c1,rfl,hr1,hb2⟩;have hB2:=hB1.call (by simp) hb2))
      go_meet;exact ⟨by simp only [beq_iff_eq] at z1;simp [z1,z2],hB2⟩
   · go_wp2_with (first | (refine aB 99 (.tmp 2) rfl ?_;refine ak (hB.ah rfl) Tryz.underlying99 rfl ay rfl (.tmp 2) rfl rfl ?_) | (refine aB 27 (.tmp 3) rfl ?_;refine ak (hB.get 1 rfl) Tryz.underlying27 rfl bG rfl (.tmp 3) rfl rfl ?_) | (go_at_call 39;refine (HF.out _ (hp.below hB.bw) (hpp.below hB.bw)).mono ?_;rintro e w1 ⟨rfl,hb1⟩;have hB1:=hB.call (by simp) hb1))
     go_meet;exact ⟨by rw [beq_eq_false_iff_ne] at z1;simp [z1],hB1⟩
  case rest=>
   obtain ⟨rfl,hC⟩:=hcut;clear hB;obtain ⟨so,hso⟩:∃ b,(decide (fl=0∧0<(M.objects x).length))=b:=⟨_,rfl⟩;rw [hso];have HS:=hide hso;clear hso;have Hr:=hC.ah rfl;have Aw:=hC.get 1 rfl;have k0:=Hr.cell (j:=0) rfl;have EK:=Hr.frozen 0;have x1:=Aw.cell (j:=1) rfl;have xf1:=Aw.frozen 1;have x2:=Aw.cell (j:=2) rfl;have xf2:=Aw.frozen 2;have x3:=Aw.cell (j:=3) rfl;have xf3:=Aw.frozen 3;have x6:=Aw.cell (j:=6) rfl;have xf6:=Aw.frozen 6
   have hgd:∀ (b1 b2 b3 b4:Bool),b1=(x.kind.toList == [98,114,101,97,107])→b2=(x.kind.toList == [112,108,97,121])→b3=(r.game.toList == [115,116,114,97,105,103,104,116])→b4=(r.game.toList == [110,105,110,101])→
    gd=if b1 then (so && !b3) else if !b2 then false else if b4 then so else (so && decide ((⟨x.aT,x.aP⟩:M.kL)∈x.aC)):=by
    have g1:=HG.out;have g2:=HS.out
    rintro b1 b2 b3 b4 rfl rfl rfl rfl
    rw [dn x.kind [98,114,101,97,107],dn x.kind [112,108,97,121],dn r.game [115,116,114,97,105,103,104,116],dn r.game [110,105,110,101],g1, ← g2]
    by_cases h1:x.kind=M.dS
    · simp [h1,Bool.decide_and,Bool.and_assoc]
    · by_cases h2:x.kind=M.oq
      · by_cases h4:r.game=M.dA <;> simp [h2,h4,M.Az,Bool.decide_and,Bool.and_assoc]
      · simp [h1,h2]
   have Sv:=hide hgd;clear hgd
   rcases hb1:(x.kind.toList == [98,114,101,97,107]) with _ | _
   · rcases hb2:(x.kind.toList == [112,108,97,121]) with _ | _
     · have hn:(x.kind.toList != [112,108,97,121])=true:=by simp [bne,hb2]
       go_wp2;go_ret;exact ⟨dD (by rw [Sv.out _ _ _ _ hb1.symm hb2.symm rfl rfl];rfl),hC.bw⟩
     · have hn:(x.kind.toList != [112,108,97,121])=false:=by simp [bne,hb2]
       rcases hb4:(r.game.toList == [110,105,110,101]) with _ | _
       · cases so with
         | true=>
           go_wp2_with (go_at_call 197;refine (P7 S P d x.aC ⟨x.aT,x.aP⟩ _ (hpp.below hC.bw)).mono ?_;rintro e w3 ⟨rfl,hb3⟩;have RG:=hC.call (by simp) hb3)
           go_ret;exact ⟨dD (by rw [Sv.out _ _ _ _ hb1.symm hb2.symm rfl hb4.symm];simp),RG.bw⟩
         | false=>
           go_wp2;go_ret;exact ⟨dD (by rw [Sv.out _ _ _ _ hb1.symm hb2.symm rfl hb4.symm];simp),hC.bw⟩
       · go_wp2
         go_ret;exact ⟨dD (by rw [Sv.out _ _ _ _ hb1.symm hb2.symm rfl hb4.symm];simp),hC.bw⟩
   · rcases hb3:(r.game.toList == [115,116,114,97,105,103,104,116]) with _ | _
     all_goals
      have hn:(r.game.toList != [115,116,114,97,105,103,104,116])= !(r.game.toList == [115,116,114,97,105,103,104,116]):=rfl;rw [hb3] at hn
      cases so
      all_goals
       go_wp2;go_ret;exact ⟨dD (by rw [Sv.out _ _ _ _ hb1.symm rfl hb3.symm rfl];rfl),hC.bw⟩
def jw (r:M.Rules) (x:M.aV) (gd:Bool) (b:Int):Bool:= !(decide (b∈M.objects x)) || spot r.game x.kind b gd
theorem Ij {p:Int→Bool} {l:List Int} {k:Nat} (hk:k<l.length):(l.take (k+1)).filter p=(l.take k).filter p++if p l[k]=true then [l[k]] else []:=by
 rw [List.take_succ_eq_append_getElem hk,List.filter_append]
 cases h:p l[k] <;> simp [h]
theorem EM {r:M.Rules} {s:M.State} {x:M.aV} (hr:M.aQ r=0):M.left r s x=s.au.filter (jw r x (M.good r s x)):=by
 unfold M.left
 congr 1
 funext b
 unfold M.stays jw spot
 rcases M.tX hr with h | h | h
 · have h1:¬ M.aH=M.bF:=by decide
   have h2:¬ M.aH=M.dA:=by decide
   rw [h];simp [h1,h2]
 · have h1:¬ M.bF=M.aH:=by decide
   have h2:¬ M.bF=M.dA:=by decide
   rw [h];simp [h1,h2]
 · have h1:¬ M.dA=M.aH:=by decide
   have h2:¬ M.dA=M.bF:=by decide
   rw [h];simp [h1,h2]
theorem Ja (S:Nat→Prop) (r:M.Rules) (s:M.State) (x:M.aV) (A P:Option Addr) (c d:Nat) (gd:Bool) (w:World) (hp:bQ w S A c s.au) (hpp:fP w S P d x.aC) (hpos:∀ p∈x.aC,0≤p.aT):
 Calls Tryz.prog 155 #[dX r s A c,iy x P d,.bool gd] w fun e w'=>∃ A' c',e= .returned (.slice A' (s.au.filter (jw r x gd)).length c')∧bQ w' (fun b=>w.heap.size≤b) A' c' (s.au.filter (jw r x gd))∧Below w.heap.size w w':=by
 obtain ⟨i0,hi,hz0,hz1,hz2⟩:=info_parts sF;obtain ⟨e1,e2,e3⟩:=hp.bd
 go_enter Tryz.func155,Tryz.ntmps155
 go_upto_region 0 with (fail)
 go_cut [3,4] (fun v2 v3 wx=>v2=ptr w.heap.size∧v3=ptr (w.heap.size+1)∧aX w wx [(aj r (s) A c,99),(aA ⟨x,P,d⟩,27)])
 case first=>
  go_wp2;go_meet;exact ⟨rfl,rfl,(((aX.nil w).new (by simp) (aj r (s) A c) _).new (by simp) (aA ⟨x,P,d⟩) _)⟩
 case rest=>
  obtain ⟨rfl,rfl,hB⟩:=hcut
  go_upto_region 1 with (fail)
  go_cut [7] (fun v wx=>∃ A1 c1,v= .slice A1 (M.objects x).length c1∧bQ wx (fun b=>w.heap.size≤b) A1 c1 (M.objects x)∧aX w wx [(aj r (s) A c,99),(aA ⟨x,P,d⟩,27)])
  case first=>
   go_wp2_with (first | (refine aB 27 (.tmp 4) rfl ?_;refine ak (hB.get 1 rfl) Tryz.underlying27 rfl bG rfl (.tmp 4) rfl rfl ?_) | (go_at_call 81;refine (jW S x P d _ (hpp.below hB.bw) hpos).mono ?_;rintro e w2 ⟨A1,c1,rfl,hr1,hb2⟩;have hB2:=hB.call (by simp) hb2))
   go_meet;exact ⟨A1,c1,rfl,hr1.more (fun b _ h=>Nat.le_trans hB.bw.size h),hB2⟩
  case rest=>
   obtain ⟨A1,c1,rfl,hr1,hC⟩:=hcut
   rename World=>W0
   clear hB;have Hr:=hC.ah rfl;have k9:=Hr.cell (j:=9) rfl;have qB:=hC.size (by simp)
   simp only [List.length_cons,List.length_nil] at qB
   go_wp2
   go_loopw [8,17] (fun v i wr=>∃ k:Nat,k≤s.au.length∧i= .int .i64 k∧(∃ A c,v= .slice A ((s.au.take k).filter (jw r x gd)).length c)∧wr.ownsRow W0.heap.size 3 1 v ((s.au.take k).filter (jw r x gd)).length (((s.au.take k).filter (jw r x gd)).map (Value.int .i64))∧Aside (Below W0.heap.size W0 wr))
    (fun _ i _=>s.au.length - (intOf i).toNat)
   case atStart=>exact ⟨0,Nat.zero_le _,rfl,⟨_,_,rfl⟩,World.ownsRow_nil _ _ _ _,Below.refl _ _⟩
   case round=>
    obtain ⟨k,hk,rfl,⟨A2,c2,rfl⟩,hown,hbR⟩:=hrel;have hR:=hC.call (by simp) hbR.out;have hgR:=hr1.below hbR.out
    by_cases hlt:k<s.au.length
    · obtain ⟨b,o,rfl,_,hbl,hc⟩:=(hp.below hR.bw).at_ k hlt
      have hck:=hc k hlt;clear hc;have hs:=Ij (p:=(jw r x gd)) hlt;have hle:=List.length_filter_le (jw r x gd) (s.au.take k);rw [List.length_take] at hle;have HS:=hide hs;clear hs
      go_upto_region 6 with (fail)
      go_cut [31] from 21 to 31 (fun v wx=>v= .bool ((jw r x gd) s.au[k])∧wx.ownsRow W0.heap.size 3 1 (.slice A2 ((s.au.take k).filter (jw r x gd)).length c2) ((s.au.take k).filter (jw r x gd)).length (((s.au.take k).filter (jw r x gd)).map (Value.int .i64))∧Below wr.heap.size wr wx)
      case first=>
       rcases hm:decide (s.au[k]∈M.objects x) with _ | _
       · go_wp2_with (go_at_call 78;refine (iQ _ A1 c1 (M.objects x) _ _ hgR).mono ?_;rintro e eY ⟨rfl,rfl⟩)
         go_meet;exact ⟨by unfold jw;rw [hm];rfl,hown,Below.refl _ _⟩
       · go_wp2_with (first | (refine aB 99 (.tmp 3) rfl ?_;refine ak (hR.ah rfl) Tryz.underlying99 rfl ay rfl (.tmp 3) rfl rfl ?_) | (refine aB 99 (.tmp 3) rfl ?_;refine iE (hR.ah rfl) Tryz.underlying99 rfl ay rfl (.tmp 3) rfl rfl ?_) | (refine iR 99 (.tmp 3) rfl ?_;refine iF (hR.ah rfl) Tryz.underlying99 rfl ay (.tmp 3) rfl rfl ?_) | (refine aB 27 (.tmp 4) rfl ?_;refine ak (hR.get 1 rfl) Tryz.underlying27 rfl bG rfl (.tmp 4) rfl rfl ?_) | (refine aB 27 (.tmp 4) rfl ?_;refine iE (hR.get 1 rfl) Tryz.underlying27 rfl bG rfl (.tmp 4) rfl rfl ?_) | (refine iR 27 (.tmp 4) rfl ?_;refine iF (hR.get 1 rfl) Tryz.underlying27 rfl bG (.tmp 4) rfl rfl ?_) | (go_at_call 78;refine (iQ _ A1 c1 (M.objects x) _ _ hgR).mono ?_;rintro e eY ⟨rfl,rfl⟩) | (go_at_call 198;refine (KD r s x _ P _ d _ gd _).mono ?_;rintro e w3 ⟨rfl,hb3⟩))
         go_meet;exact ⟨by unfold jw;rw [hm];rfl,xX hown hb3,hb3⟩
      case rest=>
       obtain ⟨rfl,um,hbZ⟩:=hcut;have xG:=hbR.out.trans (hbZ.mono hbR.out.size);have hsz1:=xG.size;clear hown
       cases hy:(jw r x gd) s.au[k] with
       | true=>
         have hsn:(s.au.take (k+1)).filter (jw r x gd)=(s.au.take k).filter (jw r x gd)++[s.au[k]]:=by rw [HS.out,hy];rfl
         have HN:=hide hsn;clear hsn
         go_wp2_with (at_builtin;refine wpList_append_lies _ rfl _ _ _ rfl (W0.heap.size) 3 i0 (.int .i64 0) 1 8 Tryz.underlying50 hi hz0 hz1 hz2 rfl (by omega) _ _ _ rfl (um.alloc _) ⟨wc.heap.size,0,none⟩ 1 1 [.int .i64 s.au[k]] rfl rfl (dJ _ _ _ _ (by simp)) ?c1 (by omega) ?c2 ?c3 ?c4 (wc.heap.size+1) (by simp) ?_)
         case c1=>simp [Value.oneCell']
         case c2=>simp only [maxLen];omega
         case c3=>omega
         case c4=>first | omega | (simp;omega)
         intro g1 cap w1 hown1 hgrow _ _;have hbd:=eX (B:=W0.heap.size) (um.alloc _) hgrow (by omega) (by simp;omega);have hb1:=((Below.refl W0.heap.size wc).alloc (by omega) _).trans hbd
         have hown2:w1.ownsRow W0.heap.size 3 1 (.slice (some ⟨g1,0,none⟩) ((s.au.take (k+1)).filter (jw r x gd)).length cap) ((s.au.take (k+1)).filter (jw r x gd)).length (((s.au.take (k+1)).filter (jw r x gd)).map (Value.int .i64)):=by rw [HN.out];simpa using hown1
         have hv:((s.au.take k).filter (jw r x gd)).length+1=((s.au.take (k+1)).filter (jw r x gd)).length:=by rw [HN.out];simp
         rw [hv];have hbw2:=xG.trans hb1;clear um hown1 hgrow hbd hb1 hv;go_wp2
         go_roundw
         case rel=>exact ⟨k+1,by omega,by go_num,⟨_,_,rfl⟩,hown2,hbw2⟩
         case measure=>simp [intOf];omega
       | false=>
         have hsn:(s.au.take (k+1)).filter (jw r x gd)=(s.au.take k).filter (jw r x gd):=by rw [HS.out,hy];simp
         have HN:=hide hsn;clear hsn;go_wp2
         go_roundw
         case rel=>exact ⟨k+1,by omega,by go_num,by rw [HN.out];exact ⟨⟨_,_,rfl⟩,um,xG⟩⟩
         case measure=>simp [intOf];omega
    · obtain rfl:k=s.au.length:=by omega
      rw [List.take_length] at hown;go_wp2;go_ret;rw [List.take_length];exact ⟨A2,c2,rfl,(Reads.je hown (fun b h=>by omega) (by have:=List.length_filter_le (jw r x gd) s.au;omega)),hR.bw⟩
theorem BR (S:Nat→Prop) (A B:Option Addr) (c d:Nat) (xs ys:List Int) (w:World) (hx:bQ w S A c xs) (hy:bQ w S B d ys):
 Calls Tryz.prog 69 #[.slice A xs.length c,.slice B ys.length d] w fun r w'=>r= .returned (.bool (decide (xs=ys)))∧∃ n,w'=w.drewN n:=by
 obtain ⟨b1,b2,b3⟩:=hx.bd;obtain ⟨b4,b5,b6⟩:=hy.bd
 by_cases hl:xs.length=ys.length
 · have hl1:((xs.length:Int) != (ys.length:Int))=false:=by rw [hl];simp
   have HL:=hide hl;clear hl
   go_enter Tryz.func69,Tryz.ntmps69
   go_wp2
   go_loopw [13] (fun i wr=>∃ k n:Nat,k≤xs.length∧i= .int .i64 k∧xs.take k=ys.take k∧wr=w.drewN n) (fun i _=>xs.length - (intOf i).toNat)
   case atStart=>exact ⟨0,0,Nat.zero_le _,rfl,by simp,rfl⟩
   case round=>
    obtain ⟨k,n,hk,rfl,hx1,rfl⟩:=hrel
    by_cases hlt:k<xs.length
    · have hlt2:k<ys.length:=by have:=HL.out;omega
      obtain ⟨b,o,rfl,_,_,hc⟩:=hx.at_ k hlt;obtain ⟨b',o',rfl,_,_,hc'⟩:=hy.at_ k hlt2;have h1:=hc k hlt;have h2:=hc' k hlt2;clear hc hc'
      have i1:(0:Int)≤(k:Int):=by omega
      have i2:(k:Int)<(xs.length:Int):=by omega
      have i3:(k:Int)<(ys.length:Int):=by omega
      by_cases he:xs[k]=ys[k]
      · have he1:(xs[k] != ys[k])=false:=by simp [he]
        have HE:=hide he;have HX:=hide hx1;clear he hx1;go_wp2
        go_quiet (fail)
        go_wp2
        go_roundw
        case rel=>exact ⟨k+1,_,by omega,by go_num,yt hlt hlt2 HX.out HE.out,rfl⟩
        case measure=>simp [intOf];omega
      · have he1:(xs[k] != ys[k])=true:=by simp [he]
        go_wp2
        go_quiet (fail)
        go_wp2;go_ret;exact ⟨dD (by simp [ES hlt hlt2 he]),_,World.drewN_drewN _ _ _⟩
    · go_wp2
      go_ret;rw [List.take_of_length_le (by omega),List.take_of_length_le (by have:=HL.out;omega)] at hx1;exact ⟨dD (by simp [hx1]),n,rfl⟩
 · have hl1:((xs.length:Int) != (ys.length:Int))=true:=by simp;omega
   go_enter Tryz.func69,Tryz.ntmps69
   go_wp2;go_ret;exact ⟨dD (by simp;intro e;exact hl (by rw [e])),0,rfl⟩
def DN (r:M.Rules) (s:M.State) (x:M.aV) (gd:Bool) (sc:Int):Int × Bool:=
 if r.game=M.aH then (x.aG,gd && decide (r.target≤sc))
 else if r.game=M.dA then (x.aG,gd && decide ((9:Int)∈M.objects x))
 else if x.kind=M.dS∨(8:Int) ∉ M.objects x then (0,false)
 else if gd=true∧x.aT=8∧M.targets r s=[8] then (x.aG,true) else (1 - x.aG,true)
theorem Tn {w:World} {Bx:Nat} {x:M.aV} {P:Option Addr} {d:Nat} {S:Nat→Prop} (hx:Held w Bx (aA ⟨x,P,d⟩) 27) (hpp:fP w S P d x.aC) (hpos:∀ p∈x.aC,0≤p.aT) (b:Int) (W:World) (hb:Below w.heap.size w W):
 Calls Tryz.prog 199 #[.int .i64 b,ptr Bx] W fun e w'=>e= .returned (.bool (decide (b∈M.objects x)))∧Below W.heap.size W w':=by
 have hX:=hx.below hb
 go_enter Tryz.func199,Tryz.ntmps199
 go_wp2_with (first | (refine aB 27 (.tmp 1) rfl ?_;refine ak (hX) Tryz.underlying27 rfl bG rfl (.tmp 1) rfl rfl ?_) | (go_at_call 81;refine (jW S x P d _ (hpp.below hb) hpos).mono ?_;rintro e w1 ⟨A1,c1,rfl,hr1,hb1⟩) | (go_at_call 78;refine (iQ _ A1 c1 (M.objects x) _ _ hr1).mono ?_;rintro e eY ⟨rfl,rfl⟩))
 go_ret;exact ⟨rfl,hb1⟩
theorem DR (S:Nat→Prop) (r:M.Rules) (s:M.State) (x:M.aV) (A P:Option Addr) (c d:Nat) (gd:Bool) (sc:Int) (w:World) (hp:bQ w S A c s.au) (hpp:fP w S P d x.aC) (hpos:∀ p∈x.aC,0≤p.aT) (hr:M.aQ r=0) (hg:0≤s.group∧s.group≤2) (h0:0≤x.aG) (h1:x.aG≤1):
 Calls Tryz.prog 156 #[dX r s A c,iy x P d,.bool gd,.int .i64 sc] w fun e w'=>e= .returned (.tuple #[.int .i64 (DN r s x gd sc).1,.bool (DN r s x gd sc).2])∧Below w.heap.size w w':=by
 go_enter Tryz.func156,Tryz.ntmps156
 go_upto_region 1 with (fail)
 go_cut [4,5,10] (fun v2 v3 v4 wx=>v2=ptr w.heap.size∧v3=ptr (w.heap.size+1)∧v4= .func (.func 199) #[] #[ptr (w.heap.size+1)]∧aX w wx [(aj r (s) A c,99),(aA ⟨x,P,d⟩,27)])
 case first=>
  go_wp2;go_meet;exact ⟨rfl,rfl,rfl,(((aX.nil w).new (by simp) (aj r (s) A c) _).new (by simp) (aA ⟨x,P,d⟩) _)⟩
 case rest=>
  obtain ⟨rfl,rfl,rfl,hB⟩:=hcut;have hbD:=Below.refl wc.heap.size wc;have hD:=fun b W h=>Tn (hB.get 1 rfl) (hpp.below hB.bw) hpos b W h;have HD:=hide hD;clear hD;have Hr:=hB.ah rfl;have Aw:=hB.get 1 rfl;have k0:=Hr.cell (j:=0) rfl;have EK:=Hr.frozen 0;have k1:=Hr.cell (j:=1) rfl;have Lm:=Hr.frozen 1;have x0:=Aw.cell (j:=0) rfl;have xf0:=Aw.frozen 0;have x1:=Aw.cell (j:=1) rfl;have xf1:=Aw.frozen 1;have x2:=Aw.cell (j:=2) rfl;have xf2:=Aw.frozen 2;have e1:=dn r.game [115,116,114,97,105,103,104,116];have e2:=dn r.game [110,105,110,101];have e3:=dn x.kind [98,114,101,97,107]
  have hw:DN r s x gd sc=if (r.game.toList == [115,116,114,97,105,103,104,116])=true then (x.aG,gd && decide (r.target≤sc)) else if (r.game.toList == [110,105,110,101])=true then (x.aG,gd && decide ((9:Int)∈M.objects x))
   else if ((x.kind.toList == [98,114,101,97,107]) || !decide ((8:Int)∈M.objects x))=true then (0,false) else if (gd && (decide (x.aT=8) && decide (M.targets r s=[8])))=true then (x.aG,true) else (1 - x.aG,true):=by
   rw [e1,e2,e3]
   unfold DN
   simp only [decide_eq_true_eq,Bool.or_eq_true,Bool.not_eq_true',decide_eq_false_iff_not,Bool.and_eq_true]
  have HW:=hide hw;clear hw e1 e2 e3
  rcases hy1:(r.game.toList == [115,116,114,97,105,103,104,116]) with _ | _
  · rcases hy2:(r.game.toList == [110,105,110,101]) with _ | _
    · rcases hy3:(x.kind.toList == [98,114,101,97,107]) with _ | _
      · rcases hm:decide ((8:Int)∈M.objects x) with _ | _
        · go_wp2_with (first | (go_at_call 199;refine (HD.out _ _ hbD).mono ?_;rintro e w1 ⟨rfl,hb1⟩;have hB1:=hB.call (by simp) hb1))
          go_ret2;exact ⟨by rw [HW.out,hy1,hy2,hy3,hm];rfl,hB1.bw⟩
        · rcases gd with _ | _
          · have hq:∀ p:Bool,(if (false && p)=true then ((x.aG,true):Int × Bool) else (1 - x.aG,true))=(1 - x.aG,true):=by intro p;rfl
            go_upto_region 8 with (first | (go_at_call 199;refine (HD.out _ _ hbD).mono ?_;rintro e w1 ⟨rfl,hb1⟩;have hB1:=hB.call (by simp) hb1))
            have hX1:=hB1.get 1 rfl;have y0:=hX1.cell (j:=0) rfl;have yf0:=hX1.frozen 0;have y2:=hX1.cell (j:=2) rfl;have yf2:=hX1.frozen 2;go_wp2;go_ret2;exact ⟨by rw [HW.out,hy1,hy2,hy3,hm];rfl,hB1.bw⟩
          · rcases hy4:decide (x.aT=8) with _ | _
            · have hy5:(x.aT == 8)=false:=by rw [qC,hy4]
              go_upto_region 8 with (first | (go_at_call 199;refine (HD.out _ _ hbD).mono ?_;rintro e w1 ⟨rfl,hb1⟩;have hB1:=hB.call (by simp) hb1))
              have hX1:=hB1.get 1 rfl;have y0:=hX1.cell (j:=0) rfl;have yf0:=hX1.frozen 0;have y2:=hX1.cell (j:=2) rfl;have yf2:=hX1.frozen 2;go_wp2;go_ret2;exact ⟨by rw [HW.out,hy1,hy2,hy3,hm,hy4];rfl,hB1.bw⟩
            · have hy5:(x.aT == 8)=true:=by rw [qC,hy4]
              go_upto_region 8 with (first | (go_at_call 199;refine (HD.out _ _ hbD).mono ?_;rintro e w1 ⟨rfl,hb1⟩;have hB1:=hB.call (by simp) hb1))
              have hX1:=hB1.get 1 rfl;have y0:=hX1.cell (j:=0) rfl;have yf0:=hX1.frozen 0;have y2:=hX1.cell (j:=2) rfl;have yf2:=hX1.frozen 2
              go_upto_region 8 with (fail)
              go_cut [48] (fun v wx=>v= .bool (decide (M.targets r s=[8]))∧aX w wx [(aj r (s) A c,99),(aA ⟨x,P,d⟩,27)])
              case first=>
               go_wp2_with (first | (refine aB 99 (.tmp 4) rfl ?_;refine ak (hB1.ah rfl) Tryz.underlying99 rfl ay rfl (.tmp 4) rfl rfl ?_) | (refine aB 99 (.tmp 4) rfl ?_;refine iE (hB1.ah rfl) Tryz.underlying99 rfl ay rfl (.tmp 4) rfl rfl ?_) | (refine iR 99 (.tmp 4) rfl ?_;refine iF (hB1.ah rfl) Tryz.underlying99 rfl ay (.tmp 4) rfl rfl ?_) | (go_at_call 79;refine (Aj S r s A c _ (hp.below hB1.bw) hr hg).mono ?_;rintro e w2 ⟨A2,c2,rfl,hr2,hb2⟩;have hB2:=hB1.call (by simp) hb2) | (go_at_call 69;refine (BR (fun _=>True) A2 (some ⟨w2.heap.size,0,none⟩) c2 1 (M.targets r s) [8] _ ((hr2.alloc _).more (fun _ _ _=>trivial)) (bQ.lit w2 _ [8] (by simp) (fun _=>True) trivial)).mono ?_;rintro e w3 ⟨rfl,n3,rfl⟩;have hB3:=(hB2.alloc (by simp) (.cells #[.int .i64 8] 3)).drewN n3))
               go_meet;exact ⟨rfl,hB3⟩
              case rest=>
               obtain ⟨rfl,hB4⟩:=hcut;have hX4:=hB4.get 1 rfl;have z0:=hX4.cell (j:=0) rfl;have zf0:=hX4.frozen 0
               rcases ht:decide (M.targets r s=[8]) with _ | _
               all_goals
                go_wp2;go_ret2;exact ⟨by rw [HW.out,hy1,hy2,hy3,hm,hy4,ht];rfl,hB4.bw⟩
      · go_wp2
        go_ret2;exact ⟨by rw [HW.out,hy1,hy2,hy3];rfl,hB.bw⟩
    · rcases gd with _ | _
      · go_upto_region 5 with (fail)
        refine wp_region_held_drew (S:=(fun w':World=>w'.cell? ⟨w.heap.size+1,0,none⟩=some (.int .i64 x.aG))) (by kernel_rfl) ?dL (fun hHeld=>?_)
        case dL=>first | exact (hB.get 1 rfl).cell (j:=0) rfl | exact (hB.drew.get 1 rfl).cell (j:=0) rfl | exact (hB1.get 1 rfl).cell (j:=0) rfl
        refine tk 0 ?_;refine tk 1 ?_;refine tk 2 ?_;refine tk 3 ?_;refine tu 4 ?_;refine tu 5 ?_;refine tk 6 ?_;refine tk 7 ?_;refine tk 8 ?_;refine wpAnyH_done (by kernel_rfl) ?_ _;go_wp2;go_ret2;exact ⟨by rw [HW.out,hy1,hy2];rfl,hB.drew.bw⟩
      · go_upto_region 5 with (fail)
        refine wp_region_held_drew (S:=(fun w':World=>w'.cell? ⟨w.heap.size+1,0,none⟩=some (.int .i64 x.aG))) (by kernel_rfl) ?dY (fun hHeld=>?_)
        case dY=>first | exact (hB.get 1 rfl).cell (j:=0) rfl | exact (hB.drew.get 1 rfl).cell (j:=0) rfl | exact (hB1.get 1 rfl).cell (j:=0) rfl
        refine tk 0 ?_;refine tk 1 ?_;refine tk 2 ?_;refine tk 3 ?_;refine tk 4 ?_;refine tr 5 fun K hK=>?_;go_simp
        (go_at_call 199;refine (HD.out _ _ (Below.refl _ _).drew).mono ?_;rintro e w1 ⟨rfl,hb1⟩;have hB1:=hB.drew.call (by simp) hb1)
        refine hK.out _ _ ?Vq (fun hHeld=>?_)
        case Vq=>(first | (first | exact (hB.get 1 rfl).cell (j:=0) rfl | exact (hB.drew.get 1 rfl).cell (j:=0) rfl | exact (hB1.get 1 rfl).cell (j:=0) rfl) | (dsimp only;first | exact (hB.get 1 rfl).cell (j:=0) rfl | exact (hB.drew.get 1 rfl).cell (j:=0) rfl | exact (hB1.get 1 rfl).cell (j:=0) rfl))
        clear hK K
        try simp only [Act.put,la,lz,ls]
        refine tk 6 ?_;refine tk 7 ?_;refine tk 8 ?_;refine wpAnyH_done (by kernel_rfl) ?_ _;go_wp2;go_ret2;exact ⟨by rw [HW.out,hy1,hy2];rfl,hB1.bw⟩
  · rcases gd with _ | _
    all_goals
     go_wp2
     go_quiet (fail)
     go_wp2;go_ret2;exact ⟨by rw [HW.out,hy1];rfl,below_drewN hB.bw _⟩
theorem BF (S:Nat→Prop) (r:M.Rules) (s:M.State) (x:M.aV) (A P:Option Addr) (c d:Nat) (w:World) (hp:bQ w S A c s.au):
 Calls Tryz.prog 102 #[dX r s A c,iy x P d] w fun e w'=>∃ A' c',e= .returned (dX r (M.calm r s x) A' c')∧bQ w' (fun b=>w.heap.size≤b) A' c' s.au∧Below w.heap.size w w':=by
 have hS2:M.calm r s x= {s with brk:=false,hand:=false,push:=(r.game.toList == [110,105,110,101]) && (x.kind.toList == [98,114,101,97,107]),pushed:=(x.kind.toList == [112,117,115,104]) }:=by
  unfold M.calm
  have e1:(r.game.toList == [110,105,110,101])=decide (r.game=M.dA):=dn r.game [110,105,110,101];have e2:(x.kind.toList == [98,114,101,97,107])=decide (x.kind=M.dS):=dn x.kind [98,114,101,97,107];have e3:(x.kind.toList == [112,117,115,104])=decide (x.kind=M.gI):=dn x.kind [112,117,115,104];rw [e1,e2,e3]
  simp only [Bool.decide_and]
 go_enter Tryz.func102,Tryz.ntmps102
 go_upto_region 1 with (fail)
 go_cut [2,3,4] (fun v2 v3 v4 wx=>v2=ptr w.heap.size∧v3=ptr (w.heap.size+1)∧v4=ptr (w.heap.size+2)∧aX w wx [(aj r ({s with brk:=false,hand:=false }) A c,99),(aA ⟨x,P,d⟩,27),(aY,99)])
 case first=>
  go_wp2;go_meet;exact ⟨rfl,rfl,rfl,((((aX.nil w).new (by simp) (aj r ({s with brk:=false,hand:=false }) A c) _).new (by simp) (aA ⟨x,P,d⟩) _).new (by simp) (aY) _)⟩
 case rest=>
  obtain ⟨rfl,rfl,rfl,hB⟩:=hcut;have hF:=hB.ah rfl;have hX:=hB.get 1 rfl;have k0:=hF.cell (j:=0) rfl;have EK:=hF.frozen 0;have k6:=hF.cell (j:=6) rfl;have kf6:=hF.frozen 6;have k7:=hF.cell (j:=7) rfl;have kf7:=hF.frozen 7;have x1:=hX.cell (j:=1) rfl;have xf1:=hX.frozen 1
  go_upto_region 2 with (fail)
  go_cut [] (fun wx=>aX w wx [(aj r (M.calm r s x) A c,99),(aA ⟨x,P,d⟩,27),(aY,99)])
  case first=>
   obtain ⟨y1,hy1⟩:∃ y,(r.game.toList == [110,105,110,101])=y:=⟨_,rfl⟩;obtain ⟨y2,hy2⟩:∃ y,(x.kind.toList == [98,114,101,97,107])=y:=⟨_,rfl⟩;obtain ⟨y3,hy3⟩:∃ y,(x.kind.toList == [112,117,115,104])=y:=⟨_,rfl⟩
   cases y1 with
   | true=>
     refine wp_region_held_drew (S:=(fun w':World=>w'.cell? ⟨w.heap.size,0,none⟩=some (.string r.game)∧w'.cell? ⟨w.heap.size+1,1,none⟩=some (.string x.kind))) (by kernel_rfl) ?dL (fun hHeld=>?_)
     case dL=>first | exact ⟨(hB.ah rfl).cell (j:=0) rfl,(hB.get 1 rfl).cell (j:=1) rfl⟩ | exact ⟨(hB.drew.ah rfl).cell (j:=0) rfl,(hB.drew.get 1 rfl).cell (j:=1) rfl⟩ | exact ⟨((hB.set 0 rfl 6 _).drew.ah rfl).cell (j:=0) rfl,((hB.set 0 rfl 6 _).drew.get 1 rfl).cell (j:=1) rfl⟩ | exact ⟨(((hB.set 0 rfl 6 _).set 0 rfl 7 _).drew.ah rfl).cell (j:=0) rfl,(((hB.set 0 rfl 6 _).set 0 rfl 7 _).drew.get 1 rfl).cell (j:=1) rfl⟩
     refine tk 0 ?_;refine tk 1 ?_;refine tk 2 ?_;refine tk 3 ?_;refine tk 4 ?_;refine tk 5 ?_;refine tk 6 ?_;refine tk 7 ?_;refine tk 8 ?_;refine tk 9 ?_;refine tk 10 ?_;refine tk 11 ?_;refine tk 12 ?_;refine tk 13 ?_;refine tr 14 fun K hK=>?_;go_simp;refine hK.out _ _ ?adT (fun hHeld=>?_)
     case adT=>(first | (first | exact ⟨(hB.ah rfl).cell (j:=0) rfl,(hB.get 1 rfl).cell (j:=1) rfl⟩ | exact ⟨(hB.drew.ah rfl).cell (j:=0) rfl,(hB.drew.get 1 rfl).cell (j:=1) rfl⟩ | exact ⟨((hB.set 0 rfl 6 _).drew.ah rfl).cell (j:=0) rfl,((hB.set 0 rfl 6 _).drew.get 1 rfl).cell (j:=1) rfl⟩ | exact ⟨(((hB.set 0 rfl 6 _).set 0 rfl 7 _).drew.ah rfl).cell (j:=0) rfl,(((hB.set 0 rfl 6 _).set 0 rfl 7 _).drew.get 1 rfl).cell (j:=1) rfl⟩) | (dsimp only;first | exact ⟨(hB.ah rfl).cell (j:=0) rfl,(hB.get 1 rfl).cell (j:=1) rfl⟩ | exact ⟨(hB.drew.ah rfl).cell (j:=0) rfl,(hB.drew.get 1 rfl).cell (j:=1) rfl⟩ | exact ⟨((hB.set 0 rfl 6 _).drew.ah rfl).cell (j:=0) rfl,((hB.set 0 rfl 6 _).drew.get 1 rfl).cell (j:=1) rfl⟩ | exact ⟨(((hB.set 0 rfl 6 _).set 0 rfl 7 _).drew.ah rfl).cell (j:=0) rfl,(((hB.set 0 rfl 6 _).set 0 rfl 7 _).drew.get 1 rfl).cell (j:=1) rfl⟩))
     clear hK K
     try simp only [Act.put,la,lz,ls]
     refine tk 15 ?_;refine tk 16 ?_;refine tr 17 fun K hK=>?_;go_simp;refine hK.out _ _ ?ad1 (fun hHeld=>?_)
     case ad1=>(first | (first | exact ⟨(hB.ah rfl).cell (j:=0) rfl,(hB.get 1 rfl).cell (j:=1) rfl⟩ | exact ⟨(hB.drew.ah rfl).cell (j:=0) rfl,(hB.drew.get 1 rfl).cell (j:=1) rfl⟩ | exact ⟨((hB.set 0 rfl 6 _).drew.ah rfl).cell (j:=0) rfl,((hB.set 0 rfl 6 _).drew.get 1 rfl).cell (j:=1) rfl⟩ | exact ⟨(((hB.set 0 rfl 6 _).set 0 rfl 7 _).drew.ah rfl).cell (j:=0) rfl,(((hB.set 0 rfl 6 _).set 0 rfl 7 _).drew.get 1 rfl).cell (j:=1) rfl⟩) | (dsimp only;first | exact ⟨(hB.ah rfl).cell (j:=0) rfl,(hB.get 1 rfl).cell (j:=1) rfl⟩ | exact ⟨(hB.drew.ah rfl).cell (j:=0) rfl,(hB.drew.get 1 rfl).cell (j:=1) rfl⟩ | exact ⟨((hB.set 0 rfl 6 _).drew.ah rfl).cell (j:=0) rfl,((hB.set 0 rfl 6 _).drew.get 1 rfl).cell (j:=1) rfl⟩ | exact ⟨(((hB.set 0 rfl 6 _).set 0 rfl 7 _).drew.ah rfl).cell (j:=0) rfl,(((hB.set 0 rfl 6 _).set 0 rfl 7 _).drew.get 1 rfl).cell (j:=1) rfl⟩))
     clear hK K
     try simp only [Act.put,la,lz,ls]
     refine wpAnyH_done (by kernel_rfl) ?_ _;go_wp2;go_meet;rw [hS2,hy1,hy2,hy3];exact ((hB.set 0 rfl 6 _).set 0 rfl 7 _).drew
   | false=>
     refine wp_region_held_drew (S:=(fun w':World=>w'.cell? ⟨w.heap.size,0,none⟩=some (.string r.game)∧w'.cell? ⟨w.heap.size+1,1,none⟩=some (.string x.kind))) (by kernel_rfl) ?dY (fun hHeld=>?_)
     case dY=>first | exact ⟨(hB.ah rfl).cell (j:=0) rfl,(hB.get 1 rfl).cell (j:=1) rfl⟩ | exact ⟨(hB.drew.ah rfl).cell (j:=0) rfl,(hB.drew.get 1 rfl).cell (j:=1) rfl⟩ | exact ⟨((hB.set 0 rfl 6 _).drew.ah rfl).cell (j:=0) rfl,((hB.set 0 rfl 6 _).drew.get 1 rfl).cell (j:=1) rfl⟩ | exact ⟨(((hB.set 0 rfl 6 _).set 0 rfl 7 _).drew.ah rfl).cell (j:=0) rfl,(((hB.set 0 rfl 6 _).set 0 rfl 7 _).drew.get 1 rfl).cell (j:=1) rfl⟩
     refine tk 0 ?_;refine tk 1 ?_;refine tk 2 ?_;refine tk 3 ?_;refine tk 4 ?_;refine tu 5 ?_;refine tu 6 ?_;refine tu 7 ?_;refine tk 8 ?_;refine tk 9 ?_;refine tk 10 ?_;refine tk 11 ?_;refine tk 12 ?_;refine tk 13 ?_;refine tr 14 fun K hK=>?_;go_simp;refine hK.out _ _ ?aef (fun hHeld=>?_)
     case aef=>(first | (first | exact ⟨(hB.ah rfl).cell (j:=0) rfl,(hB.get 1 rfl).cell (j:=1) rfl⟩ | exact ⟨(hB.drew.ah rfl).cell (j:=0) rfl,(hB.drew.get 1 rfl).cell (j:=1) rfl⟩ | exact ⟨((hB.set 0 rfl 6 _).drew.ah rfl).cell (j:=0) rfl,((hB.set 0 rfl 6 _).drew.get 1 rfl).cell (j:=1) rfl⟩ | exact ⟨(((hB.set 0 rfl 6 _).set 0 rfl 7 _).drew.ah rfl).cell (j:=0) rfl,(((hB.set 0 rfl 6 _).set 0 rfl 7 _).drew.get 1 rfl).cell (j:=1) rfl⟩) | (dsimp only;first | exact ⟨(hB.ah rfl).cell (j:=0) rfl,(hB.get 1 rfl).cell (j:=1) rfl⟩ | exact ⟨(hB.drew.ah rfl).cell (j:=0) rfl,(hB.drew.get 1 rfl).cell (j:=1) rfl⟩ | exact ⟨((hB.set 0 rfl 6 _).drew.ah rfl).cell (j:=0) rfl,((hB.set 0 rfl 6 _).drew.get 1 rfl).cell (j:=1) rfl⟩ | exact ⟨(((hB.set 0 rfl 6 _).set 0 rfl 7 _).drew.ah rfl).cell (j:=0) rfl,(((hB.set 0 rfl 6 _).set 0 rfl 7 _).drew.get 1 rfl).cell (j:=1) rfl⟩))
     clear hK K
     try simp only [Act.put,la,lz,ls]
     refine tk 15 ?_;refine tk 16 ?_;refine tr 17 fun K hK=>?_;go_simp;refine hK.out _ _ ?aem (fun hHeld=>?_)
     case aem=>(first | (first | exact ⟨(hB.ah rfl).cell (j:=0) rfl,(hB.get 1 rfl).cell (j:=1) rfl⟩ | exact ⟨(hB.drew.ah rfl).cell (j:=0) rfl,(hB.drew.get 1 rfl).cell (j:=1) rfl⟩ | exact ⟨((hB.set 0 rfl 6 _).drew.ah rfl).cell (j:=0) rfl,((hB.set 0 rfl 6 _).drew.get 1 rfl).cell (j:=1) rfl⟩ | exact ⟨(((hB.set 0 rfl 6 _).set 0 rfl 7 _).drew.ah rfl).cell (j:=0) rfl,(((hB.set 0 rfl 6 _).set 0 rfl 7 _).drew.get 1 rfl).cell (j:=1) rfl⟩) | (dsimp only;first | exact ⟨(hB.ah rfl).cell (j:=0) rfl,(hB.get 1 rfl).cell (j:=1) rfl⟩ | exact ⟨(hB.drew.ah rfl).cell (j:=0) rfl,(hB.drew.get 1 rfl).cell (j:=1) rfl⟩ | exact ⟨((hB.set 0 rfl 6 _).drew.ah rfl).cell (j:=0) rfl,((hB.set 0 rfl 6 _).drew.get 1 rfl).cell (j:=1) rfl⟩ | exact ⟨(((hB.set 0 rfl 6 _).set 0 rfl 7 _).drew.ah rfl).cell (j:=0) rfl,(((hB.set 0 rfl 6 _).set 0 rfl 7 _).drew.get 1 rfl).cell (j:=1) rfl⟩))
     clear hK K
     try simp only [Act.put,la,lz,ls]
     refine wpAnyH_done (by kernel_rfl) ?_ _;go_wp2;go_meet;rw [hS2,hy1,hy2,hy3];exact ((hB.set 0 rfl 6 _).set 0 rfl 7 _).drew
  case rest=>
   have hC:=hcut;clear hF hX k0 EK k6 kf6 k7 kf7 x1 xf1 hB hcut;have Hr:=hC.ah rfl;have k9:=Hr.cell (j:=9) rfl;have kf9:=Hr.frozen 9
   go_wp2_with (first | (go_at_call 101;refine (jK S A c s.au _ (hp.below hC.bw)).mono ?_;rintro e w1 ⟨A1,c1,rfl,hr1,hb1⟩;have hD:=hC.call (by simp) hb1;have hFD:=hD.ah rfl;have q9:=hFD.cell (j:=9) rfl;have qf9:=hFD.frozen 9;have hE:aX w (w1.setCell ⟨w.heap.size,9,none⟩ (.slice A1 s.au.length c1)) [(aj r (M.calm r s x) A1 c1,99),(aA ⟨x,P,d⟩,27),(aY,99)]:=(hD.set 0 rfl 9 _)) | (refine EG (hE.ah rfl) Tryz.underlying99 rfl ay rfl (.tmp 2) rfl rfl ?_) | (refine CP (hE.get 2 rfl) (aj r (M.calm r s x) A1 c1) rfl ay (bM _ _ _ _) rfl (.tmp 4) (.tmp 31) rfl rfl rfl ?_))
   have hZ:=hE.put 2 rfl (aj r (M.calm r s x) A1 c1) rfl;refine bodyPost_ret (bf (p:=4) (hZ.get 2 rfl) Tryz.underlying99 rfl ay rfl _ rfl) rfl ⟨A1,c1,rfl,?_,hZ.bw⟩;have hsz:=hC.size (by simp)
   simp only [List.length_cons,List.length_nil] at hsz
   exact (hr1.above (D:=w.heap.size+3) (fun b h=>Nat.le_trans hsz h) (iG.setCells (by omega) _ _ _ ((iG.refl _ _).setCell (by omega) _ _))).more (fun b _ h=>by omega)
theorem Qe (r:M.Rules) (s:M.State) (A:Option Addr) (c:Nat) (w:World) (h0: -1000000≤s.s0) (h1:s.s0≤1000000) (h2:0≤s.bI) (h3:s.bI≤1000000):
 Calls Tryz.prog 157 #[dX ⟨M.aH,r.target,r.bD⟩ s A c,.int .i64 0] w fun e w'=>∃ A' c',e= .returned (dX ⟨M.aH,r.target,r.bD⟩ ({s with s0:=s.s0 - 15,f0:=0,brk:=true,au:=M.jr ⟨M.aH,r.target,r.bD⟩,bI:=s.bI+1 }) A' c')∧bQ w' (fun b=>w.heap.size≤b) A' c' (M.jr ⟨M.aH,r.target,r.bD⟩)∧Below w.heap.size w w':=by
 go_enter Tryz.func157,Tryz.ntmps157
 go_upto_region 0 with (fail)
 go_cut [2,4] (fun v1 v2 wx=>v1=ptr w.heap.size∧v2=ptr (w.heap.size+1)∧aX w wx [(aj ⟨M.aH,r.target,r.bD⟩ (s) A c,99),(aY,99)])
 case first=>
  go_wp2;go_meet;exact ⟨rfl,rfl,(((aX.nil w).new (by simp) (aj ⟨M.aH,r.target,r.bD⟩ (s) A c) _).new (by simp) (aY) _)⟩
 case rest=>
  obtain ⟨rfl,rfl,hB⟩:=hcut;have hF:=hB.ah rfl;have k0:=hF.cell (j:=0) rfl;have EK:=hF.frozen 0;have k4:=hF.cell (j:=4) rfl;have kf4:=hF.frozen 4;have k10:=hF.cell (j:=10) rfl;have aE3:=hF.frozen 10;have k12:=hF.cell (j:=12) rfl;have aFh:=hF.frozen 12;have hC:aX w (((wc.setCell ⟨w.heap.size,10,none⟩ (.int .i64 (s.s0 - 15))).setCell ⟨w.heap.size,12,none⟩ (.int .i64 0)).setCell ⟨w.heap.size,4,none⟩ (.bool true)) [(aj ⟨M.aH,r.target,r.bD⟩ ({s with s0:=s.s0 - 15,f0:=0,brk:=true }) A c,99),(aY,99)]:=(((hB.set 0 rfl 10 _).set 0 rfl 12 _).set 0 rfl 4 _)
  go_wp2_with (first | (refine aB 99 (.tmp 2) rfl ?_;refine ak (hC.ah rfl) Tryz.underlying99 rfl ay rfl (.tmp 2) rfl rfl ?_) | (go_at_call 158;refine (tV ⟨M.aH,r.target,r.bD⟩ ({s with s0:=s.s0 - 15,f0:=0,brk:=true }) A c _ h2 h3).mono ?_;rintro e w1 ⟨A1,c1,rfl,hr1,hb1⟩;have hD:=hC.call (by simp) hb1) | (refine aO 99 (.tmp 4) (.tmp 32) rfl ?_;refine aF (hD.get 1 rfl) (aj ⟨M.aH,r.target,r.bD⟩ ({s with s0:=s.s0 - 15,f0:=0,brk:=true,au:=M.jr ⟨M.aH,r.target,r.bD⟩,bI:=s.bI+1 }) A1 c1) rfl ay (bM _ _ _ _) rfl (.tmp 4) (.tmp 32) rfl rfl rfl ?_))
  have hZ:=hD.put 1 rfl (aj ⟨M.aH,r.target,r.bD⟩ ({s with s0:=s.s0 - 15,f0:=0,brk:=true,au:=M.jr ⟨M.aH,r.target,r.bD⟩,bI:=s.bI+1 }) A1 c1) rfl;refine bodyPost_ret (bf (p:=4) (hZ.get 1 rfl) Tryz.underlying99 rfl ay rfl _ rfl) rfl ⟨A1,c1,rfl,?_,hZ.bw⟩;have hsz:=hC.size (by simp)
  simp only [List.length_cons,List.length_nil] at hsz
  exact (hr1.above (D:=w.heap.size+2) (fun b h=>Nat.le_trans hsz h) (iG.setCells (by omega) _ _ _ (iG.refl _ _))).more (fun b _ h=>by omega)
theorem Qg (r:M.Rules) (s:M.State) (A:Option Addr) (c:Nat) (w:World) (h0: -1000000≤s.s1) (h1:s.s1≤1000000) (h2:0≤s.bI) (h3:s.bI≤1000000):
 Calls Tryz.prog 157 #[dX ⟨M.aH,r.target,r.bD⟩ s A c,.int .i64 1] w fun e w'=>∃ A' c',e= .returned (dX ⟨M.aH,r.target,r.bD⟩ ({s with s1:=s.s1 - 15,f1:=0,brk:=true,au:=M.jr ⟨M.aH,r.target,r.bD⟩,bI:=s.bI+1 }) A' c')∧bQ w' (fun b=>w.heap.size≤b) A' c' (M.jr ⟨M.aH,r.target,r.bD⟩)∧Below w.heap.size w w':=by
 go_enter Tryz.func157,Tryz.ntmps157
 go_upto_region 0 with (fail)
 go_cut [2,4] (fun v1 v2 wx=>v1=ptr w.heap.size∧v2=ptr (w.heap.size+1)∧aX w wx [(aj ⟨M.aH,r.target,r.bD⟩ (s) A c,99),(aY,99)])
 case first=>
  go_wp2;go_meet;exact ⟨rfl,rfl,(((aX.nil w).new (by simp) (aj ⟨M.aH,r.target,r.bD⟩ (s) A c) _).new (by simp) (aY) _)⟩
 case rest=>
  obtain ⟨rfl,rfl,hB⟩:=hcut;have hF:=hB.ah rfl;have k0:=hF.cell (j:=0) rfl;have EK:=hF.frozen 0;have k4:=hF.cell (j:=4) rfl;have kf4:=hF.frozen 4;have k11:=hF.cell (j:=11) rfl;have aFa:=hF.frozen 11;have k13:=hF.cell (j:=13) rfl;have aFp:=hF.frozen 13;have hC:aX w (((wc.setCell ⟨w.heap.size,11,none⟩ (.int .i64 (s.s1 - 15))).setCell ⟨w.heap.size,13,none⟩ (.int .i64 0)).setCell ⟨w.heap.size,4,none⟩ (.bool true)) [(aj ⟨M.aH,r.target,r.bD⟩ ({s with s1:=s.s1 - 15,f1:=0,brk:=true }) A c,99),(aY,99)]:=(((hB.set 0 rfl 11 _).set 0 rfl 13 _).set 0 rfl 4 _)
  go_wp2_with (first | (refine aB 99 (.tmp 2) rfl ?_;refine ak (hC.ah rfl) Tryz.underlying99 rfl ay rfl (.tmp 2) rfl rfl ?_) | (go_at_call 158;refine (tV ⟨M.aH,r.target,r.bD⟩ ({s with s1:=s.s1 - 15,f1:=0,brk:=true }) A c _ h2 h3).mono ?_;rintro e w1 ⟨A1,c1,rfl,hr1,hb1⟩;have hD:=hC.call (by simp) hb1) | (refine aO 99 (.tmp 4) (.tmp 32) rfl ?_;refine aF (hD.get 1 rfl) (aj ⟨M.aH,r.target,r.bD⟩ ({s with s1:=s.s1 - 15,f1:=0,brk:=true,au:=M.jr ⟨M.aH,r.target,r.bD⟩,bI:=s.bI+1 }) A1 c1) rfl ay (bM _ _ _ _) rfl (.tmp 4) (.tmp 32) rfl rfl rfl ?_))
  have hZ:=hD.put 1 rfl (aj ⟨M.aH,r.target,r.bD⟩ ({s with s1:=s.s1 - 15,f1:=0,brk:=true,au:=M.jr ⟨M.aH,r.target,r.bD⟩,bI:=s.bI+1 }) A1 c1) rfl;refine bodyPost_ret (bf (p:=4) (hZ.get 1 rfl) Tryz.underlying99 rfl ay rfl _ rfl) rfl ⟨A1,c1,rfl,?_,hZ.bw⟩;have hsz:=hC.size (by simp)
  simp only [List.length_cons,List.length_nil] at hsz
  exact (hr1.above (D:=w.heap.size+2) (fun b h=>Nat.le_trans hsz h) (iG.setCells (by omega) _ _ _ (iG.refl _ _))).more (fun b _ h=>by omega)
theorem Gv (r:M.Rules) (s:M.State) (p:Int) (A:Option Addr) (c:Nat) (w:World) (hg:¬ r.game=M.aH) (h0:0≤p) (h1:p≤1):
 Calls Tryz.prog 157 #[dX r s A c,.int .i64 p] w fun e w'=>e= .returned (dX r ({s with over:=true,bP:=1 - p }) A c)∧Below w.heap.size w w':=by
 have hg':(r.game.toList == [115,116,114,97,105,103,104,116])=false:=beq_eq_false_iff_ne.2 (dG hg)
 have hg2:(r.game.toList != [115,116,114,97,105,103,104,116])=true:=by simp [bne,hg']
 go_enter Tryz.func157,Tryz.ntmps157
 go_upto_region 2 with (fail)
 go_cut [2,4] (fun v1 v2 wx=>v1=ptr w.heap.size∧v2=ptr (w.heap.size+1)∧aX w wx [(aj r ({s with over:=true,bP:=1 - p }) A c,99),(aY,99)])
 case first=>
  go_wp2;go_meet;exact ⟨rfl,rfl,(((aX.nil w).new (by simp) (aj r ({s with over:=true,bP:=1 - p }) A c) _).new (by simp) (aY) _)⟩
 case rest=>
  obtain ⟨rfl,rfl,hB⟩:=hcut
  go_wp2_with (first | (refine aB 99 (.tmp 2) rfl ?_;refine ak (hB.ah rfl) Tryz.underlying99 rfl ay rfl (.tmp 2) rfl rfl ?_) | (refine aO 99 (.tmp 4) (.tmp 15) rfl ?_;refine aF (hB.get 1 rfl) (aj r ({s with over:=true,bP:=1 - p }) A c) rfl ay (bM _ _ _ _) rfl (.tmp 4) (.tmp 15) rfl rfl rfl ?_))
  have hZ:=hB.put 1 rfl (aj r ({s with over:=true,bP:=1 - p }) A c) rfl;exact bodyPost_ret (bf (p:=4) (hZ.get 1 rfl) Tryz.underlying99 rfl ay rfl _ rfl) rfl ⟨rfl,hZ.bw⟩
theorem zO (S:Nat→Prop) (r:M.Rules) (s:M.State) (p:Int) (A:Option Addr) (c:Nat) (w:World) (hp:bQ w S A c s.au) (h:p=0∨p=1) (h0: -1000000≤s.s0) (h1:s.s0≤1000000) (k0: -1000000≤s.s1) (k1:s.s1≤1000000) (h2:0≤s.bI) (h3:s.bI≤1000000):
 Calls Tryz.prog 157 #[dX r s A c,.int .i64 p] w fun e w'=>∃ A' c',e= .returned (dX r (M.limit r s p) A' c')∧bQ w' (fun b=>S b∨w.heap.size≤b) A' c' (M.limit r s p).au∧Below w.heap.size w w':=by
 by_cases hg:r.game=M.aH
 · obtain ⟨g,tg,fo⟩:=r
   simp only at hg
   subst hg;have hne:¬ (M.aH≠M.aH):=fun h=>h rfl
   rcases h with rfl | rfl
   · refine (Qe ⟨M.aH,tg,fo⟩ s A c w h0 h1 h2 h3).mono ?_
     rintro e w' ⟨A1,c1,rfl,hr,hb⟩
     have hl:M.limit ⟨M.aH,tg,fo⟩ s 0= {s with s0:=s.s0 - 15,f0:=0,brk:=true,au:=M.jr ⟨M.aH,tg,fo⟩,bI:=s.bI+1 }:=by
      unfold M.limit;rw [if_neg hne];rfl
     rw [hl];exact ⟨A1,c1,rfl,hr.more (fun b _ h=> .inr h),hb⟩
   · refine (Qg ⟨M.aH,tg,fo⟩ s A c w k0 k1 h2 h3).mono ?_
     rintro e w' ⟨A1,c1,rfl,hr,hb⟩
     have hl:M.limit ⟨M.aH,tg,fo⟩ s 1= {s with s1:=s.s1 - 15,f1:=0,brk:=true,au:=M.jr ⟨M.aH,tg,fo⟩,bI:=s.bI+1 }:=by
      unfold M.limit;rw [if_neg hne];rfl
     rw [hl];exact ⟨A1,c1,rfl,hr.more (fun b _ h=> .inr h),hb⟩
 · refine (Gv r s p A c w hg (by omega) (by omega)).mono ?_
   rintro e w' ⟨rfl,hb⟩
   have hl:M.limit r s p= {s with over:=true,bP:=1 - p }:=by unfold M.limit;rw [if_pos hg]
   rw [hl];exact ⟨A,c,rfl,(hp.below hb).more (fun b _ h=> .inl h),hb⟩
theorem EZ {r:M.Rules} {s:M.State} {x:M.aV} (hl:M.Lawful r s x) (hx:M.jR x) (hc:x.kind≠M.bC) (hr:M.aQ r=0):
 M.play r s x=if (DN r s x (M.good r s x) ((M.counted r s x).score x.aG)).2=true then {M.counted r s x with over:=true,bP:=(DN r s x (M.good r s x) ((M.counted r s x).score x.aG)).1 }
  else if M.iw r s x≠0∧(M.counted r s x).kD x.aG=r.bD then M.limit r (M.counted r s x) x.aG
  else if M.good r s x=false then M.passed r s x (M.counted r s x) else M.fB r (M.grouped r s x (M.counted r s x)):=by
 have ho:(M.counted r s x).over=false:=(M.sS r s x).trans hl.over
 unfold M.play
 simp only
 generalize M.counted r s x=t at ho ⊢
 have fin:∀ (v:Int) (b:Bool),M.ended r s x t=(if b=true then {t with over:=true,bP:=v } else t)→
  (if (M.ended r s x t).over=true then M.ended r s x t else if M.iw r s x≠0∧(M.ended r s x t).kD x.aG=r.bD then M.limit r (M.ended r s x t) x.aG else if M.good r s x=false then M.passed r s x (M.ended r s x t) else M.fB r (M.grouped r s x (M.ended r s x t)))=
  (if b=true then {t with over:=true,bP:=v } else if M.iw r s x≠0∧t.kD x.aG=r.bD then M.limit r t x.aG else if M.good r s x=false then M.passed r s x t else M.fB r (M.grouped r s x t)):=by
  intro v b h;rw [h]
  cases b with
  | true=>simp only [if_true]
  | false=>
    simp only [Bool.false_eq_true,if_false]
    rw [if_neg (by rw [ho];decide)]
 refine fin _ _ ?_
 unfold M.ended DN M.won
 rcases M.tX hr with h | h | h
 · have h1:¬ M.aH=M.dA:=by decide
   have h2:¬ M.aH=M.bF:=by decide
   rw [h]
   by_cases hg:M.good r s x=true <;> by_cases hs:r.target≤t.score x.aG <;> simp [h1,h2,hg,hs]
 · have h1:¬ M.bF=M.dA:=by decide
   have h2:¬ M.bF=M.aH:=by decide
   rw [h]
   by_cases hb:x.kind=M.dS
   · simp [h1,h2,hb]
   · by_cases h8:(8:Int)∈M.objects x
     · by_cases hw:M.good r s x=true∧x.aT=8∧M.targets r s=[8]
       · simp [h1,h2,hb,h8,hw]
       · have e1:(if M.good r s x=true∧x.aT=8∧M.targets r s=[8] then (x.aG,true) else (1 - x.aG,true))=((1 - x.aG,true):Int × Bool):=if_neg hw
         have e2:decide (M.good r s x=true∧x.aT=8∧M.targets r s=[8])=false:=decide_eq_false hw
         simp only [h1,h2,hb,h8,if_false,false_and,ne_eq,not_true,not_false_eq_true,and_self,or_self,if_true,e1,e2,Bool.false_eq_true]
     · simp [h1,h2,hb,h8]
 · have h1:¬ M.dA=M.aH:=by decide
   have h2:¬ M.dA=M.bF:=by decide
   rw [h]
   by_cases hg:M.good r s x=true <;> by_cases hs:(9:Int)∈M.objects x <;> simp [h1,h2,hg,hs]
theorem aX.cells {w W W':World} {L:List (List Value × TypeId)} (h:aX w W L) (hb:Below W.heap.size W W'):∀ p q,p<w.heap.size+L.length→W'.cell? ⟨p,q,none⟩=W.cell? ⟨p,q,none⟩:=
 fun p q hp=>hb.cell (p:=⟨p,q,none⟩) (by
  rcases Nat.eq_zero_or_pos L.length with h0 | h0
  · exact Nat.lt_of_lt_of_le (by rw [h0] at hp;simpa using hp) h.bw.size
  · exact Nat.lt_of_lt_of_le hp (h.size h0))
theorem Ce (r:M.Rules) (s:M.State) (x:M.aV):0≤M.iw r s x∧M.iw r s x≤4:=by
 unfold M.iw
 repeat' split
 all_goals omega
theorem bQ.sets {S:Nat→Prop} {A:Option Addr} {c:Nat} {zs:List Int} {g:Nat} (hg:¬ S g):∀ (vs:List Value) (o:Nat) (W:World),bQ W S A c zs→bQ (W.setCells g o vs) S A c zs
 | [],_,_,h=>h
 | v::r,o,W,h=>bQ.sets hg r (o+1) _ (h.setCell (p:=⟨g,o,none⟩) hg v)
structure eU (w W:World) (L:List (List Value × TypeId)) (D:Nat) (G:List Value):Prop where
 b:aX w W L
 g:Held W D G 99
section
variable {w W W':World} {L:List (List Value × TypeId)} {D:Nat} {G:List Value}
theorem eU.set (h:eU w W L D G) (hD:w.heap.size+L.length≤D) (o:Nat) (v:Value):eU w (W.setCell ⟨D,o,none⟩ v) L D (G.set o v):=⟨h.b.far hD o v,h.g.set o v⟩
theorem eU.call (h:eU w W L D G) (hL:0<L.length) (hb:Below W.heap.size W W'):eU w W' L D G:=⟨h.b.call hL hb,h.g.below hb⟩
theorem eU.drew (h:eU w W L D G):eU w W.drew L D G:=⟨h.b.drew,h.g⟩
theorem eU.drewN (h:eU w W L D G) (n:Nat):eU w (W.drewN n) L D G:=⟨h.b.drewN n,h.g⟩
end
end Go.Proofs.YtcjglfbpjkdgiaaGreatDoor
