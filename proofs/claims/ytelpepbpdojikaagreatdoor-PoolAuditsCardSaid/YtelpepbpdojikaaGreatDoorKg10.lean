/- Parts of the proofs about chapter 5 (pool), joined by program. -/
import Derived.Deep.MidRow
import Derived.Test.YtelpepbpdojikaaGreatDoorKg15
set_option maxHeartbeats 1600000
set_option maxRecDepth 100000
set_option linter.unusedVariables false
set_option linter.unusedSimpArgs false
namespace Go.Proofs.YtelpepbpdojikaaGreatDoor
open Go.RowKit
def Held (W:World) (g:Nat) (cs:List Value) (t:TypeId):Prop:=W.heap[g]? =some (.cells cs.toArray t (0,0))
section
variable {W W':World} {g g':Nat} {cs cs':List Value} {t t':TypeId}
theorem Held.lt (h:Held W g cs t):g<W.heap.size:=(Array.getElem?_eq_some_iff.1 h).1
theorem Held.cell (h:Held W g cs t) {j:Nat} {v:Value} (hj:cs[j]? =some v):W.cell? ⟨g,j,none⟩=some v:=by
 rw [cell_of_row W g j _ _ _ h];simpa using hj
theorem Held.frozen (h:Held W g cs t) (j:Nat):W.frozen? ⟨g,j,none⟩=false:=by simp [World.frozen?,show W.heap[g]? =_ from h]
theorem Held.new (W:World) (us:List Value) (t:TypeId):Held (W.alloc (.cells us.toArray t)) W.heap.size us t:=heap_alloc_new W _
theorem Held.newAt (W:World) (us:List Value) (t:TypeId) (hg:W.heap.size=g):Held (W.alloc (.cells us.toArray t)) g us t:=by subst hg;exact heap_alloc_new W _
theorem Held.below (h:Held W g cs t) (hb:Below W.heap.size W W'):Held W' g cs t:=(hb.block g h.lt).trans h
theorem Held.upto {D:Nat} (h:Held W g cs t) (hb:Below D W W') (hD:g<D):Held W' g cs t:=(hb.block g hD).trans h
theorem Held.alloc (h:Held W g cs t) (o:Obj):Held (W.alloc o) g cs t:=h.below ((Below.refl _ _).alloc (Nat.le_refl _) o)
theorem Held.drew (h:Held W g cs t):Held W.drew g cs t:=h
theorem Held.drewN (h:Held W g cs t) (n:Nat):Held (W.drewN n) g cs t:=h
theorem Held.set (h:Held W g cs t) (o:Nat) (v:Value):Held (W.setCell ⟨g,o,none⟩ v) g (cs.set o v) t:=by
 obtain ⟨hlt,hk⟩:=Array.getElem?_eq_some_iff.1 h
 show (W.heap.modify g _)[g]? =_
 rw [Array.getElem?_eq_getElem (by rw [Array.size_modify];exact hlt),Array.getElem_modify_self,hk]
 simp
theorem Held.other (h:Held W g cs t) (hne:g≠g') (o:Nat) (v:Value):Held (W.setCell ⟨g',o,none⟩ v) g cs t:=(Below.heap_setCell W ⟨g',o,none⟩ v g hne).trans h
theorem Held.others (hne:g≠g'):∀ (vs:List Value) (o:Nat) (W:World),Held W g cs t→Held (W.setCells g' o vs) g cs t
 | [],_,_,h=>h
 | v::r,o,W,h=>Held.others hne r (o+1) _ (h.other hne o v)
theorem Held.sets:∀ (vs pre post:List Value) (W:World),Held W g (pre++post) t→post.length=vs.length→Held (W.setCells g pre.length vs) g (pre++vs) t
 | [],pre,post,W,h,hl=>by
   obtain rfl:=List.eq_nil_of_length_eq_zero (by simpa using hl)
   exact h
 | v::r,pre,[],W,h,hl=>by cases hl
 | v::r,pre,u::post,W,h,hl=>by
   have h1:=h.set pre.length v
   rw [show (pre++u::post).set pre.length v=pre++[v]++post by simp] at h1
   have h2:=Held.sets r (pre++[v]) post _ h1 (by simpa using hl)
   rw [List.length_append,List.append_assoc] at h2
   exact h2
theorem Held.whole (h:Held W g cs t) (vs:List Value) (hl:cs.length=vs.length):Held (W.setCells g 0 vs) g vs t:=by
 have:=Held.sets vs [] cs W h hl
 simpa using this
theorem Held.range (h:Held W g cs t):W.rangeAt g 0 cs:=fun j v hj=>by rw [Nat.zero_add];exact h.cell hj
theorem Held.there (h:Held W g cs t):W.there g 0 cs.length:=fun j hj=>by
 rw [Nat.zero_add,h.cell (List.getElem?_eq_getElem hj)]
 exact ⟨rfl,h.frozen j⟩
theorem setCells_size (g:Nat):∀ (vs:List Value) (o:Nat) (W:World),(W.setCells g o vs).heap.size=W.heap.size
 | [],_,_=>rfl
 | v::r,o,W=>by
   rw [World.setCells,setCells_size g r]
   simp [World.setCell]
theorem below_setCells {B:Nat} (g:Nat) (hg:B≤g):∀ (vs:List Value) (o:Nat) (w W:World),Below B w W→Below B w (W.setCells g o vs)
 | [],_,_,_,h=>h
 | v::r,o,w,W,h=>below_setCells g hg r (o+1) w _ (h.setCell (p:=⟨g,o,none⟩) hg v)
end
structure bU (w W:World) (L:List (List Value × TypeId)):Prop where
 at_:∀ i e,L[i]? =some e→Held W (w.heap.size+i) e.1 e.2
 bw:Below w.heap.size w W
section
variable {w W W':World} {L:List (List Value × TypeId)}
theorem bU.get (h:bU w W L) (i:Nat) {cs:List Value} {t:TypeId} (he:L[i]? =some (cs,t)):Held W (w.heap.size+i) cs t:=h.at_ i _ he
theorem bU.bf (h:bU w W L) {cs:List Value} {t:TypeId} (he:L[0]? =some (cs,t)):Held W w.heap.size cs t:=h.at_ 0 _ he
theorem bU.nil (w:World):bU w w []:=⟨fun i e h=>by simp at h,Below.refl _ _⟩
theorem bU.new (h:bU w W L) (hs:W.heap.size=w.heap.size+L.length) (cs:List Value) (t:TypeId):bU w (W.alloc (.cells cs.toArray t)) (L++[(cs,t)]):=
 ⟨fun i e he=>by
  rcases Nat.lt_or_ge i L.length with hi | hi
  · rw [List.getElem?_append_left hi] at he
    exact (h.at_ i e he).alloc _
  · rw [List.getElem?_append_right hi] at he
    match hn:i - L.length,he with
    | 0,he=>
      simp at he
      subst he
      exact Held.newAt _ _ _ (by omega)
    | k+1,he=>simp at he,h.bw.alloc (by omega) _⟩
theorem bU.lt (h:bU w W L) {i:Nat} (hi:i<L.length):w.heap.size+i<W.heap.size:=(h.at_ i _ (List.getElem?_eq_getElem hi)).lt
theorem bU.set (h:bU w W L) (i:Nat) {cs:List Value} {t:TypeId} (he:L[i]? =some (cs,t)) (o:Nat) (v:Value):bU w (W.setCell ⟨w.heap.size+i,o,none⟩ v) (L.set i (cs.set o v,t)):=
 ⟨fun j e hj=>by
  by_cases hij:i=j
  · subst hij
    rw [List.getElem?_set_self (List.getElem?_eq_some_iff.1 he).1] at hj
    injection hj with hj
    subst hj
    exact (h.get i he).set o v
  · rw [List.getElem?_set_ne hij] at hj
    exact (h.at_ j e hj).other (by omega) o v,h.bw.setCell (p:=⟨w.heap.size+i,o,none⟩) (by show w.heap.size≤w.heap.size+i;omega) v⟩
theorem bU.put (h:bU w W L) (i:Nat) {cs:List Value} {t:TypeId} (he:L[i]? =some (cs,t)) (vs:List Value) (hl:cs.length=vs.length):bU w (W.setCells (w.heap.size+i) 0 vs) (L.set i (vs,t)):=
 ⟨fun j e hj=>by
  by_cases hij:i=j
  · subst hij
    rw [List.getElem?_set_self (List.getElem?_eq_some_iff.1 he).1] at hj
    injection hj with hj
    subst hj
    exact (h.get i he).whole vs hl
  · rw [List.getElem?_set_ne hij] at hj
    exact Held.others (by omega) _ _ _ (h.at_ j e hj),below_setCells _ (by omega) _ _ _ _ h.bw⟩
theorem bU.far (h:bU w W L) {g:Nat} (hg:w.heap.size+L.length≤g) (o:Nat) (v:Value):bU w (W.setCell ⟨g,o,none⟩ v) L:=
 ⟨fun j e hj=>(h.at_ j e hj).other (by have:=(List.getElem?_eq_some_iff.1 hj).1;omega) o v,h.bw.setCell (p:=⟨g,o,none⟩) (by show w.heap.size≤g;omega) v⟩
theorem bU.PS (h:bU w W L) {g:Nat} (hg:w.heap.size+L.length≤g) (vs:List Value) (o:Nat):bU w (W.setCells g o vs) L:=
 ⟨fun j e hj=>Held.others (by have:=(List.getElem?_eq_some_iff.1 hj).1;omega) _ _ _ (h.at_ j e hj),below_setCells _ (by omega) _ _ _ _ h.bw⟩
theorem bU.upto {D:Nat} (h:bU w W L) (hb:Below D W W') (hD:w.heap.size+L.length≤D):bU w W' L:=
 ⟨fun j e hj=>(h.at_ j e hj).upto hb (by have:=(List.getElem?_eq_some_iff.1 hj).1;omega),h.bw.trans (hb.mono (by omega))⟩
theorem bU.size (h:bU w W L) (hL:0<L.length):w.heap.size+L.length≤W.heap.size:=by have:=h.lt (i:=L.length - 1) (by omega);omega
theorem bU.call (h:bU w W L) (hL:0<L.length) (hb:Below W.heap.size W W'):bU w W' L:=h.upto hb (h.size hL)
theorem bU.drew (h:bU w W L):bU w W.drew L:=⟨h.at_,h.bw.drew⟩
theorem bU.drewN (h:bU w W L) (n:Nat):bU w (W.drewN n) L:=⟨h.at_,below_drewN h.bw n⟩
theorem bU.alloc (h:bU w W L) (hL:0<L.length) (o:Obj):bU w (W.alloc o) L:=h.call hL ((Below.refl _ _).alloc (Nat.le_refl _) o)
end
section
variable {ops:Array Oper} {rest:List Oper} {op:Oper} {a:Act} {W:World} {Q:Exit→Act→World→Prop} {g n:Nat} {cs:List Value} {t:TypeId} {d:TypeDesc}
theorem Bv (h:Held W g cs t) (hu:Tryz.prog.underlying t=some d) (hd:d.isRow=true) (hi:(Tryz.prog.info? t).map (·.size)=some cs.length) (hgd:op.guard=none) (x:Operand) (ho:op.op= .load t x) (hx:a.eval x= .pointer (some ⟨g,0,none⟩))
 (k:wpList Tryz.prog ops Q rest (a.put op.dst (.agg cs.toArray)) W):wpList Tryz.prog ops Q (op::rest) a W:=
 wpList_load_mid hgd t x ho g 0 hx cs d h.range hu hd hi k
theorem jD {cs vs:List Value} {n:Nat} (h:cs.length=n) (h':vs.length=cs.length):vs.toArray.size=n:=by simp [h,h']
theorem zB (h:Held W g cs t) (vs:List Value) (hl:vs.length=cs.length) (hi:(Tryz.prog.info? t).map (·.size)=some cs.length) (h1:∀ v∈vs,v.oneCell'=true) (hgd:op.guard=none) (x y:Operand) (ho:op.op= .store t x y)
 (hx:a.eval x= .pointer (some ⟨g,0,none⟩)) (hy:a.eval y= .agg vs.toArray)
 (k:wpList Tryz.prog ops Q rest (a.put op.dst undef) (W.setCells g 0 vs)):wpList Tryz.prog ops Q (op::rest) a W:=
 wpList_store_mid hgd t x y ho g 0 vs.toArray hx hy (by rw [jD rfl hl];exact h.there) (by rw [jD rfl hl];exact hi) (all_oneCell_toArray h1) (by rw [List.toList_toArray];exact k)
def vN (P:Program) (ops:Array Oper) (Q:Exit→Act→World→Prop) (op:Oper) (rest:List Oper) (a:Act) (W:World):Prop:=wpList P ops Q (op::rest) a W
theorem aN (t:TypeId) (x:Operand) (_:op.op= .load t x) (h:vN Tryz.prog ops Q op rest a W):wpList Tryz.prog ops Q (op::rest) a W:=h
theorem aO (t:TypeId) (x y:Operand) (_:op.op= .store t x y) (h:vN Tryz.prog ops Q op rest a W):wpList Tryz.prog ops Q (op::rest) a W:=h
theorem aG (h:Held W g cs t) (hu:Tryz.prog.underlying t=some d) (hd:d.isRow=true) (hi:(Tryz.prog.info? t).map (·.size)=some cs.length) (hgd:op.guard=none) (x:Operand) (ho:op.op= .load t x) (hx:a.eval x= .pointer (some ⟨g,0,none⟩))
 (k:wpList Tryz.prog ops Q rest (a.put op.dst (.agg cs.toArray)) W):vN Tryz.prog ops Q op rest a W:=Bv h hu hd hi hgd x ho hx k
theorem aF (h:Held W g cs t) (vs:List Value) (hl:vs.length=cs.length) (hi:(Tryz.prog.info? t).map (·.size)=some cs.length) (h1:∀ v∈vs,v.oneCell'=true) (hgd:op.guard=none) (x y:Operand) (ho:op.op= .store t x y)
 (hx:a.eval x= .pointer (some ⟨g,0,none⟩)) (hy:a.eval y= .agg vs.toArray)
 (k:wpList Tryz.prog ops Q rest (a.put op.dst undef) (W.setCells g 0 vs)):vN Tryz.prog ops Q op rest a W:=zB h vs hl hi h1 hgd x y ho hx hy k
theorem su (h:Held W g cs t) (hu:Tryz.prog.underlying t=some d) (hd:d.isRow=true) (hi:(Tryz.prog.info? t).map (·.size)=some cs.length) (hw:Region.wanted op (yielded ops a.tmps)=true) (x:Operand) (ho:op.op= .load t x) (hx:a.eval x= .pointer (some ⟨g,0,none⟩))
 (k:wpList Tryz.prog ops Q rest (a.put op.dst (.agg cs.toArray)) W):vN Tryz.prog ops Q op rest a W:=
 BigFrame.wpList_want hw fun _ hK=>wp_load_mid t x ho g 0 hx cs d h.range hu hd hi (hK _ _ k)
def JI (P:Program) (Q:Exit→Act→World→Prop) (op:Oper) (K:Act→World→Prop) (a:Act) (W:World):Prop:=op.wp P a W K Q
theorem vg {K:Act→World→Prop} (t:TypeId) (x:Operand) (_:op.op= .load t x) (h:JI Tryz.prog Q op K a W):op.wp Tryz.prog a W K Q:=h
theorem sD {K:Act→World→Prop} (h:Held W g cs t) (hu:Tryz.prog.underlying t=some d) (hd:d.isRow=true) (hi:(Tryz.prog.info? t).map (·.size)=some cs.length) (x:Operand) (ho:op.op= .load t x) (hx:a.eval x= .pointer (some ⟨g,0,none⟩))
 (k:K (a.put op.dst (.agg cs.toArray)) W):JI Tryz.prog Q op K a W:=wp_load_mid t x ho g 0 hx cs d h.range hu hd hi k
theorem bP {fn:Func} {p:Tmp} (h:Held W g cs t) (hu:Tryz.prog.underlying t=some d) (hd:d.isRow=true) (hi:(Tryz.prog.info? t).map (·.size)=some cs.length) (hr:fn.results= #[.cell p t]) (tmps:Array Value) (hp:tmps.getD p undef= .pointer (some ⟨g,0,none⟩)):
 (results fn tmps).run Tryz.prog W= .ok (.agg cs.toArray) W:=
 results_cell_row hr tmps W g t cs.toArray (0,0) d hp h hu (by cases d <;> first | rfl | cases hd) (by rw [jD rfl rfl];exact hi)
end
structure iT (D:Nat) (W W':World):Prop where
 sz:W.heap.size≤W'.heap.size
 block:∀ b,D≤b→b<W.heap.size→W'.heap[b]? =W.heap[b]?
section
variable {D:Nat} {W W' W2:World} {S:Nat→Prop} {size n c:Nat} {A:Option Addr} {xs:List Value}
theorem iT.refl (D:Nat) (W:World):iT D W W:=⟨Nat.le_refl _,fun _ _ _=>rfl⟩
theorem iT.trans (h:iT D W W') (k:iT D W' W2):iT D W W2:=⟨Nat.le_trans h.sz k.sz,fun b hb hl=>(k.block b hb (Nat.lt_of_lt_of_le hl h.sz)).trans (h.block b hb hl)⟩
theorem iT.setCell (h:iT D W W') {g:Nat} (hg:g<D) (o:Nat) (v:Value):iT D W (W'.setCell ⟨g,o,none⟩ v):=
 h.trans ⟨by simp [World.setCell],fun b hb _=>Below.heap_setCell _ _ _ b (by show b≠g;omega)⟩
theorem iT.setCells {g:Nat} (hg:g<D):∀ (vs:List Value) (o:Nat) (W':World),iT D W W'→iT D W (W'.setCells g o vs)
 | [],_,_,h=>h
 | v::r,o,W',h=>iT.setCells hg r (o+1) _ (h.setCell hg o v)
theorem iT.call (h:iT D W W') (hb:Below W'.heap.size W' W2):iT D W W2:=h.trans ⟨hb.size,fun b _ hl=>hb.block b hl⟩
theorem iT.drew (h:iT D W W'):iT D W W'.drew:=⟨h.sz,h.block⟩
theorem Reads.above (h:Reads W S size A n c xs) (hS:∀ b,S b→D≤b) (ha:iT D W W'):Reads W' S size A n c xs:=
 h.keep ha.sz fun b o hb hl=>World.cell?_of_block (ha.block b (hS b hb) hl)
theorem bD.above {zs:List Int} (h:bD W S A c zs) (hS:∀ b,S b→D≤b) (ha:iT D W W'):bD W' S A c zs:=Reads.above h hS ha
end
def aK:List Value:=[.string ⟨#[]⟩,.int .i64 0,.int .i64 0,.int .i64 0,.bool false,.bool false,.bool false,.bool false,.int .i64 0,.slice none 0 0,.int .i64 0,.int .i64 0,.int .i64 0,.int .i64 0,.int .i64 0,.int .i64 0,.bool false,.int .i64 0]
theorem aX (r:M.Rules) (s:M.State) (A:Option Addr) (c:Nat):∀ v∈ah r s A c,v.oneCell'=true:=by simp [ah,Value.oneCell']
theorem ak:(Tryz.prog.info? 127).map (·.size)=some 18:=by kernel_rfl
theorem aV:(Tryz.prog.info? 66).map (·.size)=some 7:=by kernel_rfl
theorem bW:(Tryz.prog.info? 33).map (·.size)=some 15:=by kernel_rfl
theorem bJ (k:ByteArray) (l:List UInt8):(k.toList == l)=decide (k=⟨l.toArray⟩):=by
 rw [Bool.eq_iff_iff,beq_iff_eq,decide_eq_true_eq]
 exact ⟨fun e=>lg (by rw [e,ByteArray.toList_eq]),fun e=>by subst e;rw [ByteArray.toList_eq]⟩
theorem jd (r:M.Rules) (s:M.State) (A:Option Addr) (c:Nat) (w:World) (h0:0≤s.turn) (h1:s.turn≤1):
 Calls Tryz.prog 143 #[dH r s A c] w fun e w'=>e= .returned (dH r {s with turn:=1 - s.turn,run:=0 } A c)∧Below w.heap.size w w':=by
 go_enter Tryz.func143,Tryz.ntmps143
 go_upto_region 2 with (fail)
 go_cut [] (fun wx=>bU w wx [(ah r ({s with turn:=1 - s.turn,run:=0 }) A c,127),(aK,127)])
 case first=>
  go_wp2
  go_meet
  exact (((bU.nil w).new (by simp) (ah r ({s with turn:=1 - s.turn,run:=0 }) A c) _).new (by simp) (aK) _)
 case rest=>
  have hB:=hcut
  go_wp2_with (first | (refine aN 127 (.tmp 1) rfl ?_;refine aG (hB.get 0 rfl) Tryz.underlying127 rfl ak rfl (.tmp 1) rfl rfl ?_) | (refine aO 127 (.tmp 2) (.tmp 11) rfl ?_;refine aF (hB.get 1 rfl) (ah r ({s with turn:=1 - s.turn,run:=0 }) A c) rfl ak (aX _ _ _ _) rfl (.tmp 2) (.tmp 11) rfl rfl rfl ?_))
  have hZ:=hB.put 1 rfl (ah r ({s with turn:=1 - s.turn,run:=0 }) A c) rfl
  exact bodyPost_ret (bP (p:=2) (hZ.get 1 rfl) Tryz.underlying127 rfl ak rfl _ rfl) rfl ⟨rfl,hZ.bw⟩
theorem uj (r:M.Rules) (s:M.State) (A:Option Addr) (c:Nat) (w:World) (h0:0≤s.aZ) (h1:s.aZ≤1000000):
 Calls Tryz.prog 166 #[dH r s A c] w fun e w'=>∃ A' c',e= .returned (dH r {s with ay:=M.jA r,aZ:=s.aZ+1 } A' c')∧bD w' (fun b=>w.heap.size≤b) A' c' (M.jA r)∧Below w.heap.size w w':=by
 go_enter Tryz.func166,Tryz.ntmps166
 go_upto_region 0 with (fail)
 go_cut [1,2] (fun v1 v2 wx=>v1=ptr w.heap.size∧v2=ptr (w.heap.size+1)∧bU w wx [(ah r (s) A c,127),(aK,127)])
 case first=>
  go_wp2
  go_meet
  exact ⟨rfl,rfl,(((bU.nil w).new (by simp) (ah r (s) A c) _).new (by simp) (aK) _)⟩
 case rest=>
  obtain ⟨rfl,rfl,hB⟩:=hcut
  have hF:=hB.bf rfl
  have k0:=hF.cell (j:=0) rfl
  have GL:=hF.frozen 0
  have k1:=hF.cell (j:=1) rfl
  have JE:=hF.frozen 1
  have k2:=hF.cell (j:=2) rfl
  have Pn:=hF.frozen 2
  have k9:=hF.cell (j:=9) rfl
  have Wx:=hF.frozen 9
  have k15:=hF.cell (j:=15) rfl
  have Ya:=hF.frozen 15
  go_wp2_with (first | (go_at_call 92;refine (zW r _).mono ?_;rintro e w1 ⟨A1,c1,rfl,hr1,hb1⟩;have hB1:=hB.call (by simp) hb1;have hF1:=hB1.bf rfl;have Y8:=hF1.cell (j:=15) rfl;have Yk:=hF1.frozen 15;have q9:=hF1.cell (j:=9) rfl;have Un:=hF1.frozen 9;have hB2:bU w ((w1.setCell ⟨w.heap.size,9,none⟩ (.slice A1 (M.jA r).length c1)).setCell ⟨w.heap.size,15,none⟩ (.int .i64 (s.aZ+1))) [(ah r ({s with ay:=M.jA r,aZ:=s.aZ+1 }) A1 c1,127),(aK,127)]:=((hB1.set 0 rfl 9 _).set 0 rfl 15 _)) | (refine aN 127 (.tmp 1) rfl ?_;refine aG (hB2.bf rfl) Tryz.underlying127 rfl ak rfl (.tmp 1) rfl rfl ?_) | (refine aO 127 (.tmp 2) (.tmp 14) rfl ?_;refine aF (hB2.get 1 rfl) (ah r ({s with ay:=M.jA r,aZ:=s.aZ+1 }) A1 c1) rfl ak (aX _ _ _ _) rfl (.tmp 2) (.tmp 14) rfl rfl rfl ?_))
  have hZ:=hB2.put 1 rfl (ah r ({s with ay:=M.jA r,aZ:=s.aZ+1 }) A1 c1) rfl
  refine bodyPost_ret (bP (p:=2) (hZ.get 1 rfl) Tryz.underlying127 rfl ak rfl _ rfl) rfl ⟨A1,c1,rfl,?_,hZ.bw⟩
  have hsz:=hB.size (by simp)
  simp only [List.length_cons,List.length_nil] at hsz
  exact (hr1.above (D:=w.heap.size+2) (fun b h=>Nat.le_trans hsz h) (iT.setCells (by omega) _ _ _ (((iT.refl _ _).setCell (by omega) _ _).setCell (by omega) _ _))).more (fun b _ h=>by omega)
theorem DZ (S:Nat→Prop) (A:Option Addr) (c:Nat) (l:List M.rD) (x:M.rD) (w:World) (h:jl w S A c l):
 Calls Tryz.prog 151 #[.slice A l.length c,.agg #[.int .i64 x.aJ,.int .i64 x.aP]] w fun e w'=>(∃ i:Int,e= .returned (.int .i64 i)∧decide (0≤i)=decide (x∈l))∧Below w.heap.size w w':=by
 obtain ⟨b1,b2,b3⟩:=h.bd
 rw [y9]
 obtain ⟨xb,xp⟩:=x
 go_enter Tryz.func151,Tryz.ntmps151
 go_wp2
 go_loopw [8] (fun i wr=>∃ k:Nat,k≤l.length∧i= .int .i64 k∧Aside ((l.take k).any (fun y=>decide (y=⟨xb,xp⟩))=false)∧Keeps w (w.alloc (.cells #[.int .i64 xb,.int .i64 xp] 107)) 1 wr) (fun i _=>l.length - (intOf i).toNat)
 case atStart=>exact ⟨0,Nat.zero_le _,rfl,by simp [Aside],Keeps.FT w _⟩
 case round=>
  obtain ⟨k,hk,rfl,hall,KR⟩:=hrel
  have hq0:wr.cell? ⟨w.heap.size,0,none⟩=some (.int .i64 xb):=(KR.cell _ _ (by omega)).trans ((Held.new w [.int .i64 xb,.int .i64 xp] _).cell (j:=0) rfl)
  have hq1:wr.cell? ⟨w.heap.size,1,none⟩=some (.int .i64 xp):=(KR.cell _ _ (by omega)).trans ((Held.new w [.int .i64 xb,.int .i64 xp] _).cell (j:=1) rfl)
  by_cases hlt:k<l.length
  · obtain ⟨b,o,rfl,_,hbl,hc⟩:=(jl.below h KR.bw).at_ k hlt
    obtain ⟨hck1,Fb⟩:=hc k hlt
    clear hc
    by_cases he:l[k]=⟨xb,xp⟩
    · have HP:=hide (qW (p:=fun y=>decide (y=(⟨xb,xp⟩:M.rD))) hlt (by simp [he]))
      have he1:(xb == l[k].aJ)=true:=by simp [he]
      have he2:(xp == l[k].aP)=true:=by simp [he]
      clear he
      go_wp2
      go_quiet (fail)
      go_wp2
      go_ret
      exact ⟨⟨k,rfl,by rw [HP.out];simp⟩,below_drewN KR.bw _⟩
    · have HP:=hide (l9 (p:=fun y=>decide (y=(⟨xb,xp⟩:M.rD))) hlt hall.out (by simp [he]))
      have he':((xb == l[k].aJ) && (xp == l[k].aP))=false:=by
       rw [Bool.eq_false_iff];intro hb;simp at hb;exact he (by rw [hb.1,hb.2])
      rcases hb1:(xb == l[k].aJ) with _ | _ <;> rcases hb2:(xp == l[k].aP) with _ | _ <;> rw [hb1,hb2] at he'
      all_goals first | (cases he';done) | skip
      all_goals
       clear he'
       have HE:=hide he
       clear he
       go_wp2
       go_quiet (fail)
       go_wp2
       go_roundw
       case rel=>exact ⟨k+1,by omega,by go_num,HP.out,KR.drewN _⟩
       case measure=>simp [intOf];omega
  · have HA:=hide (show l.any (fun y=>decide (y=(⟨xb,xp⟩:M.rD)))=false by have:=hall.out;rwa [List.take_of_length_le (by omega)] at this)
    go_wp2
    go_ret
    exact ⟨⟨-1,rfl,by rw [HA.out];rfl⟩,KR.bw⟩
theorem Ib (S:Nat→Prop) (A:Option Addr) (c:Nat) (l:List M.rD) (x:M.rD) (w:World) (h:jl w S A c l):
 Calls Tryz.prog 117 #[.slice A l.length c,.agg #[.int .i64 x.aJ,.int .i64 x.aP]] w fun e w'=>e= .returned (.bool (decide (x∈l)))∧Below w.heap.size w w':=by
 have hx:=fun W hw=>DZ S A c l x W hw
 obtain ⟨xb,xp⟩:=x
 have K0:Keeps w (w.alloc (.cells #[.int .i64 xb,.int .i64 xp] 107)) 1 (w.alloc (.cells #[.int .i64 xb,.int .i64 xp] 107)):=Keeps.FT w _
 go_enter Tryz.func117,Tryz.ntmps117
 go_wp2_with (go_at_call 151;refine (hx _ (h.below K0.bw)).mono ?_;rintro e w2 ⟨⟨i,rfl,hi⟩,hb2⟩)
 go_ret
 exact ⟨rfl,(K0.call hb2).bw⟩
def spot (g k:ByteArray) (aJ:Int) (good:Bool):Bool:=if g=M.aQ then decide (aJ=8∧k=M.dh) else if g=M.bM then decide (aJ=9∧good=false) else !good
theorem EC (r:M.Rules) (s:M.State) (x:M.aI) (A P:Option Addr) (c d:Nat) (aJ:Int) (gd:Bool) (w:World):
 Calls Tryz.prog 182 #[dH r s A c,iO x P d,.int .i64 aJ,.bool gd] w fun e w'=>e= .returned (.bool (spot r.game x.kind aJ gd))∧Below w.heap.size w w':=by
 obtain ⟨g,tg,fo⟩:=r
 obtain ⟨a0,a1,a2,a3,a4,gr,bl,b0,b1,b2,b3,b4,b5,b6,b7⟩:=s
 obtain ⟨pl,kd,ba,po,fi,cu,aA⟩:=x
 simp only
 have e1:(g.toList == [101,105,103,104,116])=decide (g=M.aQ):=bJ g [101,105,103,104,116]
 have e2:(g.toList == [110,105,110,101])=decide (g=M.bM):=bJ g [110,105,110,101]
 have e3:(kd.toList == [98,114,101,97,107])=decide (kd=M.dh):=bJ kd [98,114,101,97,107]
 have hs:spot g kd aJ gd=if (g.toList == [101,105,103,104,116])=true then ((aJ == 8) && (kd.toList == [98,114,101,97,107])) else if (g.toList == [110,105,110,101])=true then ((aJ == 9) && !gd) else !gd:=by
  rw [e1,e2,e3]
  unfold spot
  by_cases h1:g=M.aQ
  · simp [h1,rO]
  · by_cases h2:g=M.bM
    · simp [h2,rO]
    · simp [h1,h2]
 rw [hs]
 clear hs e1 e2 e3
 rcases Bool.eq_false_or_eq_true (g.toList == [101,105,103,104,116]) with y1 | y1
 · rcases Bool.eq_false_or_eq_true (aJ == 8) with y2 | y2
   all_goals
    rw [y1,y2]
    go_enter Tryz.func182,Tryz.ntmps182
    go_wp2
    go_ret
    exact ⟨rfl,((Below.refl _ _).alloc (Nat.le_refl _) _).alloc (by simp) _⟩
 · rcases Bool.eq_false_or_eq_true (g.toList == [110,105,110,101]) with y3 | y3
   · rcases Bool.eq_false_or_eq_true (aJ == 9) with y2 | y2
     all_goals
      rw [y1,y3,y2]
      go_enter Tryz.func182,Tryz.ntmps182
      go_wp2
      go_ret
      exact ⟨rfl,((Below.refl _ _).alloc (Nat.le_refl _) _).alloc (by simp) _⟩
   · rw [y1,y3]
     go_enter Tryz.func182,Tryz.ntmps182
     go_wp2
     go_ret
     exact ⟨rfl,((Below.refl _ _).alloc (Nat.le_refl _) _).alloc (by simp) _⟩
theorem zo (S:Nat→Prop) (r:M.Rules) (s:M.State) (x:M.aI) (A P:Option Addr) (c d:Nat) (w:World) (hp:bD w S A c s.ay) (hpp:jl w S P d x.aA) (hx:vM x) (hpos:∀ p∈x.aA,0≤p.aJ) (hr:M.aH r=0) (hg:0≤s.group∧s.group≤2):
 Calls Tryz.prog 69 #[dH r s A c,iO x P d] w fun e w'=>e= .returned (.bool (M.good r s x))∧Below w.heap.size w w':=by
 have hF:=fun W h h'=>wO S r s x A P c d W h h' hx hpos hr hg
 have hgs:=M.Bj r s x
 generalize M.iW r s x=fl at hF hgs
 generalize M.good r s x=gd at hgs ⊢
 have HF:=hide hF
 have HG:=hide hgs
 clear hF hgs
 go_enter Tryz.func69,Tryz.ntmps69
 go_upto_region 0 with (fail)
 go_cut [2,3] (fun v2 v3 wx=>v2=ptr w.heap.size∧v3=ptr (w.heap.size+1)∧bU w wx [(ah r (s) A c,127),(au ⟨x,P,d⟩,66)])
 case first=>
  go_wp2
  go_meet
  exact ⟨rfl,rfl,(((bU.nil w).new (by simp) (ah r (s) A c) _).new (by simp) (au ⟨x,P,d⟩) _)⟩
 case rest=>
  obtain ⟨rfl,rfl,hB⟩:=hcut
  go_upto_region 1 with (fail)
  go_cut [5] (fun v wx=>v= .bool (decide (fl=0∧0<(M.objects x).length))∧bU w wx [(ah r (s) A c,127),(au ⟨x,P,d⟩,66)])
  case first=>
   rcases Bool.eq_false_or_eq_true (fl == 0) with z1 | z1
   · by_cases z2:0<(M.objects x).length
     all_goals
      go_wp2_with (first | (refine aN 127 (.tmp 2) rfl ?_;refine aG (hB.bf rfl) Tryz.underlying127 rfl ak rfl (.tmp 2) rfl rfl ?_) | (refine aN 66 (.tmp 3) rfl ?_;refine aG (hB1.get 1 rfl) Tryz.underlying66 rfl aV rfl (.tmp 3) rfl rfl ?_) | (refine aN 66 (.tmp 3) rfl ?_;refine su (hB1.get 1 rfl) Tryz.underlying66 rfl aV rfl (.tmp 3) rfl rfl ?_) | (refine vg 66 (.tmp 3) rfl ?_;refine sD (hB1.get 1 rfl) Tryz.underlying66 rfl aV (.tmp 3) rfl rfl ?_) | (refine aN 66 (.tmp 3) rfl ?_;refine aG (hB.get 1 rfl) Tryz.underlying66 rfl aV rfl (.tmp 3) rfl rfl ?_) | (go_at_call 66;refine (HF.out _ (hp.below hB.bw) (hpp.below hB.bw)).mono ?_;rintro e w1 ⟨rfl,hb1⟩;have hB1:=hB.call (by simp) hb1) | (go_at_call 70;refine (jC S x P d _ (hpp.below hB1.bw) hpos).mono ?_;rintro e w2 ⟨A1,c1,rfl,hr1,hb2⟩;have hB2:=hB1.call (by simp) hb2))
      go_meet
      exact ⟨by simp only [beq_iff_eq] at z1;simp [z1,z2],hB2⟩
   · go_wp2_with (first | (refine aN 127 (.tmp 2) rfl ?_;refine aG (hB.bf rfl) Tryz.underlying127 rfl ak rfl (.tmp 2) rfl rfl ?_) | (refine aN 66 (.tmp 3) rfl ?_;refine aG (hB.get 1 rfl) Tryz.underlying66 rfl aV rfl (.tmp 3) rfl rfl ?_) | (go_at_call 66;refine (HF.out _ (hp.below hB.bw) (hpp.below hB.bw)).mono ?_;rintro e w1 ⟨rfl,hb1⟩;have hB1:=hB.call (by simp) hb1))
     go_meet
     exact ⟨by rw [beq_eq_false_iff_ne] at z1;simp [z1],hB1⟩
  case rest=>
   obtain ⟨rfl,hC⟩:=hcut
   clear hB
   obtain ⟨so,hso⟩:∃ b,(decide (fl=0∧0<(M.objects x).length))=b:=⟨_,rfl⟩
   rw [hso]
   have HS:=hide hso
   clear hso
   have Du:=hC.bf rfl
   have yF:=hC.get 1 rfl
   have k0:=Du.cell (j:=0) rfl
   have GL:=Du.frozen 0
   have x1:=yF.cell (j:=1) rfl
   have xf1:=yF.frozen 1
   have x2:=yF.cell (j:=2) rfl
   have Yu:=yF.frozen 2
   have x3:=yF.cell (j:=3) rfl
   have Y9:=yF.frozen 3
   have x6:=yF.cell (j:=6) rfl
   have Za:=yF.frozen 6
   have hgd:∀ (b1 b2 b3 b4:Bool),b1=(x.kind.toList == [98,114,101,97,107])→b2=(x.kind.toList == [112,108,97,121])→b3=(r.game.toList == [115,116,114,97,105,103,104,116])→b4=(r.game.toList == [110,105,110,101])→
    gd=if b1 then (so && !b3) else if !b2 then false else if b4 then so else (so && decide ((⟨x.aJ,x.aP⟩:M.rD)∈x.aA)):=by
    have g1:=HG.out
    have g2:=HS.out
    rintro b1 b2 b3 b4 rfl rfl rfl rfl
    rw [bJ x.kind [98,114,101,97,107],bJ x.kind [112,108,97,121],bJ r.game [115,116,114,97,105,103,104,116],bJ r.game [110,105,110,101],g1, ← g2]
    by_cases h1:x.kind=M.dh
    · simp [h1,Bool.decide_and,Bool.and_assoc]
    · by_cases h2:x.kind=M.jO
      · by_cases h4:r.game=M.bM <;> simp [h2,h4,M.yG,Bool.decide_and,Bool.and_assoc]
      · simp [h1,h2]
   have JG:=hide hgd
   clear hgd
   rcases hb1:(x.kind.toList == [98,114,101,97,107]) with _ | _
   · rcases hb2:(x.kind.toList == [112,108,97,121]) with _ | _
     · have hn:(x.kind.toList != [112,108,97,121])=true:=by simp [bne,hb2]
       go_wp2
       go_ret
       exact ⟨bZ (by rw [JG.out _ _ _ _ hb1.symm hb2.symm rfl rfl];rfl),hC.bw⟩
     · have hn:(x.kind.toList != [112,108,97,121])=false:=by simp [bne,hb2]
       rcases hb4:(r.game.toList == [110,105,110,101]) with _ | _
       · cases so with
         | true=>
           go_wp2_with (go_at_call 117;refine (Ib S P d x.aA ⟨x.aJ,x.aP⟩ _ (hpp.below hC.bw)).mono ?_;rintro e w3 ⟨rfl,hb3⟩;have Xu:=hC.call (by simp) hb3)
           go_ret
           exact ⟨bZ (by rw [JG.out _ _ _ _ hb1.symm hb2.symm rfl hb4.symm];simp),Xu.bw⟩
         | false=>
           go_wp2
           go_ret
           exact ⟨bZ (by rw [JG.out _ _ _ _ hb1.symm hb2.symm rfl hb4.symm];simp),hC.bw⟩
       · go_wp2
         go_ret
         exact ⟨bZ (by rw [JG.out _ _ _ _ hb1.symm hb2.symm rfl hb4.symm];simp),hC.bw⟩
   · rcases hb3:(r.game.toList == [115,116,114,97,105,103,104,116]) with _ | _
     all_goals
      have hn:(r.game.toList != [115,116,114,97,105,103,104,116])= !(r.game.toList == [115,116,114,97,105,103,104,116]):=rfl
      rw [hb3] at hn
      cases so
      all_goals
       go_wp2
       go_ret
       exact ⟨bZ (by rw [JG.out _ _ _ _ hb1.symm rfl hb3.symm rfl];rfl),hC.bw⟩
def jB (r:M.Rules) (x:M.aI) (gd:Bool) (b:Int):Bool:= !(decide (b∈M.objects x)) || spot r.game x.kind b gd
theorem DR {p:Int→Bool} {l:List Int} {k:Nat} (hk:k<l.length):(l.take (k+1)).filter p=(l.take k).filter p++if p l[k]=true then [l[k]] else []:=by
 rw [List.take_succ_eq_append_getElem hk,List.filter_append]
 cases h:p l[k] <;> simp [h]
theorem Bz {r:M.Rules} {s:M.State} {x:M.aI} (hr:M.aH r=0):M.left r s x=s.ay.filter (jB r x (M.good r s x)):=by
 unfold M.left
 congr 1
 funext b
 unfold M.stays jB spot
 rcases M.um hr with h | h | h
 · have h1:¬ M.aB=M.aQ:=by decide
   have h2:¬ M.aB=M.bM:=by decide
   rw [h];simp [h1,h2]
 · have h1:¬ M.aQ=M.aB:=by decide
   have h2:¬ M.aQ=M.bM:=by decide
   rw [h];simp [h1,h2]
 · have h1:¬ M.bM=M.aB:=by decide
   have h2:¬ M.bM=M.aQ:=by decide
   rw [h];simp [h1,h2]
theorem Ef (S:Nat→Prop) (r:M.Rules) (s:M.State) (x:M.aI) (A P:Option Addr) (c d:Nat) (gd:Bool) (w:World) (hp:bD w S A c s.ay) (hpp:jl w S P d x.aA) (hpos:∀ p∈x.aA,0≤p.aJ):
 Calls Tryz.prog 163 #[dH r s A c,iO x P d,.bool gd] w fun e w'=>∃ A' c',e= .returned (.slice A' (s.ay.filter (jB r x gd)).length c')∧bD w' (fun b=>w.heap.size≤b) A' c' (s.ay.filter (jB r x gd))∧Below w.heap.size w w':=by
 obtain ⟨i0,hi,hz0,hz1,hz2⟩:=info_parts uN
 obtain ⟨e1,e2,e3⟩:=hp.bd
 go_enter Tryz.func163,Tryz.ntmps163
 go_upto_region 0 with (fail)
 go_cut [3,4] (fun v2 v3 wx=>v2=ptr w.heap.size∧v3=ptr (w.heap.size+1)∧bU w wx [(ah r (s) A c,127),(au ⟨x,P,d⟩,66)])
 case first=>
  go_wp2
  go_meet
  exact ⟨rfl,rfl,(((bU.nil w).new (by simp) (ah r (s) A c) _).new (by simp) (au ⟨x,P,d⟩) _)⟩
 case rest=>
  obtain ⟨rfl,rfl,hB⟩:=hcut
  go_upto_region 1 with (fail)
  go_cut [7] (fun v wx=>∃ A1 c1,v= .slice A1 (M.objects x).length c1∧bD wx (fun b=>w.heap.size≤b) A1 c1 (M.objects x)∧bU w wx [(ah r (s) A c,127),(au ⟨x,P,d⟩,66)])
  case first=>
   go_wp2_with (first | (refine aN 66 (.tmp 4) rfl ?_;refine aG (hB.get 1 rfl) Tryz.underlying66 rfl aV rfl (.tmp 4) rfl rfl ?_) | (go_at_call 70;refine (jC S x P d _ (hpp.below hB.bw) hpos).mono ?_;rintro e w2 ⟨A1,c1,rfl,hr1,hb2⟩;have hB2:=hB.call (by simp) hb2))
   go_meet
   exact ⟨A1,c1,rfl,hr1.more (fun b _ h=>Nat.le_trans hB.bw.size h),hB2⟩
  case rest=>
   obtain ⟨A1,c1,rfl,hr1,hC⟩:=hcut
   rename World=>W0
   clear hB
   have Du:=hC.bf rfl
   have k9:=Du.cell (j:=9) rfl
   have xA:=hC.size (by simp)
   simp only [List.length_cons,List.length_nil] at xA
   go_wp2
   go_loopw [8,17] (fun v i wr=>∃ k:Nat,k≤s.ay.length∧i= .int .i64 k∧(∃ A c,v= .slice A ((s.ay.take k).filter (jB r x gd)).length c)∧wr.ownsRow W0.heap.size 3 1 v ((s.ay.take k).filter (jB r x gd)).length (((s.ay.take k).filter (jB r x gd)).map (Value.int .i64))∧Aside (Below W0.heap.size W0 wr))
    (fun _ i _=>s.ay.length - (intOf i).toNat)
   case atStart=>exact ⟨0,Nat.zero_le _,rfl,⟨_,_,rfl⟩,World.ownsRow_nil _ _ _ _,Below.refl _ _⟩
   case round=>
    obtain ⟨k,hk,rfl,⟨A2,c2,rfl⟩,hown,hbR⟩:=hrel
    have hR:=hC.call (by simp) hbR.out
    have hgR:=hr1.below hbR.out
    by_cases hlt:k<s.ay.length
    · obtain ⟨b,o,rfl,_,hbl,hc⟩:=(hp.below hR.bw).at_ k hlt
      have hck:=hc k hlt
      clear hc
      have hs:=DR (p:=(jB r x gd)) hlt
      have hle:=List.length_filter_le (jB r x gd) (s.ay.take k)
      rw [List.length_take] at hle
      have HS:=hide hs
      clear hs
      go_upto_region 6 with (fail)
      go_cut [31] from 21 to 31 (fun v wx=>v= .bool ((jB r x gd) s.ay[k])∧wx.ownsRow W0.heap.size 3 1 (.slice A2 ((s.ay.take k).filter (jB r x gd)).length c2) ((s.ay.take k).filter (jB r x gd)).length (((s.ay.take k).filter (jB r x gd)).map (Value.int .i64))∧Below wr.heap.size wr wx)
      case first=>
       rcases hm:decide (s.ay[k]∈M.objects x) with _ | _
       · go_wp2_with (go_at_call 95;refine (iZ _ A1 c1 (M.objects x) _ _ hgR).mono ?_;rintro e dO ⟨rfl,rfl⟩)
         go_meet
         exact ⟨by unfold jB;rw [hm];rfl,hown,Below.refl _ _⟩
       · go_wp2_with (first | (refine aN 127 (.tmp 3) rfl ?_;refine aG (hR.bf rfl) Tryz.underlying127 rfl ak rfl (.tmp 3) rfl rfl ?_) | (refine aN 127 (.tmp 3) rfl ?_;refine su (hR.bf rfl) Tryz.underlying127 rfl ak rfl (.tmp 3) rfl rfl ?_) | (refine vg 127 (.tmp 3) rfl ?_;refine sD (hR.bf rfl) Tryz.underlying127 rfl ak (.tmp 3) rfl rfl ?_) | (refine aN 66 (.tmp 4) rfl ?_;refine aG (hR.get 1 rfl) Tryz.underlying66 rfl aV rfl (.tmp 4) rfl rfl ?_) | (refine aN 66 (.tmp 4) rfl ?_;refine su (hR.get 1 rfl) Tryz.underlying66 rfl aV rfl (.tmp 4) rfl rfl ?_) | (refine vg 66 (.tmp 4) rfl ?_;refine sD (hR.get 1 rfl) Tryz.underlying66 rfl aV (.tmp 4) rfl rfl ?_) | (go_at_call 95;refine (iZ _ A1 c1 (M.objects x) _ _ hgR).mono ?_;rintro e dO ⟨rfl,rfl⟩) | (go_at_call 182;refine (EC r s x _ P _ d _ gd _).mono ?_;rintro e w3 ⟨rfl,hb3⟩))
         go_meet
         exact ⟨by unfold jB;rw [hm];rfl,zM hown hb3,hb3⟩
      case rest=>
       obtain ⟨rfl,uz,XL⟩:=hcut
       have H7:=hbR.out.trans (XL.mono hbR.out.size)
       have hsz1:=H7.size
       clear hown
       cases hy:(jB r x gd) s.ay[k] with
       | true=>
         have hsn:(s.ay.take (k+1)).filter (jB r x gd)=(s.ay.take k).filter (jB r x gd)++[s.ay[k]]:=by rw [HS.out,hy];rfl
         have HN:=hide hsn
         clear hsn
         go_wp2_with (at_builtin;refine wpList_append_lies _ rfl _ _ _ rfl (W0.heap.size) 3 i0 (.int .i64 0) 1 8 Tryz.underlying30 hi hz0 hz1 hz2 rfl (by omega) _ _ _ rfl (uz.alloc _) ⟨wc.heap.size,0,none⟩ 1 1 [.int .i64 s.ay[k]] rfl rfl (dK _ _ _ _ (by simp)) ?c1 (by omega) ?c2 ?c3 ?c4 (wc.heap.size+1) (by simp) ?_)
         case c1=>simp [Value.oneCell']
         case c2=>simp only [maxLen];omega
         case c3=>omega
         case c4=>first | omega | (simp;omega)
         intro g1 cap w1 hown1 hgrow _ _
         have hbd:=dX (B:=W0.heap.size) (uz.alloc _) hgrow (by omega) (by simp;omega)
         have hb1:=((Below.refl W0.heap.size wc).alloc (by omega) _).trans hbd
         have hown2:w1.ownsRow W0.heap.size 3 1 (.slice (some ⟨g1,0,none⟩) ((s.ay.take (k+1)).filter (jB r x gd)).length cap) ((s.ay.take (k+1)).filter (jB r x gd)).length (((s.ay.take (k+1)).filter (jB r x gd)).map (Value.int .i64)):=by rw [HN.out];simpa using hown1
         have hv:((s.ay.take k).filter (jB r x gd)).length+1=((s.ay.take (k+1)).filter (jB r x gd)).length:=by rw [HN.out];simp
         rw [hv]
         have hbw2:=H7.trans hb1
         clear uz hown1 hgrow hbd hb1 hv
         go_wp2
         go_roundw
         case rel=>exact ⟨k+1,by omega,by go_num,⟨_,_,rfl⟩,hown2,hbw2⟩
         case measure=>simp [intOf];omega
       | false=>
         have hsn:(s.ay.take (k+1)).filter (jB r x gd)=(s.ay.take k).filter (jB r x gd):=by rw [HS.out,hy];simp
         have HN:=hide hsn
         clear hsn
         go_wp2
         go_roundw
         case rel=>exact ⟨k+1,by omega,by go_num,by rw [HN.out];exact ⟨⟨_,_,rfl⟩,uz,H7⟩⟩
         case measure=>simp [intOf];omega
    · obtain rfl:k=s.ay.length:=by omega
      rw [List.take_length] at hown
      go_wp2
      go_ret
      rw [List.take_length]
      exact ⟨A2,c2,rfl,(Reads.kG hown (fun b h=>by omega) (by have:=List.length_filter_le (jB r x gd) s.ay;omega)),hR.bw⟩
theorem EZ (S:Nat→Prop) (A B:Option Addr) (c d:Nat) (xs ys:List Int) (w:World) (hx:bD w S A c xs) (hy:bD w S B d ys):
 Calls Tryz.prog 147 #[.slice A xs.length c,.slice B ys.length d] w fun r w'=>r= .returned (.bool (decide (xs=ys)))∧∃ n,w'=w.drewN n:=by
 obtain ⟨b1,b2,b3⟩:=hx.bd
 obtain ⟨b4,b5,b6⟩:=hy.bd
 by_cases hl:xs.length=ys.length
 · have hl1:((xs.length:Int) != (ys.length:Int))=false:=by rw [hl];simp
   have HL:=hide hl
   clear hl
   go_enter Tryz.func147,Tryz.ntmps147
   go_wp2
   go_loopw [13] (fun i wr=>∃ k n:Nat,k≤xs.length∧i= .int .i64 k∧xs.take k=ys.take k∧wr=w.drewN n) (fun i _=>xs.length - (intOf i).toNat)
   case atStart=>exact ⟨0,0,Nat.zero_le _,rfl,by simp,rfl⟩
   case round=>
    obtain ⟨k,n,hk,rfl,hx1,rfl⟩:=hrel
    by_cases hlt:k<xs.length
    · have hlt2:k<ys.length:=by have:=HL.out;omega
      obtain ⟨b,o,rfl,_,_,hc⟩:=hx.at_ k hlt
      obtain ⟨b',o',rfl,_,_,hc'⟩:=hy.at_ k hlt2
      have h1:=hc k hlt
      have h2:=hc' k hlt2
      clear hc hc'
      have i1:(0:Int)≤(k:Int):=by omega
      have i2:(k:Int)<(xs.length:Int):=by omega
      have i3:(k:Int)<(ys.length:Int):=by omega
      by_cases he:xs[k]=ys[k]
      · have he1:(xs[k] != ys[k])=false:=by simp [he]
        have HE:=hide he
        have HX:=hide hx1
        clear he hx1
        go_wp2
        go_quiet (fail)
        go_wp2
        go_roundw
        case rel=>exact ⟨k+1,_,by omega,by go_num,wV hlt hlt2 HX.out HE.out,rfl⟩
        case measure=>simp [intOf];omega
      · have he1:(xs[k] != ys[k])=true:=by simp [he]
        go_wp2
        go_quiet (fail)
        go_wp2
        go_ret
        exact ⟨bZ (by simp [BA hlt hlt2 he]),_,World.drewN_drewN _ _ _⟩
    · go_wp2
      go_ret
      rw [List.take_of_length_le (by omega),List.take_of_length_le (by have:=HL.out;omega)] at hx1
      exact ⟨bZ (by simp [hx1]),n,rfl⟩
 · have hl1:((xs.length:Int) != (ys.length:Int))=true:=by simp;omega
   go_enter Tryz.func147,Tryz.ntmps147
   go_wp2
   go_ret
   exact ⟨bZ (by simp;intro e;exact hl (by rw [e])),0,rfl⟩
def Ae (r:M.Rules) (s:M.State) (x:M.aI) (gd:Bool) (sc:Int):Int × Bool:=
 if r.game=M.aB then (x.aC,gd && decide (r.target≤sc))
 else if r.game=M.bM then (x.aC,gd && decide ((9:Int)∈M.objects x))
 else if x.kind=M.dh∨(8:Int) ∉ M.objects x then (0,false)
 else if gd=true∧x.aJ=8∧M.targets r s=[8] then (x.aC,true) else (1 - x.aC,true)
theorem J7 {w:World} {Bx:Nat} {x:M.aI} {P:Option Addr} {d:Nat} {S:Nat→Prop} (hx:Held w Bx (au ⟨x,P,d⟩) 66) (hpp:jl w S P d x.aA) (hpos:∀ p∈x.aA,0≤p.aJ) (b:Int) (W:World) (hb:Below w.heap.size w W):
 Calls Tryz.prog 183 #[.int .i64 b,ptr Bx] W fun e w'=>e= .returned (.bool (decide (b∈M.objects x)))∧Below W.heap.size W w':=by
 have hX:=hx.below hb
 go_enter Tryz.func183,Tryz.ntmps183
 go_wp2_with (first | (refine aN 66 (.tmp 1) rfl ?_;refine aG (hX) Tryz.underlying66 rfl aV rfl (.tmp 1) rfl rfl ?_) | (go_at_call 70;refine (jC S x P d _ (hpp.below hb) hpos).mono ?_;rintro e w1 ⟨A1,c1,rfl,hr1,hb1⟩) | (go_at_call 95;refine (iZ _ A1 c1 (M.objects x) _ _ hr1).mono ?_;rintro e dO ⟨rfl,rfl⟩))
 go_ret
 exact ⟨rfl,hb1⟩
theorem Af (S:Nat→Prop) (r:M.Rules) (s:M.State) (x:M.aI) (A P:Option Addr) (c d:Nat) (gd:Bool) (sc:Int) (w:World) (hp:bD w S A c s.ay) (hpp:jl w S P d x.aA) (hpos:∀ p∈x.aA,0≤p.aJ) (hr:M.aH r=0) (hg:0≤s.group∧s.group≤2) (h0:0≤x.aC) (h1:x.aC≤1):
 Calls Tryz.prog 164 #[dH r s A c,iO x P d,.bool gd,.int .i64 sc] w fun e w'=>e= .returned (.tuple #[.int .i64 (Ae r s x gd sc).1,.bool (Ae r s x gd sc).2])∧Below w.heap.size w w':=by
 go_enter Tryz.func164,Tryz.ntmps164
 go_upto_region 1 with (fail)
 go_cut [4,5,10] (fun v2 v3 v4 wx=>v2=ptr w.heap.size∧v3=ptr (w.heap.size+1)∧v4= .func (.func 183) #[] #[ptr (w.heap.size+1)]∧bU w wx [(ah r (s) A c,127),(au ⟨x,P,d⟩,66)])
 case first=>
  go_wp2
  go_meet
  exact ⟨rfl,rfl,rfl,(((bU.nil w).new (by simp) (ah r (s) A c) _).new (by simp) (au ⟨x,P,d⟩) _)⟩
 case rest=>
  obtain ⟨rfl,rfl,rfl,hB⟩:=hcut
  have hbD:=Below.refl wc.heap.size wc
  have hD:=fun b W h=>J7 (hB.get 1 rfl) (hpp.below hB.bw) hpos b W h
  have HD:=hide hD
  clear hD
  have Du:=hB.bf rfl
  have yF:=hB.get 1 rfl
  have k0:=Du.cell (j:=0) rfl
  have GL:=Du.frozen 0
  have k1:=Du.cell (j:=1) rfl
  have JE:=Du.frozen 1
  have x0:=yF.cell (j:=0) rfl
  have xf0:=yF.frozen 0
  have x1:=yF.cell (j:=1) rfl
  have xf1:=yF.frozen 1
  have x2:=yF.cell (j:=2) rfl
  have Yu:=yF.frozen 2
  have e1:=bJ r.game [115,116,114,97,105,103,104,116]
  have e2:=bJ r.game [110,105,110,101]
  have e3:=bJ x.kind [98,114,101,97,107]
  have hw:Ae r s x gd sc=if (r.game.toList == [115,116,114,97,105,103,104,116])=true then (x.aC,gd && decide (r.target≤sc)) else if (r.game.toList == [110,105,110,101])=true then (x.aC,gd && decide ((9:Int)∈M.objects x))
   else if ((x.kind.toList == [98,114,101,97,107]) || !decide ((8:Int)∈M.objects x))=true then (0,false) else if (gd && (decide (x.aJ=8) && decide (M.targets r s=[8])))=true then (x.aC,true) else (1 - x.aC,true):=by
   rw [e1,e2,e3]
   unfold Ae
   simp only [decide_eq_true_eq,Bool.or_eq_true,Bool.not_eq_true',decide_eq_false_iff_not,Bool.and_eq_true]
  have HW:=hide hw
  clear hw e1 e2 e3
  rcases hy1:(r.game.toList == [115,116,114,97,105,103,104,116]) with _ | _
  · rcases hy2:(r.game.toList == [110,105,110,101]) with _ | _
    · rcases hy3:(x.kind.toList == [98,114,101,97,107]) with _ | _
      · rcases hm:decide ((8:Int)∈M.objects x) with _ | _
        · go_wp2_with (first | (go_at_call 183;refine (HD.out _ _ hbD).mono ?_;rintro e w1 ⟨rfl,hb1⟩;have hB1:=hB.call (by simp) hb1))
          go_ret2
          exact ⟨by rw [HW.out,hy1,hy2,hy3,hm];rfl,hB1.bw⟩
        · rcases gd with _ | _
          · have hq:∀ p:Bool,(if (false && p)=true then ((x.aC,true):Int × Bool) else (1 - x.aC,true))=(1 - x.aC,true):=by intro p;rfl
            go_upto_region 8 with (first | (go_at_call 183;refine (HD.out _ _ hbD).mono ?_;rintro e w1 ⟨rfl,hb1⟩;have hB1:=hB.call (by simp) hb1))
            have hX1:=hB1.get 1 rfl
            have y0:=hX1.cell (j:=0) rfl
            have WM:=hX1.frozen 0
            have y2:=hX1.cell (j:=2) rfl
            have WO:=hX1.frozen 2
            go_wp2
            go_ret2
            exact ⟨by rw [HW.out,hy1,hy2,hy3,hm];rfl,hB1.bw⟩
          · rcases hy4:decide (x.aJ=8) with _ | _
            · have X5:(x.aJ == 8)=false:=by rw [rO,hy4]
              go_upto_region 8 with (first | (go_at_call 183;refine (HD.out _ _ hbD).mono ?_;rintro e w1 ⟨rfl,hb1⟩;have hB1:=hB.call (by simp) hb1))
              have hX1:=hB1.get 1 rfl
              have y0:=hX1.cell (j:=0) rfl
              have WM:=hX1.frozen 0
              have y2:=hX1.cell (j:=2) rfl
              have WO:=hX1.frozen 2
              go_wp2
              go_ret2
              exact ⟨by rw [HW.out,hy1,hy2,hy3,hm,hy4];rfl,hB1.bw⟩
            · have X5:(x.aJ == 8)=true:=by rw [rO,hy4]
              go_upto_region 8 with (first | (go_at_call 183;refine (HD.out _ _ hbD).mono ?_;rintro e w1 ⟨rfl,hb1⟩;have hB1:=hB.call (by simp) hb1))
              have hX1:=hB1.get 1 rfl
              have y0:=hX1.cell (j:=0) rfl
              have WM:=hX1.frozen 0
              have y2:=hX1.cell (j:=2) rfl
              have WO:=hX1.frozen 2
              go_upto_region 8 with (fail)
              go_cut [48] (fun v wx=>v= .bool (decide (M.targets r s=[8]))∧bU w wx [(ah r (s) A c,127),(au ⟨x,P,d⟩,66)])
              case first=>
               go_wp2_with (first | (refine aN 127 (.tmp 4) rfl ?_;refine aG (hB1.bf rfl) Tryz.underlying127 rfl ak rfl (.tmp 4) rfl rfl ?_) | (refine aN 127 (.tmp 4) rfl ?_;refine su (hB1.bf rfl) Tryz.underlying127 rfl ak rfl (.tmp 4) rfl rfl ?_) | (refine vg 127 (.tmp 4) rfl ?_;refine sD (hB1.bf rfl) Tryz.underlying127 rfl ak (.tmp 4) rfl rfl ?_) | (go_at_call 103;refine (uV S r s A c _ (hp.below hB1.bw) hr hg).mono ?_;rintro e w2 ⟨A2,c2,rfl,hr2,hb2⟩;have hB2:=hB1.call (by simp) hb2) | (go_at_call 147;refine (EZ (fun _=>True) A2 (some ⟨w2.heap.size,0,none⟩) c2 1 (M.targets r s) [8] _ ((hr2.alloc _).more (fun _ _ _=>trivial)) (bD.lit w2 _ [8] (by simp) (fun _=>True) trivial)).mono ?_;rintro e w3 ⟨rfl,n3,rfl⟩;have hB3:=(hB2.alloc (by simp) (.cells #[.int .i64 8] 3)).drewN n3))
               go_meet
               exact ⟨rfl,hB3⟩
              case rest=>
               obtain ⟨rfl,hB4⟩:=hcut
               have Wi:=hB4.get 1 rfl
               have z0:=Wi.cell (j:=0) rfl
               have Zb:=Wi.frozen 0
               rcases ht:decide (M.targets r s=[8]) with _ | _
               all_goals
                go_wp2
                go_ret2
                exact ⟨by rw [HW.out,hy1,hy2,hy3,hm,hy4,ht];rfl,hB4.bw⟩
      · go_wp2
        go_ret2
        exact ⟨by rw [HW.out,hy1,hy2,hy3];rfl,hB.bw⟩
    · rcases gd with _ | _
      · go_upto_region 5 with (fail)
        refine wp_region_held_drew (S:=(fun w':World=>w'.cell? ⟨w.heap.size+1,0,none⟩=some (.int .i64 x.aC))) (by kernel_rfl) ?eP (fun hHeld=>?_)
        case eP=>first | exact (hB.get 1 rfl).cell (j:=0) rfl | exact (hB.drew.get 1 rfl).cell (j:=0) rfl | exact (hB1.get 1 rfl).cell (j:=0) rfl
        refine tk 0 ?_
        refine tk 1 ?_
        refine tk 2 ?_
        refine tk 3 ?_
        refine tu 4 ?_
        refine tu 5 ?_
        refine tk 6 ?_
        refine tk 7 ?_
        refine tk 8 ?_
        refine wpAnyH_done (by kernel_rfl) ?_ _
        go_wp2
        go_ret2
        exact ⟨by rw [HW.out,hy1,hy2];rfl,hB.drew.bw⟩
      · go_upto_region 5 with (fail)
        refine wp_region_held_drew (S:=(fun w':World=>w'.cell? ⟨w.heap.size+1,0,none⟩=some (.int .i64 x.aC))) (by kernel_rfl) ?jw (fun hHeld=>?_)
        case jw=>first | exact (hB.get 1 rfl).cell (j:=0) rfl | exact (hB.drew.get 1 rfl).cell (j:=0) rfl | exact (hB1.get 1 rfl).cell (j:=0) rfl
        refine tk 0 ?_
        refine tk 1 ?_
        refine tk 2 ?_
        refine tk 3 ?_
        refine tk 4 ?_
        refine tr 5 fun K hK=>?_
        go_simp
        (go_at_call 183;refine (HD.out _ _ (Below.refl _ _).drew).mono ?_;rintro e w1 ⟨rfl,hb1⟩;have hB1:=hB.drew.call (by simp) hb1)
        refine hK.out _ _ ?LU (fun hHeld=>?_)
        case LU=>(first | (first | exact (hB.get 1 rfl).cell (j:=0) rfl | exact (hB.drew.get 1 rfl).cell (j:=0) rfl | exact (hB1.get 1 rfl).cell (j:=0) rfl) | (dsimp only;first | exact (hB.get 1 rfl).cell (j:=0) rfl | exact (hB.drew.get 1 rfl).cell (j:=0) rfl | exact (hB1.get 1 rfl).cell (j:=0) rfl))
        clear hK K
        try simp only [Act.put,la,lz,ls]
        refine tk 6 ?_
        refine tk 7 ?_
        refine tk 8 ?_
        refine wpAnyH_done (by kernel_rfl) ?_ _
        go_wp2
        go_ret2
        exact ⟨by rw [HW.out,hy1,hy2];rfl,hB1.bw⟩
  · rcases gd with _ | _
    all_goals
     go_wp2
     go_quiet (fail)
     go_wp2
     go_ret2
     exact ⟨by rw [HW.out,hy1];rfl,below_drewN hB.bw _⟩
theorem yV (S:Nat→Prop) (r:M.Rules) (s:M.State) (x:M.aI) (A P:Option Addr) (c d:Nat) (w:World) (hp:bD w S A c s.ay):
 Calls Tryz.prog 142 #[dH r s A c,iO x P d] w fun e w'=>∃ A' c',e= .returned (dH r (M.calm r s x) A' c')∧bD w' (fun b=>w.heap.size≤b) A' c' s.ay∧Below w.heap.size w w':=by
 have hS2:M.calm r s x= {s with brk:=false,hand:=false,push:=(r.game.toList == [110,105,110,101]) && (x.kind.toList == [98,114,101,97,107]),pushed:=(x.kind.toList == [112,117,115,104]) }:=by
  unfold M.calm
  have e1:(r.game.toList == [110,105,110,101])=decide (r.game=M.bM):=bJ r.game [110,105,110,101]
  have e2:(x.kind.toList == [98,114,101,97,107])=decide (x.kind=M.dh):=bJ x.kind [98,114,101,97,107]
  have e3:(x.kind.toList == [112,117,115,104])=decide (x.kind=M.eu):=bJ x.kind [112,117,115,104]
  rw [e1,e2,e3]
  simp only [Bool.decide_and]
 go_enter Tryz.func142,Tryz.ntmps142
 go_upto_region 1 with (fail)
 go_cut [2,3,4] (fun v2 v3 v4 wx=>v2=ptr w.heap.size∧v3=ptr (w.heap.size+1)∧v4=ptr (w.heap.size+2)∧bU w wx [(ah r ({s with brk:=false,hand:=false }) A c,127),(au ⟨x,P,d⟩,66),(aK,127)])
 case first=>
  go_wp2
  go_meet
  exact ⟨rfl,rfl,rfl,((((bU.nil w).new (by simp) (ah r ({s with brk:=false,hand:=false }) A c) _).new (by simp) (au ⟨x,P,d⟩) _).new (by simp) (aK) _)⟩
 case rest=>
  obtain ⟨rfl,rfl,rfl,hB⟩:=hcut
  have hF:=hB.bf rfl
  have hX:=hB.get 1 rfl
  have k0:=hF.cell (j:=0) rfl
  have GL:=hF.frozen 0
  have k6:=hF.cell (j:=6) rfl
  have Yc:=hF.frozen 6
  have k7:=hF.cell (j:=7) rfl
  have Yd:=hF.frozen 7
  have x1:=hX.cell (j:=1) rfl
  have xf1:=hX.frozen 1
  go_upto_region 2 with (fail)
  go_cut [] (fun wx=>bU w wx [(ah r (M.calm r s x) A c,127),(au ⟨x,P,d⟩,66),(aK,127)])
  case first=>
   obtain ⟨y1,hy1⟩:∃ y,(r.game.toList == [110,105,110,101])=y:=⟨_,rfl⟩
   obtain ⟨y2,hy2⟩:∃ y,(x.kind.toList == [98,114,101,97,107])=y:=⟨_,rfl⟩
   obtain ⟨y3,hy3⟩:∃ y,(x.kind.toList == [112,117,115,104])=y:=⟨_,rfl⟩
   cases y1 with
   | true=>
     refine wp_region_held_drew (S:=(fun w':World=>w'.cell? ⟨w.heap.size,0,none⟩=some (.string r.game)∧w'.cell? ⟨w.heap.size+1,1,none⟩=some (.string x.kind))) (by kernel_rfl) ?eP (fun hHeld=>?_)
     case eP=>first | exact ⟨(hB.bf rfl).cell (j:=0) rfl,(hB.get 1 rfl).cell (j:=1) rfl⟩ | exact ⟨(hB.drew.bf rfl).cell (j:=0) rfl,(hB.drew.get 1 rfl).cell (j:=1) rfl⟩ | exact ⟨((hB.set 0 rfl 6 _).drew.bf rfl).cell (j:=0) rfl,((hB.set 0 rfl 6 _).drew.get 1 rfl).cell (j:=1) rfl⟩ | exact ⟨(((hB.set 0 rfl 6 _).set 0 rfl 7 _).drew.bf rfl).cell (j:=0) rfl,(((hB.set 0 rfl 6 _).set 0 rfl 7 _).drew.get 1 rfl).cell (j:=1) rfl⟩
     refine tk 0 ?_
     refine tk 1 ?_
     refine tk 2 ?_
     refine tk 3 ?_
     refine tk 4 ?_
     refine tk 5 ?_
     refine tk 6 ?_
     refine tk 7 ?_
     refine tk 8 ?_
     refine tk 9 ?_
     refine tk 10 ?_
     refine tk 11 ?_
     refine tk 12 ?_
     refine tk 13 ?_
     refine tr 14 fun K hK=>?_
     go_simp
     refine hK.out _ _ ?Qn (fun hHeld=>?_)
     case Qn=>(first | (first | exact ⟨(hB.bf rfl).cell (j:=0) rfl,(hB.get 1 rfl).cell (j:=1) rfl⟩ | exact ⟨(hB.drew.bf rfl).cell (j:=0) rfl,(hB.drew.get 1 rfl).cell (j:=1) rfl⟩ | exact ⟨((hB.set 0 rfl 6 _).drew.bf rfl).cell (j:=0) rfl,((hB.set 0 rfl 6 _).drew.get 1 rfl).cell (j:=1) rfl⟩ | exact ⟨(((hB.set 0 rfl 6 _).set 0 rfl 7 _).drew.bf rfl).cell (j:=0) rfl,(((hB.set 0 rfl 6 _).set 0 rfl 7 _).drew.get 1 rfl).cell (j:=1) rfl⟩) | (dsimp only;first | exact ⟨(hB.bf rfl).cell (j:=0) rfl,(hB.get 1 rfl).cell (j:=1) rfl⟩ | exact ⟨(hB.drew.bf rfl).cell (j:=0) rfl,(hB.drew.get 1 rfl).cell (j:=1) rfl⟩ | exact ⟨((hB.set 0 rfl 6 _).drew.bf rfl).cell (j:=0) rfl,((hB.set 0 rfl 6 _).drew.get 1 rfl).cell (j:=1) rfl⟩ | exact ⟨(((hB.set 0 rfl 6 _).set 0 rfl 7 _).drew.bf rfl).cell (j:=0) rfl,(((hB.set 0 rfl 6 _).set 0 rfl 7 _).drew.get 1 rfl).cell (j:=1) rfl⟩))
     clear hK K
     try simp only [Act.put,la,lz,ls]
     refine tk 15 ?_
     refine tk 16 ?_
     refine tr 17 fun K hK=>?_
     go_simp
     refine hK.out _ _ ?Qo (fun hHeld=>?_)
     case Qo=>(first | (first | exact ⟨(hB.bf rfl).cell (j:=0) rfl,(hB.get 1 rfl).cell (j:=1) rfl⟩ | exact ⟨(hB.drew.bf rfl).cell (j:=0) rfl,(hB.drew.get 1 rfl).cell (j:=1) rfl⟩ | exact ⟨((hB.set 0 rfl 6 _).drew.bf rfl).cell (j:=0) rfl,((hB.set 0 rfl 6 _).drew.get 1 rfl).cell (j:=1) rfl⟩ | exact ⟨(((hB.set 0 rfl 6 _).set 0 rfl 7 _).drew.bf rfl).cell (j:=0) rfl,(((hB.set 0 rfl 6 _).set 0 rfl 7 _).drew.get 1 rfl).cell (j:=1) rfl⟩) | (dsimp only;first | exact ⟨(hB.bf rfl).cell (j:=0) rfl,(hB.get 1 rfl).cell (j:=1) rfl⟩ | exact ⟨(hB.drew.bf rfl).cell (j:=0) rfl,(hB.drew.get 1 rfl).cell (j:=1) rfl⟩ | exact ⟨((hB.set 0 rfl 6 _).drew.bf rfl).cell (j:=0) rfl,((hB.set 0 rfl 6 _).drew.get 1 rfl).cell (j:=1) rfl⟩ | exact ⟨(((hB.set 0 rfl 6 _).set 0 rfl 7 _).drew.bf rfl).cell (j:=0) rfl,(((hB.set 0 rfl 6 _).set 0 rfl 7 _).drew.get 1 rfl).cell (j:=1) rfl⟩))
     clear hK K
     try simp only [Act.put,la,lz,ls]
     refine wpAnyH_done (by kernel_rfl) ?_ _
     go_wp2
     go_meet
     rw [hS2,hy1,hy2,hy3]
     exact ((hB.set 0 rfl 6 _).set 0 rfl 7 _).drew
   | false=>
     refine wp_region_held_drew (S:=(fun w':World=>w'.cell? ⟨w.heap.size,0,none⟩=some (.string r.game)∧w'.cell? ⟨w.heap.size+1,1,none⟩=some (.string x.kind))) (by kernel_rfl) ?jw (fun hHeld=>?_)
     case jw=>first | exact ⟨(hB.bf rfl).cell (j:=0) rfl,(hB.get 1 rfl).cell (j:=1) rfl⟩ | exact ⟨(hB.drew.bf rfl).cell (j:=0) rfl,(hB.drew.get 1 rfl).cell (j:=1) rfl⟩ | exact ⟨((hB.set 0 rfl 6 _).drew.bf rfl).cell (j:=0) rfl,((hB.set 0 rfl 6 _).drew.get 1 rfl).cell (j:=1) rfl⟩ | exact ⟨(((hB.set 0 rfl 6 _).set 0 rfl 7 _).drew.bf rfl).cell (j:=0) rfl,(((hB.set 0 rfl 6 _).set 0 rfl 7 _).drew.get 1 rfl).cell (j:=1) rfl⟩
     refine tk 0 ?_
     refine tk 1 ?_
     refine tk 2 ?_
     refine tk 3 ?_
     refine tk 4 ?_
     refine tu 5 ?_
     refine tu 6 ?_
     refine tu 7 ?_
     refine tk 8 ?_
     refine tk 9 ?_
     refine tk 10 ?_
     refine tk 11 ?_
     refine tk 12 ?_
     refine tk 13 ?_
     refine tr 14 fun K hK=>?_
     go_simp
     refine hK.out _ _ ?Qp (fun hHeld=>?_)
     case Qp=>(first | (first | exact ⟨(hB.bf rfl).cell (j:=0) rfl,(hB.get 1 rfl).cell (j:=1) rfl⟩ | exact ⟨(hB.drew.bf rfl).cell (j:=0) rfl,(hB.drew.get 1 rfl).cell (j:=1) rfl⟩ | exact ⟨((hB.set 0 rfl 6 _).drew.bf rfl).cell (j:=0) rfl,((hB.set 0 rfl 6 _).drew.get 1 rfl).cell (j:=1) rfl⟩ | exact ⟨(((hB.set 0 rfl 6 _).set 0 rfl 7 _).drew.bf rfl).cell (j:=0) rfl,(((hB.set 0 rfl 6 _).set 0 rfl 7 _).drew.get 1 rfl).cell (j:=1) rfl⟩) | (dsimp only;first | exact ⟨(hB.bf rfl).cell (j:=0) rfl,(hB.get 1 rfl).cell (j:=1) rfl⟩ | exact ⟨(hB.drew.bf rfl).cell (j:=0) rfl,(hB.drew.get 1 rfl).cell (j:=1) rfl⟩ | exact ⟨((hB.set 0 rfl 6 _).drew.bf rfl).cell (j:=0) rfl,((hB.set 0 rfl 6 _).drew.get 1 rfl).cell (j:=1) rfl⟩ | exact ⟨(((hB.set 0 rfl 6 _).set 0 rfl 7 _).drew.bf rfl).cell (j:=0) rfl,(((hB.set 0 rfl 6 _).set 0 rfl 7 _).drew.get 1 rfl).cell (j:=1) rfl⟩))
     clear hK K
     try simp only [Act.put,la,lz,ls]
     refine tk 15 ?_
     refine tk 16 ?_
     refine tr 17 fun K hK=>?_
     go_simp
     refine hK.out _ _ ?Qq (fun hHeld=>?_)
     case Qq=>(first | (first | exact ⟨(hB.bf rfl).cell (j:=0) rfl,(hB.get 1 rfl).cell (j:=1) rfl⟩ | exact ⟨(hB.drew.bf rfl).cell (j:=0) rfl,(hB.drew.get 1 rfl).cell (j:=1) rfl⟩ | exact ⟨((hB.set 0 rfl 6 _).drew.bf rfl).cell (j:=0) rfl,((hB.set 0 rfl 6 _).drew.get 1 rfl).cell (j:=1) rfl⟩ | exact ⟨(((hB.set 0 rfl 6 _).set 0 rfl 7 _).drew.bf rfl).cell (j:=0) rfl,(((hB.set 0 rfl 6 _).set 0 rfl 7 _).drew.get 1 rfl).cell (j:=1) rfl⟩) | (dsimp only;first | exact ⟨(hB.bf rfl).cell (j:=0) rfl,(hB.get 1 rfl).cell (j:=1) rfl⟩ | exact ⟨(hB.drew.bf rfl).cell (j:=0) rfl,(hB.drew.get 1 rfl).cell (j:=1) rfl⟩ | exact ⟨((hB.set 0 rfl 6 _).drew.bf rfl).cell (j:=0) rfl,((hB.set 0 rfl 6 _).drew.get 1 rfl).cell (j:=1) rfl⟩ | exact ⟨(((hB.set 0 rfl 6 _).set 0 rfl 7 _).drew.bf rfl).cell (j:=0) rfl,(((hB.set 0 rfl 6 _).set 0 rfl 7 _).drew.get 1 rfl).cell (j:=1) rfl⟩))
     clear hK K
     try simp only [Act.put,la,lz,ls]
     refine wpAnyH_done (by kernel_rfl) ?_ _
     go_wp2
     go_meet
     rw [hS2,hy1,hy2,hy3]
     exact ((hB.set 0 rfl 6 _).set 0 rfl 7 _).drew
  case rest=>
   have hC:=hcut
   clear hF hX k0 GL k6 Yc k7 Yd x1 xf1 hB hcut
   have Du:=hC.bf rfl
   have k9:=Du.cell (j:=9) rfl
   have Wx:=Du.frozen 9
   go_wp2_with (first | (go_at_call 141;refine (jL S A c s.ay _ (hp.below hC.bw)).mono ?_;rintro e w1 ⟨A1,c1,rfl,hr1,hb1⟩;have hD:=hC.call (by simp) hb1;have RF:=hD.bf rfl;have q9:=RF.cell (j:=9) rfl;have Un:=RF.frozen 9;have hE:bU w (w1.setCell ⟨w.heap.size,9,none⟩ (.slice A1 s.ay.length c1)) [(ah r (M.calm r s x) A1 c1,127),(au ⟨x,P,d⟩,66),(aK,127)]:=(hD.set 0 rfl 9 _)) | (refine Bv (hE.bf rfl) Tryz.underlying127 rfl ak rfl (.tmp 2) rfl rfl ?_) | (refine zB (hE.get 2 rfl) (ah r (M.calm r s x) A1 c1) rfl ak (aX _ _ _ _) rfl (.tmp 4) (.tmp 31) rfl rfl rfl ?_))
   have hZ:=hE.put 2 rfl (ah r (M.calm r s x) A1 c1) rfl
   refine bodyPost_ret (bP (p:=4) (hZ.get 2 rfl) Tryz.underlying127 rfl ak rfl _ rfl) rfl ⟨A1,c1,rfl,?_,hZ.bw⟩
   have hsz:=hC.size (by simp)
   simp only [List.length_cons,List.length_nil] at hsz
   exact (hr1.above (D:=w.heap.size+3) (fun b h=>Nat.le_trans hsz h) (iT.setCells (by omega) _ _ _ ((iT.refl _ _).setCell (by omega) _ _))).more (fun b _ h=>by omega)
theorem Ii (r:M.Rules) (s:M.State) (A:Option Addr) (c:Nat) (w:World) (h0: -1000000≤s.s0) (h1:s.s0≤1000000) (h2:0≤s.aZ) (h3:s.aZ≤1000000):
 Calls Tryz.prog 165 #[dH ⟨M.aB,r.target,r.aY⟩ s A c,.int .i64 0] w fun e w'=>∃ A' c',e= .returned (dH ⟨M.aB,r.target,r.aY⟩ ({s with s0:=s.s0 - 15,f0:=0,brk:=true,ay:=M.jA ⟨M.aB,r.target,r.aY⟩,aZ:=s.aZ+1 }) A' c')∧bD w' (fun b=>w.heap.size≤b) A' c' (M.jA ⟨M.aB,r.target,r.aY⟩)∧Below w.heap.size w w':=by
 go_enter Tryz.func165,Tryz.ntmps165
 go_upto_region 0 with (fail)
 go_cut [2,4] (fun v1 v2 wx=>v1=ptr w.heap.size∧v2=ptr (w.heap.size+1)∧bU w wx [(ah ⟨M.aB,r.target,r.aY⟩ (s) A c,127),(aK,127)])
 case first=>
  go_wp2
  go_meet
  exact ⟨rfl,rfl,(((bU.nil w).new (by simp) (ah ⟨M.aB,r.target,r.aY⟩ (s) A c) _).new (by simp) (aK) _)⟩
 case rest=>
  obtain ⟨rfl,rfl,hB⟩:=hcut
  have hF:=hB.bf rfl
  have k0:=hF.cell (j:=0) rfl
  have GL:=hF.frozen 0
  have k4:=hF.cell (j:=4) rfl
  have Vs:=hF.frozen 4
  have k10:=hF.cell (j:=10) rfl
  have X6:=hF.frozen 10
  have k12:=hF.cell (j:=12) rfl
  have X8:=hF.frozen 12
  have hC:bU w (((wc.setCell ⟨w.heap.size,10,none⟩ (.int .i64 (s.s0 - 15))).setCell ⟨w.heap.size,12,none⟩ (.int .i64 0)).setCell ⟨w.heap.size,4,none⟩ (.bool true)) [(ah ⟨M.aB,r.target,r.aY⟩ ({s with s0:=s.s0 - 15,f0:=0,brk:=true }) A c,127),(aK,127)]:=(((hB.set 0 rfl 10 _).set 0 rfl 12 _).set 0 rfl 4 _)
  go_wp2_with (first | (refine aN 127 (.tmp 2) rfl ?_;refine aG (hC.bf rfl) Tryz.underlying127 rfl ak rfl (.tmp 2) rfl rfl ?_) | (go_at_call 166;refine (uj ⟨M.aB,r.target,r.aY⟩ ({s with s0:=s.s0 - 15,f0:=0,brk:=true }) A c _ h2 h3).mono ?_;rintro e w1 ⟨A1,c1,rfl,hr1,hb1⟩;have hD:=hC.call (by simp) hb1) | (refine aO 127 (.tmp 4) (.tmp 32) rfl ?_;refine aF (hD.get 1 rfl) (ah ⟨M.aB,r.target,r.aY⟩ ({s with s0:=s.s0 - 15,f0:=0,brk:=true,ay:=M.jA ⟨M.aB,r.target,r.aY⟩,aZ:=s.aZ+1 }) A1 c1) rfl ak (aX _ _ _ _) rfl (.tmp 4) (.tmp 32) rfl rfl rfl ?_))
  have hZ:=hD.put 1 rfl (ah ⟨M.aB,r.target,r.aY⟩ ({s with s0:=s.s0 - 15,f0:=0,brk:=true,ay:=M.jA ⟨M.aB,r.target,r.aY⟩,aZ:=s.aZ+1 }) A1 c1) rfl
  refine bodyPost_ret (bP (p:=4) (hZ.get 1 rfl) Tryz.underlying127 rfl ak rfl _ rfl) rfl ⟨A1,c1,rfl,?_,hZ.bw⟩
  have hsz:=hC.size (by simp)
  simp only [List.length_cons,List.length_nil] at hsz
  exact (hr1.above (D:=w.heap.size+2) (fun b h=>Nat.le_trans hsz h) (iT.setCells (by omega) _ _ _ (iT.refl _ _))).more (fun b _ h=>by omega)
theorem Ij (r:M.Rules) (s:M.State) (A:Option Addr) (c:Nat) (w:World) (h0: -1000000≤s.s1) (h1:s.s1≤1000000) (h2:0≤s.aZ) (h3:s.aZ≤1000000):
 Calls Tryz.prog 165 #[dH ⟨M.aB,r.target,r.aY⟩ s A c,.int .i64 1] w fun e w'=>∃ A' c',e= .returned (dH ⟨M.aB,r.target,r.aY⟩ ({s with s1:=s.s1 - 15,f1:=0,brk:=true,ay:=M.jA ⟨M.aB,r.target,r.aY⟩,aZ:=s.aZ+1 }) A' c')∧bD w' (fun b=>w.heap.size≤b) A' c' (M.jA ⟨M.aB,r.target,r.aY⟩)∧Below w.heap.size w w':=by
 go_enter Tryz.func165,Tryz.ntmps165
 go_upto_region 0 with (fail)
 go_cut [2,4] (fun v1 v2 wx=>v1=ptr w.heap.size∧v2=ptr (w.heap.size+1)∧bU w wx [(ah ⟨M.aB,r.target,r.aY⟩ (s) A c,127),(aK,127)])
 case first=>
  go_wp2
  go_meet
  exact ⟨rfl,rfl,(((bU.nil w).new (by simp) (ah ⟨M.aB,r.target,r.aY⟩ (s) A c) _).new (by simp) (aK) _)⟩
 case rest=>
  obtain ⟨rfl,rfl,hB⟩:=hcut
  have hF:=hB.bf rfl
  have k0:=hF.cell (j:=0) rfl
  have GL:=hF.frozen 0
  have k4:=hF.cell (j:=4) rfl
  have Vs:=hF.frozen 4
  have k11:=hF.cell (j:=11) rfl
  have X7:=hF.frozen 11
  have k13:=hF.cell (j:=13) rfl
  have X9:=hF.frozen 13
  have hC:bU w (((wc.setCell ⟨w.heap.size,11,none⟩ (.int .i64 (s.s1 - 15))).setCell ⟨w.heap.size,13,none⟩ (.int .i64 0)).setCell ⟨w.heap.size,4,none⟩ (.bool true)) [(ah ⟨M.aB,r.target,r.aY⟩ ({s with s1:=s.s1 - 15,f1:=0,brk:=true }) A c,127),(aK,127)]:=(((hB.set 0 rfl 11 _).set 0 rfl 13 _).set 0 rfl 4 _)
  go_wp2_with (first | (refine aN 127 (.tmp 2) rfl ?_;refine aG (hC.bf rfl) Tryz.underlying127 rfl ak rfl (.tmp 2) rfl rfl ?_) | (go_at_call 166;refine (uj ⟨M.aB,r.target,r.aY⟩ ({s with s1:=s.s1 - 15,f1:=0,brk:=true }) A c _ h2 h3).mono ?_;rintro e w1 ⟨A1,c1,rfl,hr1,hb1⟩;have hD:=hC.call (by simp) hb1) | (refine aO 127 (.tmp 4) (.tmp 32) rfl ?_;refine aF (hD.get 1 rfl) (ah ⟨M.aB,r.target,r.aY⟩ ({s with s1:=s.s1 - 15,f1:=0,brk:=true,ay:=M.jA ⟨M.aB,r.target,r.aY⟩,aZ:=s.aZ+1 }) A1 c1) rfl ak (aX _ _ _ _) rfl (.tmp 4) (.tmp 32) rfl rfl rfl ?_))
  have hZ:=hD.put 1 rfl (ah ⟨M.aB,r.target,r.aY⟩ ({s with s1:=s.s1 - 15,f1:=0,brk:=true,ay:=M.jA ⟨M.aB,r.target,r.aY⟩,aZ:=s.aZ+1 }) A1 c1) rfl
  refine bodyPost_ret (bP (p:=4) (hZ.get 1 rfl) Tryz.underlying127 rfl ak rfl _ rfl) rfl ⟨A1,c1,rfl,?_,hZ.bw⟩
  have hsz:=hC.size (by simp)
  simp only [List.length_cons,List.length_nil] at hsz
  exact (hr1.above (D:=w.heap.size+2) (fun b h=>Nat.le_trans hsz h) (iT.setCells (by omega) _ _ _ (iT.refl _ _))).more (fun b _ h=>by omega)
theorem CV (r:M.Rules) (s:M.State) (p:Int) (A:Option Addr) (c:Nat) (w:World) (hg:¬ r.game=M.aB) (h0:0≤p) (h1:p≤1):
 Calls Tryz.prog 165 #[dH r s A c,.int .i64 p] w fun e w'=>e= .returned (dH r ({s with over:=true,bC:=1 - p }) A c)∧Below w.heap.size w w':=by
 have hg':(r.game.toList == [115,116,114,97,105,103,104,116])=false:=beq_eq_false_iff_ne.2 (bQ hg)
 have hg2:(r.game.toList != [115,116,114,97,105,103,104,116])=true:=by simp [bne,hg']
 go_enter Tryz.func165,Tryz.ntmps165
 go_upto_region 2 with (fail)
 go_cut [2,4] (fun v1 v2 wx=>v1=ptr w.heap.size∧v2=ptr (w.heap.size+1)∧bU w wx [(ah r ({s with over:=true,bC:=1 - p }) A c,127),(aK,127)])
 case first=>
  go_wp2
  go_meet
  exact ⟨rfl,rfl,(((bU.nil w).new (by simp) (ah r ({s with over:=true,bC:=1 - p }) A c) _).new (by simp) (aK) _)⟩
 case rest=>
  obtain ⟨rfl,rfl,hB⟩:=hcut
  go_wp2_with (first | (refine aN 127 (.tmp 2) rfl ?_;refine aG (hB.bf rfl) Tryz.underlying127 rfl ak rfl (.tmp 2) rfl rfl ?_) | (refine aO 127 (.tmp 4) (.tmp 15) rfl ?_;refine aF (hB.get 1 rfl) (ah r ({s with over:=true,bC:=1 - p }) A c) rfl ak (aX _ _ _ _) rfl (.tmp 4) (.tmp 15) rfl rfl rfl ?_))
  have hZ:=hB.put 1 rfl (ah r ({s with over:=true,bC:=1 - p }) A c) rfl
  exact bodyPost_ret (bP (p:=4) (hZ.get 1 rfl) Tryz.underlying127 rfl ak rfl _ rfl) rfl ⟨rfl,hZ.bw⟩
theorem yc (S:Nat→Prop) (r:M.Rules) (s:M.State) (p:Int) (A:Option Addr) (c:Nat) (w:World) (hp:bD w S A c s.ay) (h:p=0∨p=1) (h0: -1000000≤s.s0) (h1:s.s0≤1000000) (k0: -1000000≤s.s1) (k1:s.s1≤1000000) (h2:0≤s.aZ) (h3:s.aZ≤1000000):
 Calls Tryz.prog 165 #[dH r s A c,.int .i64 p] w fun e w'=>∃ A' c',e= .returned (dH r (M.limit r s p) A' c')∧bD w' (fun b=>S b∨w.heap.size≤b) A' c' (M.limit r s p).ay∧Below w.heap.size w w':=by
 by_cases hg:r.game=M.aB
 · obtain ⟨g,tg,fo⟩:=r
   simp only at hg
   subst hg
   have hne:¬ (M.aB≠M.aB):=fun h=>h rfl
   rcases h with rfl | rfl
   · refine (Ii ⟨M.aB,tg,fo⟩ s A c w h0 h1 h2 h3).mono ?_
     rintro e w' ⟨A1,c1,rfl,hr,hb⟩
     have hl:M.limit ⟨M.aB,tg,fo⟩ s 0= {s with s0:=s.s0 - 15,f0:=0,brk:=true,ay:=M.jA ⟨M.aB,tg,fo⟩,aZ:=s.aZ+1 }:=by
      unfold M.limit;rw [if_neg hne];rfl
     rw [hl]
     exact ⟨A1,c1,rfl,hr.more (fun b _ h=> .inr h),hb⟩
   · refine (Ij ⟨M.aB,tg,fo⟩ s A c w k0 k1 h2 h3).mono ?_
     rintro e w' ⟨A1,c1,rfl,hr,hb⟩
     have hl:M.limit ⟨M.aB,tg,fo⟩ s 1= {s with s1:=s.s1 - 15,f1:=0,brk:=true,ay:=M.jA ⟨M.aB,tg,fo⟩,aZ:=s.aZ+1 }:=by
      unfold M.limit;rw [if_neg hne];rfl
     rw [hl]
     exact ⟨A1,c1,rfl,hr.more (fun b _ h=> .inr h),hb⟩
 · refine (CV r s p A c w hg (by omega) (by omega)).mono ?_
   rintro e w' ⟨rfl,hb⟩
   have hl:M.limit r s p= {s with over:=true,bC:=1 - p }:=by unfold M.limit;rw [if_pos hg]
   rw [hl]
   exact ⟨A,c,rfl,(hp.below hb).more (fun b _ h=> .inl h),hb⟩
theorem BF {r:M.Rules} {s:M.State} {x:M.aI} (hl:M.Lawful r s x) (hx:M.ni x) (hc:x.kind≠M.aT) (hr:M.aH r=0):
 M.play r s x=if (Ae r s x (M.good r s x) ((M.counted r s x).score x.aC)).2=true then {M.counted r s x with over:=true,bC:=(Ae r s x (M.good r s x) ((M.counted r s x).score x.aC)).1 }
  else if M.iW r s x≠0∧(M.counted r s x).jZ x.aC=r.aY then M.limit r (M.counted r s x) x.aC
  else if M.good r s x=false then M.passed r s x (M.counted r s x) else M.dW r (M.grouped r s x (M.counted r s x)):=by
 have ho:(M.counted r s x).over=false:=(M.tV r s x).trans hl.over
 unfold M.play
 simp only
 generalize M.counted r s x=t at ho ⊢
 have fin:∀ (v:Int) (b:Bool),M.ended r s x t=(if b=true then {t with over:=true,bC:=v } else t)→
  (if (M.ended r s x t).over=true then M.ended r s x t else if M.iW r s x≠0∧(M.ended r s x t).jZ x.aC=r.aY then M.limit r (M.ended r s x t) x.aC else if M.good r s x=false then M.passed r s x (M.ended r s x t) else M.dW r (M.grouped r s x (M.ended r s x t)))=
  (if b=true then {t with over:=true,bC:=v } else if M.iW r s x≠0∧t.jZ x.aC=r.aY then M.limit r t x.aC else if M.good r s x=false then M.passed r s x t else M.dW r (M.grouped r s x t)):=by
  intro v b h
  rw [h]
  cases b with
  | true=>simp only [if_true]
  | false=>
    simp only [Bool.false_eq_true,if_false]
    rw [if_neg (by rw [ho];decide)]
 refine fin _ _ ?_
 unfold M.ended Ae M.won
 rcases M.um hr with h | h | h
 · have h1:¬ M.aB=M.bM:=by decide
   have h2:¬ M.aB=M.aQ:=by decide
   rw [h]
   by_cases hg:M.good r s x=true <;> by_cases hs:r.target≤t.score x.aC <;> simp [h1,h2,hg,hs]
 · have h1:¬ M.aQ=M.bM:=by decide
   have h2:¬ M.aQ=M.aB:=by decide
   rw [h]
   by_cases hb:x.kind=M.dh
   · simp [h1,h2,hb]
   · by_cases h8:(8:Int)∈M.objects x
     · by_cases hw:M.good r s x=true∧x.aJ=8∧M.targets r s=[8]
       · simp [h1,h2,hb,h8,hw]
       · have e1:(if M.good r s x=true∧x.aJ=8∧M.targets r s=[8] then (x.aC,true) else (1 - x.aC,true))=((1 - x.aC,true):Int × Bool):=if_neg hw
         have e2:decide (M.good r s x=true∧x.aJ=8∧M.targets r s=[8])=false:=decide_eq_false hw
         simp only [h1,h2,hb,h8,if_false,false_and,ne_eq,not_true,not_false_eq_true,and_self,or_self,if_true,e1,e2,Bool.false_eq_true]
     · simp [h1,h2,hb,h8]
 · have h1:¬ M.bM=M.aB:=by decide
   have h2:¬ M.bM=M.aQ:=by decide
   rw [h]
   by_cases hg:M.good r s x=true <;> by_cases hs:(9:Int)∈M.objects x <;> simp [h1,h2,hg,hs]
theorem bU.cells {w W W':World} {L:List (List Value × TypeId)} (h:bU w W L) (hb:Below W.heap.size W W'):∀ p q,p<w.heap.size+L.length→W'.cell? ⟨p,q,none⟩=W.cell? ⟨p,q,none⟩:=
 fun p q hp=>hb.cell (p:=⟨p,q,none⟩) (by
  rcases Nat.eq_zero_or_pos L.length with h0 | h0
  · exact Nat.lt_of_lt_of_le (by rw [h0] at hp;simpa using hp) h.bw.size
  · exact Nat.lt_of_lt_of_le hp (h.size h0))
theorem zl (r:M.Rules) (s:M.State) (x:M.aI):0≤M.iW r s x∧M.iW r s x≤4:=by
 unfold M.iW
 repeat' split
 all_goals omega
theorem bD.sets {S:Nat→Prop} {A:Option Addr} {c:Nat} {zs:List Int} {g:Nat} (hg:¬ S g):∀ (vs:List Value) (o:Nat) (W:World),bD W S A c zs→bD (W.setCells g o vs) S A c zs
 | [],_,_,h=>h
 | v::r,o,W,h=>bD.sets hg r (o+1) _ (h.setCell (p:=⟨g,o,none⟩) hg v)
structure dJ (w W:World) (L:List (List Value × TypeId)) (D:Nat) (G:List Value):Prop where
 b:bU w W L
 g:Held W D G 127
section
variable {w W W':World} {L:List (List Value × TypeId)} {D:Nat} {G:List Value}
theorem dJ.set (h:dJ w W L D G) (hD:w.heap.size+L.length≤D) (o:Nat) (v:Value):dJ w (W.setCell ⟨D,o,none⟩ v) L D (G.set o v):=⟨h.b.far hD o v,h.g.set o v⟩
theorem dJ.call (h:dJ w W L D G) (hL:0<L.length) (hb:Below W.heap.size W W'):dJ w W' L D G:=⟨h.b.call hL hb,h.g.below hb⟩
theorem dJ.drew (h:dJ w W L D G):dJ w W.drew L D G:=⟨h.b.drew,h.g⟩
theorem dJ.drewN (h:dJ w W L D G) (n:Nat):dJ w (W.drewN n) L D G:=⟨h.b.drewN n,h.g⟩
end
end Go.Proofs.YtelpepbpdojikaaGreatDoor
