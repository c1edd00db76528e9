/- Parts of a proof. -/
import Derived.Deep.MidRow
import Derived.Test.YtcjglfbpjkdgiaaGreatDoorKc9
set_option maxHeartbeats 12000000
set_option maxRecDepth 100000
set_option linter.unusedVariables false
set_option linter.unusedSimpArgs false
namespace Go.Proofs.YtcjglfbpjkdgiaaGreatDoor
open Go.RowKit
def Held (W:World) (g:Nat) (cs:List Value) (t:TypeId):Prop:=W.heap[g]? =some (.cells cs.toArray t (0,0))
section
variable {W W':World} {g g':Nat} {cs cs':List Value} {t t':TypeId}
theorem Held.lt (h:Held W g cs t):g<W.heap.size:=(Array.getElem?_eq_some_iff.1 h).1
theorem Held.cell (h:Held W g cs t) {j:Nat} {v:Value} (hj:cs[j]? =some v):W.cell? ⟨g,j,none⟩=some v:=by
 rw [cell_of_row W g j _ _ _ h];simpa using hj
theorem Held.frozen (h:Held W g cs t) (j:Nat):W.frozen? ⟨g,j,none⟩=false:=by simp [World.frozen?,show W.heap[g]? =_ from h]
theorem Held.new (W:World) (us:List Value) (t:TypeId):Held (W.alloc (.cells us.toArray t)) W.heap.size us t:=heap_alloc_new W _
theorem Held.newAt (W:World) (us:List Value) (t:TypeId) (hg:W.heap.size=g):Held (W.alloc (.cells us.toArray t)) g us t:=by subst hg;exact heap_alloc_new W _
theorem Held.below (h:Held W g cs t) (hb:Below W.heap.size W W'):Held W' g cs t:=(hb.block g h.lt).trans h
theorem Held.upto {D:Nat} (h:Held W g cs t) (hb:Below D W W') (hD:g<D):Held W' g cs t:=(hb.block g hD).trans h
theorem Held.alloc (h:Held W g cs t) (o:Obj):Held (W.alloc o) g cs t:=h.below ((Below.refl _ _).alloc (Nat.le_refl _) o)
theorem Held.drew (h:Held W g cs t):Held W.drew g cs t:=h
theorem Held.drewN (h:Held W g cs t) (n:Nat):Held (W.drewN n) g cs t:=h
theorem Held.set (h:Held W g cs t) (o:Nat) (v:Value):Held (W.setCell ⟨g,o,none⟩ v) g (cs.set o v) t:=by
 obtain ⟨hlt,hk⟩:=Array.getElem?_eq_some_iff.1 h
 show (W.heap.modify g _)[g]? =_
 rw [Array.getElem?_eq_getElem (by rw [Array.size_modify];exact hlt),Array.getElem_modify_self,hk]
 simp
theorem Held.other (h:Held W g cs t) (hne:g≠g') (o:Nat) (v:Value):Held (W.setCell ⟨g',o,none⟩ v) g cs t:=(Below.heap_setCell W ⟨g',o,none⟩ v g hne).trans h
theorem Held.others (hne:g≠g'):∀ (vs:List Value) (o:Nat) (W:World),Held W g cs t→Held (W.setCells g' o vs) g cs t
 | [],_,_,h=>h
 | v::r,o,W,h=>Held.others hne r (o+1) _ (h.other hne o v)
theorem Held.sets:∀ (vs pre post:List Value) (W:World),Held W g (pre++post) t→post.length=vs.length→Held (W.setCells g pre.length vs) g (pre++vs) t
 | [],pre,post,W,h,hl=>by
   obtain rfl:=List.eq_nil_of_length_eq_zero (by simpa using hl);exact h
 | v::r,pre,[],W,h,hl=>by cases hl
 | v::r,pre,u::post,W,h,hl=>by
   have h1:=h.set pre.length v;rw [show (pre++u::post).set pre.length v=pre++[v]++post by simp] at h1;have h2:=Held.sets r (pre++[v]) post _ h1 (by simpa using hl);rw [List.length_append,List.append_assoc] at h2;exact h2
theorem Held.whole (h:Held W g cs t) (vs:List Value) (hl:cs.length=vs.length):Held (W.setCells g 0 vs) g vs t:=by
 have:=Held.sets vs [] cs W h hl
 simpa using this
theorem Held.range (h:Held W g cs t):W.rangeAt g 0 cs:=fun j v hj=>by rw [Nat.zero_add];exact h.cell hj
theorem Held.there (h:Held W g cs t):W.there g 0 cs.length:=fun j hj=>by
 rw [Nat.zero_add,h.cell (List.getElem?_eq_getElem hj)];exact ⟨rfl,h.frozen j⟩
theorem setCells_size (g:Nat):∀ (vs:List Value) (o:Nat) (W:World),(W.setCells g o vs).heap.size=W.heap.size
 | [],_,_=>rfl
 | v::r,o,W=>by
   rw [World.setCells,setCells_size g r]
   simp [World.setCell]
theorem below_setCells {B:Nat} (g:Nat) (hg:B≤g):∀ (vs:List Value) (o:Nat) (w W:World),Below B w W→Below B w (W.setCells g o vs)
 | [],_,_,_,h=>h
 | v::r,o,w,W,h=>below_setCells g hg r (o+1) w _ (h.setCell (p:=⟨g,o,none⟩) hg v)
end
structure aS (w W:World) (L:List (List Value × TypeId)):Prop where
 at_:∀ i e,L[i]? =some e→Held W (w.heap.size+i) e.1 e.2
 bw:Below w.heap.size w W
section
variable {w W W':World} {L:List (List Value × TypeId)}
theorem aS.get (h:aS w W L) (i:Nat) {cs:List Value} {t:TypeId} (he:L[i]? =some (cs,t)):Held W (w.heap.size+i) cs t:=h.at_ i _ he
theorem aS.ah (h:aS w W L) {cs:List Value} {t:TypeId} (he:L[0]? =some (cs,t)):Held W w.heap.size cs t:=h.at_ 0 _ he
theorem aS.nil (w:World):aS w w []:=⟨fun i e h=>by simp at h,Below.refl _ _⟩
theorem aS.new (h:aS w W L) (hs:W.heap.size=w.heap.size+L.length) (cs:List Value) (t:TypeId):aS w (W.alloc (.cells cs.toArray t)) (L++[(cs,t)]):=
 ⟨fun i e he=>by
  rcases Nat.lt_or_ge i L.length with hi | hi
  · rw [List.getElem?_append_left hi] at he
    exact (h.at_ i e he).alloc _
  · rw [List.getElem?_append_right hi] at he
    match hn:i - L.length,he with
    | 0,he=>
      simp at he
      subst he;exact Held.newAt _ _ _ (by omega)
    | k+1,he=>simp at he,h.bw.alloc (by omega) _⟩
theorem aS.lt (h:aS w W L) {i:Nat} (hi:i<L.length):w.heap.size+i<W.heap.size:=(h.at_ i _ (List.getElem?_eq_getElem hi)).lt
theorem aS.set (h:aS w W L) (i:Nat) {cs:List Value} {t:TypeId} (he:L[i]? =some (cs,t)) (o:Nat) (v:Value):aS w (W.setCell ⟨w.heap.size+i,o,none⟩ v) (L.set i (cs.set o v,t)):=
 ⟨fun j e hj=>by
  by_cases hij:i=j
  · subst hij
    rw [List.getElem?_set_self (List.getElem?_eq_some_iff.1 he).1] at hj
    injection hj with hj
    subst hj;exact (h.get i he).set o v
  · rw [List.getElem?_set_ne hij] at hj
    exact (h.at_ j e hj).other (by omega) o v,h.bw.setCell (p:=⟨w.heap.size+i,o,none⟩) (by show w.heap.size≤w.heap.size+i;omega) v⟩
theorem aS.put (h:aS w W L) (i:Nat) {cs:List Value} {t:TypeId} (he:L[i]? =some (cs,t)) (vs:List Value) (hl:cs.length=vs.length):aS w (W.setCells (w.heap.size+i) 0 vs) (L.set i (vs,t)):=
 ⟨fun j e hj=>by
  by_cases hij:i=j
  · subst hij
    rw [List.getElem?_set_self (List.getElem?_eq_some_iff.1 he).1] at hj
    injection hj with hj
    subst hj;exact (h.get i he).whole vs hl
  · rw [List.getElem?_set_ne hij] at hj
    exact Held.others (by omega) _ _ _ (h.at_ j e hj),below_setCells _ (by omega) _ _ _ _ h.bw⟩
theorem aS.far (h:aS w W L) {g:Nat} (hg:w.heap.size+L.length≤g) (o:Nat) (v:Value):aS w (W.setCell ⟨g,o,none⟩ v) L:=
 ⟨fun j e hj=>(h.at_ j e hj).other (by have:=(List.getElem?_eq_some_iff.1 hj).1;omega) o v,h.bw.setCell (p:=⟨g,o,none⟩) (by show w.heap.size≤g;omega) v⟩
theorem aS.Lc (h:aS w W L) {g:Nat} (hg:w.heap.size+L.length≤g) (vs:List Value) (o:Nat):aS w (W.setCells g o vs) L:=
 ⟨fun j e hj=>Held.others (by have:=(List.getElem?_eq_some_iff.1 hj).1;omega) _ _ _ (h.at_ j e hj),below_setCells _ (by omega) _ _ _ _ h.bw⟩
theorem aS.upto {D:Nat} (h:aS w W L) (hb:Below D W W') (hD:w.heap.size+L.length≤D):aS w W' L:=
 ⟨fun j e hj=>(h.at_ j e hj).upto hb (by have:=(List.getElem?_eq_some_iff.1 hj).1;omega),h.bw.trans (hb.mono (by omega))⟩
theorem aS.size (h:aS w W L) (hL:0<L.length):w.heap.size+L.length≤W.heap.size:=by have:=h.lt (i:=L.length - 1) (by omega);omega
theorem aS.call (h:aS w W L) (hL:0<L.length) (hb:Below W.heap.size W W'):aS w W' L:=h.upto hb (h.size hL)
theorem aS.drew (h:aS w W L):aS w W.drew L:=⟨h.at_,h.bw.drew⟩
theorem aS.drewN (h:aS w W L) (n:Nat):aS w (W.drewN n) L:=⟨h.at_,below_drewN h.bw n⟩
theorem aS.alloc (h:aS w W L) (hL:0<L.length) (o:Obj):aS w (W.alloc o) L:=h.call hL ((Below.refl _ _).alloc (Nat.le_refl _) o)
end
section
variable {ops:Array Oper} {rest:List Oper} {op:Oper} {a:Act} {W:World} {Q:Exit→Act→World→Prop} {g n:Nat} {cs:List Value} {t:TypeId} {d:TypeDesc}
theorem BP (h:Held W g cs t) (hu:Tryz.prog.underlying t=some d) (hd:d.isRow=true) (hi:(Tryz.prog.info? t).map (·.size)=some cs.length) (hgd:op.guard=none) (x:Operand) (ho:op.op= .load t x) (hx:a.eval x= .pointer (some ⟨g,0,none⟩))
 (k:wpList Tryz.prog ops Q rest (a.put op.dst (.agg cs.toArray)) W):wpList Tryz.prog ops Q (op::rest) a W:=
 wpList_load_mid hgd t x ho g 0 hx cs d h.range hu hd hi k
theorem fG {cs vs:List Value} {n:Nat} (h:cs.length=n) (h':vs.length=cs.length):vs.toArray.size=n:=by simp [h,h']
theorem zF (h:Held W g cs t) (vs:List Value) (hl:vs.length=cs.length) (hi:(Tryz.prog.info? t).map (·.size)=some cs.length) (h1:∀ v∈vs,v.oneCell'=true) (hgd:op.guard=none) (x y:Operand) (ho:op.op= .store t x y)
 (hx:a.eval x= .pointer (some ⟨g,0,none⟩)) (hy:a.eval y= .agg vs.toArray)
 (k:wpList Tryz.prog ops Q rest (a.put op.dst undef) (W.setCells g 0 vs)):wpList Tryz.prog ops Q (op::rest) a W:=
 wpList_store_mid hgd t x y ho g 0 vs.toArray hx hy (by rw [fG rfl hl];exact h.there) (by rw [fG rfl hl];exact hi) (all_oneCell_toArray h1) (by rw [List.toList_toArray];exact k)
def sW (P:Program) (ops:Array Oper) (Q:Exit→Act→World→Prop) (op:Oper) (rest:List Oper) (a:Act) (W:World):Prop:=wpList P ops Q (op::rest) a W
theorem aC (t:TypeId) (x:Operand) (_:op.op= .load t x) (h:sW Tryz.prog ops Q op rest a W):wpList Tryz.prog ops Q (op::rest) a W:=h
theorem aQ (t:TypeId) (x y:Operand) (_:op.op= .store t x y) (h:sW Tryz.prog ops Q op rest a W):wpList Tryz.prog ops Q (op::rest) a W:=h
theorem au (h:Held W g cs t) (hu:Tryz.prog.underlying t=some d) (hd:d.isRow=true) (hi:(Tryz.prog.info? t).map (·.size)=some cs.length) (hgd:op.guard=none) (x:Operand) (ho:op.op= .load t x) (hx:a.eval x= .pointer (some ⟨g,0,none⟩))
 (k:wpList Tryz.prog ops Q rest (a.put op.dst (.agg cs.toArray)) W):sW Tryz.prog ops Q op rest a W:=BP h hu hd hi hgd x ho hx k
theorem aI (h:Held W g cs t) (vs:List Value) (hl:vs.length=cs.length) (hi:(Tryz.prog.info? t).map (·.size)=some cs.length) (h1:∀ v∈vs,v.oneCell'=true) (hgd:op.guard=none) (x y:Operand) (ho:op.op= .store t x y)
 (hx:a.eval x= .pointer (some ⟨g,0,none⟩)) (hy:a.eval y= .agg vs.toArray)
 (k:wpList Tryz.prog ops Q rest (a.put op.dst undef) (W.setCells g 0 vs)):sW Tryz.prog ops Q op rest a W:=zF h vs hl hi h1 hgd x y ho hx hy k
theorem gB (h:Held W g cs t) (hu:Tryz.prog.underlying t=some d) (hd:d.isRow=true) (hi:(Tryz.prog.info? t).map (·.size)=some cs.length) (hw:Region.wanted op (yielded ops a.tmps)=true) (x:Operand) (ho:op.op= .load t x) (hx:a.eval x= .pointer (some ⟨g,0,none⟩))
 (k:wpList Tryz.prog ops Q rest (a.put op.dst (.agg cs.toArray)) W):sW Tryz.prog ops Q op rest a W:=
 BigFrame.wpList_want hw fun _ hK=>wp_load_mid t x ho g 0 hx cs d h.range hu hd hi (hK _ _ k)
def Ol (P:Program) (Q:Exit→Act→World→Prop) (op:Oper) (K:Act→World→Prop) (a:Act) (W:World):Prop:=op.wp P a W K Q
theorem je {K:Act→World→Prop} (t:TypeId) (x:Operand) (_:op.op= .load t x) (h:Ol Tryz.prog Q op K a W):op.wp Tryz.prog a W K Q:=h
theorem gG {K:Act→World→Prop} (h:Held W g cs t) (hu:Tryz.prog.underlying t=some d) (hd:d.isRow=true) (hi:(Tryz.prog.info? t).map (·.size)=some cs.length) (x:Operand) (ho:op.op= .load t x) (hx:a.eval x= .pointer (some ⟨g,0,none⟩))
 (k:K (a.put op.dst (.agg cs.toArray)) W):Ol Tryz.prog Q op K a W:=wp_load_mid t x ho g 0 hx cs d h.range hu hd hi k
theorem aY {fn:Func} {p:Tmp} (h:Held W g cs t) (hu:Tryz.prog.underlying t=some d) (hd:d.isRow=true) (hi:(Tryz.prog.info? t).map (·.size)=some cs.length) (hr:fn.results= #[.cell p t]) (tmps:Array Value) (hp:tmps.getD p undef= .pointer (some ⟨g,0,none⟩)):
 (results fn tmps).run Tryz.prog W= .ok (.agg cs.toArray) W:=
 results_cell_row hr tmps W g t cs.toArray (0,0) d hp h hu (by cases d <;> first | rfl | cases hd) (by rw [fG rfl rfl];exact hi)
end
structure gI (D:Nat) (W W':World):Prop where
 sz:W.heap.size≤W'.heap.size
 block:∀ b,D≤b→b<W.heap.size→W'.heap[b]? =W.heap[b]?
section
variable {D:Nat} {W W' W2:World} {S:Nat→Prop} {size n c:Nat} {A:Option Addr} {xs:List Value}
theorem gI.refl (D:Nat) (W:World):gI D W W:=⟨Nat.le_refl _,fun _ _ _=>rfl⟩
theorem gI.trans (h:gI D W W') (k:gI D W' W2):gI D W W2:=⟨Nat.le_trans h.sz k.sz,fun b hb hl=>(k.block b hb (Nat.lt_of_lt_of_le hl h.sz)).trans (h.block b hb hl)⟩
theorem gI.setCell (h:gI D W W') {g:Nat} (hg:g<D) (o:Nat) (v:Value):gI D W (W'.setCell ⟨g,o,none⟩ v):=
 h.trans ⟨by simp [World.setCell],fun b hb _=>Below.heap_setCell _ _ _ b (by show b≠g;omega)⟩
theorem gI.setCells {g:Nat} (hg:g<D):∀ (vs:List Value) (o:Nat) (W':World),gI D W W'→gI D W (W'.setCells g o vs)
 | [],_,_,h=>h
 | v::r,o,W',h=>gI.setCells hg r (o+1) _ (h.setCell hg o v)
theorem gI.call (h:gI D W W') (hb:Below W'.heap.size W' W2):gI D W W2:=h.trans ⟨hb.size,fun b _ hl=>hb.block b hl⟩
theorem gI.drew (h:gI D W W'):gI D W W'.drew:=⟨h.sz,h.block⟩
theorem Reads.above (h:Reads W S size A n c xs) (hS:∀ b,S b→D≤b) (ha:gI D W W'):Reads W' S size A n c xs:=
 h.keep ha.sz fun b o hb hl=>World.cell?_of_block (ha.block b (hS b hb) hl)
theorem bT.above {zs:List Int} (h:bT W S A c zs) (hS:∀ b,S b→D≤b) (ha:gI D W W'):bT W' S A c zs:=Reads.above h hS ha
end
def aW:List Value:=[.string ⟨#[]⟩,.int .i64 0,.int .i64 0,.int .i64 0,.bool false,.bool false,.bool false,.bool false,.int .i64 0,.slice none 0 0,.int .i64 0,.int .i64 0,.int .i64 0,.int .i64 0,.int .i64 0,.int .i64 0,.bool false,.int .i64 0]
theorem bH (r:M.Rules) (s:M.State) (A:Option Addr) (c:Nat):∀ v∈aj r s A c,v.oneCell'=true:=by simp [aj,Value.oneCell']
theorem ak:(Tryz.prog.info? 99).map (·.size)=some 18:=by kernel_rfl
theorem bY:(Tryz.prog.info? 27).map (·.size)=some 7:=by kernel_rfl
theorem bF:(Tryz.prog.info? 53).map (·.size)=some 15:=by kernel_rfl
theorem bW (k:ByteArray) (l:List UInt8):(k.toList == l)=decide (k=⟨l.toArray⟩):=by
 rw [Bool.eq_iff_iff,beq_iff_eq,decide_eq_true_eq];exact ⟨fun e=>mV (by rw [e,ByteArray.toList_eq]),fun e=>by subst e;rw [ByteArray.toList_eq]⟩
theorem ig (r:M.Rules) (s:M.State) (A:Option Addr) (c:Nat) (w:World) (h0:0≤s.turn) (h1:s.turn≤1):
 Calls Tryz.prog 103 #[dP r s A c] w fun e w'=>e= .returned (dP r {s with turn:=1 - s.turn,run:=0 } A c)∧Below w.heap.size w w':=by
 go_enter Tryz.func103,Tryz.ntmps103
 go_upto_region 2 with (fail)
 go_cut [] (fun wx=>aS w wx [(aj r ({s with turn:=1 - s.turn,run:=0 }) A c,99),(aW,99)])
 case first=>
  go_wp2;go_meet;exact (((aS.nil w).new (by simp) (aj r ({s with turn:=1 - s.turn,run:=0 }) A c) _).new (by simp) (aW) _)
 case rest=>
  have hB:=hcut
  go_wp2_with (first | (refine aC 99 (.tmp 1) rfl ?_;refine au (hB.get 0 rfl) Tryz.underlying99 rfl ak rfl (.tmp 1) rfl rfl ?_) | (refine aQ 99 (.tmp 2) (.tmp 11) rfl ?_;refine aI (hB.get 1 rfl) (aj r ({s with turn:=1 - s.turn,run:=0 }) A c) rfl ak (bH _ _ _ _) rfl (.tmp 2) (.tmp 11) rfl rfl rfl ?_))
  have hZ:=hB.put 1 rfl (aj r ({s with turn:=1 - s.turn,run:=0 }) A c) rfl;exact bodyPost_ret (aY (p:=2) (hZ.get 1 rfl) Tryz.underlying99 rfl ak rfl _ rfl) rfl ⟨rfl,hZ.bw⟩
theorem qI (r:M.Rules) (s:M.State) (A:Option Addr) (c:Nat) (w:World) (h0:0≤s.bI) (h1:s.bI≤1000000):
 Calls Tryz.prog 158 #[dP r s A c] w fun e w'=>∃ A' c',e= .returned (dP r {s with aA:=M.iV r,bI:=s.bI+1 } A' c')∧bT w' (fun b=>w.heap.size≤b) A' c' (M.iV r)∧Below w.heap.size w w':=by
 go_enter Tryz.func158,Tryz.ntmps158
 go_upto_region 0 with (fail)
 go_cut [1,2] (fun v1 v2 wx=>v1=ptr w.heap.size∧v2=ptr (w.heap.size+1)∧aS w wx [(aj r (s) A c,99),(aW,99)])
 case first=>
  go_wp2;go_meet;exact ⟨rfl,rfl,(((aS.nil w).new (by simp) (aj r (s) A c) _).new (by simp) (aW) _)⟩
 case rest=>
  obtain ⟨rfl,rfl,hB⟩:=hcut;have hF:=hB.ah rfl;have k0:=hF.cell (j:=0) rfl;have Fg:=hF.frozen 0;have k1:=hF.cell (j:=1) rfl;have LD:=hF.frozen 1;have k2:=hF.cell (j:=2) rfl;have Vx:=hF.frozen 2;have k9:=hF.cell (j:=9) rfl;have kf9:=hF.frozen 9;have k15:=hF.cell (j:=15) rfl;have aos:=hF.frozen 15
  go_wp2_with (first | (go_at_call 68;refine (GL r _).mono ?_;rintro e w1 ⟨A1,c1,rfl,hr1,hb1⟩;have hB1:=hB.call (by simp) hb1;have hF1:=hB1.ah rfl;have q15:=hF1.cell (j:=15) rfl;have apf:=hF1.frozen 15;have q9:=hF1.cell (j:=9) rfl;have qf9:=hF1.frozen 9;have hB2:aS w ((w1.setCell ⟨w.heap.size,9,none⟩ (.slice A1 (M.iV r).length c1)).setCell ⟨w.heap.size,15,none⟩ (.int .i64 (s.bI+1))) [(aj r ({s with aA:=M.iV r,bI:=s.bI+1 }) A1 c1,99),(aW,99)]:=((hB1.set 0 rfl 9 _).set 0 rfl 15 _)) | (refine aC 99 (.tmp 1) rfl ?_;refine au (hB2.ah rfl) Tryz.underlying99 rfl ak rfl (.tmp 1) rfl rfl ?_) | (refine aQ 99 (.tmp 2) (.tmp 14) rfl ?_;refine aI (hB2.get 1 rfl) (aj r ({s with aA:=M.iV r,bI:=s.bI+1 }) A1 c1) rfl ak (bH _ _ _ _) rfl (.tmp 2) (.tmp 14) rfl rfl rfl ?_))
  have hZ:=hB2.put 1 rfl (aj r ({s with aA:=M.iV r,bI:=s.bI+1 }) A1 c1) rfl;refine bodyPost_ret (aY (p:=2) (hZ.get 1 rfl) Tryz.underlying99 rfl ak rfl _ rfl) rfl ⟨A1,c1,rfl,?_,hZ.bw⟩;have hsz:=hB.size (by simp)
  simp only [List.length_cons,List.length_nil] at hsz
  exact (hr1.above (D:=w.heap.size+2) (fun b h=>Nat.le_trans hsz h) (gI.setCells (by omega) _ _ _ (((gI.refl _ _).setCell (by omega) _ _).setCell (by omega) _ _))).more (fun b _ h=>by omega)
theorem EY (S:Nat→Prop) (A:Option Addr) (c:Nat) (l:List M.ny) (x:M.ny) (w:World) (h:fA w S A c l):
 Calls Tryz.prog 238 #[.slice A l.length c,.agg #[.int .i64 x.aT,.int .i64 x.aX]] w fun e w'=>(∃ i:Int,e= .returned (.int .i64 i)∧decide (0≤i)=decide (x∈l))∧Below w.heap.size w w':=by
 obtain ⟨b1,b2,b3⟩:=h.bd;rw [yV];obtain ⟨xb,xp⟩:=x
 go_enter Tryz.func238,Tryz.ntmps238
 go_wp2
 go_loopw [8] (fun i wr=>∃ k:Nat,k≤l.length∧i= .int .i64 k∧Aside ((l.take k).any (fun y=>decide (y=⟨xb,xp⟩))=false)∧Keeps w (w.alloc (.cells #[.int .i64 xb,.int .i64 xp] 71)) 1 wr) (fun i _=>l.length - (intOf i).toNat)
 case atStart=>exact ⟨0,Nat.zero_le _,rfl,by simp [Aside],Keeps.IZ w _⟩
 case round=>
  obtain ⟨k,hk,rfl,hall,KR⟩:=hrel;have hq0:wr.cell? ⟨w.heap.size,0,none⟩=some (.int .i64 xb):=(KR.cell _ _ (by omega)).trans ((Held.new w [.int .i64 xb,.int .i64 xp] _).cell (j:=0) rfl);have hq1:wr.cell? ⟨w.heap.size,1,none⟩=some (.int .i64 xp):=(KR.cell _ _ (by omega)).trans ((Held.new w [.int .i64 xb,.int .i64 xp] _).cell (j:=1) rfl)
  by_cases hlt:k<l.length
  · obtain ⟨b,o,rfl,_,hbl,hc⟩:=(fA.below h KR.bw).at_ k hlt
    obtain ⟨hck1,zC⟩:=hc k hlt;clear hc
    by_cases he:l[k]=⟨xb,xp⟩
    · have HP:=hide (jX (p:=fun y=>decide (y=(⟨xb,xp⟩:M.ny))) hlt (by simp [he]))
      have he1:(xb == l[k].aT)=true:=by simp [he]
      have he2:(xp == l[k].aX)=true:=by simp [he]
      clear he;go_wp2
      go_quiet (fail)
      go_wp2;go_ret;exact ⟨⟨k,rfl,by rw [HP.out];simp⟩,below_drewN KR.bw _⟩
    · have HP:=hide (jJ (p:=fun y=>decide (y=(⟨xb,xp⟩:M.ny))) hlt hall.out (by simp [he]))
      have he':((xb == l[k].aT) && (xp == l[k].aX))=false:=by
       rw [Bool.eq_false_iff];intro hb;simp at hb;exact he (by rw [hb.1,hb.2])
      rcases hb1:(xb == l[k].aT) with _ | _ <;> rcases hb2:(xp == l[k].aX) with _ | _ <;> rw [hb1,hb2] at he'
      all_goals first | (cases he';done) | skip
      all_goals
       clear he';have HE:=hide he;clear he;go_wp2
       go_quiet (fail)
       go_wp2
       go_roundw
       case rel=>exact ⟨k+1,by omega,by go_num,HP.out,KR.drewN _⟩
       case measure=>simp [intOf];omega
  · have HA:=hide (show l.any (fun y=>decide (y=(⟨xb,xp⟩:M.ny)))=false by have:=hall.out;rwa [List.take_of_length_le (by omega)] at this)
    go_wp2;go_ret;exact ⟨⟨-1,rfl,by rw [HA.out];rfl⟩,KR.bw⟩
theorem Ls (S:Nat→Prop) (A:Option Addr) (c:Nat) (l:List M.ny) (x:M.ny) (w:World) (h:fA w S A c l):
 Calls Tryz.prog 197 #[.slice A l.length c,.agg #[.int .i64 x.aT,.int .i64 x.aX]] w fun e w'=>e= .returned (.bool (decide (x∈l)))∧Below w.heap.size w w':=by
 have hx:=fun W hw=>EY S A c l x W hw;obtain ⟨xb,xp⟩:=x;have K0:Keeps w (w.alloc (.cells #[.int .i64 xb,.int .i64 xp] 71)) 1 (w.alloc (.cells #[.int .i64 xb,.int .i64 xp] 71)):=Keeps.IZ w _
 go_enter Tryz.func197,Tryz.ntmps197
 go_wp2_with (go_at_call 238;refine (hx _ (h.below K0.bw)).mono ?_;rintro e w2 ⟨⟨i,rfl,hi⟩,hb2⟩)
 go_ret;exact ⟨rfl,(K0.call hb2).bw⟩
def spot (g k:ByteArray) (aT:Int) (good:Bool):Bool:=if g=M.bC then decide (aT=8∧k=M.dR) else if g=M.dJ then decide (aT=9∧good=false) else !good
theorem G5 (r:M.Rules) (s:M.State) (x:M.aV) (A P:Option Addr) (c d:Nat) (aT:Int) (gd:Bool) (w:World):
 Calls Tryz.prog 198 #[dP r s A c,iG x P d,.int .i64 aT,.bool gd] w fun e w'=>e= .returned (.bool (spot r.game x.kind aT gd))∧Below w.heap.size w w':=by
 obtain ⟨g,tg,fo⟩:=r;obtain ⟨a0,a1,a2,a3,a4,gr,bl,b0,b1,b2,b3,b4,b5,b6,b7⟩:=s;obtain ⟨pl,kd,ba,po,fi,cu,aF⟩:=x
 simp only
 have e1:(g.toList == [101,105,103,104,116])=decide (g=M.bC):=bW g [101,105,103,104,116];have e2:(g.toList == [110,105,110,101])=decide (g=M.dJ):=bW g [110,105,110,101];have e3:(kd.toList == [98,114,101,97,107])=decide (kd=M.dR):=bW kd [98,114,101,97,107]
 have hs:spot g kd aT gd=if (g.toList == [101,105,103,104,116])=true then ((aT == 8) && (kd.toList == [98,114,101,97,107])) else if (g.toList == [110,105,110,101])=true then ((aT == 9) && !gd) else !gd:=by
  rw [e1,e2,e3]
  unfold spot
  by_cases h1:g=M.bC
  · simp [h1,tK]
  · by_cases h2:g=M.dJ
    · simp [h2,tK]
    · simp [h1,h2]
 rw [hs];clear hs e1 e2 e3
 rcases Bool.eq_false_or_eq_true (g.toList == [101,105,103,104,116]) with y1 | y1
 · rcases Bool.eq_false_or_eq_true (aT == 8) with y2 | y2
   all_goals
    rw [y1,y2]
    go_enter Tryz.func198,Tryz.ntmps198
    go_wp2;go_ret;exact ⟨rfl,((Below.refl _ _).alloc (Nat.le_refl _) _).alloc (by simp) _⟩
 · rcases Bool.eq_false_or_eq_true (g.toList == [110,105,110,101]) with y3 | y3
   · rcases Bool.eq_false_or_eq_true (aT == 9) with y2 | y2
     all_goals
      rw [y1,y3,y2]
      go_enter Tryz.func198,Tryz.ntmps198
      go_wp2;go_ret;exact ⟨rfl,((Below.refl _ _).alloc (Nat.le_refl _) _).alloc (by simp) _⟩
   · rw [y1,y3]
     go_enter Tryz.func198,Tryz.ntmps198
     go_wp2;go_ret;exact ⟨rfl,((Below.refl _ _).alloc (Nat.le_refl _) _).alloc (by simp) _⟩
theorem EP (S:Nat→Prop) (r:M.Rules) (s:M.State) (x:M.aV) (A P:Option Addr) (c d:Nat) (w:World) (hp:bT w S A c s.aA) (hpp:fA w S P d x.aF) (hx:sV x) (hpos:∀ p∈x.aF,0≤p.aT) (hr:M.bP r=0) (hg:0≤s.group∧s.group≤2):
 Calls Tryz.prog 154 #[dP r s A c,iG x P d] w fun e w'=>e= .returned (.bool (M.good r s x))∧Below w.heap.size w w':=by
 have hF:=fun W h h'=>uJ S r s x A P c d W h h' hx hpos hr hg;have hgs:=M.BN r s x
 generalize M.fU r s x=fl at hF hgs
 generalize M.good r s x=gd at hgs ⊢
 have HF:=hide hF;have HG:=hide hgs;clear hF hgs
 go_enter Tryz.func154,Tryz.ntmps154
 go_upto_region 0 with (fail)
 go_cut [2,3] (fun v2 v3 wx=>v2=ptr w.heap.size∧v3=ptr (w.heap.size+1)∧aS w wx [(aj r (s) A c,99),(aB ⟨x,P,d⟩,27)])
 case first=>
  go_wp2;go_meet;exact ⟨rfl,rfl,(((aS.nil w).new (by simp) (aj r (s) A c) _).new (by simp) (aB ⟨x,P,d⟩) _)⟩
 case rest=>
  obtain ⟨rfl,rfl,hB⟩:=hcut
  go_upto_region 1 with (fail)
  go_cut [5] (fun v wx=>v= .bool (decide (fl=0∧0<(M.objects x).length))∧aS w wx [(aj r (s) A c,99),(aB ⟨x,P,d⟩,27)])
  case first=>
   rcases Bool.eq_false_or_eq_true (fl == 0) with z1 | z1
   · by_cases z2:0<(M.objects x).length
     all_goals
      go_wp2_with (first | (refine aC 99 (.tmp 2) rfl ?_;refine au (hB.ah rfl) Tryz.underlying99 rfl ak rfl (.tmp 2) rfl rfl ?_) | (refine aC 27 (.tmp 3) rfl ?_;refine au (hB1.get 1 rfl) Tryz.underlying27 rfl bY rfl (.tmp 3) rfl rfl ?_) | (refine aC 27 (.tmp 3) rfl ?_;refine gB (hB1.get 1 rfl) Tryz.underlying27 rfl bY rfl (.tmp 3) rfl rfl ?_) | (refine je 27 (.tmp 3) rfl ?_;refine gG (hB1.get 1 rfl) Tryz.underlying27 rfl bY (.tmp 3) rfl rfl ?_) | (refine aC 27 (.tmp 3) rfl ?_;refine au (hB.get 1 rfl) Tryz.underlying27 rfl bY rfl (.tmp 3) rfl rfl ?_) | (go_at_call 39;refine (HF.out _ (hp.below hB.bw) (hpp.below hB.bw)).mono ?_;rintro e w1 ⟨rfl,hb1⟩;have hB1:=hB.call (by simp) hb1) | (go_at_call 81;refine (jq S x P d _ (hpp.below hB1.bw) hpos).mono ?_;rintro e w2 ⟨A1,c1,rfl,hr1,hb2⟩;have hB2:=hB1.call (by simp) hb2))
      go_meet;exact ⟨by simp only [beq_iff_eq] at z1;simp [z1,z2],hB2⟩
   · go_wp2_with (first | (refine aC 99 (.tmp 2) rfl ?_;refine au (hB.ah rfl) Tryz.underlying99 rfl ak rfl (.tmp 2) rfl rfl ?_) | (refine aC 27 (.tmp 3) rfl ?_;refine au (hB.get 1 rfl) Tryz.underlying27 rfl bY rfl (.tmp 3) rfl rfl ?_) | (go_at_call 39;refine (HF.out _ (hp.below hB.bw) (hpp.below hB.bw)).mono ?_;rintro e w1 ⟨rfl,hb1⟩;have hB1:=hB.call (by simp) hb1))
     go_meet;exact ⟨by rw [beq_eq_false_iff_ne] at z1;simp [z1],hB1⟩
  case rest=>
   obtain ⟨rfl,hC⟩:=hcut;clear hB;obtain ⟨so,hso⟩:∃ b,(decide (fl=0∧0<(M.objects x).length))=b:=⟨_,rfl⟩;rw [hso];have HS:=hide hso;clear hso;have Et:=hC.ah rfl;have x9:=hC.get 1 rfl;have k0:=Et.cell (j:=0) rfl;have Fg:=Et.frozen 0;have x1:=x9.cell (j:=1) rfl;have xf1:=x9.frozen 1;have x2:=x9.cell (j:=2) rfl;have xf2:=x9.frozen 2;have x3:=x9.cell (j:=3) rfl;have xf3:=x9.frozen 3;have x6:=x9.cell (j:=6) rfl;have xf6:=x9.frozen 6
   have hgd:∀ (b1 b2 b3 b4:Bool),b1=(x.kind.toList == [98,114,101,97,107])→b2=(x.kind.toList == [112,108,97,121])→b3=(r.game.toList == [115,116,114,97,105,103,104,116])→b4=(r.game.toList == [110,105,110,101])→
    gd=if b1 then (so && !b3) else if !b2 then false else if b4 then so else (so && decide ((⟨x.aT,x.aX⟩:M.ny)∈x.aF)):=by
    have g1:=HG.out;have g2:=HS.out
    rintro b1 b2 b3 b4 rfl rfl rfl rfl
    rw [bW x.kind [98,114,101,97,107],bW x.kind [112,108,97,121],bW r.game [115,116,114,97,105,103,104,116],bW r.game [110,105,110,101],g1, ← g2]
    by_cases h1:x.kind=M.dR
    · simp [h1,Bool.decide_and,Bool.and_assoc]
    · by_cases h2:x.kind=M.nP
      · by_cases h4:r.game=M.dJ <;> simp [h2,h4,M.yj,Bool.decide_and,Bool.and_assoc]
      · simp [h1,h2]
   have NU:=hide hgd;clear hgd
   rcases hb1:(x.kind.toList == [98,114,101,97,107]) with _ | _
   · rcases hb2:(x.kind.toList == [112,108,97,121]) with _ | _
     · have hn:(x.kind.toList != [112,108,97,121])=true:=by simp [bne,hb2]
       go_wp2;go_ret;exact ⟨cO (by rw [NU.out _ _ _ _ hb1.symm hb2.symm rfl rfl];rfl),hC.bw⟩
     · have hn:(x.kind.toList != [112,108,97,121])=false:=by simp [bne,hb2]
       rcases hb4:(r.game.toList == [110,105,110,101]) with _ | _
       · cases so with
         | true=>
           go_wp2_with (go_at_call 197;refine (Ls S P d x.aF ⟨x.aT,x.aX⟩ _ (hpp.below hC.bw)).mono ?_;rintro e w3 ⟨rfl,hb3⟩;have NM:=hC.call (by simp) hb3)
           go_ret;exact ⟨cO (by rw [NU.out _ _ _ _ hb1.symm hb2.symm rfl hb4.symm];simp),NM.bw⟩
         | false=>
           go_wp2;go_ret;exact ⟨cO (by rw [NU.out _ _ _ _ hb1.symm hb2.symm rfl hb4.symm];simp),hC.bw⟩
       · go_wp2
         go_ret;exact ⟨cO (by rw [NU.out _ _ _ _ hb1.symm hb2.symm rfl hb4.symm];simp),hC.bw⟩
   · rcases hb3:(r.game.toList == [115,116,114,97,105,103,104,116]) with _ | _
     all_goals
      have hn:(r.game.toList != [115,116,114,97,105,103,104,116])= !(r.game.toList == [115,116,114,97,105,103,104,116]):=rfl;rw [hb3] at hn
      cases so
      all_goals
       go_wp2;go_ret;exact ⟨cO (by rw [NU.out _ _ _ _ hb1.symm rfl hb3.symm rfl];rfl),hC.bw⟩
def iQ (r:M.Rules) (x:M.aV) (gd:Bool) (b:Int):Bool:= !(decide (b∈M.objects x)) || spot r.game x.kind b gd
theorem EO {p:Int→Bool} {l:List Int} {k:Nat} (hk:k<l.length):(l.take (k+1)).filter p=(l.take k).filter p++if p l[k]=true then [l[k]] else []:=by
 rw [List.take_succ_eq_append_getElem hk,List.filter_append]
 cases h:p l[k] <;> simp [h]
theorem Cb {r:M.Rules} {s:M.State} {x:M.aV} (hr:M.bP r=0):M.left r s x=s.aA.filter (iQ r x (M.good r s x)):=by
 unfold M.left
 congr 1
 funext b
 unfold M.stays iQ spot
 rcases M.qJ hr with h | h | h
 · have h1:¬ M.aH=M.bC:=by decide
   have h2:¬ M.aH=M.dJ:=by decide
   rw [h];simp [h1,h2]
 · have h1:¬ M.bC=M.aH:=by decide
   have h2:¬ M.bC=M.dJ:=by decide
   rw [h];simp [h1,h2]
 · have h1:¬ M.dJ=M.aH:=by decide
   have h2:¬ M.dJ=M.bC:=by decide
   rw [h];simp [h1,h2]
theorem FI (S:Nat→Prop) (r:M.Rules) (s:M.State) (x:M.aV) (A P:Option Addr) (c d:Nat) (gd:Bool) (w:World) (hp:bT w S A c s.aA) (hpp:fA w S P d x.aF) (hpos:∀ p∈x.aF,0≤p.aT):
 Calls Tryz.prog 155 #[dP r s A c,iG x P d,.bool gd] w fun e w'=>∃ A' c',e= .returned (.slice A' (s.aA.filter (iQ r x gd)).length c')∧bT w' (fun b=>w.heap.size≤b) A' c' (s.aA.filter (iQ r x gd))∧Below w.heap.size w w':=by
 obtain ⟨i0,hi,hz0,hz1,hz2⟩:=info_parts pO;obtain ⟨e1,e2,e3⟩:=hp.bd
 go_enter Tryz.func155,Tryz.ntmps155
 go_upto_region 0 with (fail)
 go_cut [3,4] (fun v2 v3 wx=>v2=ptr w.heap.size∧v3=ptr (w.heap.size+1)∧aS w wx [(aj r (s) A c,99),(aB ⟨x,P,d⟩,27)])
 case first=>
  go_wp2;go_meet;exact ⟨rfl,rfl,(((aS.nil w).new (by simp) (aj r (s) A c) _).new (by simp) (aB ⟨x,P,d⟩) _)⟩
 case rest=>
  obtain ⟨rfl,rfl,hB⟩:=hcut
  go_upto_region 1 with (fail)
  go_cut [7] (fun v wx=>∃ A1 c1,v= .slice A1 (M.objects x).length c1∧bT wx (fun b=>w.heap.size≤b) A1 c1 (M.objects x)∧aS w wx [(aj r (s) A c,99),(aB ⟨x,P,d⟩,27)])
  case first=>
   go_wp2_with (first | (refine aC 27 (.tmp 4) rfl ?_;refine au (hB.get 1 rfl) Tryz.underlying27 rfl bY rfl (.tmp 4) rfl rfl ?_) | (go_at_call 81;refine (jq S x P d _ (hpp.below hB.bw) hpos).mono ?_;rintro e w2 ⟨A1,c1,rfl,hr1,hb2⟩;have hB2:=hB.call (by simp) hb2))
   go_meet;exact ⟨A1,c1,rfl,hr1.more (fun b _ h=>Nat.le_trans hB.bw.size h),hB2⟩
  case rest=>
   obtain ⟨A1,c1,rfl,hr1,hC⟩:=hcut
   rename World=>W0
   clear hB;have Et:=hC.ah rfl;have k9:=Et.cell (j:=9) rfl;have uO:=hC.size (by simp)
   simp only [List.length_cons,List.length_nil] at uO
   go_wp2
   go_loopw [8,17] (fun v i wr=>∃ k:Nat,k≤s.aA.length∧i= .int .i64 k∧(∃ A c,v= .slice A ((s.aA.take k).filter (iQ r x gd)).length c)∧wr.ownsRow W0.heap.size 3 1 v ((s.aA.take k).filter (iQ r x gd)).length (((s.aA.take k).filter (iQ r x gd)).map (Value.int .i64))∧Aside (Below W0.heap.size W0 wr))
    (fun _ i _=>s.aA.length - (intOf i).toNat)
   case atStart=>exact ⟨0,Nat.zero_le _,rfl,⟨_,_,rfl⟩,World.ownsRow_nil _ _ _ _,Below.refl _ _⟩
   case round=>
    obtain ⟨k,hk,rfl,⟨A2,c2,rfl⟩,hown,hbR⟩:=hrel;have hR:=hC.call (by simp) hbR.out;have hgR:=hr1.below hbR.out
    by_cases hlt:k<s.aA.length
    · obtain ⟨b,o,rfl,_,hbl,hc⟩:=(hp.below hR.bw).at_ k hlt
      have hck:=hc k hlt;clear hc;have hs:=EO (p:=(iQ r x gd)) hlt;have hle:=List.length_filter_le (iQ r x gd) (s.aA.take k);rw [List.length_take] at hle;have HS:=hide hs;clear hs
      go_upto_region 6 with (fail)
      go_cut [31] from 21 to 31 (fun v wx=>v= .bool ((iQ r x gd) s.aA[k])∧wx.ownsRow W0.heap.size 3 1 (.slice A2 ((s.aA.take k).filter (iQ r x gd)).length c2) ((s.aA.take k).filter (iQ r x gd)).length (((s.aA.take k).filter (iQ r x gd)).map (Value.int .i64))∧Below wr.heap.size wr wx)
      case first=>
       rcases hm:decide (s.aA[k]∈M.objects x) with _ | _
       · go_wp2_with (go_at_call 78;refine (jS _ A1 c1 (M.objects x) _ _ hgR).mono ?_;rintro e nH ⟨rfl,rfl⟩)
         go_meet;exact ⟨by unfold iQ;rw [hm];rfl,hown,Below.refl _ _⟩
       · go_wp2_with (first | (refine aC 99 (.tmp 3) rfl ?_;refine au (hR.ah rfl) Tryz.underlying99 rfl ak rfl (.tmp 3) rfl rfl ?_) | (refine aC 99 (.tmp 3) rfl ?_;refine gB (hR.ah rfl) Tryz.underlying99 rfl ak rfl (.tmp 3) rfl rfl ?_) | (refine je 99 (.tmp 3) rfl ?_;refine gG (hR.ah rfl) Tryz.underlying99 rfl ak (.tmp 3) rfl rfl ?_) | (refine aC 27 (.tmp 4) rfl ?_;refine au (hR.get 1 rfl) Tryz.underlying27 rfl bY rfl (.tmp 4) rfl rfl ?_) | (refine aC 27 (.tmp 4) rfl ?_;refine gB (hR.get 1 rfl) Tryz.underlying27 rfl bY rfl (.tmp 4) rfl rfl ?_) | (refine je 27 (.tmp 4) rfl ?_;refine gG (hR.get 1 rfl) Tryz.underlying27 rfl bY (.tmp 4) rfl rfl ?_) | (go_at_call 78;refine (jS _ A1 c1 (M.objects x) _ _ hgR).mono ?_;rintro e nH ⟨rfl,rfl⟩) | (go_at_call 198;refine (G5 r s x _ P _ d _ gd _).mono ?_;rintro e w3 ⟨rfl,hb3⟩))
         go_meet;exact ⟨by unfold iQ;rw [hm];rfl,vk hown hb3,hb3⟩
      case rest=>
       obtain ⟨rfl,qP,hbZ⟩:=hcut;have uN:=hbR.out.trans (hbZ.mono hbR.out.size);have hsz1:=uN.size;clear hown
       cases hy:(iQ r x gd) s.aA[k] with
       | true=>
         have hsn:(s.aA.take (k+1)).filter (iQ r x gd)=(s.aA.take k).filter (iQ r x gd)++[s.aA[k]]:=by rw [HS.out,hy];rfl
         have HN:=hide hsn;clear hsn
         go_wp2_with (at_builtin;refine wpList_append_lies _ rfl _ _ _ rfl (W0.heap.size) 3 i0 (.int .i64 0) 1 8 Tryz.underlying50 hi hz0 hz1 hz2 rfl (by omega) _ _ _ rfl (qP.alloc _) ⟨wc.heap.size,0,none⟩ 1 1 [.int .i64 s.aA[k]] rfl rfl (dV _ _ _ _ (by simp)) ?c1 (by omega) ?c2 ?c3 ?c4 (wc.heap.size+1) (by simp) ?_)
         case c1=>simp [Value.oneCell']
         case c2=>simp only [maxLen];omega
         case c3=>omega
         case c4=>first | omega | (simp;omega)
         intro g1 cap w1 hown1 hgrow _ _;have hbd:=dZ (B:=W0.heap.size) (qP.alloc _) hgrow (by omega) (by simp;omega);have hb1:=((Below.refl W0.heap.size wc).alloc (by omega) _).trans hbd
         have hown2:w1.ownsRow W0.heap.size 3 1 (.slice (some ⟨g1,0,none⟩) ((s.aA.take (k+1)).filter (iQ r x gd)).length cap) ((s.aA.take (k+1)).filter (iQ r x gd)).length (((s.aA.take (k+1)).filter (iQ r x gd)).map (Value.int .i64)):=by rw [HN.out];simpa using hown1
         have hv:((s.aA.take k).filter (iQ r x gd)).length+1=((s.aA.take (k+1)).filter (iQ r x gd)).length:=by rw [HN.out];simp
         rw [hv];have hbw2:=uN.trans hb1;clear qP hown1 hgrow hbd hb1 hv;go_wp2
         go_roundw
         case rel=>exact ⟨k+1,by omega,by go_num,⟨_,_,rfl⟩,hown2,hbw2⟩
         case measure=>simp [intOf];omega
       | false=>
         have hsn:(s.aA.take (k+1)).filter (iQ r x gd)=(s.aA.take k).filter (iQ r x gd):=by rw [HS.out,hy];simp
         have HN:=hide hsn;clear hsn;go_wp2
         go_roundw
         case rel=>exact ⟨k+1,by omega,by go_num,by rw [HN.out];exact ⟨⟨_,_,rfl⟩,qP,uN⟩⟩
         case measure=>simp [intOf];omega
    · obtain rfl:k=s.aA.length:=by omega
      rw [List.take_length] at hown;go_wp2;go_ret;rw [List.take_length];exact ⟨A2,c2,rfl,(Reads.jh hown (fun b h=>by omega) (by have:=List.length_filter_le (iQ r x gd) s.aA;omega)),hR.bw⟩
theorem yZ (S:Nat→Prop) (A B:Option Addr) (c d:Nat) (xs ys:List Int) (w:World) (hx:bT w S A c xs) (hy:bT w S B d ys):
 Calls Tryz.prog 69 #[.slice A xs.length c,.slice B ys.length d] w fun r w'=>r= .returned (.bool (decide (xs=ys)))∧∃ n,w'=w.drewN n:=by
 obtain ⟨b1,b2,b3⟩:=hx.bd;obtain ⟨b4,b5,b6⟩:=hy.bd
 by_cases hl:xs.length=ys.length
 · have hl1:((xs.length:Int) != (ys.length:Int))=false:=by rw [hl];simp
   have HL:=hide hl;clear hl
   go_enter Tryz.func69,Tryz.ntmps69
   go_wp2
   go_loopw [13] (fun i wr=>∃ k n:Nat,k≤xs.length∧i= .int .i64 k∧xs.take k=ys.take k∧wr=w.drewN n) (fun i _=>xs.length - (intOf i).toNat)
   case atStart=>exact ⟨0,0,Nat.zero_le _,rfl,by simp,rfl⟩
   case round=>
    obtain ⟨k,n,hk,rfl,hx1,rfl⟩:=hrel
    by_cases hlt:k<xs.length
    · have hlt2:k<ys.length:=by have:=HL.out;omega
      obtain ⟨b,o,rfl,_,_,hc⟩:=hx.at_ k hlt;obtain ⟨b',o',rfl,_,_,hc'⟩:=hy.at_ k hlt2;have h1:=hc k hlt;have h2:=hc' k hlt2;clear hc hc'
      have i1:(0:Int)≤(k:Int):=by omega
      have i2:(k:Int)<(xs.length:Int):=by omega
      have i3:(k:Int)<(ys.length:Int):=by omega
      by_cases he:xs[k]=ys[k]
      · have he1:(xs[k] != ys[k])=false:=by simp [he]
        have HE:=hide he;have HX:=hide hx1;clear he hx1;go_wp2
        go_quiet (fail)
        go_wp2
        go_roundw
        case rel=>exact ⟨k+1,_,by omega,by go_num,vJ hlt hlt2 HX.out HE.out,rfl⟩
        case measure=>simp [intOf];omega
      · have he1:(xs[k] != ys[k])=true:=by simp [he]
        go_wp2
        go_quiet (fail)
        go_wp2;go_ret;exact ⟨cO (by simp [Ci hlt hlt2 he]),_,World.drewN_drewN _ _ _⟩
    · go_wp2
      go_ret;rw [List.take_of_length_le (by omega),List.take_of_length_le (by have:=HL.out;omega)] at hx1;exact ⟨cO (by simp [hx1]),n,rfl⟩
 · have hl1:((xs.length:Int) != (ys.length:Int))=true:=by simp;omega
   go_enter Tryz.func69,Tryz.ntmps69
   go_wp2;go_ret;exact ⟨cO (by simp;intro e;exact hl (by rw [e])),0,rfl⟩
def Aj (r:M.Rules) (s:M.State) (x:M.aV) (gd:Bool) (sc:Int):Int × Bool:=
 if r.game=M.aH then (x.aN,gd && decide (r.target≤sc))
 else if r.game=M.dJ then (x.aN,gd && decide ((9:Int)∈M.objects x))
 else if x.kind=M.dR∨(8:Int) ∉ M.objects x then (0,false)
 else if gd=true∧x.aT=8∧M.targets r s=[8] then (x.aN,true) else (1 - x.aN,true)
theorem OO {w:World} {Bx:Nat} {x:M.aV} {P:Option Addr} {d:Nat} {S:Nat→Prop} (hx:Held w Bx (aB ⟨x,P,d⟩) 27) (hpp:fA w S P d x.aF) (hpos:∀ p∈x.aF,0≤p.aT) (b:Int) (W:World) (hb:Below w.heap.size w W):
 Calls Tryz.prog 199 #[.int .i64 b,ptr Bx] W fun e w'=>e= .returned (.bool (decide (b∈M.objects x)))∧Below W.heap.size W w':=by
 have hX:=hx.below hb
 go_enter Tryz.func199,Tryz.ntmps199
 go_wp2_with (first | (refine aC 27 (.tmp 1) rfl ?_;refine au (hX) Tryz.underlying27 rfl bY rfl (.tmp 1) rfl rfl ?_) | (go_at_call 81;refine (jq S x P d _ (hpp.below hb) hpos).mono ?_;rintro e w1 ⟨A1,c1,rfl,hr1,hb1⟩) | (go_at_call 78;refine (jS _ A1 c1 (M.objects x) _ _ hr1).mono ?_;rintro e nH ⟨rfl,rfl⟩))
 go_ret;exact ⟨rfl,hb1⟩
theorem Ak (S:Nat→Prop) (r:M.Rules) (s:M.State) (x:M.aV) (A P:Option Addr) (c d:Nat) (gd:Bool) (sc:Int) (w:World) (hp:bT w S A c s.aA) (hpp:fA w S P d x.aF) (hpos:∀ p∈x.aF,0≤p.aT) (hr:M.bP r=0) (hg:0≤s.group∧s.group≤2) (h0:0≤x.aN) (h1:x.aN≤1):
 Calls Tryz.prog 156 #[dP r s A c,iG x P d,.bool gd,.int .i64 sc] w fun e w'=>e= .returned (.tuple #[.int .i64 (Aj r s x gd sc).1,.bool (Aj r s x gd sc).2])∧Below w.heap.size w w':=by
 go_enter Tryz.func156,Tryz.ntmps156
 go_upto_region 1 with (fail)
 go_cut [4,5,10] (fun v2 v3 v4 wx=>v2=ptr w.heap.size∧v3=ptr (w.heap.size+1)∧v4= .func (.func 199) #[] #[ptr (w.heap.size+1)]∧aS w wx [(aj r (s) A c,99),(aB ⟨x,P,d⟩,27)])
 case first=>
  go_wp2;go_meet;exact ⟨rfl,rfl,rfl,(((aS.nil w).new (by simp) (aj r (s) A c) _).new (by simp) (aB ⟨x,P,d⟩) _)⟩
 case rest=>
  obtain ⟨rfl,rfl,rfl,hB⟩:=hcut;have hbD:=Below.refl wc.heap.size wc;have hD:=fun b W h=>OO (hB.get 1 rfl) (hpp.below hB.bw) hpos b W h;have HD:=hide hD;clear hD;have Et:=hB.ah rfl;have x9:=hB.get 1 rfl;have k0:=Et.cell (j:=0) rfl;have Fg:=Et.frozen 0;have k1:=Et.cell (j:=1) rfl;have LD:=Et.frozen 1;have x0:=x9.cell (j:=0) rfl;have xf0:=x9.frozen 0;have x1:=x9.cell (j:=1) rfl;have xf1:=x9.frozen 1;have x2:=x9.cell (j:=2) rfl;have xf2:=x9.frozen 2;have e1:=bW r.game [115,116,114,97,105,103,104,116];have e2:=bW r.game [110,105,110,101];have e3:=bW x.kind [98,114,101,97,107]
  have hw:Aj r s x gd sc=if (r.game.toList == [115,116,114,97,105,103,104,116])=true then (x.aN,gd && decide (r.target≤sc)) else if (r.game.toList == [110,105,110,101])=true then (x.aN,gd && decide ((9:Int)∈M.objects x))
   else if ((x.kind.toList == [98,114,101,97,107]) || !decide ((8:Int)∈M.objects x))=true then (0,false) else if (gd && (decide (x.aT=8) && decide (M.targets r s=[8])))=true then (x.aN,true) else (1 - x.aN,true):=by
   rw [e1,e2,e3]
   unfold Aj
   simp only [decide_eq_true_eq,Bool.or_eq_true,Bool.not_eq_true',decide_eq_false_iff_not,Bool.and_eq_true]
  have HW:=hide hw;clear hw e1 e2 e3
  rcases hy1:(r.game.toList == [115,116,114,97,105,103,104,116]) with _ | _
  · rcases hy2:(r.game.toList == [110,105,110,101]) with _ | _
    · rcases hy3:(x.kind.toList == [98,114,101,97,107]) with _ | _
      · rcases hm:decide ((8:Int)∈M.objects x) with _ | _
        · go_wp2_with (first | (go_at_call 199;refine (HD.out _ _ hbD).mono ?_;rintro e w1 ⟨rfl,hb1⟩;have hB1:=hB.call (by simp) hb1))
          go_ret2;exact ⟨by rw [HW.out,hy1,hy2,hy3,hm];rfl,hB1.bw⟩
        · rcases gd with _ | _
          · have hq:∀ p:Bool,(if (false && p)=true then ((x.aN,true):Int × Bool) else (1 - x.aN,true))=(1 - x.aN,true):=by intro p;rfl
            go_upto_region 8 with (first | (go_at_call 199;refine (HD.out _ _ hbD).mono ?_;rintro e w1 ⟨rfl,hb1⟩;have hB1:=hB.call (by simp) hb1))
            have hX1:=hB1.get 1 rfl;have y0:=hX1.cell (j:=0) rfl;have XB:=hX1.frozen 0;have y2:=hX1.cell (j:=2) rfl;have yf2:=hX1.frozen 2;go_wp2;go_ret2;exact ⟨by rw [HW.out,hy1,hy2,hy3,hm];rfl,hB1.bw⟩
          · rcases hy4:decide (x.aT=8) with _ | _
            · have hy5:(x.aT == 8)=false:=by rw [tK,hy4]
              go_upto_region 8 with (first | (go_at_call 199;refine (HD.out _ _ hbD).mono ?_;rintro e w1 ⟨rfl,hb1⟩;have hB1:=hB.call (by simp) hb1))
              have hX1:=hB1.get 1 rfl;have y0:=hX1.cell (j:=0) rfl;have XB:=hX1.frozen 0;have y2:=hX1.cell (j:=2) rfl;have yf2:=hX1.frozen 2;go_wp2;go_ret2;exact ⟨by rw [HW.out,hy1,hy2,hy3,hm,hy4];rfl,hB1.bw⟩
            · have hy5:(x.aT == 8)=true:=by rw [tK,hy4]
              go_upto_region 8 with (first | (go_at_call 199;refine (HD.out _ _ hbD).mono ?_;rintro e w1 ⟨rfl,hb1⟩;have hB1:=hB.call (by simp) hb1))
              have hX1:=hB1.get 1 rfl;have y0:=hX1.cell (j:=0) rfl;have XB:=hX1.frozen 0;have y2:=hX1.cell (j:=2) rfl;have yf2:=hX1.frozen 2
              go_upto_region 8 with (fail)
              go_cut [48] (fun v wx=>v= .bool (decide (M.targets r s=[8]))∧aS w wx [(aj r (s) A c,99),(aB ⟨x,P,d⟩,27)])
              case first=>
               go_wp2_with (first | (refine aC 99 (.tmp 4) rfl ?_;refine au (hB1.ah rfl) Tryz.underlying99 rfl ak rfl (.tmp 4) rfl rfl ?_) | (refine aC 99 (.tmp 4) rfl ?_;refine gB (hB1.ah rfl) Tryz.underlying99 rfl ak rfl (.tmp 4) rfl rfl ?_) | (refine je 99 (.tmp 4) rfl ?_;refine gG (hB1.ah rfl) Tryz.underlying99 rfl ak (.tmp 4) rfl rfl ?_) | (go_at_call 79;refine (xR S r s A c _ (hp.below hB1.bw) hr hg).mono ?_;rintro e w2 ⟨A2,c2,rfl,hr2,hb2⟩;have hB2:=hB1.call (by simp) hb2) | (go_at_call 69;refine (yZ (fun _=>True) A2 (some ⟨w2.heap.size,0,none⟩) c2 1 (M.targets r s) [8] _ ((hr2.alloc _).more (fun _ _ _=>trivial)) (bT.lit w2 _ [8] (by simp) (fun _=>True) trivial)).mono ?_;rintro e w3 ⟨rfl,n3,rfl⟩;have hB3:=(hB2.alloc (by simp) (.cells #[.int .i64 8] 3)).drewN n3))
               go_meet;exact ⟨rfl,hB3⟩
              case rest=>
               obtain ⟨rfl,hB4⟩:=hcut;have hX4:=hB4.get 1 rfl;have z0:=hX4.cell (j:=0) rfl;have zf0:=hX4.frozen 0
               rcases ht:decide (M.targets r s=[8]) with _ | _
               all_goals
                go_wp2;go_ret2;exact ⟨by rw [HW.out,hy1,hy2,hy3,hm,hy4,ht];rfl,hB4.bw⟩
      · go_wp2
        go_ret2;exact ⟨by rw [HW.out,hy1,hy2,hy3];rfl,hB.bw⟩
    · rcases gd with _ | _
      · go_upto_region 5 with (fail)
        refine wp_region_held_drew (S:=(fun w':World=>w'.cell? ⟨w.heap.size+1,0,none⟩=some (.int .i64 x.aN))) (by kernel_rfl) ?dS (fun hHeld=>?_)
        case dS=>first | exact (hB.get 1 rfl).cell (j:=0) rfl | exact (hB.drew.get 1 rfl).cell (j:=0) rfl | exact (hB1.get 1 rfl).cell (j:=0) rfl
        refine tk 0 ?_;refine tk 1 ?_;refine tk 2 ?_;refine tk 3 ?_;refine tu 4 ?_;refine tu 5 ?_;refine tk 6 ?_;refine tk 7 ?_;refine tk 8 ?_;refine wpAnyH_done (by kernel_rfl) ?_ _;go_wp2;go_ret2;exact ⟨by rw [HW.out,hy1,hy2];rfl,hB.drew.bw⟩
      · go_upto_region 5 with (fail)
        refine wp_region_held_drew (S:=(fun w':World=>w'.cell? ⟨w.heap.size+1,0,none⟩=some (.int .i64 x.aN))) (by kernel_rfl) ?eU (fun hHeld=>?_)
        case eU=>first | exact (hB.get 1 rfl).cell (j:=0) rfl | exact (hB.drew.get 1 rfl).cell (j:=0) rfl | exact (hB1.get 1 rfl).cell (j:=0) rfl
        refine tk 0 ?_;refine tk 1 ?_;refine tk 2 ?_;refine tk 3 ?_;refine tk 4 ?_;refine tr 5 fun K hK=>?_;go_simp
        (go_at_call 199;refine (HD.out _ _ (Below.refl _ _).drew).mono ?_;rintro e w1 ⟨rfl,hb1⟩;have hB1:=hB.drew.call (by simp) hb1)
        refine hK.out _ _ ?QK (fun hHeld=>?_)
        case QK=>(first | (first | exact (hB.get 1 rfl).cell (j:=0) rfl | exact (hB.drew.get 1 rfl).cell (j:=0) rfl | exact (hB1.get 1 rfl).cell (j:=0) rfl) | (dsimp only;first | exact (hB.get 1 rfl).cell (j:=0) rfl | exact (hB.drew.get 1 rfl).cell (j:=0) rfl | exact (hB1.get 1 rfl).cell (j:=0) rfl))
        clear hK K
        try simp only [Act.put,la,lz,ls]
        refine tk 6 ?_;refine tk 7 ?_;refine tk 8 ?_;refine wpAnyH_done (by kernel_rfl) ?_ _;go_wp2;go_ret2;exact ⟨by rw [HW.out,hy1,hy2];rfl,hB1.bw⟩
  · rcases gd with _ | _
    all_goals
     go_wp2
     go_quiet (fail)
     go_wp2;go_ret2;exact ⟨by rw [HW.out,hy1];rfl,below_drewN hB.bw _⟩
theorem yO (S:Nat→Prop) (r:M.Rules) (s:M.State) (x:M.aV) (A P:Option Addr) (c d:Nat) (w:World) (hp:bT w S A c s.aA):
 Calls Tryz.prog 102 #[dP r s A c,iG x P d] w fun e w'=>∃ A' c',e= .returned (dP r (M.calm r s x) A' c')∧bT w' (fun b=>w.heap.size≤b) A' c' s.aA∧Below w.heap.size w w':=by
 have hS2:M.calm r s x= {s with brk:=false,hand:=false,push:=(r.game.toList == [110,105,110,101]) && (x.kind.toList == [98,114,101,97,107]),pushed:=(x.kind.toList == [112,117,115,104]) }:=by
  unfold M.calm
  have e1:(r.game.toList == [110,105,110,101])=decide (r.game=M.dJ):=bW r.game [110,105,110,101];have e2:(x.kind.toList == [98,114,101,97,107])=decide (x.kind=M.dR):=bW x.kind [98,114,101,97,107];have e3:(x.kind.toList == [112,117,115,104])=decide (x.kind=M.fJ):=bW x.kind [112,117,115,104];rw [e1,e2,e3]
  simp only [Bool.decide_and]
 go_enter Tryz.func102,Tryz.ntmps102
 go_upto_region 1 with (fail)
 go_cut [2,3,4] (fun v2 v3 v4 wx=>v2=ptr w.heap.size∧v3=ptr (w.heap.size+1)∧v4=ptr (w.heap.size+2)∧aS w wx [(aj r ({s with brk:=false,hand:=false }) A c,99),(aB ⟨x,P,d⟩,27),(aW,99)])
 case first=>
  go_wp2;go_meet;exact ⟨rfl,rfl,rfl,((((aS.nil w).new (by simp) (aj r ({s with brk:=false,hand:=false }) A c) _).new (by simp) (aB ⟨x,P,d⟩) _).new (by simp) (aW) _)⟩
 case rest=>
  obtain ⟨rfl,rfl,rfl,hB⟩:=hcut;have hF:=hB.ah rfl;have hX:=hB.get 1 rfl;have k0:=hF.cell (j:=0) rfl;have Fg:=hF.frozen 0;have k6:=hF.cell (j:=6) rfl;have Y8:=hF.frozen 6;have k7:=hF.cell (j:=7) rfl;have kf7:=hF.frozen 7;have x1:=hX.cell (j:=1) rfl;have xf1:=hX.frozen 1
  go_upto_region 2 with (fail)
  go_cut [] (fun wx=>aS w wx [(aj r (M.calm r s x) A c,99),(aB ⟨x,P,d⟩,27),(aW,99)])
  case first=>
   obtain ⟨y1,hy1⟩:∃ y,(r.game.toList == [110,105,110,101])=y:=⟨_,rfl⟩;obtain ⟨y2,hy2⟩:∃ y,(x.kind.toList == [98,114,101,97,107])=y:=⟨_,rfl⟩;obtain ⟨y3,hy3⟩:∃ y,(x.kind.toList == [112,117,115,104])=y:=⟨_,rfl⟩
   cases y1 with
   | true=>
     refine wp_region_held_drew (S:=(fun w':World=>w'.cell? ⟨w.heap.size,0,none⟩=some (.string r.game)∧w'.cell? ⟨w.heap.size+1,1,none⟩=some (.string x.kind))) (by kernel_rfl) ?dS (fun hHeld=>?_)
     case dS=>first | exact ⟨(hB.ah rfl).cell (j:=0) rfl,(hB.get 1 rfl).cell (j:=1) rfl⟩ | exact ⟨(hB.drew.ah rfl).cell (j:=0) rfl,(hB.drew.get 1 rfl).cell (j:=1) rfl⟩ | exact ⟨((hB.set 0 rfl 6 _).drew.ah rfl).cell (j:=0) rfl,((hB.set 0 rfl 6 _).drew.get 1 rfl).cell (j:=1) rfl⟩ | exact ⟨(((hB.set 0 rfl 6 _).set 0 rfl 7 _).drew.ah rfl).cell (j:=0) rfl,(((hB.set 0 rfl 6 _).set 0 rfl 7 _).drew.get 1 rfl).cell (j:=1) rfl⟩
     refine tk 0 ?_;refine tk 1 ?_;refine tk 2 ?_;refine tk 3 ?_;refine tk 4 ?_;refine tk 5 ?_;refine tk 6 ?_;refine tk 7 ?_;refine tk 8 ?_;refine tk 9 ?_;refine tk 10 ?_;refine tk 11 ?_;refine tk 12 ?_;refine tk 13 ?_;refine tr 14 fun K hK=>?_;go_simp;refine hK.out _ _ ?Xg (fun hHeld=>?_)
     case Xg=>(first | (first | exact ⟨(hB.ah rfl).cell (j:=0) rfl,(hB.get 1 rfl).cell (j:=1) rfl⟩ | exact ⟨(hB.drew.ah rfl).cell (j:=0) rfl,(hB.drew.get 1 rfl).cell (j:=1) rfl⟩ | exact ⟨((hB.set 0 rfl 6 _).drew.ah rfl).cell (j:=0) rfl,((hB.set 0 rfl 6 _).drew.get 1 rfl).cell (j:=1) rfl⟩ | exact ⟨(((hB.set 0 rfl 6 _).set 0 rfl 7 _).drew.ah rfl).cell (j:=0) rfl,(((hB.set 0 rfl 6 _).set 0 rfl 7 _).drew.get 1 rfl).cell (j:=1) rfl⟩) | (dsimp only;first | exact ⟨(hB.ah rfl).cell (j:=0) rfl,(hB.get 1 rfl).cell (j:=1) rfl⟩ | exact ⟨(hB.drew.ah rfl).cell (j:=0) rfl,(hB.drew.get 1 rfl).cell (j:=1) rfl⟩ | exact ⟨((hB.set 0 rfl 6 _).drew.ah rfl).cell (j:=0) rfl,((hB.set 0 rfl 6 _).drew.get 1 rfl).cell (j:=1) rfl⟩ | exact ⟨(((hB.set 0 rfl 6 _).set 0 rfl 7 _).drew.ah rfl).cell (j:=0) rfl,(((hB.set 0 rfl 6 _).set 0 rfl 7 _).drew.get 1 rfl).cell (j:=1) rfl⟩))
     clear hK K
     try simp only [Act.put,la,lz,ls]
     refine tk 15 ?_;refine tk 16 ?_;refine tr 17 fun K hK=>?_;go_simp;refine hK.out _ _ ?Xh (fun hHeld=>?_)
     case Xh=>(first | (first | exact ⟨(hB.ah rfl).cell (j:=0) rfl,(hB.get 1 rfl).cell (j:=1) rfl⟩ | exact ⟨(hB.drew.ah rfl).cell (j:=0) rfl,(hB.drew.get 1 rfl).cell (j:=1) rfl⟩ | exact ⟨((hB.set 0 rfl 6 _).drew.ah rfl).cell (j:=0) rfl,((hB.set 0 rfl 6 _).drew.get 1 rfl).cell (j:=1) rfl⟩ | exact ⟨(((hB.set 0 rfl 6 _).set 0 rfl 7 _).drew.ah rfl).cell (j:=0) rfl,(((hB.set 0 rfl 6 _).set 0 rfl 7 _).drew.get 1 rfl).cell (j:=1) rfl⟩) | (dsimp only;first | exact ⟨(hB.ah rfl).cell (j:=0) rfl,(hB.get 1 rfl).cell (j:=1) rfl⟩ | exact ⟨(hB.drew.ah rfl).cell (j:=0) rfl,(hB.drew.get 1 rfl).cell (j:=1) rfl⟩ | exact ⟨((hB.set 0 rfl 6 _).drew.ah rfl).cell (j:=0) rfl,((hB.set 0 rfl 6 _).drew.get 1 rfl).cell (j:=1) rfl⟩ | exact ⟨(((hB.set 0 rfl 6 _).set 0 rfl 7 _).drew.ah rfl).cell (j:=0) rfl,(((hB.set 0 rfl 6 _).set 0 rfl 7 _).drew.get 1 rfl).cell (j:=1) rfl⟩))
     clear hK K
     try simp only [Act.put,la,lz,ls]
     refine wpAnyH_done (by kernel_rfl) ?_ _;go_wp2;go_meet;rw [hS2,hy1,hy2,hy3];exact ((hB.set 0 rfl 6 _).set 0 rfl 7 _).drew
   | false=>
     refine wp_region_held_drew (S:=(fun w':World=>w'.cell? ⟨w.heap.size,0,none⟩=some (.string r.game)∧w'.cell? ⟨w.heap.size+1,1,none⟩=some (.string x.kind))) (by kernel_rfl) ?eU (fun hHeld=>?_)
     case eU=>first | exact ⟨(hB.ah rfl).cell (j:=0) rfl,(hB.get 1 rfl).cell (j:=1) rfl⟩ | exact ⟨(hB.drew.ah rfl).cell (j:=0) rfl,(hB.drew.get 1 rfl).cell (j:=1) rfl⟩ | exact ⟨((hB.set 0 rfl 6 _).drew.ah rfl).cell (j:=0) rfl,((hB.set 0 rfl 6 _).drew.get 1 rfl).cell (j:=1) rfl⟩ | exact ⟨(((hB.set 0 rfl 6 _).set 0 rfl 7 _).drew.ah rfl).cell (j:=0) rfl,(((hB.set 0 rfl 6 _).set 0 rfl 7 _).drew.get 1 rfl).cell (j:=1) rfl⟩
     refine tk 0 ?_;refine tk 1 ?_;refine tk 2 ?_;refine tk 3 ?_;refine tk 4 ?_;refine tu 5 ?_;refine tu 6 ?_;refine tu 7 ?_;refine tk 8 ?_;refine tk 9 ?_;refine tk 10 ?_;refine tk 11 ?_;refine tk 12 ?_;refine tk 13 ?_;refine tr 14 fun K hK=>?_;go_simp;refine hK.out _ _ ?Xj (fun hHeld=>?_)
     case Xj=>(first | (first | exact ⟨(hB.ah rfl).cell (j:=0) rfl,(hB.get 1 rfl).cell (j:=1) rfl⟩ | exact ⟨(hB.drew.ah rfl).cell (j:=0) rfl,(hB.drew.get 1 rfl).cell (j:=1) rfl⟩ | exact ⟨((hB.set 0 rfl 6 _).drew.ah rfl).cell (j:=0) rfl,((hB.set 0 rfl 6 _).drew.get 1 rfl).cell (j:=1) rfl⟩ | exact ⟨(((hB.set 0 rfl 6 _).set 0 rfl 7 _).drew.ah rfl).cell (j:=0) rfl,(((hB.set 0 rfl 6 _).set 0 rfl 7 _).drew.get 1 rfl).cell (j:=1) rfl⟩) | (dsimp only;first | exact ⟨(hB.ah rfl).cell (j:=0) rfl,(hB.get 1 rfl).cell (j:=1) rfl⟩ | exact ⟨(hB.drew.ah rfl).cell (j:=0) rfl,(hB.drew.get 1 rfl).cell (j:=1) rfl⟩ | exact ⟨((hB.set 0 rfl 6 _).drew.ah rfl).cell (j:=0) rfl,((hB.set 0 rfl 6 _).drew.get 1 rfl).cell (j:=1) rfl⟩ | exact ⟨(((hB.set 0 rfl 6 _).set 0 rfl 7 _).drew.ah rfl).cell (j:=0) rfl,(((hB.set 0 rfl 6 _).set 0 rfl 7 _).drew.get 1 rfl).cell (j:=1) rfl⟩))
     clear hK K
     try simp only [Act.put,la,lz,ls]
     refine tk 15 ?_;refine tk 16 ?_;refine tr 17 fun K hK=>?_;go_simp;refine hK.out _ _ ?Xk (fun hHeld=>?_)
     case Xk=>(first | (first | exact ⟨(hB.ah rfl).cell (j:=0) rfl,(hB.get 1 rfl).cell (j:=1) rfl⟩ | exact ⟨(hB.drew.ah rfl).cell (j:=0) rfl,(hB.drew.get 1 rfl).cell (j:=1) rfl⟩ | exact ⟨((hB.set 0 rfl 6 _).drew.ah rfl).cell (j:=0) rfl,((hB.set 0 rfl 6 _).drew.get 1 rfl).cell (j:=1) rfl⟩ | exact ⟨(((hB.set 0 rfl 6 _).set 0 rfl 7 _).drew.ah rfl).cell (j:=0) rfl,(((hB.set 0 rfl 6 _).set 0 rfl 7 _).drew.get 1 rfl).cell (j:=1) rfl⟩) | (dsimp only;first | exact ⟨(hB.ah rfl).cell (j:=0) rfl,(hB.get 1 rfl).cell (j:=1) rfl⟩ | exact ⟨(hB.drew.ah rfl).cell (j:=0) rfl,(hB.drew.get 1 rfl).cell (j:=1) rfl⟩ | exact ⟨((hB.set 0 rfl 6 _).drew.ah rfl).cell (j:=0) rfl,((hB.set 0 rfl 6 _).drew.get 1 rfl).cell (j:=1) rfl⟩ | exact ⟨(((hB.set 0 rfl 6 _).set 0 rfl 7 _).drew.ah rfl).cell (j:=0) rfl,(((hB.set 0 rfl 6 _).set 0 rfl 7 _).drew.get 1 rfl).cell (j:=1) rfl⟩))
     clear hK K
     try simp only [Act.put,la,lz,ls]
     refine wpAnyH_done (by kernel_rfl) ?_ _;go_wp2;go_meet;rw [hS2,hy1,hy2,hy3];exact ((hB.set 0 rfl 6 _).set 0 rfl 7 _).drew
  case rest=>
   have hC:=hcut;clear hF hX k0 Fg k6 Y8 k7 kf7 x1 xf1 hB hcut;have Et:=hC.ah rfl;have k9:=Et.cell (j:=9) rfl;have kf9:=Et.frozen 9
   go_wp2_with (first | (go_at_call 101;refine (jd S A c s.aA _ (hp.below hC.bw)).mono ?_;rintro e w1 ⟨A1,c1,rfl,hr1,hb1⟩;have hD:=hC.call (by simp) hb1;have Yh:=hD.ah rfl;have q9:=Yh.cell (j:=9) rfl;have qf9:=Yh.frozen 9;have hE:aS w (w1.setCell ⟨w.heap.size,9,none⟩ (.slice A1 s.aA.length c1)) [(aj r (M.calm r s x) A1 c1,99),(aB ⟨x,P,d⟩,27),(aW,99)]:=(hD.set 0 rfl 9 _)) | (refine BP (hE.ah rfl) Tryz.underlying99 rfl ak rfl (.tmp 2) rfl rfl ?_) | (refine zF (hE.get 2 rfl) (aj r (M.calm r s x) A1 c1) rfl ak (bH _ _ _ _) rfl (.tmp 4) (.tmp 31) rfl rfl rfl ?_))
   have hZ:=hE.put 2 rfl (aj r (M.calm r s x) A1 c1) rfl;refine bodyPost_ret (aY (p:=4) (hZ.get 2 rfl) Tryz.underlying99 rfl ak rfl _ rfl) rfl ⟨A1,c1,rfl,?_,hZ.bw⟩;have hsz:=hC.size (by simp)
   simp only [List.length_cons,List.length_nil] at hsz
   exact (hr1.above (D:=w.heap.size+3) (fun b h=>Nat.le_trans hsz h) (gI.setCells (by omega) _ _ _ ((gI.refl _ _).setCell (by omega) _ _))).more (fun b _ h=>by omega)
theorem LM (r:M.Rules) (s:M.State) (A:Option Addr) (c:Nat) (w:World) (h0: -1000000≤s.s0) (h1:s.s0≤1000000) (h2:0≤s.bI) (h3:s.bI≤1000000):
 Calls Tryz.prog 157 #[dP ⟨M.aH,r.target,r.bG⟩ s A c,.int .i64 0] w fun e w'=>∃ A' c',e= .returned (dP ⟨M.aH,r.target,r.bG⟩ ({s with s0:=s.s0 - 15,f0:=0,brk:=true,aA:=M.iV ⟨M.aH,r.target,r.bG⟩,bI:=s.bI+1 }) A' c')∧bT w' (fun b=>w.heap.size≤b) A' c' (M.iV ⟨M.aH,r.target,r.bG⟩)∧Below w.heap.size w w':=by
 go_enter Tryz.func157,Tryz.ntmps157
 go_upto_region 0 with (fail)
 go_cut [2,4] (fun v1 v2 wx=>v1=ptr w.heap.size∧v2=ptr (w.heap.size+1)∧aS w wx [(aj ⟨M.aH,r.target,r.bG⟩ (s) A c,99),(aW,99)])
 case first=>
  go_wp2;go_meet;exact ⟨rfl,rfl,(((aS.nil w).new (by simp) (aj ⟨M.aH,r.target,r.bG⟩ (s) A c) _).new (by simp) (aW) _)⟩
 case rest=>
  obtain ⟨rfl,rfl,hB⟩:=hcut;have hF:=hB.ah rfl;have k0:=hF.cell (j:=0) rfl;have Fg:=hF.frozen 0;have k4:=hF.cell (j:=4) rfl;have kf4:=hF.frozen 4;have k10:=hF.cell (j:=10) rfl;have an0:=hF.frozen 10;have k12:=hF.cell (j:=12) rfl;have aoe:=hF.frozen 12;have hC:aS w (((wc.setCell ⟨w.heap.size,10,none⟩ (.int .i64 (s.s0 - 15))).setCell ⟨w.heap.size,12,none⟩ (.int .i64 0)).setCell ⟨w.heap.size,4,none⟩ (.bool true)) [(aj ⟨M.aH,r.target,r.bG⟩ ({s with s0:=s.s0 - 15,f0:=0,brk:=true }) A c,99),(aW,99)]:=(((hB.set 0 rfl 10 _).set 0 rfl 12 _).set 0 rfl 4 _)
  go_wp2_with (first | (refine aC 99 (.tmp 2) rfl ?_;refine au (hC.ah rfl) Tryz.underlying99 rfl ak rfl (.tmp 2) rfl rfl ?_) | (go_at_call 158;refine (qI ⟨M.aH,r.target,r.bG⟩ ({s with s0:=s.s0 - 15,f0:=0,brk:=true }) A c _ h2 h3).mono ?_;rintro e w1 ⟨A1,c1,rfl,hr1,hb1⟩;have hD:=hC.call (by simp) hb1) | (refine aQ 99 (.tmp 4) (.tmp 32) rfl ?_;refine aI (hD.get 1 rfl) (aj ⟨M.aH,r.target,r.bG⟩ ({s with s0:=s.s0 - 15,f0:=0,brk:=true,aA:=M.iV ⟨M.aH,r.target,r.bG⟩,bI:=s.bI+1 }) A1 c1) rfl ak (bH _ _ _ _) rfl (.tmp 4) (.tmp 32) rfl rfl rfl ?_))
  have hZ:=hD.put 1 rfl (aj ⟨M.aH,r.target,r.bG⟩ ({s with s0:=s.s0 - 15,f0:=0,brk:=true,aA:=M.iV ⟨M.aH,r.target,r.bG⟩,bI:=s.bI+1 }) A1 c1) rfl;refine bodyPost_ret (aY (p:=4) (hZ.get 1 rfl) Tryz.underlying99 rfl ak rfl _ rfl) rfl ⟨A1,c1,rfl,?_,hZ.bw⟩;have hsz:=hC.size (by simp)
  simp only [List.length_cons,List.length_nil] at hsz
  exact (hr1.above (D:=w.heap.size+2) (fun b h=>Nat.le_trans hsz h) (gI.setCells (by omega) _ _ _ (gI.refl _ _))).more (fun b _ h=>by omega)
theorem LP (r:M.Rules) (s:M.State) (A:Option Addr) (c:Nat) (w:World) (h0: -1000000≤s.s1) (h1:s.s1≤1000000) (h2:0≤s.bI) (h3:s.bI≤1000000):
 Calls Tryz.prog 157 #[dP ⟨M.aH,r.target,r.bG⟩ s A c,.int .i64 1] w fun e w'=>∃ A' c',e= .returned (dP ⟨M.aH,r.target,r.bG⟩ ({s with s1:=s.s1 - 15,f1:=0,brk:=true,aA:=M.iV ⟨M.aH,r.target,r.bG⟩,bI:=s.bI+1 }) A' c')∧bT w' (fun b=>w.heap.size≤b) A' c' (M.iV ⟨M.aH,r.target,r.bG⟩)∧Below w.heap.size w w':=by
 go_enter Tryz.func157,Tryz.ntmps157
 go_upto_region 0 with (fail)
 go_cut [2,4] (fun v1 v2 wx=>v1=ptr w.heap.size∧v2=ptr (w.heap.size+1)∧aS w wx [(aj ⟨M.aH,r.target,r.bG⟩ (s) A c,99),(aW,99)])
 case first=>
  go_wp2;go_meet;exact ⟨rfl,rfl,(((aS.nil w).new (by simp) (aj ⟨M.aH,r.target,r.bG⟩ (s) A c) _).new (by simp) (aW) _)⟩
 case rest=>
  obtain ⟨rfl,rfl,hB⟩:=hcut;have hF:=hB.ah rfl;have k0:=hF.cell (j:=0) rfl;have Fg:=hF.frozen 0;have k4:=hF.cell (j:=4) rfl;have kf4:=hF.frozen 4;have k11:=hF.cell (j:=11) rfl;have an7:=hF.frozen 11;have k13:=hF.cell (j:=13) rfl;have aol:=hF.frozen 13;have hC:aS w (((wc.setCell ⟨w.heap.size,11,none⟩ (.int .i64 (s.s1 - 15))).setCell ⟨w.heap.size,13,none⟩ (.int .i64 0)).setCell ⟨w.heap.size,4,none⟩ (.bool true)) [(aj ⟨M.aH,r.target,r.bG⟩ ({s with s1:=s.s1 - 15,f1:=0,brk:=true }) A c,99),(aW,99)]:=(((hB.set 0 rfl 11 _).set 0 rfl 13 _).set 0 rfl 4 _)
  go_wp2_with (first | (refine aC 99 (.tmp 2) rfl ?_;refine au (hC.ah rfl) Tryz.underlying99 rfl ak rfl (.tmp 2) rfl rfl ?_) | (go_at_call 158;refine (qI ⟨M.aH,r.target,r.bG⟩ ({s with s1:=s.s1 - 15,f1:=0,brk:=true }) A c _ h2 h3).mono ?_;rintro e w1 ⟨A1,c1,rfl,hr1,hb1⟩;have hD:=hC.call (by simp) hb1) | (refine aQ 99 (.tmp 4) (.tmp 32) rfl ?_;refine aI (hD.get 1 rfl) (aj ⟨M.aH,r.target,r.bG⟩ ({s with s1:=s.s1 - 15,f1:=0,brk:=true,aA:=M.iV ⟨M.aH,r.target,r.bG⟩,bI:=s.bI+1 }) A1 c1) rfl ak (bH _ _ _ _) rfl (.tmp 4) (.tmp 32) rfl rfl rfl ?_))
  have hZ:=hD.put 1 rfl (aj ⟨M.aH,r.target,r.bG⟩ ({s with s1:=s.s1 - 15,f1:=0,brk:=true,aA:=M.iV ⟨M.aH,r.target,r.bG⟩,bI:=s.bI+1 }) A1 c1) rfl;refine bodyPost_ret (aY (p:=4) (hZ.get 1 rfl) Tryz.underlying99 rfl ak rfl _ rfl) rfl ⟨A1,c1,rfl,?_,hZ.bw⟩;have hsz:=hC.size (by simp)
  simp only [List.length_cons,List.length_nil] at hsz
  exact (hr1.above (D:=w.heap.size+2) (fun b h=>Nat.le_trans hsz h) (gI.setCells (by omega) _ _ _ (gI.refl _ _))).more (fun b _ h=>by omega)
theorem DV (r:M.Rules) (s:M.State) (p:Int) (A:Option Addr) (c:Nat) (w:World) (hg:¬ r.game=M.aH) (h0:0≤p) (h1:p≤1):
 Calls Tryz.prog 157 #[dP r s A c,.int .i64 p] w fun e w'=>e= .returned (dP r ({s with over:=true,bQ:=1 - p }) A c)∧Below w.heap.size w w':=by
 have hg':(r.game.toList == [115,116,114,97,105,103,104,116])=false:=beq_eq_false_iff_ne.2 (dI hg)
 have hg2:(r.game.toList != [115,116,114,97,105,103,104,116])=true:=by simp [bne,hg']
 go_enter Tryz.func157,Tryz.ntmps157
 go_upto_region 2 with (fail)
 go_cut [2,4] (fun v1 v2 wx=>v1=ptr w.heap.size∧v2=ptr (w.heap.size+1)∧aS w wx [(aj r ({s with over:=true,bQ:=1 - p }) A c,99),(aW,99)])
 case first=>
  go_wp2;go_meet;exact ⟨rfl,rfl,(((aS.nil w).new (by simp) (aj r ({s with over:=true,bQ:=1 - p }) A c) _).new (by simp) (aW) _)⟩
 case rest=>
  obtain ⟨rfl,rfl,hB⟩:=hcut
  go_wp2_with (first | (refine aC 99 (.tmp 2) rfl ?_;refine au (hB.ah rfl) Tryz.underlying99 rfl ak rfl (.tmp 2) rfl rfl ?_) | (refine aQ 99 (.tmp 4) (.tmp 15) rfl ?_;refine aI (hB.get 1 rfl) (aj r ({s with over:=true,bQ:=1 - p }) A c) rfl ak (bH _ _ _ _) rfl (.tmp 4) (.tmp 15) rfl rfl rfl ?_))
  have hZ:=hB.put 1 rfl (aj r ({s with over:=true,bQ:=1 - p }) A c) rfl;exact bodyPost_ret (aY (p:=4) (hZ.get 1 rfl) Tryz.underlying99 rfl ak rfl _ rfl) rfl ⟨rfl,hZ.bw⟩
theorem xw (S:Nat→Prop) (r:M.Rules) (s:M.State) (p:Int) (A:Option Addr) (c:Nat) (w:World) (hp:bT w S A c s.aA) (h:p=0∨p=1) (h0: -1000000≤s.s0) (h1:s.s0≤1000000) (k0: -1000000≤s.s1) (k1:s.s1≤1000000) (h2:0≤s.bI) (h3:s.bI≤1000000):
 Calls Tryz.prog 157 #[dP r s A c,.int .i64 p] w fun e w'=>∃ A' c',e= .returned (dP r (M.limit r s p) A' c')∧bT w' (fun b=>S b∨w.heap.size≤b) A' c' (M.limit r s p).aA∧Below w.heap.size w w':=by
 by_cases hg:r.game=M.aH
 · obtain ⟨g,tg,fo⟩:=r
   simp only at hg
   subst hg;have hne:¬ (M.aH≠M.aH):=fun h=>h rfl
   rcases h with rfl | rfl
   · refine (LM ⟨M.aH,tg,fo⟩ s A c w h0 h1 h2 h3).mono ?_
     rintro e w' ⟨A1,c1,rfl,hr,hb⟩
     have hl:M.limit ⟨M.aH,tg,fo⟩ s 0= {s with s0:=s.s0 - 15,f0:=0,brk:=true,aA:=M.iV ⟨M.aH,tg,fo⟩,bI:=s.bI+1 }:=by
      unfold M.limit;rw [if_neg hne];rfl
     rw [hl];exact ⟨A1,c1,rfl,hr.more (fun b _ h=> .inr h),hb⟩
   · refine (LP ⟨M.aH,tg,fo⟩ s A c w k0 k1 h2 h3).mono ?_
     rintro e w' ⟨A1,c1,rfl,hr,hb⟩
     have hl:M.limit ⟨M.aH,tg,fo⟩ s 1= {s with s1:=s.s1 - 15,f1:=0,brk:=true,aA:=M.iV ⟨M.aH,tg,fo⟩,bI:=s.bI+1 }:=by
      unfold M.limit;rw [if_neg hne];rfl
     rw [hl];exact ⟨A1,c1,rfl,hr.more (fun b _ h=> .inr h),hb⟩
 · refine (DV r s p A c w hg (by omega) (by omega)).mono ?_
   rintro e w' ⟨rfl,hb⟩
   have hl:M.limit r s p= {s with over:=true,bQ:=1 - p }:=by unfold M.limit;rw [if_pos hg]
   rw [hl];exact ⟨A,c,rfl,(hp.below hb).more (fun b _ h=> .inl h),hb⟩
theorem CO {r:M.Rules} {s:M.State} {x:M.aV} (hl:M.Lawful r s x) (hx:M.oW x) (hc:x.kind≠M.bf) (hr:M.bP r=0):
 M.play r s x=if (Aj r s x (M.good r s x) ((M.counted r s x).score x.aN)).2=true then {M.counted r s x with over:=true,bQ:=(Aj r s x (M.good r s x) ((M.counted r s x).score x.aN)).1 }
  else if M.fU r s x≠0∧(M.counted r s x).jC x.aN=r.bG then M.limit r (M.counted r s x) x.aN
  else if M.good r s x=false then M.passed r s x (M.counted r s x) else M.eX r (M.grouped r s x (M.counted r s x)):=by
 have ho:(M.counted r s x).over=false:=(M.ql r s x).trans hl.over
 unfold M.play
 simp only
 generalize M.counted r s x=t at ho ⊢
 have fin:∀ (v:Int) (b:Bool),M.ended r s x t=(if b=true then {t with over:=true,bQ:=v } else t)→
  (if (M.ended r s x t).over=true then M.ended r s x t else if M.fU r s x≠0∧(M.ended r s x t).jC x.aN=r.bG then M.limit r (M.ended r s x t) x.aN else if M.good r s x=false then M.passed r s x (M.ended r s x t) else M.eX r (M.grouped r s x (M.ended r s x t)))=
  (if b=true then {t with over:=true,bQ:=v } else if M.fU r s x≠0∧t.jC x.aN=r.bG then M.limit r t x.aN else if M.good r s x=false then M.passed r s x t else M.eX r (M.grouped r s x t)):=by
  intro v b h;rw [h]
  cases b with
  | true=>simp only [if_true]
  | false=>
    simp only [Bool.false_eq_true,if_false]
    rw [if_neg (by rw [ho];decide)]
 refine fin _ _ ?_
 unfold M.ended Aj M.won
 rcases M.qJ hr with h | h | h
 · have h1:¬ M.aH=M.dJ:=by decide
   have h2:¬ M.aH=M.bC:=by decide
   rw [h]
   by_cases hg:M.good r s x=true <;> by_cases hs:r.target≤t.score x.aN <;> simp [h1,h2,hg,hs]
 · have h1:¬ M.bC=M.dJ:=by decide
   have h2:¬ M.bC=M.aH:=by decide
   rw [h]
   by_cases hb:x.kind=M.dR
   · simp [h1,h2,hb]
   · by_cases h8:(8:Int)∈M.objects x
     · by_cases hw:M.good r s x=true∧x.aT=8∧M.targets r s=[8]
       · simp [h1,h2,hb,h8,hw]
       · have e1:(if M.good r s x=true∧x.aT=8∧M.targets r s=[8] then (x.aN,true) else (1 - x.aN,true))=((1 - x.aN,true):Int × Bool):=if_neg hw
         have e2:decide (M.good r s x=true∧x.aT=8∧M.targets r s=[8])=false:=decide_eq_false hw
         simp only [h1,h2,hb,h8,if_false,false_and,ne_eq,not_true,not_false_eq_true,and_self,or_self,if_true,e1,e2,Bool.false_eq_true]
     · simp [h1,h2,hb,h8]
 · have h1:¬ M.dJ=M.aH:=by decide
   have h2:¬ M.dJ=M.bC:=by decide
   rw [h]
   by_cases hg:M.good r s x=true <;> by_cases hs:(9:Int)∈M.objects x <;> simp [h1,h2,hg,hs]
theorem aS.cells {w W W':World} {L:List (List Value × TypeId)} (h:aS w W L) (hb:Below W.heap.size W W'):∀ p q,p<w.heap.size+L.length→W'.cell? ⟨p,q,none⟩=W.cell? ⟨p,q,none⟩:=
 fun p q hp=>hb.cell (p:=⟨p,q,none⟩) (by
  rcases Nat.eq_zero_or_pos L.length with h0 | h0
  · exact Nat.lt_of_lt_of_le (by rw [h0] at hp;simpa using hp) h.bw.size
  · exact Nat.lt_of_lt_of_le hp (h.size h0))
theorem zo (r:M.Rules) (s:M.State) (x:M.aV):0≤M.fU r s x∧M.fU r s x≤4:=by
 unfold M.fU
 repeat' split
 all_goals omega
theorem bT.sets {S:Nat→Prop} {A:Option Addr} {c:Nat} {zs:List Int} {g:Nat} (hg:¬ S g):∀ (vs:List Value) (o:Nat) (W:World),bT W S A c zs→bT (W.setCells g o vs) S A c zs
 | [],_,_,h=>h
 | v::r,o,W,h=>bT.sets hg r (o+1) _ (h.setCell (p:=⟨g,o,none⟩) hg v)
structure dX (w W:World) (L:List (List Value × TypeId)) (D:Nat) (G:List Value):Prop where
 b:aS w W L
 g:Held W D G 99
section
variable {w W W':World} {L:List (List Value × TypeId)} {D:Nat} {G:List Value}
theorem dX.set (h:dX w W L D G) (hD:w.heap.size+L.length≤D) (o:Nat) (v:Value):dX w (W.setCell ⟨D,o,none⟩ v) L D (G.set o v):=⟨h.b.far hD o v,h.g.set o v⟩
theorem dX.call (h:dX w W L D G) (hL:0<L.length) (hb:Below W.heap.size W W'):dX w W' L D G:=⟨h.b.call hL hb,h.g.below hb⟩
theorem dX.drew (h:dX w W L D G):dX w W.drew L D G:=⟨h.b.drew,h.g⟩
theorem dX.drewN (h:dX w W L D G) (n:Nat):dX w (W.drewN n) L D G:=⟨h.b.drewN n,h.g⟩
end
theorem WX (S:Nat→Prop) (n:Int) (r:M.Rules) (s:M.State) (x:M.aV) (A P:Option Addr) (c d:Nat) (w:World) (hp:bT w S A c s.aA) (hpp:fA w S P d x.aF) (hck:M.cZ x=0) (hr:M.bP r=0) (hk:M.Ok r n s) (hn:0≤n∧n≤500000) (hpl:x.aN=0) (hl:M.Lawful r s x) (hc:x.kind≠M.bf):
 Calls Tryz.prog 104 #[dP r s A c,iG x P d] w fun e w'=>∃ A' c',e= .returned (dP r (M.play r s x) A' c')∧bT w' (fun b=>w.heap.size≤b) A' c' (M.play r s x).aA∧Below w.heap.size w w':=by
 obtain ⟨hx,qZ,_⟩:=yF hck;have hsx:=M.rJ hck;have Dz:=hsx.objs;have hpos:∀ p∈x.aF,0≤p.aT:=fun p h=>(qZ p h).1.1;have hg:=hk.group;have hF:=fun W h h'=>uJ S r s x A P c d W h h' hx hpos hr hg;have hG:=fun W h h'=>EP S r s x A P c d W h h' hx hpos hr hg;have hL:=fun W h h'=>FI S r s x A P c d (M.good r s x) W h h' hpos;rw [← Cb hr] at hL;obtain ⟨fl,hfl⟩:∃ q,M.fU r s x=q:=⟨_,rfl⟩;obtain ⟨gd,hgd⟩:∃ q,M.good r s x=q:=⟨_,rfl⟩;rw [hfl] at hF;rw [hgd] at hG hL;obtain ⟨pu,hpu⟩:∃ q,decide (r.game=M.dJ∧x.kind=M.dR)=q:=⟨_,rfl⟩;obtain ⟨pd,Vw⟩:∃ q,decide (x.kind=M.fJ)=q:=⟨_,rfl⟩
 have hcm:M.calm r s x= {s with brk:=false,hand:=false,push:=pu,pushed:=pd }:=by unfold M.calm;rw [hpu,Vw]
 have hC:=fun W h=>yO S r s x A P c d W h
 simp only [hcm] at hC
 have HC:=hide hC;have HCM:=hide hcm;clear hC hcm hpu Vw;have HF:=hide hF;have HG:=hide hG;have HL:=hide hL;have VN:=hide hfl;have NU:=hide hgd;clear hF hG hL hfl hgd;have rZ:=hide hpl;clear hpl
 go_enter Tryz.func104,Tryz.ntmps104
 go_upto_region 0 with (fail)
 go_cut [2,3,4] (fun v2 v3 v4 wx=>v2=ptr w.heap.size∧v3=ptr (w.heap.size+1)∧v4=ptr (w.heap.size+2)∧aS w wx [(aj r (s) A c,99),(aB ⟨x,P,d⟩,27),(aW,99)])
 case first=>
  as_aux_lemma=>
   go_wp2;go_meet;exact ⟨rfl,rfl,rfl,((((aS.nil w).new (by simp) (aj r (s) A c) _).new (by simp) (aB ⟨x,P,d⟩) _).new (by simp) (aW) _)⟩
 case rest=>
  obtain ⟨rfl,rfl,rfl,hB⟩:=hcut
  go_upto_region 1 with (fail)
  go_cut [5,6] (fun v5 v6 wx=>v5= .int .i64 fl∧v6= .bool gd∧aS w wx [(aj r (s) A c,99),(aB ⟨x,P,d⟩,27),(aW,99)])
  case first=>
   as_aux_lemma=>
    have Iz:∀ W:World,(fun w':World=>∀ p q,p<w.heap.size+3→w'.cell? ⟨p,q,none⟩=wc.cell? ⟨p,q,none⟩) W→W.rangeAt w.heap.size 0 (aj r (s) A c):=fun W h j v hj=>by rw [h _ _ (by omega)];exact (hB.ah rfl).range j v hj
    have JO:∀ W:World,(fun w':World=>∀ p q,p<w.heap.size+3→w'.cell? ⟨p,q,none⟩=wc.cell? ⟨p,q,none⟩) W→W.rangeAt (w.heap.size+1) 0 (aB ⟨x,P,d⟩):=fun W h j v hj=>by rw [h _ _ (by omega)];exact (hB.get 1 rfl).range j v hj
    refine wp_region_held_drew (S:=(fun w':World=>∀ p q,p<w.heap.size+3→w'.cell? ⟨p,q,none⟩=wc.cell? ⟨p,q,none⟩)) (by kernel_rfl) ?eU (fun hHeld=>?_)
    case eU=>first | exact fun p q h=>rfl | exact fun p q h=>hB.drew.cells hb1 p q h | exact fun p q h=>(hB1.cells hb2 p q h).trans (hB.drew.cells hb1 p q h)
    refine wpAnyH_take (i:=0) (oi:=_) (v:=_) (ga rfl) (by kernel_rfl) (by kernel_rfl) (by kernel_rfl) (fun _ _ _ h=>h) (yieldsIf_load_mid (by rfl) _ _ (by rfl) _ _ (by rfl) _ _ Iz Tryz.underlying99 rfl (by kernel_rfl)) (by assumption) ?_
    try simp only [Act.put,la,lz,ls]
    refine wpAnyH_take (i:=1) (oi:=_) (v:=_) (ga rfl) (by kernel_rfl) (by kernel_rfl) (by kernel_rfl) (fun _ _ _ h=>h) (yieldsIf_load_mid (by rfl) _ _ (by rfl) _ _ (by rfl) _ _ JO Tryz.underlying27 rfl (by kernel_rfl)) (by assumption) ?_
    try simp only [Act.put,la,lz,ls]
    refine wpAnyH_take (i:=3) (oi:=_) (v:=_) (ga rfl) (by kernel_rfl) (by kernel_rfl) (by kernel_rfl) (fun _ _ _ h=>h) (yieldsIf_load_mid (by rfl) _ _ (by rfl) _ _ (by rfl) _ _ Iz Tryz.underlying99 rfl (by kernel_rfl)) (by assumption) ?_
    try simp only [Act.put,la,lz,ls]
    refine wpAnyH_take (i:=4) (oi:=_) (v:=_) (ga rfl) (by kernel_rfl) (by kernel_rfl) (by kernel_rfl) (fun _ _ _ h=>h) (yieldsIf_load_mid (by rfl) _ _ (by rfl) _ _ (by rfl) _ _ JO Tryz.underlying27 rfl (by kernel_rfl)) (by assumption) ?_
    try simp only [Act.put,la,lz,ls]
    refine tr 2 fun K hK=>?_;go_simp
    (first | (go_at_call 39;refine (HF.out _ (hp.below hB.drew.bw) (hpp.below hB.drew.bw)).mono ?_;rintro e w1 ⟨rfl,hb1⟩;have hB1:=hB.drew.call (by simp) hb1) | (go_at_call 154;refine (HG.out _ (hp.below hB1.bw) (hpp.below hB1.bw)).mono ?_;rintro e w2 ⟨rfl,hb2⟩;have hB2:=hB1.call (by simp) hb2))
    refine hK.out _ _ ?QD (fun hHeld=>?_)
    case QD=>(first | (first | exact fun p q h=>rfl | exact fun p q h=>hB.drew.cells hb1 p q h | exact fun p q h=>(hB1.cells hb2 p q h).trans (hB.drew.cells hb1 p q h)) | (dsimp only;first | exact fun p q h=>rfl | exact fun p q h=>hB.drew.cells hb1 p q h | exact fun p q h=>(hB1.cells hb2 p q h).trans (hB.drew.cells hb1 p q h)))
    clear hK K
    try simp only [Act.put,la,lz,ls]
    refine tr 5 fun K hK=>?_;go_simp
    (first | (go_at_call 39;refine (HF.out _ (hp.below hB.drew.bw) (hpp.below hB.drew.bw)).mono ?_;rintro e w1 ⟨rfl,hb1⟩;have hB1:=hB.drew.call (by simp) hb1) | (go_at_call 154;refine (HG.out _ (hp.below hB1.bw) (hpp.below hB1.bw)).mono ?_;rintro e w2 ⟨rfl,hb2⟩;have hB2:=hB1.call (by simp) hb2))
    refine hK.out _ _ ?QK (fun hHeld=>?_)
    case QK=>(first | (first | exact fun p q h=>rfl | exact fun p q h=>hB.drew.cells hb1 p q h | exact fun p q h=>(hB1.cells hb2 p q h).trans (hB.drew.cells hb1 p q h)) | (dsimp only;first | exact fun p q h=>rfl | exact fun p q h=>hB.drew.cells hb1 p q h | exact fun p q h=>(hB1.cells hb2 p q h).trans (hB.drew.cells hb1 p q h)))
    clear hK K
    try simp only [Act.put,la,lz,ls]
    refine tk 6 ?_;refine tk 7 ?_;refine wpAnyH_done (by kernel_rfl) ?_ _;go_wp2;go_meet;exact ⟨rfl,rfl,hB2⟩
  case rest=>
   obtain ⟨rfl,rfl,hB⟩:=hcut;have x9:=hB.get 1 rfl;have x0:=x9.cell (j:=0) rfl;rw [rZ.out] at x0
   go_upto_region 3 with (fail)
   go_cut [8] (fun v8 wx=>∃ D A1 c1,v8=ptr D∧w.heap.size+3≤D∧dX w wx [(aj r (s) A c,99),(aB ⟨x,P,d⟩,27),(aW,99)] D (aj r ({s with brk:=false,hand:=false,push:=pu,pushed:=pd }) A1 c1))
   case first=>
    as_aux_lemma=>
     go_wp2_with (first | (refine aC 99 (.tmp 2) rfl ?_;refine au (hB.ah rfl) Tryz.underlying99 rfl ak rfl (.tmp 2) rfl rfl ?_) | (refine aC 27 (.tmp 3) rfl ?_;refine au (hB.get 1 rfl) Tryz.underlying27 rfl bY rfl (.tmp 3) rfl rfl ?_) | (go_at_call 102;refine (HC.out _ (hp.below hB.bw)).mono ?_;rintro e w1 ⟨A1,c1,rfl,hr1,hb1⟩;have hB1:=hB.call (by simp) hb1;have hB2:=hB1.alloc (by simp) (.cells aW.toArray 99);have hG1:=Held.new w1 aW 99) | (refine aQ 99 (.tmp 8) (.tmp 22) rfl ?_;refine aI hG1 (aj r ({s with brk:=false,hand:=false,push:=pu,pushed:=pd }) A1 c1) rfl ak (bH _ _ _ _) rfl (.tmp 8) (.tmp 22) rfl rfl rfl ?_))
     go_meet;have hsz:=hB1.size (by simp)
     simp only [List.length_cons,List.length_nil] at hsz
     exact ⟨w1.heap.size,A1,c1,rfl,hsz,hB2.Lc hsz _ 0,hG1.whole _ rfl⟩
   case rest=>
    obtain ⟨D,A1,c1,rfl,hD,hQ⟩:=hcut;clear hB x9 x0
    go_upto_region 4 with (fail)
    go_cut [] (fun wx=>∃ A2 c2,dX w wx [(aj r (s) A c,99),(aB ⟨x,P,d⟩,27),(aW,99)] D (aj r ({s with brk:=false,hand:=false,push:=pu,pushed:=pd,aA:=M.left r s x }) A2 c2)∧bT wx (fun b=>w.heap.size+3≤b∧b≠D) A2 c2 (M.left r s x))
    case first=>
     as_aux_lemma=>
      go_wp2_with (first | (refine aC 99 (.tmp 2) rfl ?_;refine au (hQ.b.ah rfl) Tryz.underlying99 rfl ak rfl (.tmp 2) rfl rfl ?_) | (refine aC 27 (.tmp 3) rfl ?_;refine au (hQ.b.get 1 rfl) Tryz.underlying27 rfl bY rfl (.tmp 3) rfl rfl ?_) | (go_at_call 155;refine (HL.out _ (hp.below hQ.b.bw) (hpp.below hQ.b.bw)).mono ?_;rintro e w1 ⟨A2,c2,rfl,hr1,hb1⟩;have zB:=hQ.call (by simp) hb1;have q9:=zB.g.cell (j:=9) rfl;have qf9:=zB.g.frozen 9))
      go_meet;have hsz:=hQ.b.size (by simp);have hDl:=hQ.g.lt
      simp only [List.length_cons,List.length_nil] at hsz
      exact ⟨A2,c2,zB.set hD 9 _,(hr1.more (fun b _ h=>⟨by omega,by omega⟩)).setCell (fun h=>h.2 rfl) _⟩
    case rest=>
     obtain ⟨A2,c2,hQ,hrk⟩:=hcut;have qs:=hQ.g.cell (j:=10) rfl;have qf:=hQ.g.cell (j:=12) rfl;have qr:=hQ.g.cell (j:=14) rfl;have hb0:=hk.s0;have hb1:=hk.run;have hb2:=hk.f0;have hb3:=hk.bI
     go_upto_if 29 with (fail)
     go_cut [] (fun wx=>dX w wx [(aj r (s) A c,99),(aB ⟨x,P,d⟩,27),(aW,99)] D (aj r ({s with brk:=false,hand:=false,push:=pu,pushed:=pd,aA:=M.left r s x,s0:=(if gd=true then s.s0+(M.objects x).length else s.s0),run:=(if gd=true then s.run+(M.objects x).length else s.run) }) A2 c2)∧bT wx (fun b=>w.heap.size+3≤b∧b≠D) A2 c2 (M.left r s x))
     case first=>
      as_aux_lemma=>
       rcases gd with _ | _
       · go_wp2
         go_meet;exact ⟨hQ,hrk⟩
       · go_wp2_with (first | (refine aC 27 (.tmp 3) rfl ?_;refine au (hQ.b.get 1 rfl) Tryz.underlying27 rfl bY rfl (.tmp 3) rfl rfl ?_) | (go_at_call 81;refine (jq S x P d _ (hpp.below hQ.b.bw) hpos).mono ?_;rintro e w1 ⟨A3,c3,rfl,hr3,hb1⟩;have zB:=hQ.call (by simp) hb1;have Wv:=hrk.below hb1;have u10:=zB.g.cell (j:=10) rfl;have apn:=zB.g.frozen 10;have u14:=zB.g.cell (j:=14) rfl;have agQ:=zB.g.frozen 14))
         go_meet;exact ⟨(zB.set hD 10 _).set hD 14 _,(Wv.setCell (fun h=>h.2 rfl) _).setCell (fun h=>h.2 rfl) _⟩
     case rest=>
      clear hQ hrk qs qf qr;obtain ⟨hQ,hrk⟩:=hcut;obtain ⟨a2,ha2⟩:∃ q,(if gd=true then s.s0+(M.objects x).length else s.s0)=q:=⟨_,rfl⟩;obtain ⟨b2,hb2'⟩:∃ q,(if gd=true then s.run+(M.objects x).length else s.run)=q:=⟨_,rfl⟩;rw [ha2,hb2'] at hQ
      have va2: -500000≤a2∧a2≤500016:=by rw [← ha2];split <;> omega
      have vb2:0≤b2∧b2≤500016:=by rw [← hb2'];split <;> omega
      have HA2:=hide ha2;have HB2:=hide hb2';clear ha2 hb2';have qs:=hQ.g.cell (j:=10) rfl;have qf:=hQ.g.cell (j:=12) rfl;have qr:=hQ.g.cell (j:=14) rfl;have zs:=hQ.g.frozen 10;have zf:=hQ.g.frozen 12;have zr:=hQ.g.frozen 14;have k0:=(hQ.b.ah rfl).cell (j:=0) rfl
      go_upto_if 51 with (fail)
      go_cut [] (fun wx=>dX w wx [(aj r (s) A c,99),(aB ⟨x,P,d⟩,27),(aW,99)] D (aj r ({s with brk:=false,hand:=false,push:=pu,pushed:=pd,aA:=M.left r s x,s0:=(if fl=0 then a2 else if r.game=M.aH then a2 - 1 else a2),run:=(if fl=0 then b2 else 0),f0:=(if fl=0 then 0 else s.f0+1) }) A2 c2)∧bT wx (fun b=>w.heap.size+3≤b∧b≠D) A2 c2 (M.left r s x))
      case first=>
       as_aux_lemma=>
        rcases zq:(fl == 0) with _ | _
        · have zn:¬ fl=0:=by simpa using zq
          have Hn:=hide zn;clear zn
          rcases zg:(r.game.toList == [115,116,114,97,105,103,104,116]) with _ | _
          · have Ti:¬ r.game=M.aH:=by rw [bW r.game [115,116,114,97,105,103,104,116]] at zg;simpa using zg
            have VQ:=hide Ti;clear Ti;go_wp2;go_meet;rw [if_neg Hn.out,if_neg Hn.out,if_neg Hn.out,if_neg VQ.out];exact ⟨(hQ.set hD 12 _).set hD 14 _,(hrk.setCell (fun h=>h.2 rfl) _).setCell (fun h=>h.2 rfl) _⟩
          · have Ti:r.game=M.aH:=by rw [bW r.game [115,116,114,97,105,103,104,116]] at zg;simpa using zg
            have VQ:=hide Ti;clear Ti;go_wp2;go_meet;rw [if_neg Hn.out,if_neg Hn.out,if_neg Hn.out,if_pos VQ.out];exact ⟨((hQ.set hD 12 _).set hD 14 _).set hD 10 _,((hrk.setCell (fun h=>h.2 rfl) _).setCell (fun h=>h.2 rfl) _).setCell (fun h=>h.2 rfl) _⟩
        · have zn:fl=0:=by simpa using zq
          have Hn:=hide zn;clear zn;go_wp2;go_meet;rw [if_pos Hn.out,if_pos Hn.out,if_pos Hn.out];exact ⟨hQ.set hD 12 _,hrk.setCell (fun h=>h.2 rfl) _⟩
      case rest=>
       clear hQ hrk qs qf qr zs zf zr k0;obtain ⟨hQ,hrk⟩:=hcut;obtain ⟨a3,Ph⟩:∃ q,(if fl=0 then a2 else if r.game=M.aH then a2 - 1 else a2)=q:=⟨_,rfl⟩;obtain ⟨b3,AX⟩:∃ q,(if fl=0 then b2 else 0)=q:=⟨_,rfl⟩;obtain ⟨f3,hf3⟩:∃ q,(if fl=0 then 0 else s.f0+1)=q:=⟨_,rfl⟩;rw [Ph,AX,hf3] at hQ
       have va3: -500001≤a3∧a3≤500016:=by rw [← Ph];split <;> first | omega | (split <;> omega)
       have vf3:0≤f3∧f3≤500001:=by rw [← hf3];split <;> omega
       have hct:M.counted r s x= {s with brk:=false,hand:=false,push:=pu,pushed:=pd,aA:=M.left r s x,s0:=a3,run:=b3,f0:=f3 }:=by
        have e1:=HA2.out;have e2:=HB2.out;rw [M.iE,HCM.out]
        unfold M.sc M.fc M.rc
        simp only [rZ.out,VN.out,NU.out,if_true]
        rw [← Ph, ← AX, ← hf3, ← e1, ← e2]
       have NT:=hide hct;clear Ph AX hf3 hct;have hpl2:=rZ.out;have hkey:=CO (r:=r) (s:=s) (x:=x) hl hsx hc hr
       have Pv:(M.counted r s x).score x.aN=a3:=by rw [NT.out,rZ.out];rfl
       have Pm:(M.counted r s x).jC x.aN=f3:=by rw [NT.out,rZ.out];rfl
       rw [Pv,Pm,VN.out,NU.out,NT.out] at hkey;obtain ⟨wn,hwn⟩:∃ q,(Aj r s x gd a3).1=q:=⟨_,rfl⟩;obtain ⟨ov,hov⟩:∃ q,(Aj r s x gd a3).2=q:=⟨_,rfl⟩;rw [hwn,hov] at hkey;have Wi:=fun W h h'=>Ak S r s x A P c d gd a3 W h h' hpos hr hg (by omega) (by omega);rw [hwn,hov] at Wi;have HW:=hide Wi;have HK:=hide hkey;clear Wi hkey hwn hov Pv Pm hpl2;have qs:=hQ.g.cell (j:=10) rfl
       go_upto_region 15 with (fail)
       go_cut [10,11] (fun v10 v11 wx=>v10= .int .i64 wn∧v11= .bool ov∧dX w wx [(aj r (s) A c,99),(aB ⟨x,P,d⟩,27),(aW,99)] D (aj r ({s with brk:=false,hand:=false,push:=pu,pushed:=pd,aA:=M.left r s x,s0:=a3,run:=b3,f0:=f3 }) A2 c2)∧bT wx (fun b=>w.heap.size+3≤b∧b≠D) A2 c2 (M.left r s x))
       case first=>
        as_aux_lemma=>
         have Iz:∀ W:World,(fun w':World=>(∀ p q,p<w.heap.size+3→w'.cell? ⟨p,q,none⟩=wc.cell? ⟨p,q,none⟩)∧w'.cell? ⟨D,10,none⟩=some (.int .i64 a3)) W→W.rangeAt w.heap.size 0 (aj r (s) A c):=fun W h j v hj=>by rw [h.1 _ _ (by omega)];exact (hQ.b.ah rfl).range j v hj
         have JO:∀ W:World,(fun w':World=>(∀ p q,p<w.heap.size+3→w'.cell? ⟨p,q,none⟩=wc.cell? ⟨p,q,none⟩)∧w'.cell? ⟨D,10,none⟩=some (.int .i64 a3)) W→W.rangeAt (w.heap.size+1) 0 (aB ⟨x,P,d⟩):=fun W h j v hj=>by rw [h.1 _ _ (by omega)];exact (hQ.b.get 1 rfl).range j v hj
         refine wp_region_held_drew (S:=(fun w':World=>(∀ p q,p<w.heap.size+3→w'.cell? ⟨p,q,none⟩=wc.cell? ⟨p,q,none⟩)∧w'.cell? ⟨D,10,none⟩=some (.int .i64 a3))) (by kernel_rfl) ?oD (fun hHeld=>?_)
         case oD=>first | exact ⟨fun p q h=>rfl,qs⟩ | exact ⟨fun p q h=>hQ.drew.b.cells hb1 p q h,(hb1.cell (p:=⟨D,_,none⟩) hQ.drew.g.lt).trans qs⟩
         refine wpAnyH_take (i:=0) (oi:=_) (v:=_) (ga rfl) (by kernel_rfl) (by kernel_rfl) (by kernel_rfl) (fun _ _ _ h=>h) (yieldsIf_load_mid (by rfl) _ _ (by rfl) _ _ (by rfl) _ _ Iz Tryz.underlying99 rfl (by kernel_rfl)) (by assumption) ?_
         try simp only [Act.put,la,lz,ls]
         refine wpAnyH_take (i:=1) (oi:=_) (v:=_) (ga rfl) (by kernel_rfl) (by kernel_rfl) (by kernel_rfl) (fun _ _ _ h=>h) (yieldsIf_load_mid (by rfl) _ _ (by rfl) _ _ (by rfl) _ _ JO Tryz.underlying27 rfl (by kernel_rfl)) (by assumption) ?_
         try simp only [Act.put,la,lz,ls]
         refine tk 2 ?_;refine tk 3 ?_;refine tk 4 ?_;refine tk 5 ?_;refine tk 6 ?_;refine tk 7 ?_;refine tr 8 fun K hK=>?_;go_simp
         (go_at_call 156;refine (HW.out _ (hp.below hQ.drew.b.bw) (hpp.below hQ.drew.b.bw)).mono ?_;rintro e w1 ⟨rfl,hb1⟩;have zB:=hQ.drew.call (by simp) hb1)
         refine hK.out _ _ ?Zv (fun hHeld=>?_)
         case Zv=>(first | (first | exact ⟨fun p q h=>rfl,qs⟩ | exact ⟨fun p q h=>hQ.drew.b.cells hb1 p q h,(hb1.cell (p:=⟨D,_,none⟩) hQ.drew.g.lt).trans qs⟩) | (dsimp only;first | exact ⟨fun p q h=>rfl,qs⟩ | exact ⟨fun p q h=>hQ.drew.b.cells hb1 p q h,(hb1.cell (p:=⟨D,_,none⟩) hQ.drew.g.lt).trans qs⟩))
         clear hK K
         try simp only [Act.put,la,lz,ls]
         refine tk 9 ?_;refine tk 10 ?_;refine tk 11 ?_;refine tk 12 ?_;refine tk 13 ?_;refine wpAnyH_done (by kernel_rfl) ?_ _;go_wp2;go_meet;exact ⟨rfl,rfl,zB,bT.below (show bT wc.drew _ _ _ _ from hrk) hb1⟩
       case rest=>
        clear hQ hrk qs;obtain ⟨rfl,rfl,hQ,hrk⟩:=hcut
        cases ov with
        | true=>
          as_aux_lemma=>
           have hS:=(hQ.set hD 16 (.bool true)).set hD 17 (.int .i64 wn);have hSS:dX w ((wc.setCell ⟨D,16,none⟩ (.bool true)).setCell ⟨D,17,none⟩ (.int .i64 wn)) [(aj r (s) A c,99),(aB ⟨x,P,d⟩,27),(aW,99)] D (aj r ({s with brk:=false,hand:=false,push:=pu,pushed:=pd,aA:=M.left r s x,s0:=a3,run:=b3,f0:=f3,over:=true,bQ:=wn }) A2 c2):=hS;have oq:=(hrk.setCell (p:=⟨D,16,none⟩) (fun h=>h.2 rfl) (.bool true)).setCell (p:=⟨D,17,none⟩) (fun h=>h.2 rfl) (.int .i64 wn);have o16:=hQ.g.cell (j:=16) rfl;have o17:=hQ.g.cell (j:=17) rfl;have agn:=hQ.g.frozen 16;have agv:=hQ.g.frozen 17;have hpm:M.play r s x= {s with brk:=false,hand:=false,push:=pu,pushed:=pd,aA:=M.left r s x,s0:=a3,run:=b3,f0:=f3,over:=true,bQ:=wn }:=HK.out;have jI:=hide hpm;clear hpm hS
           go_wp2_with (first | (refine aC 99 (.tmp 8) rfl ?_;refine au (hSS.g) Tryz.underlying99 rfl ak rfl (.tmp 8) rfl rfl ?_) | (refine aQ 99 (.tmp 4) (.tmp 98) rfl ?_;refine aI (hSS.b.get 2 rfl) (aj r ({s with brk:=false,hand:=false,push:=pu,pushed:=pd,aA:=M.left r s x,s0:=a3,run:=b3,f0:=f3,over:=true,bQ:=wn }) A2 c2) rfl ak (bH _ _ _ _) rfl (.tmp 4) (.tmp 98) rfl rfl rfl ?_))
           have hZ:=hSS.b.put 2 rfl (aj r ({s with brk:=false,hand:=false,push:=pu,pushed:=pd,aA:=M.left r s x,s0:=a3,run:=b3,f0:=f3,over:=true,bQ:=wn }) A2 c2) rfl;refine bodyPost_ret (aY (p:=4) (hZ.get 2 rfl) Tryz.underlying99 rfl ak rfl _ rfl) rfl ⟨A2,c2,?_,?_,hZ.bw⟩
           · rw [jI.out];rfl
           · rw [jI.out]
             have hg2:¬ (fun b=>w.heap.size+3≤b∧b≠D) (w.heap.size+2):=fun h=>by have h1:w.heap.size+3≤w.heap.size+2:=h.1;omega
             exact (bT.sets hg2 _ 0 _ oq).more (fun b _ h=>Nat.le_trans (by omega) h.1)
        | false=>
          as_aux_lemma=>
           have qf:=hQ.g.cell (j:=12) rfl;have k2:=(hQ.b.ah rfl).cell (j:=2) rfl;have hk1:=HK.out;rw [if_neg (by decide)] at hk1;have X3:=hide hk1;clear hk1
           go_upto_region 19 with (fail)
           go_cut [99] (fun v wx=>v= .bool (decide (fl≠0∧f3=r.bG))∧dX w wx [(aj r (s) A c,99),(aB ⟨x,P,d⟩,27),(aW,99)] D (aj r ({s with brk:=false,hand:=false,push:=pu,pushed:=pd,aA:=M.left r s x,s0:=a3,run:=b3,f0:=f3 }) A2 c2)∧bT wx (fun b=>w.heap.size+3≤b∧b≠D) A2 c2 (M.left r s x))
           case first=>
            as_aux_lemma=>
             rcases zq:(fl == 0) with _ | _
             · have zn:(fl != 0)=true:=by simp [bne,zq]
               have zm:¬ fl=0:=by simpa using zq
               have Hm:=hide zm;clear zm
               rcases ze:(f3 == r.bG) with _ | _
               all_goals
                go_wp2
                go_quiet (fail)
                go_wp2;go_meet;exact ⟨by rw [tK] at ze;simp [Hm.out,ze],hQ.drewN _,hrk.drewN _⟩
             · have zn:(fl != 0)=false:=by simp [bne,zq]
               have zm:fl=0:=by simpa using zq
               have Hm:=hide zm;clear zm;go_wp2
               go_quiet (fail)
               go_wp2;go_meet;exact ⟨by simp [Hm.out],hQ.drewN _,hrk.drewN _⟩
           case rest=>
            clear hQ hrk qf k2;obtain ⟨rfl,hQ,hrk⟩:=hcut;have uO:=hQ.b.size (by simp)
            simp only [List.length_cons,List.length_nil] at uO
            obtain ⟨lm,hlm⟩:∃ q,decide (fl≠0∧f3=r.bG)=q:=⟨_,rfl⟩;rw [hlm]
            cases lm with
            | true=>
              as_aux_lemma=>
               have hpm:M.play r s x=M.limit r ({s with brk:=false,hand:=false,push:=pu,pushed:=pd,aA:=M.left r s x,s0:=a3,run:=b3,f0:=f3 }) 0:=by have:=X3.out;rw [if_pos (of_decide_eq_true hlm),rZ.out] at this;exact this
               have jI:=hide hpm;clear hpm hlm
               go_wp2_with (first | (refine aC 99 (.tmp 8) rfl ?_;refine au (hQ.g) Tryz.underlying99 rfl ak rfl (.tmp 8) rfl rfl ?_) | (go_at_call 157;refine (xw (fun b=>w.heap.size+3≤b∧b≠D) r ({s with brk:=false,hand:=false,push:=pu,pushed:=pd,aA:=M.left r s x,s0:=a3,run:=b3,f0:=f3 }) 0 A2 c2 _ hrk (by omega) (by show -1000000≤a3;omega) (by show a3≤1000000;omega) (by show -1000000≤s.s1;have:=hk.s1;omega) (by show s.s1≤1000000;have:=hk.s1;omega) (by show 0≤s.bI;omega) (by show s.bI≤1000000;omega)).mono ?_;rintro e w5 ⟨A4,c4,rfl,hr4,hb5⟩;have pK:=hQ.call (by simp) hb5) | (refine aQ 99 (.tmp 4) (.tmp 115) rfl ?_;refine aI (pK.b.get 2 rfl) (aj r (M.limit r ({s with brk:=false,hand:=false,push:=pu,pushed:=pd,aA:=M.left r s x,s0:=a3,run:=b3,f0:=f3 }) 0) A4 c4) rfl ak (bH _ _ _ _) rfl (.tmp 4) (.tmp 115) rfl rfl rfl ?_))
               have hZ:=pK.b.put 2 rfl (aj r (M.limit r ({s with brk:=false,hand:=false,push:=pu,pushed:=pd,aA:=M.left r s x,s0:=a3,run:=b3,f0:=f3 }) 0) A4 c4) rfl;refine bodyPost_ret (aY (p:=4) (hZ.get 2 rfl) Tryz.underlying99 rfl ak rfl _ rfl) rfl ⟨A4,c4,?_,?_,hZ.bw⟩
               · rw [jI.out];rfl
               · rw [jI.out]
                 have hg2:¬ (fun b=>((fun b=>w.heap.size+3≤b∧b≠D) b)∨wc.heap.size≤b) (w.heap.size+2):=fun h=>by
                  rcases h with h | h
                  · have h1:w.heap.size+3≤w.heap.size+2:=h.1
                    omega
                  · omega
                 exact (bT.sets hg2 _ 0 _ hr4).more (fun b _ h=>by
                  rcases h with h | h
                  · exact Nat.le_trans (by omega) h.1
                  · omega)
            | false=>
              as_aux_lemma=>
               have hk2:=X3.out;rw [if_neg (of_decide_eq_false hlm)] at hk2;have wS:=hide hk2;clear hk2 hlm
               have hg2:¬ (fun b=>w.heap.size+3≤b∧b≠D) (w.heap.size+2):=fun h=>by have h1:w.heap.size+3≤w.heap.size+2:=h.1;omega
               have k0:=(hQ.b.ah rfl).cell (j:=0) rfl
               cases gd with
               | false=>
                 as_aux_lemma=>
                  have hpm:M.play r s x=M.passed r s x ({s with brk:=false,hand:=false,push:=pu,pushed:=pd,aA:=M.left r s x,s0:=a3,run:=b3,f0:=f3 }):=by have:=wS.out;rw [if_pos rfl] at this;exact this
                  have hlt:=hl.turn hc
                  have htn:0≤s.turn∧s.turn≤1:=by have:=hk.turn;omega
                  have hps:M.passed r s x ({s with brk:=false,hand:=false,push:=pu,pushed:=pd,aA:=M.left r s x,s0:=a3,run:=b3,f0:=f3 })= {s with turn:=1 - s.turn,brk:=false,hand:=decide (M.fU r s x≠0∧(r.game≠M.aH∨M.fU r s x=1)),push:=pu,pushed:=pd,aA:=M.left r s x,s0:=a3,run:=0,f0:=f3 }:=by unfold M.passed;rw [hlt]
                  have hfr:=zo r s x;rw [VN.out] at hps hfr;rw [hps] at hpm;have jI:=hide hpm;clear hpm hps hlt;have g5:=hQ.g.cell (j:=5) rfl;have gf5:=hQ.g.frozen 5;have hset:=fun hb:Bool=>hQ.set hD 5 (.bool hb);have CY:=hide hset;clear hset
                  have ES:∀ z1 z2 z3:Bool,z1=(fl == 1)→z2=decide (1<fl)→z3=(r.game.toList == [115,116,114,97,105,103,104,116])→decide (fl≠0∧(r.game≠M.aH∨fl=1))=(z1 || (z2 && !z3)):=by
                   rintro z1 z2 z3 rfl rfl rfl
                   rw [bW r.game [115,116,114,97,105,103,104,116],tK]
                   by_cases q1:fl=1
                   · simp [q1]
                   · by_cases q2:1<fl
                     · by_cases q3:r.game=M.aH <;> simp [q1,q2,q3] <;> omega
                     · have:fl=0:=by omega
                       simp [this]
                  have HH:=hide ES;clear ES
                  rcases z1:(fl == 1) with _ | _
                  · rcases z2:decide (1<fl) with _ | _
                    · have hhb:decide (fl≠0∧(r.game≠M.aH∨fl=1))=false:=by rw [HH.out _ _ _ z1.symm z2.symm rfl];rfl
                      have hS:dX w (wc.setCell ⟨D,5,none⟩ (.bool false)) [(aj r (s) A c,99),(aB ⟨x,P,d⟩,27),(aW,99)] D (aj r ({s with brk:=false,hand:=false,push:=pu,pushed:=pd,aA:=M.left r s x,s0:=a3,run:=b3,f0:=f3 }) A2 c2):=CY.out false;have oq:=hrk.setCell (p:=⟨D,5,none⟩) (fun h=>h.2 rfl) (.bool false);have Hu:=hide hhb;clear hhb
                      go_wp2_with (first | (refine aC 99 (.tmp 8) rfl ?_;refine au (hS.g) Tryz.underlying99 rfl ak rfl (.tmp 8) rfl rfl ?_) | (go_at_call 103;refine (ig r ({s with brk:=false,hand:=false,push:=pu,pushed:=pd,aA:=M.left r s x,s0:=a3,run:=b3,f0:=f3 }) A2 c2 _ htn.1 htn.2).mono ?_;rintro e w5 ⟨rfl,hb5⟩;have pK:=hS.call (by simp) hb5) | (refine aQ 99 (.tmp 4) (.tmp 134) rfl ?_;refine aI (pK.b.get 2 rfl) (aj r ({s with turn:=1 - s.turn,brk:=false,hand:=false,push:=pu,pushed:=pd,aA:=M.left r s x,s0:=a3,run:=0,f0:=f3 }) A2 c2) rfl ak (bH _ _ _ _) rfl (.tmp 4) (.tmp 134) rfl rfl rfl ?_))
                      have hZ:=pK.b.put 2 rfl (aj r ({s with turn:=1 - s.turn,brk:=false,hand:=false,push:=pu,pushed:=pd,aA:=M.left r s x,s0:=a3,run:=0,f0:=f3 }) A2 c2) rfl;refine bodyPost_ret (aY (p:=4) (hZ.get 2 rfl) Tryz.underlying99 rfl ak rfl _ rfl) rfl ⟨A2,c2,?_,?_,hZ.bw⟩
                      · rw [jI.out,Hu.out];rfl
                      · rw [jI.out];exact (bT.sets hg2 _ 0 _ (bT.below oq hb5)).more (fun b _ h=>Nat.le_trans (by omega) h.1)
                    · rcases z3:(r.game.toList == [115,116,114,97,105,103,104,116]) with _ | _
                      · have hhb:decide (fl≠0∧(r.game≠M.aH∨fl=1))=true:=by rw [HH.out _ _ _ z1.symm z2.symm z3.symm];rfl
                        have hS:dX w (wc.setCell ⟨D,5,none⟩ (.bool true)) [(aj r (s) A c,99),(aB ⟨x,P,d⟩,27),(aW,99)] D (aj r ({s with brk:=false,hand:=true,push:=pu,pushed:=pd,aA:=M.left r s x,s0:=a3,run:=b3,f0:=f3 }) A2 c2):=CY.out true;have oq:=hrk.setCell (p:=⟨D,5,none⟩) (fun h=>h.2 rfl) (.bool true);have Hu:=hide hhb;clear hhb
                        go_wp2_with (first | (refine aC 99 (.tmp 8) rfl ?_;refine au (hS.g) Tryz.underlying99 rfl ak rfl (.tmp 8) rfl rfl ?_) | (go_at_call 103;refine (ig r ({s with brk:=false,hand:=true,push:=pu,pushed:=pd,aA:=M.left r s x,s0:=a3,run:=b3,f0:=f3 }) A2 c2 _ htn.1 htn.2).mono ?_;rintro e w5 ⟨rfl,hb5⟩;have pK:=hS.call (by simp) hb5) | (refine aQ 99 (.tmp 4) (.tmp 134) rfl ?_;refine aI (pK.b.get 2 rfl) (aj r ({s with turn:=1 - s.turn,brk:=false,hand:=true,push:=pu,pushed:=pd,aA:=M.left r s x,s0:=a3,run:=0,f0:=f3 }) A2 c2) rfl ak (bH _ _ _ _) rfl (.tmp 4) (.tmp 134) rfl rfl rfl ?_))
                        have hZ:=pK.b.put 2 rfl (aj r ({s with turn:=1 - s.turn,brk:=false,hand:=true,push:=pu,pushed:=pd,aA:=M.left r s x,s0:=a3,run:=0,f0:=f3 }) A2 c2) rfl;refine bodyPost_ret (aY (p:=4) (hZ.get 2 rfl) Tryz.underlying99 rfl ak rfl _ rfl) rfl ⟨A2,c2,?_,?_,hZ.bw⟩
                        · rw [jI.out,Hu.out];rfl
                        · rw [jI.out];exact (bT.sets hg2 _ 0 _ (bT.below oq hb5)).more (fun b _ h=>Nat.le_trans (by omega) h.1)
                      · have hhb:decide (fl≠0∧(r.game≠M.aH∨fl=1))=false:=by rw [HH.out _ _ _ z1.symm z2.symm z3.symm];rfl
                        have hS:dX w (wc.setCell ⟨D,5,none⟩ (.bool false)) [(aj r (s) A c,99),(aB ⟨x,P,d⟩,27),(aW,99)] D (aj r ({s with brk:=false,hand:=false,push:=pu,pushed:=pd,aA:=M.left r s x,s0:=a3,run:=b3,f0:=f3 }) A2 c2):=CY.out false;have oq:=hrk.setCell (p:=⟨D,5,none⟩) (fun h=>h.2 rfl) (.bool false);have Hu:=hide hhb;clear hhb
                        go_wp2_with (first | (refine aC 99 (.tmp 8) rfl ?_;refine au (hS.g) Tryz.underlying99 rfl ak rfl (.tmp 8) rfl rfl ?_) | (go_at_call 103;refine (ig r ({s with brk:=false,hand:=false,push:=pu,pushed:=pd,aA:=M.left r s x,s0:=a3,run:=b3,f0:=f3 }) A2 c2 _ htn.1 htn.2).mono ?_;rintro e w5 ⟨rfl,hb5⟩;have pK:=hS.call (by simp) hb5) | (refine aQ 99 (.tmp 4) (.tmp 134) rfl ?_;refine aI (pK.b.get 2 rfl) (aj r ({s with turn:=1 - s.turn,brk:=false,hand:=false,push:=pu,pushed:=pd,aA:=M.left r s x,s0:=a3,run:=0,f0:=f3 }) A2 c2) rfl ak (bH _ _ _ _) rfl (.tmp 4) (.tmp 134) rfl rfl rfl ?_))
                        have hZ:=pK.b.put 2 rfl (aj r ({s with turn:=1 - s.turn,brk:=false,hand:=false,push:=pu,pushed:=pd,aA:=M.left r s x,s0:=a3,run:=0,f0:=f3 }) A2 c2) rfl;refine bodyPost_ret (aY (p:=4) (hZ.get 2 rfl) Tryz.underlying99 rfl ak rfl _ rfl) rfl ⟨A2,c2,?_,?_,hZ.bw⟩
                        · rw [jI.out,Hu.out];rfl
                        · rw [jI.out];exact (bT.sets hg2 _ 0 _ (bT.below oq hb5)).more (fun b _ h=>Nat.le_trans (by omega) h.1)
                  · have hhb:decide (fl≠0∧(r.game≠M.aH∨fl=1))=true:=by rw [HH.out _ _ _ z1.symm rfl rfl];rfl
                    have hS:dX w (wc.setCell ⟨D,5,none⟩ (.bool true)) [(aj r (s) A c,99),(aB ⟨x,P,d⟩,27),(aW,99)] D (aj r ({s with brk:=false,hand:=true,push:=pu,pushed:=pd,aA:=M.left r s x,s0:=a3,run:=b3,f0:=f3 }) A2 c2):=CY.out true;have oq:=hrk.setCell (p:=⟨D,5,none⟩) (fun h=>h.2 rfl) (.bool true);have Hu:=hide hhb;clear hhb
                    go_wp2_with (first | (refine aC 99 (.tmp 8) rfl ?_;refine au (hS.g) Tryz.underlying99 rfl ak rfl (.tmp 8) rfl rfl ?_) | (go_at_call 103;refine (ig r ({s with brk:=false,hand:=true,push:=pu,pushed:=pd,aA:=M.left r s x,s0:=a3,run:=b3,f0:=f3 }) A2 c2 _ htn.1 htn.2).mono ?_;rintro e w5 ⟨rfl,hb5⟩;have pK:=hS.call (by simp) hb5) | (refine aQ 99 (.tmp 4) (.tmp 134) rfl ?_;refine aI (pK.b.get 2 rfl) (aj r ({s with turn:=1 - s.turn,brk:=false,hand:=true,push:=pu,pushed:=pd,aA:=M.left r s x,s0:=a3,run:=0,f0:=f3 }) A2 c2) rfl ak (bH _ _ _ _) rfl (.tmp 4) (.tmp 134) rfl rfl rfl ?_))
                    have hZ:=pK.b.put 2 rfl (aj r ({s with turn:=1 - s.turn,brk:=false,hand:=true,push:=pu,pushed:=pd,aA:=M.left r s x,s0:=a3,run:=0,f0:=f3 }) A2 c2) rfl;refine bodyPost_ret (aY (p:=4) (hZ.get 2 rfl) Tryz.underlying99 rfl ak rfl _ rfl) rfl ⟨A2,c2,?_,?_,hZ.bw⟩
                    · rw [jI.out,Hu.out];rfl
                    · rw [jI.out];exact (bT.sets hg2 _ 0 _ (bT.below oq hb5)).more (fun b _ h=>Nat.le_trans (by omega) h.1)
               | true=>
                 as_aux_lemma=>
                  have hpm:M.play r s x=M.eX r (M.grouped r s x ({s with brk:=false,hand:=false,push:=pu,pushed:=pd,aA:=M.left r s x,s0:=a3,run:=b3,f0:=f3 })):=by have:=wS.out;rw [if_neg (by decide)] at this;exact this
                  have KA:=hide hpm;clear hpm;have xk:=(hQ.b.get 1 rfl).cell (j:=1) rfl;have xb:=(hQ.b.get 1 rfl).cell (j:=2) rfl;have kg:=(hQ.b.ah rfl).cell (j:=8) rfl;have g8:=hQ.g.cell (j:=8) rfl;have gf8:=hQ.g.frozen 8;have g9:=hQ.g.cell (j:=9) rfl;have e1:=bW r.game [101,105,103,104,116];have e2:=bW x.kind [112,108,97,121];have e3:=bW r.game [115,116,114,97,105,103,104,116];have E1:=hide e1;have E2:=hide e2;have E3:=hide e3;clear e1 e2 e3;have hsd:=M.Ej x.aT
                  rcases y8:(r.game.toList == [101,105,103,104,116]) with _ | _
                  · have JL:¬ r.game=M.bC:=by have:=E1.out;rw [y8] at this;simpa using this.symm
                    have yh:M.grouped r s x ({s with brk:=false,hand:=false,push:=pu,pushed:=pd,aA:=M.left r s x,s0:=a3,run:=b3,f0:=f3 })= {s with brk:=false,hand:=false,push:=pu,pushed:=pd,aA:=M.left r s x,s0:=a3,run:=b3,f0:=f3 }:=by unfold M.grouped;rw [if_neg (fun h=>JL h.1)]
                    have Ht:=hide yh;clear yh JL
                    rcases zs:(r.game.toList == [115,116,114,97,105,103,104,116]) with _ | _
                    · have hns:¬ r.game=M.aH:=by have:=E3.out;rw [zs] at this;simpa using this.symm
                      have hpm:M.play r s x= {s with brk:=false,hand:=false,push:=pu,pushed:=pd,aA:=M.left r s x,s0:=a3,run:=b3,f0:=f3 }:=by rw [KA.out,Ht.out];unfold M.eX;rw [if_neg (fun h=>hns h.1)]
                      have jI:=hide hpm;have Iy:=hide hns;clear hpm hns
                      go_wp2_with (first | (refine aC 99 (.tmp 8) rfl ?_;refine au (hQ.g) Tryz.underlying99 rfl ak rfl (.tmp 8) rfl rfl ?_) | (refine aQ 99 (.tmp 4) (.tmp 176) rfl ?_;refine aI (hQ.b.get 2 rfl) (aj r ({s with brk:=false,hand:=false,push:=pu,pushed:=pd,aA:=M.left r s x,s0:=a3,run:=b3,f0:=f3 }) A2 c2) rfl ak (bH _ _ _ _) rfl (.tmp 4) (.tmp 176) rfl rfl rfl ?_))
                      have hZ:=hQ.b.put 2 rfl (aj r ({s with brk:=false,hand:=false,push:=pu,pushed:=pd,aA:=M.left r s x,s0:=a3,run:=b3,f0:=f3 }) A2 c2) rfl;refine bodyPost_ret (aY (p:=4) (hZ.get 2 rfl) Tryz.underlying99 rfl ak rfl _ rfl) rfl ⟨A2,c2,?_,?_,hZ.bw⟩
                      · rw [jI.out];rfl
                      · rw [jI.out];exact (bT.sets hg2 _ 0 _ hrk).more (fun b _ h=>Nat.le_trans (by omega) h.1)
                    · have hns:r.game=M.aH:=by have:=E3.out;rw [zs] at this;simpa using this.symm
                      have Hns:=hide hns;clear hns
                      by_cases hln:(M.left r s x).length≤1
                      · have d2:decide (((M.left r s x).length:Int)≤1)=true:=by rw [decide_eq_true_eq];omega
                        have hpm:M.play r s x= {s with brk:=false,hand:=false,push:=pu,pushed:=pd,aA:=M.iV r,s0:=a3,run:=b3,f0:=f3,bI:=s.bI+1 }:=by rw [KA.out,Ht.out];unfold M.eX;rw [if_pos ⟨Hns.out,hln⟩]
                        have jI:=hide hpm;clear hpm
                        go_wp2_with (first | (refine aC 99 (.tmp 8) rfl ?_;refine au (hQ.g) Tryz.underlying99 rfl ak rfl (.tmp 8) rfl rfl ?_) | (go_at_call 158;refine (qI r ({s with brk:=false,hand:=false,push:=pu,pushed:=pd,aA:=M.left r s x,s0:=a3,run:=b3,f0:=f3 }) A2 c2 _ (by show 0≤s.bI;omega) (by show s.bI≤1000000;omega)).mono ?_;rintro e w5 ⟨A4,c4,rfl,hr4,hb5⟩;have pK:=hQ.call (by simp) hb5) | (refine aQ 99 (.tmp 4) (.tmp 175) rfl ?_;refine aI (pK.b.get 2 rfl) (aj r ({s with brk:=false,hand:=false,push:=pu,pushed:=pd,aA:=M.iV r,s0:=a3,run:=b3,f0:=f3,bI:=s.bI+1 }) A4 c4) rfl ak (bH _ _ _ _) rfl (.tmp 4) (.tmp 175) rfl rfl rfl ?_))
                        have hZ:=pK.b.put 2 rfl (aj r ({s with brk:=false,hand:=false,push:=pu,pushed:=pd,aA:=M.iV r,s0:=a3,run:=b3,f0:=f3,bI:=s.bI+1 }) A4 c4) rfl;refine bodyPost_ret (aY (p:=4) (hZ.get 2 rfl) Tryz.underlying99 rfl ak rfl _ rfl) rfl ⟨A4,c4,?_,?_,hZ.bw⟩
                        · rw [jI.out];rfl
                        · rw [jI.out]
                          have hg3:¬ (fun b=>wc.heap.size≤b) (w.heap.size+2):=fun h=>by
                           have h:wc.heap.size≤w.heap.size+2:=h
                           omega
                          exact (bT.sets hg3 _ 0 _ hr4).more (fun b _ h=>by omega)
                      · have d2:decide (((M.left r s x).length:Int)≤1)=false:=by rw [decide_eq_false_iff_not];omega
                        have hpm:M.play r s x= {s with brk:=false,hand:=false,push:=pu,pushed:=pd,aA:=M.left r s x,s0:=a3,run:=b3,f0:=f3 }:=by rw [KA.out,Ht.out];unfold M.eX;rw [if_neg (fun h=>hln h.2)]
                        have jI:=hide hpm;have Iy:=hide hln;clear hpm hln
                        go_wp2_with (first | (refine aC 99 (.tmp 8) rfl ?_;refine au (hQ.g) Tryz.underlying99 rfl ak rfl (.tmp 8) rfl rfl ?_) | (refine aQ 99 (.tmp 4) (.tmp 176) rfl ?_;refine aI (hQ.b.get 2 rfl) (aj r ({s with brk:=false,hand:=false,push:=pu,pushed:=pd,aA:=M.left r s x,s0:=a3,run:=b3,f0:=f3 }) A2 c2) rfl ak (bH _ _ _ _) rfl (.tmp 4) (.tmp 176) rfl rfl rfl ?_))
                        have hZ:=hQ.b.put 2 rfl (aj r ({s with brk:=false,hand:=false,push:=pu,pushed:=pd,aA:=M.left r s x,s0:=a3,run:=b3,f0:=f3 }) A2 c2) rfl;refine bodyPost_ret (aY (p:=4) (hZ.get 2 rfl) Tryz.underlying99 rfl ak rfl _ rfl) rfl ⟨A2,c2,?_,?_,hZ.bw⟩
                        · rw [jI.out];rfl
                        · rw [jI.out];exact (bT.sets hg2 _ 0 _ hrk).more (fun b _ h=>Nat.le_trans (by omega) h.1)
                  · have Un:r.game=M.bC:=by have:=E1.out;rw [y8] at this;simpa using this.symm
                    have zs:(r.game.toList == [115,116,114,97,105,103,104,116])=false:=by rw [E3.out,Un];decide
                    have hns:¬ r.game=M.aH:=by rw [Un];decide
                    have Hgy:=hide Un;clear Un
                    rcases yp:(x.kind.toList == [112,108,97,121]) with _ | _
                    · have yh:M.grouped r s x ({s with brk:=false,hand:=false,push:=pu,pushed:=pd,aA:=M.left r s x,s0:=a3,run:=b3,f0:=f3 })= {s with brk:=false,hand:=false,push:=pu,pushed:=pd,aA:=M.left r s x,s0:=a3,run:=b3,f0:=f3 }:=by unfold M.grouped;rw [if_neg (fun h=>by have:=E2.out;rw [yp] at this;simp [h.2.1] at this)]
                      have Ht:=hide yh;clear yh
                      have hpm:M.play r s x= {s with brk:=false,hand:=false,push:=pu,pushed:=pd,aA:=M.left r s x,s0:=a3,run:=b3,f0:=f3 }:=by rw [KA.out,Ht.out];unfold M.eX;rw [if_neg (fun h=>hns h.1)]
                      have jI:=hide hpm;have Iy:=hide hns;clear hpm hns
                      go_wp2_with (first | (refine aC 99 (.tmp 8) rfl ?_;refine au (hQ.g) Tryz.underlying99 rfl ak rfl (.tmp 8) rfl rfl ?_) | (refine aQ 99 (.tmp 4) (.tmp 176) rfl ?_;refine aI (hQ.b.get 2 rfl) (aj r ({s with brk:=false,hand:=false,push:=pu,pushed:=pd,aA:=M.left r s x,s0:=a3,run:=b3,f0:=f3 }) A2 c2) rfl ak (bH _ _ _ _) rfl (.tmp 4) (.tmp 176) rfl rfl rfl ?_))
                      have hZ:=hQ.b.put 2 rfl (aj r ({s with brk:=false,hand:=false,push:=pu,pushed:=pd,aA:=M.left r s x,s0:=a3,run:=b3,f0:=f3 }) A2 c2) rfl;refine bodyPost_ret (aY (p:=4) (hZ.get 2 rfl) Tryz.underlying99 rfl ak rfl _ rfl) rfl ⟨A2,c2,?_,?_,hZ.bw⟩
                      · rw [jI.out];rfl
                      · rw [jI.out];exact (bT.sets hg2 _ 0 _ hrk).more (fun b _ h=>Nat.le_trans (by omega) h.1)
                    · rcases yg:(s.group == 0) with _ | _
                      · have yh:M.grouped r s x ({s with brk:=false,hand:=false,push:=pu,pushed:=pd,aA:=M.left r s x,s0:=a3,run:=b3,f0:=f3 })= {s with brk:=false,hand:=false,push:=pu,pushed:=pd,aA:=M.left r s x,s0:=a3,run:=b3,f0:=f3 }:=by unfold M.grouped;rw [if_neg (fun h=>by rw [tK] at yg;simp [h.2.2] at yg)]
                        have Ht:=hide yh;clear yh
                        have hpm:M.play r s x= {s with brk:=false,hand:=false,push:=pu,pushed:=pd,aA:=M.left r s x,s0:=a3,run:=b3,f0:=f3 }:=by rw [KA.out,Ht.out];unfold M.eX;rw [if_neg (fun h=>hns h.1)]
                        have jI:=hide hpm;have Iy:=hide hns;clear hpm hns
                        go_wp2_with (first | (refine aC 99 (.tmp 8) rfl ?_;refine au (hQ.g) Tryz.underlying99 rfl ak rfl (.tmp 8) rfl rfl ?_) | (refine aQ 99 (.tmp 4) (.tmp 176) rfl ?_;refine aI (hQ.b.get 2 rfl) (aj r ({s with brk:=false,hand:=false,push:=pu,pushed:=pd,aA:=M.left r s x,s0:=a3,run:=b3,f0:=f3 }) A2 c2) rfl ak (bH _ _ _ _) rfl (.tmp 4) (.tmp 176) rfl rfl rfl ?_))
                        have hZ:=hQ.b.put 2 rfl (aj r ({s with brk:=false,hand:=false,push:=pu,pushed:=pd,aA:=M.left r s x,s0:=a3,run:=b3,f0:=f3 }) A2 c2) rfl;refine bodyPost_ret (aY (p:=4) (hZ.get 2 rfl) Tryz.underlying99 rfl ak rfl _ rfl) rfl ⟨A2,c2,?_,?_,hZ.bw⟩
                        · rw [jI.out];rfl
                        · rw [jI.out];exact (bT.sets hg2 _ 0 _ hrk).more (fun b _ h=>Nat.le_trans (by omega) h.1)
                      · have yh:M.play r s x= {s with brk:=false,hand:=false,push:=pu,pushed:=pd,group:=M.side x.aT,aA:=M.left r s x,s0:=a3,run:=b3,f0:=f3 }:=by
                         have q1:=E2.out;rw [yp] at q1
                         have q2:x.kind=M.nP:=by simpa using q1.symm
                         have q3:s.group=0:=by rw [tK] at yg;simpa using yg
                         rw [KA.out]
                         unfold M.grouped
                         rw [if_pos ⟨Hgy.out,q2,q3⟩]
                         unfold M.eX
                         rw [if_neg (fun h=>hns h.1),rZ.out]
                         rfl
                        have jI:=hide yh;have hns0:=hide hns;clear yh hns;have hS:dX w (wc.setCell ⟨D,8,none⟩ (.int .i64 (M.side x.aT))) [(aj r (s) A c,99),(aB ⟨x,P,d⟩,27),(aW,99)] D (aj r ({s with brk:=false,hand:=false,push:=pu,pushed:=pd,group:=M.side x.aT,aA:=M.left r s x,s0:=a3,run:=b3,f0:=f3 }) A2 c2):=hQ.set hD 8 _;have oq:=hrk.setCell (p:=⟨D,8,none⟩) (fun h=>h.2 rfl) (.int .i64 (M.side x.aT))
                        go_wp2_with (first | (go_at_call 142;refine (kK _ _).mono ?_;rintro e nH ⟨rfl,rfl⟩) | (refine aC 99 (.tmp 8) rfl ?_;refine au (hS.g) Tryz.underlying99 rfl ak rfl (.tmp 8) rfl rfl ?_) | (refine aQ 99 (.tmp 4) (.tmp 176) rfl ?_;refine aI (hS.b.get 2 rfl) (aj r ({s with brk:=false,hand:=false,push:=pu,pushed:=pd,group:=M.side x.aT,aA:=M.left r s x,s0:=a3,run:=b3,f0:=f3 }) A2 c2) rfl ak (bH _ _ _ _) rfl (.tmp 4) (.tmp 176) rfl rfl rfl ?_))
                        have hZ:=hS.b.put 2 rfl (aj r ({s with brk:=false,hand:=false,push:=pu,pushed:=pd,group:=M.side x.aT,aA:=M.left r s x,s0:=a3,run:=b3,f0:=f3 }) A2 c2) rfl;refine bodyPost_ret (aY (p:=4) (hZ.get 2 rfl) Tryz.underlying99 rfl ak rfl _ rfl) rfl ⟨A2,c2,?_,?_,hZ.bw⟩
                        · rw [jI.out];rfl
                        · rw [jI.out];exact (bT.sets hg2 _ 0 _ oq).more (fun b _ h=>Nat.le_trans (by omega) h.1)
theorem WY (S:Nat→Prop) (n:Int) (r:M.Rules) (s:M.State) (x:M.aV) (A P:Option Addr) (c d:Nat) (w:World) (hp:bT w S A c s.aA) (hpp:fA w S P d x.aF) (hck:M.cZ x=0) (hr:M.bP r=0) (hk:M.Ok r n s) (hn:0≤n∧n≤500000) (hpl:x.aN=1) (hl:M.Lawful r s x) (hc:x.kind≠M.bf):
 Calls Tryz.prog 104 #[dP r s A c,iG x P d] w fun e w'=>∃ A' c',e= .returned (dP r (M.play r s x) A' c')∧bT w' (fun b=>w.heap.size≤b) A' c' (M.play r s x).aA∧Below w.heap.size w w':=by
 obtain ⟨hx,qZ,_⟩:=yF hck;have hsx:=M.rJ hck;have Dz:=hsx.objs;have hpos:∀ p∈x.aF,0≤p.aT:=fun p h=>(qZ p h).1.1;have hg:=hk.group;have hF:=fun W h h'=>uJ S r s x A P c d W h h' hx hpos hr hg;have hG:=fun W h h'=>EP S r s x A P c d W h h' hx hpos hr hg;have hL:=fun W h h'=>FI S r s x A P c d (M.good r s x) W h h' hpos;rw [← Cb hr] at hL;obtain ⟨fl,hfl⟩:∃ q,M.fU r s x=q:=⟨_,rfl⟩;obtain ⟨gd,hgd⟩:∃ q,M.good r s x=q:=⟨_,rfl⟩;rw [hfl] at hF;rw [hgd] at hG hL;obtain ⟨pu,hpu⟩:∃ q,decide (r.game=M.dJ∧x.kind=M.dR)=q:=⟨_,rfl⟩;obtain ⟨pd,Vw⟩:∃ q,decide (x.kind=M.fJ)=q:=⟨_,rfl⟩
 have hcm:M.calm r s x= {s with brk:=false,hand:=false,push:=pu,pushed:=pd }:=by unfold M.calm;rw [hpu,Vw]
 have hC:=fun W h=>yO S r s x A P c d W h
 simp only [hcm] at hC
 have HC:=hide hC;have HCM:=hide hcm;clear hC hcm hpu Vw;have HF:=hide hF;have HG:=hide hG;have HL:=hide hL;have VN:=hide hfl;have NU:=hide hgd;clear hF hG hL hfl hgd;have rZ:=hide hpl;clear hpl
 go_enter Tryz.func104,Tryz.ntmps104
 go_upto_region 0 with (fail)
 go_cut [2,3,4] (fun v2 v3 v4 wx=>v2=ptr w.heap.size∧v3=ptr (w.heap.size+1)∧v4=ptr (w.heap.size+2)∧aS w wx [(aj r (s) A c,99),(aB ⟨x,P,d⟩,27),(aW,99)])
 case first=>
  as_aux_lemma=>
   go_wp2;go_meet;exact ⟨rfl,rfl,rfl,((((aS.nil w).new (by simp) (aj r (s) A c) _).new (by simp) (aB ⟨x,P,d⟩) _).new (by simp) (aW) _)⟩
 case rest=>
  obtain ⟨rfl,rfl,rfl,hB⟩:=hcut
  go_upto_region 1 with (fail)
  go_cut [5,6] (fun v5 v6 wx=>v5= .int .i64 fl∧v6= .bool gd∧aS w wx [(aj r (s) A c,99),(aB ⟨x,P,d⟩,27),(aW,99)])
  case first=>
   as_aux_lemma=>
    have Iz:∀ W:World,(fun w':World=>∀ p q,p<w.heap.size+3→w'.cell? ⟨p,q,none⟩=wc.cell? ⟨p,q,none⟩) W→W.rangeAt w.heap.size 0 (aj r (s) A c):=fun W h j v hj=>by rw [h _ _ (by omega)];exact (hB.ah rfl).range j v hj
    have JO:∀ W:World,(fun w':World=>∀ p q,p<w.heap.size+3→w'.cell? ⟨p,q,none⟩=wc.cell? ⟨p,q,none⟩) W→W.rangeAt (w.heap.size+1) 0 (aB ⟨x,P,d⟩):=fun W h j v hj=>by rw [h _ _ (by omega)];exact (hB.get 1 rfl).range j v hj
    refine wp_region_held_drew (S:=(fun w':World=>∀ p q,p<w.heap.size+3→w'.cell? ⟨p,q,none⟩=wc.cell? ⟨p,q,none⟩)) (by kernel_rfl) ?oG (fun hHeld=>?_)
    case oG=>first | exact fun p q h=>rfl | exact fun p q h=>hB.drew.cells hb1 p q h | exact fun p q h=>(hB1.cells hb2 p q h).trans (hB.drew.cells hb1 p q h)
    refine wpAnyH_take (i:=0) (oi:=_) (v:=_) (ga rfl) (by kernel_rfl) (by kernel_rfl) (by kernel_rfl) (fun _ _ _ h=>h) (yieldsIf_load_mid (by rfl) _ _ (by rfl) _ _ (by rfl) _ _ Iz Tryz.underlying99 rfl (by kernel_rfl)) (by assumption) ?_
    try simp only [Act.put,la,lz,ls]
    refine wpAnyH_take (i:=1) (oi:=_) (v:=_) (ga rfl) (by kernel_rfl) (by kernel_rfl) (by kernel_rfl) (fun _ _ _ h=>h) (yieldsIf_load_mid (by rfl) _ _ (by rfl) _ _ (by rfl) _ _ JO Tryz.underlying27 rfl (by kernel_rfl)) (by assumption) ?_
    try simp only [Act.put,la,lz,ls]
    refine wpAnyH_take (i:=3) (oi:=_) (v:=_) (ga rfl) (by kernel_rfl) (by kernel_rfl) (by kernel_rfl) (fun _ _ _ h=>h) (yieldsIf_load_mid (by rfl) _ _ (by rfl) _ _ (by rfl) _ _ Iz Tryz.underlying99 rfl (by kernel_rfl)) (by assumption) ?_
    try simp only [Act.put,la,lz,ls]
    refine wpAnyH_take (i:=4) (oi:=_) (v:=_) (ga rfl) (by kernel_rfl) (by kernel_rfl) (by kernel_rfl) (fun _ _ _ h=>h) (yieldsIf_load_mid (by rfl) _ _ (by rfl) _ _ (by rfl) _ _ JO Tryz.underlying27 rfl (by kernel_rfl)) (by assumption) ?_
    try simp only [Act.put,la,lz,ls]
    refine tr 2 fun K hK=>?_;go_simp
    (first | (go_at_call 39;refine (HF.out _ (hp.below hB.drew.bw) (hpp.below hB.drew.bw)).mono ?_;rintro e w1 ⟨rfl,hb1⟩;have hB1:=hB.drew.call (by simp) hb1) | (go_at_call 154;refine (HG.out _ (hp.below hB1.bw) (hpp.below hB1.bw)).mono ?_;rintro e w2 ⟨rfl,hb2⟩;have hB2:=hB1.call (by simp) hb2))
    refine hK.out _ _ ?QN (fun hHeld=>?_)
    case QN=>(first | (first | exact fun p q h=>rfl | exact fun p q h=>hB.drew.cells hb1 p q h | exact fun p q h=>(hB1.cells hb2 p q h).trans (hB.drew.cells hb1 p q h)) | (dsimp only;first | exact fun p q h=>rfl | exact fun p q h=>hB.drew.cells hb1 p q h | exact fun p q h=>(hB1.cells hb2 p q h).trans (hB.drew.cells hb1 p q h)))
    clear hK K
    try simp only [Act.put,la,lz,ls]
    refine tr 5 fun K hK=>?_;go_simp
    (first | (go_at_call 39;refine (HF.out _ (hp.below hB.drew.bw) (hpp.below hB.drew.bw)).mono ?_;rintro e w1 ⟨rfl,hb1⟩;have hB1:=hB.drew.call (by simp) hb1) | (go_at_call 154;refine (HG.out _ (hp.below hB1.bw) (hpp.below hB1.bw)).mono ?_;rintro e w2 ⟨rfl,hb2⟩;have hB2:=hB1.call (by simp) hb2))
    refine hK.out _ _ ?QO (fun hHeld=>?_)
    case QO=>(first | (first | exact fun p q h=>rfl | exact fun p q h=>hB.drew.cells hb1 p q h | exact fun p q h=>(hB1.cells hb2 p q h).trans (hB.drew.cells hb1 p q h)) | (dsimp only;first | exact fun p q h=>rfl | exact fun p q h=>hB.drew.cells hb1 p q h | exact fun p q h=>(hB1.cells hb2 p q h).trans (hB.drew.cells hb1 p q h)))
    clear hK K
    try simp only [Act.put,la,lz,ls]
    refine tk 6 ?_;refine tk 7 ?_;refine wpAnyH_done (by kernel_rfl) ?_ _;go_wp2;go_meet;exact ⟨rfl,rfl,hB2⟩
  case rest=>
   obtain ⟨rfl,rfl,hB⟩:=hcut;have x9:=hB.get 1 rfl;have x0:=x9.cell (j:=0) rfl;rw [rZ.out] at x0
   go_upto_region 3 with (fail)
   go_cut [8] (fun v8 wx=>∃ D A1 c1,v8=ptr D∧w.heap.size+3≤D∧dX w wx [(aj r (s) A c,99),(aB ⟨x,P,d⟩,27),(aW,99)] D (aj r ({s with brk:=false,hand:=false,push:=pu,pushed:=pd }) A1 c1))
   case first=>
    as_aux_lemma=>
     go_wp2_with (first | (refine aC 99 (.tmp 2) rfl ?_;refine au (hB.ah rfl) Tryz.underlying99 rfl ak rfl (.tmp 2) rfl rfl ?_) | (refine aC 27 (.tmp 3) rfl ?_;refine au (hB.get 1 rfl) Tryz.underlying27 rfl bY rfl (.tmp 3) rfl rfl ?_) | (go_at_call 102;refine (HC.out _ (hp.below hB.bw)).mono ?_;rintro e w1 ⟨A1,c1,rfl,hr1,hb1⟩;have hB1:=hB.call (by simp) hb1;have hB2:=hB1.alloc (by simp) (.cells aW.toArray 99);have hG1:=Held.new w1 aW 99) | (refine aQ 99 (.tmp 8) (.tmp 22) rfl ?_;refine aI hG1 (aj r ({s with brk:=false,hand:=false,push:=pu,pushed:=pd }) A1 c1) rfl ak (bH _ _ _ _) rfl (.tmp 8) (.tmp 22) rfl rfl rfl ?_))
     go_meet;have hsz:=hB1.size (by simp)
     simp only [List.length_cons,List.length_nil] at hsz
     exact ⟨w1.heap.size,A1,c1,rfl,hsz,hB2.Lc hsz _ 0,hG1.whole _ rfl⟩
   case rest=>
    obtain ⟨D,A1,c1,rfl,hD,hQ⟩:=hcut;clear hB x9 x0
    go_upto_region 4 with (fail)
    go_cut [] (fun wx=>∃ A2 c2,dX w wx [(aj r (s) A c,99),(aB ⟨x,P,d⟩,27),(aW,99)] D (aj r ({s with brk:=false,hand:=false,push:=pu,pushed:=pd,aA:=M.left r s x }) A2 c2)∧bT wx (fun b=>w.heap.size+3≤b∧b≠D) A2 c2 (M.left r s x))
    case first=>
     as_aux_lemma=>
      go_wp2_with (first | (refine aC 99 (.tmp 2) rfl ?_;refine au (hQ.b.ah rfl) Tryz.underlying99 rfl ak rfl (.tmp 2) rfl rfl ?_) | (refine aC 27 (.tmp 3) rfl ?_;refine au (hQ.b.get 1 rfl) Tryz.underlying27 rfl bY rfl (.tmp 3) rfl rfl ?_) | (go_at_call 155;refine (HL.out _ (hp.below hQ.b.bw) (hpp.below hQ.b.bw)).mono ?_;rintro e w1 ⟨A2,c2,rfl,hr1,hb1⟩;have zB:=hQ.call (by simp) hb1;have q9:=zB.g.cell (j:=9) rfl;have qf9:=zB.g.frozen 9))
      go_meet;have hsz:=hQ.b.size (by simp);have hDl:=hQ.g.lt
      simp only [List.length_cons,List.length_nil] at hsz
      exact ⟨A2,c2,zB.set hD 9 _,(hr1.more (fun b _ h=>⟨by omega,by omega⟩)).setCell (fun h=>h.2 rfl) _⟩
    case rest=>
     obtain ⟨A2,c2,hQ,hrk⟩:=hcut;have qs:=hQ.g.cell (j:=11) rfl;have qf:=hQ.g.cell (j:=13) rfl;have qr:=hQ.g.cell (j:=14) rfl;have hb0:=hk.s1;have hb1:=hk.run;have hb2:=hk.f1;have hb3:=hk.bI
     go_upto_if 29 with (fail)
     go_cut [] (fun wx=>dX w wx [(aj r (s) A c,99),(aB ⟨x,P,d⟩,27),(aW,99)] D (aj r ({s with brk:=false,hand:=false,push:=pu,pushed:=pd,aA:=M.left r s x,s1:=(if gd=true then s.s1+(M.objects x).length else s.s1),run:=(if gd=true then s.run+(M.objects x).length else s.run) }) A2 c2)∧bT wx (fun b=>w.heap.size+3≤b∧b≠D) A2 c2 (M.left r s x))
     case first=>
      as_aux_lemma=>
       rcases gd with _ | _
       · go_wp2
         go_meet;exact ⟨hQ,hrk⟩
       · go_wp2_with (first | (refine aC 27 (.tmp 3) rfl ?_;refine au (hQ.b.get 1 rfl) Tryz.underlying27 rfl bY rfl (.tmp 3) rfl rfl ?_) | (go_at_call 81;refine (jq S x P d _ (hpp.below hQ.b.bw) hpos).mono ?_;rintro e w1 ⟨A3,c3,rfl,hr3,hb1⟩;have zB:=hQ.call (by simp) hb1;have Wv:=hrk.below hb1;have u11:=zB.g.cell (j:=11) rfl;have apv:=zB.g.frozen 11;have u14:=zB.g.cell (j:=14) rfl;have agQ:=zB.g.frozen 14))
         go_meet;exact ⟨(zB.set hD 11 _).set hD 14 _,(Wv.setCell (fun h=>h.2 rfl) _).setCell (fun h=>h.2 rfl) _⟩
     case rest=>
      clear hQ hrk qs qf qr;obtain ⟨hQ,hrk⟩:=hcut;obtain ⟨a2,ha2⟩:∃ q,(if gd=true then s.s1+(M.objects x).length else s.s1)=q:=⟨_,rfl⟩;obtain ⟨b2,hb2'⟩:∃ q,(if gd=true then s.run+(M.objects x).length else s.run)=q:=⟨_,rfl⟩;rw [ha2,hb2'] at hQ
      have va2: -500000≤a2∧a2≤500016:=by rw [← ha2];split <;> omega
      have vb2:0≤b2∧b2≤500016:=by rw [← hb2'];split <;> omega
      have HA2:=hide ha2;have HB2:=hide hb2';clear ha2 hb2';have qs:=hQ.g.cell (j:=11) rfl;have qf:=hQ.g.cell (j:=13) rfl;have qr:=hQ.g.cell (j:=14) rfl;have zs:=hQ.g.frozen 11;have zf:=hQ.g.frozen 13;have zr:=hQ.g.frozen 14;have k0:=(hQ.b.ah rfl).cell (j:=0) rfl
      go_upto_if 51 with (fail)
      go_cut [] (fun wx=>dX w wx [(aj r (s) A c,99),(aB ⟨x,P,d⟩,27),(aW,99)] D (aj r ({s with brk:=false,hand:=false,push:=pu,pushed:=pd,aA:=M.left r s x,s1:=(if fl=0 then a2 else if r.game=M.aH then a2 - 1 else a2),run:=(if fl=0 then b2 else 0),f1:=(if fl=0 then 0 else s.f1+1) }) A2 c2)∧bT wx (fun b=>w.heap.size+3≤b∧b≠D) A2 c2 (M.left r s x))
      case first=>
       as_aux_lemma=>
        rcases zq:(fl == 0) with _ | _
        · have zn:¬ fl=0:=by simpa using zq
          have Hn:=hide zn;clear zn
          rcases zg:(r.game.toList == [115,116,114,97,105,103,104,116]) with _ | _
          · have Ti:¬ r.game=M.aH:=by rw [bW r.game [115,116,114,97,105,103,104,116]] at zg;simpa using zg
            have VQ:=hide Ti;clear Ti;go_wp2;go_meet;rw [if_neg Hn.out,if_neg Hn.out,if_neg Hn.out,if_neg VQ.out];exact ⟨(hQ.set hD 13 _).set hD 14 _,(hrk.setCell (fun h=>h.2 rfl) _).setCell (fun h=>h.2 rfl) _⟩
          · have Ti:r.game=M.aH:=by rw [bW r.game [115,116,114,97,105,103,104,116]] at zg;simpa using zg
            have VQ:=hide Ti;clear Ti;go_wp2;go_meet;rw [if_neg Hn.out,if_neg Hn.out,if_neg Hn.out,if_pos VQ.out];exact ⟨((hQ.set hD 13 _).set hD 14 _).set hD 11 _,((hrk.setCell (fun h=>h.2 rfl) _).setCell (fun h=>h.2 rfl) _).setCell (fun h=>h.2 rfl) _⟩
        · have zn:fl=0:=by simpa using zq
          have Hn:=hide zn;clear zn;go_wp2;go_meet;rw [if_pos Hn.out,if_pos Hn.out,if_pos Hn.out];exact ⟨hQ.set hD 13 _,hrk.setCell (fun h=>h.2 rfl) _⟩
      case rest=>
       clear hQ hrk qs qf qr zs zf zr k0;obtain ⟨hQ,hrk⟩:=hcut;obtain ⟨a3,Ph⟩:∃ q,(if fl=0 then a2 else if r.game=M.aH then a2 - 1 else a2)=q:=⟨_,rfl⟩;obtain ⟨b3,AX⟩:∃ q,(if fl=0 then b2 else 0)=q:=⟨_,rfl⟩;obtain ⟨f3,hf3⟩:∃ q,(if fl=0 then 0 else s.f1+1)=q:=⟨_,rfl⟩;rw [Ph,AX,hf3] at hQ
       have va3: -500001≤a3∧a3≤500016:=by rw [← Ph];split <;> first | omega | (split <;> omega)
       have vf3:0≤f3∧f3≤500001:=by rw [← hf3];split <;> omega
       have hct:M.counted r s x= {s with brk:=false,hand:=false,push:=pu,pushed:=pd,aA:=M.left r s x,s1:=a3,run:=b3,f1:=f3 }:=by
        have e1:=HA2.out;have e2:=HB2.out;rw [M.iE,HCM.out]
        unfold M.sc M.fc M.rc
        simp only [rZ.out,VN.out,NU.out,show ¬ (1:Int)=0 by decide,if_false]
        rw [← Ph, ← AX, ← hf3, ← e1, ← e2]
       have NT:=hide hct;clear Ph AX hf3 hct;have hpl2:=rZ.out;have hkey:=CO (r:=r) (s:=s) (x:=x) hl hsx hc hr
       have Pv:(M.counted r s x).score x.aN=a3:=by rw [NT.out,rZ.out];rfl
       have Pm:(M.counted r s x).jC x.aN=f3:=by rw [NT.out,rZ.out];rfl
       rw [Pv,Pm,VN.out,NU.out,NT.out] at hkey;obtain ⟨wn,hwn⟩:∃ q,(Aj r s x gd a3).1=q:=⟨_,rfl⟩;obtain ⟨ov,hov⟩:∃ q,(Aj r s x gd a3).2=q:=⟨_,rfl⟩;rw [hwn,hov] at hkey;have Wi:=fun W h h'=>Ak S r s x A P c d gd a3 W h h' hpos hr hg (by omega) (by omega);rw [hwn,hov] at Wi;have HW:=hide Wi;have HK:=hide hkey;clear Wi hkey hwn hov Pv Pm hpl2;have qs:=hQ.g.cell (j:=11) rfl
       go_upto_region 15 with (fail)
       go_cut [10,11] (fun v10 v11 wx=>v10= .int .i64 wn∧v11= .bool ov∧dX w wx [(aj r (s) A c,99),(aB ⟨x,P,d⟩,27),(aW,99)] D (aj r ({s with brk:=false,hand:=false,push:=pu,pushed:=pd,aA:=M.left r s x,s1:=a3,run:=b3,f1:=f3 }) A2 c2)∧bT wx (fun b=>w.heap.size+3≤b∧b≠D) A2 c2 (M.left r s x))
       case first=>
        as_aux_lemma=>
         have Iz:∀ W:World,(fun w':World=>(∀ p q,p<w.heap.size+3→w'.cell? ⟨p,q,none⟩=wc.cell? ⟨p,q,none⟩)∧w'.cell? ⟨D,11,none⟩=some (.int .i64 a3)) W→W.rangeAt w.heap.size 0 (aj r (s) A c):=fun W h j v hj=>by rw [h.1 _ _ (by omega)];exact (hQ.b.ah rfl).range j v hj
         have JO:∀ W:World,(fun w':World=>(∀ p q,p<w.heap.size+3→w'.cell? ⟨p,q,none⟩=wc.cell? ⟨p,q,none⟩)∧w'.cell? ⟨D,11,none⟩=some (.int .i64 a3)) W→W.rangeAt (w.heap.size+1) 0 (aB ⟨x,P,d⟩):=fun W h j v hj=>by rw [h.1 _ _ (by omega)];exact (hQ.b.get 1 rfl).range j v hj
         refine wp_region_held_drew (S:=(fun w':World=>(∀ p q,p<w.heap.size+3→w'.cell? ⟨p,q,none⟩=wc.cell? ⟨p,q,none⟩)∧w'.cell? ⟨D,11,none⟩=some (.int .i64 a3))) (by kernel_rfl) ?kG (fun hHeld=>?_)
         case kG=>first | exact ⟨fun p q h=>rfl,qs⟩ | exact ⟨fun p q h=>hQ.drew.b.cells hb1 p q h,(hb1.cell (p:=⟨D,_,none⟩) hQ.drew.g.lt).trans qs⟩
         refine wpAnyH_take (i:=0) (oi:=_) (v:=_) (ga rfl) (by kernel_rfl) (by kernel_rfl) (by kernel_rfl) (fun _ _ _ h=>h) (yieldsIf_load_mid (by rfl) _ _ (by rfl) _ _ (by rfl) _ _ Iz Tryz.underlying99 rfl (by kernel_rfl)) (by assumption) ?_
         try simp only [Act.put,la,lz,ls]
         refine wpAnyH_take (i:=1) (oi:=_) (v:=_) (ga rfl) (by kernel_rfl) (by kernel_rfl) (by kernel_rfl) (fun _ _ _ h=>h) (yieldsIf_load_mid (by rfl) _ _ (by rfl) _ _ (by rfl) _ _ JO Tryz.underlying27 rfl (by kernel_rfl)) (by assumption) ?_
         try simp only [Act.put,la,lz,ls]
         refine tk 2 ?_;refine tk 3 ?_;refine tk 4 ?_;refine tk 5 ?_;refine tk 6 ?_;refine tk 7 ?_;refine tr 8 fun K hK=>?_;go_simp
         (go_at_call 156;refine (HW.out _ (hp.below hQ.drew.b.bw) (hpp.below hQ.drew.b.bw)).mono ?_;rintro e w1 ⟨rfl,hb1⟩;have zB:=hQ.drew.call (by simp) hb1)
         refine hK.out _ _ ?QT (fun hHeld=>?_)
         case QT=>(first | (first | exact ⟨fun p q h=>rfl,qs⟩ | exact ⟨fun p q h=>hQ.drew.b.cells hb1 p q h,(hb1.cell (p:=⟨D,_,none⟩) hQ.drew.g.lt).trans qs⟩) | (dsimp only;first | exact ⟨fun p q h=>rfl,qs⟩ | exact ⟨fun p q h=>hQ.drew.b.cells hb1 p q h,(hb1.cell (p:=⟨D,_,none⟩) hQ.drew.g.lt).trans qs⟩))
         clear hK K
         try simp only [Act.put,la,lz,ls]
         refine tk 9 ?_;refine tk 10 ?_;refine tk 11 ?_;refine tk 12 ?_;refine tk 13 ?_;refine wpAnyH_done (by kernel_rfl) ?_ _;go_wp2;go_meet;exact ⟨rfl,rfl,zB,bT.below (show bT wc.drew _ _ _ _ from hrk) hb1⟩
       case rest=>
        clear hQ hrk qs;obtain ⟨rfl,rfl,hQ,hrk⟩:=hcut
        cases ov with
        | true=>
          as_aux_lemma=>
           have hS:=(hQ.set hD 16 (.bool true)).set hD 17 (.int .i64 wn);have hSS:dX w ((wc.setCell ⟨D,16,none⟩ (.bool true)).setCell ⟨D,17,none⟩ (.int .i64 wn)) [(aj r (s) A c,99),(aB ⟨x,P,d⟩,27),(aW,99)] D (aj r ({s with brk:=false,hand:=false,push:=pu,pushed:=pd,aA:=M.left r s x,s1:=a3,run:=b3,f1:=f3,over:=true,bQ:=wn }) A2 c2):=hS;have oq:=(hrk.setCell (p:=⟨D,16,none⟩) (fun h=>h.2 rfl) (.bool true)).setCell (p:=⟨D,17,none⟩) (fun h=>h.2 rfl) (.int .i64 wn);have o16:=hQ.g.cell (j:=16) rfl;have o17:=hQ.g.cell (j:=17) rfl;have agn:=hQ.g.frozen 16;have agv:=hQ.g.frozen 17;have hpm:M.play r s x= {s with brk:=false,hand:=false,push:=pu,pushed:=pd,aA:=M.left r s x,s1:=a3,run:=b3,f1:=f3,over:=true,bQ:=wn }:=HK.out;have jI:=hide hpm;clear hpm hS
           go_wp2_with (first | (refine aC 99 (.tmp 8) rfl ?_;refine au (hSS.g) Tryz.underlying99 rfl ak rfl (.tmp 8) rfl rfl ?_) | (refine aQ 99 (.tmp 4) (.tmp 98) rfl ?_;refine aI (hSS.b.get 2 rfl) (aj r ({s with brk:=false,hand:=false,push:=pu,pushed:=pd,aA:=M.left r s x,s1:=a3,run:=b3,f1:=f3,over:=true,bQ:=wn }) A2 c2) rfl ak (bH _ _ _ _) rfl (.tmp 4) (.tmp 98) rfl rfl rfl ?_))
           have hZ:=hSS.b.put 2 rfl (aj r ({s with brk:=false,hand:=false,push:=pu,pushed:=pd,aA:=M.left r s x,s1:=a3,run:=b3,f1:=f3,over:=true,bQ:=wn }) A2 c2) rfl;refine bodyPost_ret (aY (p:=4) (hZ.get 2 rfl) Tryz.underlying99 rfl ak rfl _ rfl) rfl ⟨A2,c2,?_,?_,hZ.bw⟩
           · rw [jI.out];rfl
           · rw [jI.out]
             have hg2:¬ (fun b=>w.heap.size+3≤b∧b≠D) (w.heap.size+2):=fun h=>by have h1:w.heap.size+3≤w.heap.size+2:=h.1;omega
             exact (bT.sets hg2 _ 0 _ oq).more (fun b _ h=>Nat.le_trans (by omega) h.1)
        | false=>
          as_aux_lemma=>
           have qf:=hQ.g.cell (j:=13) rfl;have k2:=(hQ.b.ah rfl).cell (j:=2) rfl;have hk1:=HK.out;rw [if_neg (by decide)] at hk1;have X3:=hide hk1;clear hk1
           go_upto_region 19 with (fail)
           go_cut [99] (fun v wx=>v= .bool (decide (fl≠0∧f3=r.bG))∧dX w wx [(aj r (s) A c,99),(aB ⟨x,P,d⟩,27),(aW,99)] D (aj r ({s with brk:=false,hand:=false,push:=pu,pushed:=pd,aA:=M.left r s x,s1:=a3,run:=b3,f1:=f3 }) A2 c2)∧bT wx (fun b=>w.heap.size+3≤b∧b≠D) A2 c2 (M.left r s x))
           case first=>
            as_aux_lemma=>
             rcases zq:(fl == 0) with _ | _
             · have zn:(fl != 0)=true:=by simp [bne,zq]
               have zm:¬ fl=0:=by simpa using zq
               have Hm:=hide zm;clear zm
               rcases ze:(f3 == r.bG) with _ | _
               all_goals
                go_wp2
                go_quiet (fail)
                go_wp2;go_meet;exact ⟨by rw [tK] at ze;simp [Hm.out,ze],hQ.drewN _,hrk.drewN _⟩
             · have zn:(fl != 0)=false:=by simp [bne,zq]
               have zm:fl=0:=by simpa using zq
               have Hm:=hide zm;clear zm;go_wp2
               go_quiet (fail)
               go_wp2;go_meet;exact ⟨by simp [Hm.out],hQ.drewN _,hrk.drewN _⟩
           case rest=>
            clear hQ hrk qf k2;obtain ⟨rfl,hQ,hrk⟩:=hcut;have uO:=hQ.b.size (by simp)
            simp only [List.length_cons,List.length_nil] at uO
            obtain ⟨lm,hlm⟩:∃ q,decide (fl≠0∧f3=r.bG)=q:=⟨_,rfl⟩;rw [hlm]
            cases lm with
            | true=>
              as_aux_lemma=>
               have hpm:M.play r s x=M.limit r ({s with brk:=false,hand:=false,push:=pu,pushed:=pd,aA:=M.left r s x,s1:=a3,run:=b3,f1:=f3 }) 1:=by have:=X3.out;rw [if_pos (of_decide_eq_true hlm),rZ.out] at this;exact this
               have jI:=hide hpm;clear hpm hlm
               go_wp2_with (first | (refine aC 99 (.tmp 8) rfl ?_;refine au (hQ.g) Tryz.underlying99 rfl ak rfl (.tmp 8) rfl rfl ?_) | (go_at_call 157;refine (xw (fun b=>w.heap.size+3≤b∧b≠D) r ({s with brk:=false,hand:=false,push:=pu,pushed:=pd,aA:=M.left r s x,s1:=a3,run:=b3,f1:=f3 }) 1 A2 c2 _ hrk (by omega) (by show -1000000≤s.s0;have:=hk.s0;omega) (by show s.s0≤1000000;have:=hk.s0;omega) (by show -1000000≤a3;omega) (by show a3≤1000000;omega) (by show 0≤s.bI;omega) (by show s.bI≤1000000;omega)).mono ?_;rintro e w5 ⟨A4,c4,rfl,hr4,hb5⟩;have pK:=hQ.call (by simp) hb5) | (refine aQ 99 (.tmp 4) (.tmp 115) rfl ?_;refine aI (pK.b.get 2 rfl) (aj r (M.limit r ({s with brk:=false,hand:=false,push:=pu,pushed:=pd,aA:=M.left r s x,s1:=a3,run:=b3,f1:=f3 }) 1) A4 c4) rfl ak (bH _ _ _ _) rfl (.tmp 4) (.tmp 115) rfl rfl rfl ?_))
               have hZ:=pK.b.put 2 rfl (aj r (M.limit r ({s with brk:=false,hand:=false,push:=pu,pushed:=pd,aA:=M.left r s x,s1:=a3,run:=b3,f1:=f3 }) 1) A4 c4) rfl;refine bodyPost_ret (aY (p:=4) (hZ.get 2 rfl) Tryz.underlying99 rfl ak rfl _ rfl) rfl ⟨A4,c4,?_,?_,hZ.bw⟩
               · rw [jI.out];rfl
               · rw [jI.out]
                 have hg2:¬ (fun b=>((fun b=>w.heap.size+3≤b∧b≠D) b)∨wc.heap.size≤b) (w.heap.size+2):=fun h=>by
                  rcases h with h | h
                  · have h1:w.heap.size+3≤w.heap.size+2:=h.1
                    omega
                  · omega
                 exact (bT.sets hg2 _ 0 _ hr4).more (fun b _ h=>by
                  rcases h with h | h
                  · exact Nat.le_trans (by omega) h.1
                  · omega)
            | false=>
              as_aux_lemma=>
               have hk2:=X3.out;rw [if_neg (of_decide_eq_false hlm)] at hk2;have wS:=hide hk2;clear hk2 hlm
               have hg2:¬ (fun b=>w.heap.size+3≤b∧b≠D) (w.heap.size+2):=fun h=>by have h1:w.heap.size+3≤w.heap.size+2:=h.1;omega
               have k0:=(hQ.b.ah rfl).cell (j:=0) rfl
               cases gd with
               | false=>
                 as_aux_lemma=>
                  have hpm:M.play r s x=M.passed r s x ({s with brk:=false,hand:=false,push:=pu,pushed:=pd,aA:=M.left r s x,s1:=a3,run:=b3,f1:=f3 }):=by have:=wS.out;rw [if_pos rfl] at this;exact this
                  have hlt:=hl.turn hc
                  have htn:0≤s.turn∧s.turn≤1:=by have:=hk.turn;omega
                  have hps:M.passed r s x ({s with brk:=false,hand:=false,push:=pu,pushed:=pd,aA:=M.left r s x,s1:=a3,run:=b3,f1:=f3 })= {s with turn:=1 - s.turn,brk:=false,hand:=decide (M.fU r s x≠0∧(r.game≠M.aH∨M.fU r s x=1)),push:=pu,pushed:=pd,aA:=M.left r s x,s1:=a3,run:=0,f1:=f3 }:=by unfold M.passed;rw [hlt]
                  have hfr:=zo r s x;rw [VN.out] at hps hfr;rw [hps] at hpm;have jI:=hide hpm;clear hpm hps hlt;have g5:=hQ.g.cell (j:=5) rfl;have gf5:=hQ.g.frozen 5;have hset:=fun hb:Bool=>hQ.set hD 5 (.bool hb);have CY:=hide hset;clear hset
                  have ES:∀ z1 z2 z3:Bool,z1=(fl == 1)→z2=decide (1<fl)→z3=(r.game.toList == [115,116,114,97,105,103,104,116])→decide (fl≠0∧(r.game≠M.aH∨fl=1))=(z1 || (z2 && !z3)):=by
                   rintro z1 z2 z3 rfl rfl rfl
                   rw [bW r.game [115,116,114,97,105,103,104,116],tK]
                   by_cases q1:fl=1
                   · simp [q1]
                   · by_cases q2:1<fl
                     · by_cases q3:r.game=M.aH <;> simp [q1,q2,q3] <;> omega
                     · have:fl=0:=by omega
                       simp [this]
                  have HH:=hide ES;clear ES
                  rcases z1:(fl == 1) with _ | _
                  · rcases z2:decide (1<fl) with _ | _
                    · have hhb:decide (fl≠0∧(r.game≠M.aH∨fl=1))=false:=by rw [HH.out _ _ _ z1.symm z2.symm rfl];rfl
                      have hS:dX w (wc.setCell ⟨D,5,none⟩ (.bool false)) [(aj r (s) A c,99),(aB ⟨x,P,d⟩,27),(aW,99)] D (aj r ({s with brk:=false,hand:=false,push:=pu,pushed:=pd,aA:=M.left r s x,s1:=a3,run:=b3,f1:=f3 }) A2 c2):=CY.out false;have oq:=hrk.setCell (p:=⟨D,5,none⟩) (fun h=>h.2 rfl) (.bool false);have Hu:=hide hhb;clear hhb
                      go_wp2_with (first | (refine aC 99 (.tmp 8) rfl ?_;refine au (hS.g) Tryz.underlying99 rfl ak rfl (.tmp 8) rfl rfl ?_) | (go_at_call 103;refine (ig r ({s with brk:=false,hand:=false,push:=pu,pushed:=pd,aA:=M.left r s x,s1:=a3,run:=b3,f1:=f3 }) A2 c2 _ htn.1 htn.2).mono ?_;rintro e w5 ⟨rfl,hb5⟩;have pK:=hS.call (by simp) hb5) | (refine aQ 99 (.tmp 4) (.tmp 134) rfl ?_;refine aI (pK.b.get 2 rfl) (aj r ({s with turn:=1 - s.turn,brk:=false,hand:=false,push:=pu,pushed:=pd,aA:=M.left r s x,s1:=a3,run:=0,f1:=f3 }) A2 c2) rfl ak (bH _ _ _ _) rfl (.tmp 4) (.tmp 134) rfl rfl rfl ?_))
                      have hZ:=pK.b.put 2 rfl (aj r ({s with turn:=1 - s.turn,brk:=false,hand:=false,push:=pu,pushed:=pd,aA:=M.left r s x,s1:=a3,run:=0,f1:=f3 }) A2 c2) rfl;refine bodyPost_ret (aY (p:=4) (hZ.get 2 rfl) Tryz.underlying99 rfl ak rfl _ rfl) rfl ⟨A2,c2,?_,?_,hZ.bw⟩
                      · rw [jI.out,Hu.out];rfl
                      · rw [jI.out];exact (bT.sets hg2 _ 0 _ (bT.below oq hb5)).more (fun b _ h=>Nat.le_trans (by omega) h.1)
                    · rcases z3:(r.game.toList == [115,116,114,97,105,103,104,116]) with _ | _
                      · have hhb:decide (fl≠0∧(r.game≠M.aH∨fl=1))=true:=by rw [HH.out _ _ _ z1.symm z2.symm z3.symm];rfl
                        have hS:dX w (wc.setCell ⟨D,5,none⟩ (.bool true)) [(aj r (s) A c,99),(aB ⟨x,P,d⟩,27),(aW,99)] D (aj r ({s with brk:=false,hand:=true,push:=pu,pushed:=pd,aA:=M.left r s x,s1:=a3,run:=b3,f1:=f3 }) A2 c2):=CY.out true;have oq:=hrk.setCell (p:=⟨D,5,none⟩) (fun h=>h.2 rfl) (.bool true);have Hu:=hide hhb;clear hhb
                        go_wp2_with (first | (refine aC 99 (.tmp 8) rfl ?_;refine au (hS.g) Tryz.underlying99 rfl ak rfl (.tmp 8) rfl rfl ?_) | (go_at_call 103;refine (ig r ({s with brk:=false,hand:=true,push:=pu,pushed:=pd,aA:=M.left r s x,s1:=a3,run:=b3,f1:=f3 }) A2 c2 _ htn.1 htn.2).mono ?_;rintro e w5 ⟨rfl,hb5⟩;have pK:=hS.call (by simp) hb5) | (refine aQ 99 (.tmp 4) (.tmp 134) rfl ?_;refine aI (pK.b.get 2 rfl) (aj r ({s with turn:=1 - s.turn,brk:=false,hand:=true,push:=pu,pushed:=pd,aA:=M.left r s x,s1:=a3,run:=0,f1:=f3 }) A2 c2) rfl ak (bH _ _ _ _) rfl (.tmp 4) (.tmp 134) rfl rfl rfl ?_))
                        have hZ:=pK.b.put 2 rfl (aj r ({s with turn:=1 - s.turn,brk:=false,hand:=true,push:=pu,pushed:=pd,aA:=M.left r s x,s1:=a3,run:=0,f1:=f3 }) A2 c2) rfl;refine bodyPost_ret (aY (p:=4) (hZ.get 2 rfl) Tryz.underlying99 rfl ak rfl _ rfl) rfl ⟨A2,c2,?_,?_,hZ.bw⟩
                        · rw [jI.out,Hu.out];rfl
                        · rw [jI.out];exact (bT.sets hg2 _ 0 _ (bT.below oq hb5)).more (fun b _ h=>Nat.le_trans (by omega) h.1)
                      · have hhb:decide (fl≠0∧(r.game≠M.aH∨fl=1))=false:=by rw [HH.out _ _ _ z1.symm z2.symm z3.symm];rfl
                        have hS:dX w (wc.setCell ⟨D,5,none⟩ (.bool false)) [(aj r (s) A c,99),(aB ⟨x,P,d⟩,27),(aW,99)] D (aj r ({s with brk:=false,hand:=false,push:=pu,pushed:=pd,aA:=M.left r s x,s1:=a3,run:=b3,f1:=f3 }) A2 c2):=CY.out false;have oq:=hrk.setCell (p:=⟨D,5,none⟩) (fun h=>h.2 rfl) (.bool false);have Hu:=hide hhb;clear hhb
                        go_wp2_with (first | (refine aC 99 (.tmp 8) rfl ?_;refine au (hS.g) Tryz.underlying99 rfl ak rfl (.tmp 8) rfl rfl ?_) | (go_at_call 103;refine (ig r ({s with brk:=false,hand:=false,push:=pu,pushed:=pd,aA:=M.left r s x,s1:=a3,run:=b3,f1:=f3 }) A2 c2 _ htn.1 htn.2).mono ?_;rintro e w5 ⟨rfl,hb5⟩;have pK:=hS.call (by simp) hb5) | (refine aQ 99 (.tmp 4) (.tmp 134) rfl ?_;refine aI (pK.b.get 2 rfl) (aj r ({s with turn:=1 - s.turn,brk:=false,hand:=false,push:=pu,pushed:=pd,aA:=M.left r s x,s1:=a3,run:=0,f1:=f3 }) A2 c2) rfl ak (bH _ _ _ _) rfl (.tmp 4) (.tmp 134) rfl rfl rfl ?_))
                        have hZ:=pK.b.put 2 rfl (aj r ({s with turn:=1 - s.turn,brk:=false,hand:=false,push:=pu,pushed:=pd,aA:=M.left r s x,s1:=a3,run:=0,f1:=f3 }) A2 c2) rfl;refine bodyPost_ret (aY (p:=4) (hZ.get 2 rfl) Tryz.underlying99 rfl ak rfl _ rfl) rfl ⟨A2,c2,?_,?_,hZ.bw⟩
                        · rw [jI.out,Hu.out];rfl
                        · rw [jI.out];exact (bT.sets hg2 _ 0 _ (bT.below oq hb5)).more (fun b _ h=>Nat.le_trans (by omega) h.1)
                  · have hhb:decide (fl≠0∧(r.game≠M.aH∨fl=1))=true:=by rw [HH.out _ _ _ z1.symm rfl rfl];rfl
                    have hS:dX w (wc.setCell ⟨D,5,none⟩ (.bool true)) [(aj r (s) A c,99),(aB ⟨x,P,d⟩,27),(aW,99)] D (aj r ({s with brk:=false,hand:=true,push:=pu,pushed:=pd,aA:=M.left r s x,s1:=a3,run:=b3,f1:=f3 }) A2 c2):=CY.out true;have oq:=hrk.setCell (p:=⟨D,5,none⟩) (fun h=>h.2 rfl) (.bool true);have Hu:=hide hhb;clear hhb
                    go_wp2_with (first | (refine aC 99 (.tmp 8) rfl ?_;refine au (hS.g) Tryz.underlying99 rfl ak rfl (.tmp 8) rfl rfl ?_) | (go_at_call 103;refine (ig r ({s with brk:=false,hand:=true,push:=pu,pushed:=pd,aA:=M.left r s x,s1:=a3,run:=b3,f1:=f3 }) A2 c2 _ htn.1 htn.2).mono ?_;rintro e w5 ⟨rfl,hb5⟩;have pK:=hS.call (by simp) hb5) | (refine aQ 99 (.tmp 4) (.tmp 134) rfl ?_;refine aI (pK.b.get 2 rfl) (aj r ({s with turn:=1 - s.turn,brk:=false,hand:=true,push:=pu,pushed:=pd,aA:=M.left r s x,s1:=a3,run:=0,f1:=f3 }) A2 c2) rfl ak (bH _ _ _ _) rfl (.tmp 4) (.tmp 134) rfl rfl rfl ?_))
                    have hZ:=pK.b.put 2 rfl (aj r ({s with turn:=1 - s.turn,brk:=false,hand:=true,push:=pu,pushed:=pd,aA:=M.left r s x,s1:=a3,run:=0,f1:=f3 }) A2 c2) rfl;refine bodyPost_ret (aY (p:=4) (hZ.get 2 rfl) Tryz.underlying99 rfl ak rfl _ rfl) rfl ⟨A2,c2,?_,?_,hZ.bw⟩
                    · rw [jI.out,Hu.out];rfl
                    · rw [jI.out];exact (bT.sets hg2 _ 0 _ (bT.below oq hb5)).more (fun b _ h=>Nat.le_trans (by omega) h.1)
               | true=>
                 as_aux_lemma=>
                  have hpm:M.play r s x=M.eX r (M.grouped r s x ({s with brk:=false,hand:=false,push:=pu,pushed:=pd,aA:=M.left r s x,s1:=a3,run:=b3,f1:=f3 })):=by have:=wS.out;rw [if_neg (by decide)] at this;exact this
                  have KA:=hide hpm;clear hpm;have xk:=(hQ.b.get 1 rfl).cell (j:=1) rfl;have xb:=(hQ.b.get 1 rfl).cell (j:=2) rfl;have kg:=(hQ.b.ah rfl).cell (j:=8) rfl;have g8:=hQ.g.cell (j:=8) rfl;have gf8:=hQ.g.frozen 8;have g9:=hQ.g.cell (j:=9) rfl;have e1:=bW r.game [101,105,103,104,116];have e2:=bW x.kind [112,108,97,121];have e3:=bW r.game [115,116,114,97,105,103,104,116];have E1:=hide e1;have E2:=hide e2;have E3:=hide e3;clear e1 e2 e3;have hsd:=M.Ej x.aT
                  rcases y8:(r.game.toList == [101,105,103,104,116]) with _ | _
                  · have JL:¬ r.game=M.bC:=by have:=E1.out;rw [y8] at this;simpa using this.symm
                    have yh:M.grouped r s x ({s with brk:=false,hand:=false,push:=pu,pushed:=pd,aA:=M.left r s x,s1:=a3,run:=b3,f1:=f3 })= {s with brk:=false,hand:=false,push:=pu,pushed:=pd,aA:=M.left r s x,s1:=a3,run:=b3,f1:=f3 }:=by unfold M.grouped;rw [if_neg (fun h=>JL h.1)]
                    have Ht:=hide yh;clear yh JL
                    rcases zs:(r.game.toList == [115,116,114,97,105,103,104,116]) with _ | _
                    · have hns:¬ r.game=M.aH:=by have:=E3.out;rw [zs] at this;simpa using this.symm
                      have hpm:M.play r s x= {s with brk:=false,hand:=false,push:=pu,pushed:=pd,aA:=M.left r s x,s1:=a3,run:=b3,f1:=f3 }:=by rw [KA.out,Ht.out];unfold M.eX;rw [if_neg (fun h=>hns h.1)]
                      have jI:=hide hpm;have Iy:=hide hns;clear hpm hns
                      go_wp2_with (first | (refine aC 99 (.tmp 8) rfl ?_;refine au (hQ.g) Tryz.underlying99 rfl ak rfl (.tmp 8) rfl rfl ?_) | (refine aQ 99 (.tmp 4) (.tmp 176) rfl ?_;refine aI (hQ.b.get 2 rfl) (aj r ({s with brk:=false,hand:=false,push:=pu,pushed:=pd,aA:=M.left r s x,s1:=a3,run:=b3,f1:=f3 }) A2 c2) rfl ak (bH _ _ _ _) rfl (.tmp 4) (.tmp 176) rfl rfl rfl ?_))
                      have hZ:=hQ.b.put 2 rfl (aj r ({s with brk:=false,hand:=false,push:=pu,pushed:=pd,aA:=M.left r s x,s1:=a3,run:=b3,f1:=f3 }) A2 c2) rfl;refine bodyPost_ret (aY (p:=4) (hZ.get 2 rfl) Tryz.underlying99 rfl ak rfl _ rfl) rfl ⟨A2,c2,?_,?_,hZ.bw⟩
                      · rw [jI.out];rfl
                      · rw [jI.out];exact (bT.sets hg2 _ 0 _ hrk).more (fun b _ h=>Nat.le_trans (by omega) h.1)
                    · have hns:r.game=M.aH:=by have:=E3.out;rw [zs] at this;simpa using this.symm
                      have Hns:=hide hns;clear hns
                      by_cases hln:(M.left r s x).length≤1
                      · have d2:decide (((M.left r s x).length:Int)≤1)=true:=by rw [decide_eq_true_eq];omega
                        have hpm:M.play r s x= {s with brk:=false,hand:=false,push:=pu,pushed:=pd,aA:=M.iV r,s1:=a3,run:=b3,f1:=f3,bI:=s.bI+1 }:=by rw [KA.out,Ht.out];unfold M.eX;rw [if_pos ⟨Hns.out,hln⟩]
                        have jI:=hide hpm;clear hpm
                        go_wp2_with (first | (refine aC 99 (.tmp 8) rfl ?_;refine au (hQ.g) Tryz.underlying99 rfl ak rfl (.tmp 8) rfl rfl ?_) | (go_at_call 158;refine (qI r ({s with brk:=false,hand:=false,push:=pu,pushed:=pd,aA:=M.left r s x,s1:=a3,run:=b3,f1:=f3 }) A2 c2 _ (by show 0≤s.bI;omega) (by show s.bI≤1000000;omega)).mono ?_;rintro e w5 ⟨A4,c4,rfl,hr4,hb5⟩;have pK:=hQ.call (by simp) hb5) | (refine aQ 99 (.tmp 4) (.tmp 175) rfl ?_;refine aI (pK.b.get 2 rfl) (aj r ({s with brk:=false,hand:=false,push:=pu,pushed:=pd,aA:=M.iV r,s1:=a3,run:=b3,f1:=f3,bI:=s.bI+1 }) A4 c4) rfl ak (bH _ _ _ _) rfl (.tmp 4) (.tmp 175) rfl rfl rfl ?_))
                        have hZ:=pK.b.put 2 rfl (aj r ({s with brk:=false,hand:=false,push:=pu,pushed:=pd,aA:=M.iV r,s1:=a3,run:=b3,f1:=f3,bI:=s.bI+1 }) A4 c4) rfl;refine bodyPost_ret (aY (p:=4) (hZ.get 2 rfl) Tryz.underlying99 rfl ak rfl _ rfl) rfl ⟨A4,c4,?_,?_,hZ.bw⟩
                        · rw [jI.out];rfl
                        · rw [jI.out]
                          have hg3:¬ (fun b=>wc.heap.size≤b) (w.heap.size+2):=fun h=>by
                           have h:wc.heap.size≤w.heap.size+2:=h
                           omega
                          exact (bT.sets hg3 _ 0 _ hr4).more (fun b _ h=>by omega)
                      · have d2:decide (((M.left r s x).length:Int)≤1)=false:=by rw [decide_eq_false_iff_not];omega
                        have hpm:M.play r s x= {s with brk:=false,hand:=false,push:=pu,pushed:=pd,aA:=M.left r s x,s1:=a3,run:=b3,f1:=f3 }:=by rw [KA.out,Ht.out];unfold M.eX;rw [if_neg (fun h=>hln h.2)]
                        have jI:=hide hpm;have Iy:=hide hln;clear hpm hln
                        go_wp2_with (first | (refine aC 99 (.tmp 8) rfl ?_;refine au (hQ.g) Tryz.underlying99 rfl ak rfl (.tmp 8) rfl rfl ?_) | (refine aQ 99 (.tmp 4) (.tmp 176) rfl ?_;refine aI (hQ.b.get 2 rfl) (aj r ({s with brk:=false,hand:=false,push:=pu,pushed:=pd,aA:=M.left r s x,s1:=a3,run:=b3,f1:=f3 }) A2 c2) rfl ak (bH _ _ _ _) rfl (.tmp 4) (.tmp 176) rfl rfl rfl ?_))
                        have hZ:=hQ.b.put 2 rfl (aj r ({s with brk:=false,hand:=false,push:=pu,pushed:=pd,aA:=M.left r s x,s1:=a3,run:=b3,f1:=f3 }) A2 c2) rfl;refine bodyPost_ret (aY (p:=4) (hZ.get 2 rfl) Tryz.underlying99 rfl ak rfl _ rfl) rfl ⟨A2,c2,?_,?_,hZ.bw⟩
                        · rw [jI.out];rfl
                        · rw [jI.out];exact (bT.sets hg2 _ 0 _ hrk).more (fun b _ h=>Nat.le_trans (by omega) h.1)
                  · have Un:r.game=M.bC:=by have:=E1.out;rw [y8] at this;simpa using this.symm
                    have zs:(r.game.toList == [115,116,114,97,105,103,104,116])=false:=by rw [E3.out,Un];decide
                    have hns:¬ r.game=M.aH:=by rw [Un];decide
                    have Hgy:=hide Un;clear Un
                    rcases yp:(x.kind.toList == [112,108,97,121]) with _ | _
                    · have yh:M.grouped r s x ({s with brk:=false,hand:=false,push:=pu,pushed:=pd,aA:=M.left r s x,s1:=a3,run:=b3,f1:=f3 })= {s with brk:=false,hand:=false,push:=pu,pushed:=pd,aA:=M.left r s x,s1:=a3,run:=b3,f1:=f3 }:=by unfold M.grouped;rw [if_neg (fun h=>by have:=E2.out;rw [yp] at this;simp [h.2.1] at this)]
                      have Ht:=hide yh;clear yh
                      have hpm:M.play r s x= {s with brk:=false,hand:=false,push:=pu,pushed:=pd,aA:=M.left r s x,s1:=a3,run:=b3,f1:=f3 }:=by rw [KA.out,Ht.out];unfold M.eX;rw [if_neg (fun h=>hns h.1)]
                      have jI:=hide hpm;have Iy:=hide hns;clear hpm hns
                      go_wp2_with (first | (refine aC 99 (.tmp 8) rfl ?_;refine au (hQ.g) Tryz.underlying99 rfl ak rfl (.tmp 8) rfl rfl ?_) | (refine aQ 99 (.tmp 4) (.tmp 176) rfl ?_;refine aI (hQ.b.get 2 rfl) (aj r ({s with brk:=false,hand:=false,push:=pu,pushed:=pd,aA:=M.left r s x,s1:=a3,run:=b3,f1:=f3 }) A2 c2) rfl ak (bH _ _ _ _) rfl (.tmp 4) (.tmp 176) rfl rfl rfl ?_))
                      have hZ:=hQ.b.put 2 rfl (aj r ({s with brk:=false,hand:=false,push:=pu,pushed:=pd,aA:=M.left r s x,s1:=a3,run:=b3,f1:=f3 }) A2 c2) rfl;refine bodyPost_ret (aY (p:=4) (hZ.get 2 rfl) Tryz.underlying99 rfl ak rfl _ rfl) rfl ⟨A2,c2,?_,?_,hZ.bw⟩
                      · rw [jI.out];rfl
                      · rw [jI.out];exact (bT.sets hg2 _ 0 _ hrk).more (fun b _ h=>Nat.le_trans (by omega) h.1)
                    · rcases yg:(s.group == 0) with _ | _
                      · have yh:M.grouped r s x ({s with brk:=false,hand:=false,push:=pu,pushed:=pd,aA:=M.left r s x,s1:=a3,run:=b3,f1:=f3 })= {s with brk:=false,hand:=false,push:=pu,pushed:=pd,aA:=M.left r s x,s1:=a3,run:=b3,f1:=f3 }:=by unfold M.grouped;rw [if_neg (fun h=>by rw [tK] at yg;simp [h.2.2] at yg)]
                        have Ht:=hide yh;clear yh
                        have hpm:M.play r s x= {s with brk:=false,hand:=false,push:=pu,pushed:=pd,aA:=M.left r s x,s1:=a3,run:=b3,f1:=f3 }:=by rw [KA.out,Ht.out];unfold M.eX;rw [if_neg (fun h=>hns h.1)]
                        have jI:=hide hpm;have Iy:=hide hns;clear hpm hns
                        go_wp2_with (first | (refine aC 99 (.tmp 8) rfl ?_;refine au (hQ.g) Tryz.underlying99 rfl ak rfl (.tmp 8) rfl rfl ?_) | (refine aQ 99 (.tmp 4) (.tmp 176) rfl ?_;refine aI (hQ.b.get 2 rfl) (aj r ({s with brk:=false,hand:=false,push:=pu,pushed:=pd,aA:=M.left r s x,s1:=a3,run:=b3,f1:=f3 }) A2 c2) rfl ak (bH _ _ _ _) rfl (.tmp 4) (.tmp 176) rfl rfl rfl ?_))
                        have hZ:=hQ.b.put 2 rfl (aj r ({s with brk:=false,hand:=false,push:=pu,pushed:=pd,aA:=M.left r s x,s1:=a3,run:=b3,f1:=f3 }) A2 c2) rfl;refine bodyPost_ret (aY (p:=4) (hZ.get 2 rfl) Tryz.underlying99 rfl ak rfl _ rfl) rfl ⟨A2,c2,?_,?_,hZ.bw⟩
                        · rw [jI.out];rfl
                        · rw [jI.out];exact (bT.sets hg2 _ 0 _ hrk).more (fun b _ h=>Nat.le_trans (by omega) h.1)
                      · have yh:M.play r s x= {s with brk:=false,hand:=false,push:=pu,pushed:=pd,group:=3 - M.side x.aT,aA:=M.left r s x,s1:=a3,run:=b3,f1:=f3 }:=by
                         have q1:=E2.out;rw [yp] at q1
                         have q2:x.kind=M.nP:=by simpa using q1.symm
                         have q3:s.group=0:=by rw [tK] at yg;simpa using yg
                         rw [KA.out]
                         unfold M.grouped
                         rw [if_pos ⟨Hgy.out,q2,q3⟩]
                         unfold M.eX
                         rw [if_neg (fun h=>hns h.1),rZ.out]
                         rfl
                        have jI:=hide yh;have hns0:=hide hns;clear yh hns;have hS:dX w ((wc.setCell ⟨D,8,none⟩ (.int .i64 (M.side x.aT))).setCell ⟨D,8,none⟩ (.int .i64 (3 - M.side x.aT))) [(aj r (s) A c,99),(aB ⟨x,P,d⟩,27),(aW,99)] D (aj r ({s with brk:=false,hand:=false,push:=pu,pushed:=pd,group:=3 - M.side x.aT,aA:=M.left r s x,s1:=a3,run:=b3,f1:=f3 }) A2 c2):=(hQ.set hD 8 _).set hD 8 _;have oq:=(hrk.setCell (p:=⟨D,8,none⟩) (fun h=>h.2 rfl) (.int .i64 (M.side x.aT))).setCell (p:=⟨D,8,none⟩) (fun h=>h.2 rfl) (.int .i64 (3 - M.side x.aT))
                        go_wp2_with (first | (go_at_call 142;refine (kK _ _).mono ?_;rintro e nH ⟨rfl,rfl⟩) | (refine aC 99 (.tmp 8) rfl ?_;refine au (hS.g) Tryz.underlying99 rfl ak rfl (.tmp 8) rfl rfl ?_) | (refine aQ 99 (.tmp 4) (.tmp 176) rfl ?_;refine aI (hS.b.get 2 rfl) (aj r ({s with brk:=false,hand:=false,push:=pu,pushed:=pd,group:=3 - M.side x.aT,aA:=M.left r s x,s1:=a3,run:=b3,f1:=f3 }) A2 c2) rfl ak (bH _ _ _ _) rfl (.tmp 4) (.tmp 176) rfl rfl rfl ?_))
                        have hZ:=hS.b.put 2 rfl (aj r ({s with brk:=false,hand:=false,push:=pu,pushed:=pd,group:=3 - M.side x.aT,aA:=M.left r s x,s1:=a3,run:=b3,f1:=f3 }) A2 c2) rfl;refine bodyPost_ret (aY (p:=4) (hZ.get 2 rfl) Tryz.underlying99 rfl ak rfl _ rfl) rfl ⟨A2,c2,?_,?_,hZ.bw⟩
                        · rw [jI.out];rfl
                        · rw [jI.out];exact (bT.sets hg2 _ 0 _ oq).more (fun b _ h=>Nat.le_trans (by omega) h.1)
theorem dD {W0 W W':World} (h:Below W0.heap.size W0 W) (hb:Below W.heap.size W W'):Below W0.heap.size W0 W':=h.trans (hb.mono h.size)
theorem flat_get {α:Type} (f:α→List Value) (n:Nat) (hf:∀ a,(f a).length=n) (l:List α) (k:Nat) (hk:k<l.length) (j:Nat) (hj:j<n):(l.flatMap f)[k*n+j]? =(f l[k])[j]? :=by
 have hlen:∀ m:List α,(m.flatMap f).length=m.length*n:=fun m=>by
  induction m with
  | nil=>simp
  | cons a m ih=>rw [List.flatMap_cons,List.length_append,ih,hf,List.length_cons,Nat.succ_mul];omega
 have h:l.flatMap f=(l.take k).flatMap f++(f l[k]++(l.drop (k+1)).flatMap f):=by
  conv=>lhs;rw [← List.take_append_drop k l,List.drop_eq_getElem_cons hk]
  rw [List.flatMap_append,List.flatMap_cons]
 have hl:((l.take k).flatMap f).length=k*n:=by rw [hlen,List.length_take,Nat.min_eq_left (Nat.le_of_lt hk)]
 rw [h,List.getElem?_append_right (by omega),hl,List.getElem?_append_left (by rw [hf];omega)]
 congr 1
 omega
theorem sK {α:Type} {f:α→List Value} {n:Nat} (hf:∀ a,(f a).length=n) {l:List α} {W:World} {b o:Nat} (hc:∀ j u,(l.flatMap f)[j]? =some u→W.cell? ⟨b,o+j,none⟩=some u) (k:Nat) (hk:k<l.length):W.rangeAt b (o+k*n) (f l[k]):=fun j v hj=>by
 have hjn:j<n:=by have:=(List.getElem?_eq_some_iff.1 hj).1;rwa [hf] at this
 rw [Nat.add_assoc];exact hc _ _ ((flat_get f n hf l k hk j hjn).trans hj)
end Go.Proofs.YtcjglfbpjkdgiaaGreatDoor
