/- Parts of a proof. -/
import Derived.Test.YtcbmedfongiojaaGreatDoorKa2
import Derived.Test.YtcbmedfongiojaaGreatDoorKt19
set_option maxHeartbeats 4000000
set_option maxRecDepth 100000
set_option linter.unusedVariables false
set_option linter.unusedSimpArgs false
namespace Go.Proofs.YtcbmedfongiojaaGreatDoor
open Go.RowKit
theorem Held.aoh {g:Nat} {t:TypeId}:∀ (vs pre mid post:List Value) (W:World),Held W g (pre++mid++post) t→mid.length=vs.length→Held (W.setCells g pre.length vs) g (pre++vs++post) t
 | [],pre,mid,post,W,h,hl=>by
   obtain rfl:=List.eq_nil_of_length_eq_zero (by simpa using hl);exact h
 | v::r,pre,[],post,W,h,hl=>by cases hl
 | v::r,pre,u::mid,post,W,h,hl=>by
   have h1:=h.set pre.length v;rw [show (pre++u::mid++post).set pre.length v=(pre++[v])++mid++post by simp] at h1;have h2:=Held.aoh r (pre++[v]) mid post _ h1 (by simpa using hl);rw [List.length_append] at h2
   simpa [World.setCells] using h2
theorem ahq {ops:Array Oper} {rest:List Oper} {op:Oper} {a:Act} {W:World} {Q:Exit→Act→World→Prop} {g o:Nat} {vs:List Value} {t:TypeId} (h:W.there g o vs.length) (hi:(Tryz.prog.info? t).map (·.size)=some vs.length) (h1:∀ v∈vs,v.oneCell'=true) (hgd:op.guard=none) (x y:Operand) (ho:op.op= .store t x y)
 (hx:a.eval x= .pointer (some ⟨g,o,none⟩)) (hy:a.eval y= .agg vs.toArray)
 (k:wpList Tryz.prog ops Q rest (a.put op.dst undef) (W.setCells g o vs)):oz Tryz.prog ops Q op rest a W:=
 wpList_store_mid hgd t x y ho g o vs.toArray hx hy (by rw [jd rfl rfl];exact h) (by rw [jd rfl rfl];exact hi) (all_oneCell_toArray h1) (by rw [List.toList_toArray];exact k)
theorem apu {W W':World} {Bx Bf:Nat} {cx cf:List Value} {tx tf:TypeId} (hX:Held W Bx cx tx) (hF:Held W Bf cf tf) (hb:Below W.heap.size W W'):(∀ q,W'.cell? ⟨Bx,q,none⟩=W.cell? ⟨Bx,q,none⟩)∧(∀ q,W'.cell? ⟨Bf,q,none⟩=W.cell? ⟨Bf,q,none⟩):=
 ⟨fun q=>hb.cell (p:=⟨Bx,q,none⟩) hX.lt,fun q=>hb.cell (p:=⟨Bf,q,none⟩) hF.lt⟩
theorem aeP {W:World} {Bx Bf:Nat} {cx cf:List Value} {tx tf:TypeId} (hX:Held W Bx cx tx) (hF:Held W Bf cf tf) (o:Obj):(∀ q,(W.alloc o).cell? ⟨Bx,q,none⟩=W.cell? ⟨Bx,q,none⟩)∧(∀ q,(W.alloc o).cell? ⟨Bf,q,none⟩=W.cell? ⟨Bf,q,none⟩):=
 apu hX hF ((Below.refl _ _).alloc (Nat.le_refl _) o)
theorem adQ {W W' W2:World} {Bx Bf:Nat} (h:(∀ q,W'.cell? ⟨Bx,q,none⟩=W.cell? ⟨Bx,q,none⟩)∧(∀ q,W'.cell? ⟨Bf,q,none⟩=W.cell? ⟨Bf,q,none⟩)) (k:(∀ q,W2.cell? ⟨Bx,q,none⟩=W'.cell? ⟨Bx,q,none⟩)∧(∀ q,W2.cell? ⟨Bf,q,none⟩=W'.cell? ⟨Bf,q,none⟩)):
 (∀ q,W2.cell? ⟨Bx,q,none⟩=W.cell? ⟨Bx,q,none⟩)∧(∀ q,W2.cell? ⟨Bf,q,none⟩=W.cell? ⟨Bf,q,none⟩):=⟨fun q=>(k.1 q).trans (h.1 q),fun q=>(k.2 q).trans (h.2 q)⟩
theorem ajA {X:Nat→Prop} {W:World} {g:Nat} (hX:X g) (vs:List Value) (o:Nat):Turn X W (W.setCells g o vs):=
 ⟨(below_setCells (B:=0) g (Nat.zero_le _) vs o W W (Below.refl _ _)).os,(below_setCells (B:=0) g (Nat.zero_le _) vs o W W (Below.refl _ _)).tape,(below_setCells (B:=0) g (Nat.zero_le _) vs o W W (Below.refl _ _)).output,by rw [setCells_size];exact Nat.le_refl _,fun b _ hn=>Held.zq (fun e=>hn (by rw [e];exact hX)) vs o W⟩
theorem an1 {W:World} {Bx Bf Be:Nat} (vs:List Value) (o:Nat) (h1:Bx≠Be) (h2:Bf≠Be):(∀ q,(W.setCells Be o vs).cell? ⟨Bx,q,none⟩=W.cell? ⟨Bx,q,none⟩)∧(∀ q,(W.setCells Be o vs).cell? ⟨Bf,q,none⟩=W.cell? ⟨Bf,q,none⟩):=
 ⟨fun q=>kV vs o Bx q h1,fun q=>kV vs o Bf q h2⟩
theorem akX {F:Fence} {n:Nat} {P:Program} {fn:Func} {R:Ending→World→Prop} {a:Act} {w:World} {v:Value} (hr:(results fn a.tmps).run P w= .ok v w) (hd:a.defers=[]) (hR:R (.returned v) w):bodyPostM F n P fn R .ret a w:=by
 show LeavesInM F n P fn a.tmps R a.defers .returning w
 rw [hd];exact ⟨v,hr,hR⟩
theorem amD {W:World} {g:Nat} {cs:List Value} {t:TypeId} {d:TypeDesc} {fn:Func} {p u u2:Tmp} (h:Held W g cs t) (hu:Tryz.prog.underlying t=some d) (hd:d.isRow=true) (hi:(Tryz.prog.info? t).map (·.size)=some cs.length) (hr:fn.results= #[.cell p t,.tmp u,.tmp u2]) (tmps:Array Value) (hp:tmps.getD p undef= .pointer (some ⟨g,0,none⟩)):
 (results fn tmps).run Tryz.prog W= .ok (.tuple #[.agg cs.toArray,tmps.getD u undef,tmps.getD u2 undef]) W:=by
 have h0:=run_loadVar_row W g t t cs.toArray (0,0) d h hu (by cases d <;> first | rfl | cases hd) (by rw [jd rfl rfl];exact hi)
 have e:(results fn tmps).run Tryz.prog W=((asAddr (tmps.getD p undef)).run Tryz.prog W).andThen fun a w₁=>((loadVar t a).run Tryz.prog w₁).andThen fun v w₂=> .ok (.tuple #[v,tmps.getD u undef,tmps.getD u2 undef]) w₂:=by
  simp only [results,hr]
  simp [Sem.run_bind,Result.andThen]
 rw [e,hp]
 simp only [asAddr,Sem.run_pure,Result.andThen_ok,h0]
structure ad9 (W:World) (D:Nat) (X Y:Nat→Prop) (e:TypeId) (size:Nat) (v:Value) (n:Nat) (xs:List Value):Prop where
 own:W.ownsRow D e size v n xs
 far:∀ g,v.ownBlock=some g→¬ X g∧¬ Y g
theorem ad9.putObj {W:World} {D:Nat} {X Y:Nat→Prop} {e:TypeId} {size:Nat} {v:Value} {n:Nat} {xs:List Value} {l:Nat} {o:Obj} (h:ad9 W D X Y e size v n xs) (hl:W.heap[l]? =some o) (ho:o.isCells=false) (o':Obj):ad9 (W.putObj l o') D X Y e size v n xs:=
 ⟨yC h.own (fun g hg=>World.putObj_heap_other (fun e=>by
  obtain ⟨_,o2,h2,h3⟩:=Aa h.own hg
  rw [e,hl] at h2;cases h2;rw [ho] at h3;cases h3)),h.far⟩
theorem ad9.turn {W W':World} {D:Nat} {X Y X' Y':Nat→Prop} {e:TypeId} {size:Nat} {v:Value} {n:Nat} {xs:List Value} (h:ad9 W D X Y e size v n xs) (ht:Turn X W W') (hX:JM W X X') (hY:JM W Y Y'):ad9 W' D X' Y' e size v n xs:=by
 have hlt:∀ g,v.ownBlock=some g→g<W.heap.size:=fun g hg=>by
  obtain ⟨_,o,h2,_⟩:=Aa h.own hg;exact (Array.getElem?_eq_some_iff.1 h2).1
 refine ⟨yC h.own fun g hg=>ht.block g (hlt g hg) (h.far g hg).1,fun g hg=>⟨fun h'=>?_,fun h'=>?_⟩⟩
 · rcases hX g h' with h2 | h2
   · exact (h.far g hg).1 h2
   · have:=hlt g hg;omega
 · rcases hY g h' with h2 | h2
   · exact (h.far g hg).2 h2
   · have:=hlt g hg;omega
section
variable {w W W':World} {L:List (Nat × List Value × TypeId)} {g:Nat} {cs:List Value} {t:TypeId}
end
section
variable {w W W':World} {L:List (Nat × List Value × TypeId)} {g D:Nat} {cs:List Value} {t:TypeId}
end
theorem af2 {P:Program} {w:World} {g:Nat} {u:Value} {t ty:TypeId} {d:TypeDesc} (h:Held w g [u] t) (hu:P.underlying ty=some d) (hd:d.isRow=false):(loadVar ty ⟨g,0,none⟩).run P w= .ok u w:=by
 have hc:=h.cell (j:=0) rfl
 have hagg:(isAgg ty).run P w= .ok false w:=by
  unfold isAgg
  rw [Sem.run_bind,run_underlying hu w]
  cases d <;> simp_all [TypeDesc.isRow]
 simp [loadVar,Sem.run_bind,hagg,hc]
theorem aqH {W w4:World} {D B g1 k cap k' H:Nat} {X Y:Nat→Prop} {e ty:TypeId} {size n:Nat} {v:Value} {xs ys:List Value} {o:Obj} (hV:Held W B [v] ty) (hB:B<D) (afT:ad9 W D X Y e size v n xs) (hXW:∀ b,X b∨Y b→b<W.heap.size) (hDW:D≤W.heap.size)
 (hgrow:(W.alloc o).grownBy w4 v.ownBlock) (hown4:w4.ownsRow D e size (.slice (some ⟨g1,0,none⟩) k cap) k' ys) (hat:v.ownBlock=some g1∨g1=H) (hH:W.heap.size+1=H):
 Held w4 B [v] ty∧Turn (fun b=>b=B∨v.ownBlock=some b) W (w4.setCell ⟨B,0,none⟩ (.slice (some ⟨g1,0,none⟩) k cap))∧Held (w4.setCell ⟨B,0,none⟩ (.slice (some ⟨g1,0,none⟩) k cap)) B [.slice (some ⟨g1,0,none⟩) k cap] ty∧ad9 (w4.setCell ⟨B,0,none⟩ (.slice (some ⟨g1,0,none⟩) k cap)) D X Y e size (.slice (some ⟨g1,0,none⟩) k cap) k' ys:=by
 have hne:B≠g1:=by
  rcases hat with h | h
  · have:=(Aa afT.own h).1;omega
  · omega
 have hV4:Held w4 B [v] ty:=(hV.alloc o).blk (hgrow.block _ (by simp;omega) (fun e=>by have:=(Aa afT.own e.symm).1;omega));refine ⟨hV4,?_,hV4.set 0 _,yC (W:=w4) hown4 (fun g hg=>?_),fun g hg=>?_⟩
 · exact ((Turn.of_below ((Below.refl W.heap.size W).alloc (Nat.le_refl _) o)).mono (X:=fun _=>False) (fun b h=>h.elim)).trans ((show Turn (fun b=>b=B∨v.ownBlock=some b) _ w4 from ⟨hgrow.os,hgrow.tape,hgrow.output,hgrow.size,fun b hb hn=>hgrow.block b hb (fun e=>hn (.inr e.symm))⟩).trans (ajA (X:=fun b=>b=B∨v.ownBlock=some b) (W:=w4) (g:=B) (.inl rfl) [.slice (some ⟨g1,0,none⟩) k cap] 0) (fun b h=> .inl h)) (fun b h=> .inl h)
 · cases hg
   exact Below.heap_setCell w4 ⟨B,0,none⟩ _ g1 (fun e=>hne e.symm)
 · cases hg
   rcases hat with h | h
   · exact afT.far _ h
   · exact ⟨fun hx=>by have:g1<W.heap.size:=hXW _ (.inl hx);omega,fun hx=>by have:g1<W.heap.size:=hXW _ (.inr hx);omega⟩
def abt (g:Sk.Game) (l:List En) (k:Nat):Sk.State:=Sk.final g (Sk.start g) (bare (l.take k))
theorem agT (g:Sk.Game) (l:List En):abt g l 0=Sk.start g:=by unfold abt;simp [bare,Sk.final]
theorem afe (g:Sk.Game) (l:List En) (k:Nat) (hk:k<l.length):abt g l (k+1)=Sk.step g (abt g l k) l[k].x:=by
 unfold abt Sk.final bare
 rw [List.take_succ_eq_append_getElem hk,List.map_append,List.foldl_append]
 rfl
theorem atc {g:Sk.Game} {l:List En} (hg:Sk.eU g=0) (hl:∀ e∈l,Sk.jc g e.x=0):∀ k,k≤l.length→Sk.Ok g (abt g l k)
 | 0,_=>by rw [agT];exact Sk.Sr hg
 | k+1,hk=>by
   rw [afe g l k (by omega)];exact Sk.step_ok (atc hg hl k (by omega)) (hl _ (List.getElem_mem _))
structure Stp where
 i:Nat
 e:En
 s:Sk.State
 t:Sk.State
 rule:Int
def spC (x:Stp):List Value:=fC x.e++aQ x.s++aQ x.t++[.int .i64 x.rule]
def anK (x:Stp):Array Value:= #[.int .i64 ((x.i:Int)+1),.agg (spC x).toArray]
def axe:List Value:=[.string ⟨#[]⟩,.string ⟨#[]⟩,.slice none 0 0,.slice none 0 0,.int .i64 0]
def acd:List Value:=axe++aQ Sk.zero++aQ Sk.zero++[.int .i64 0]
theorem afC:(Tryz.prog.info? 100).map (·.size)=some 32:=by kernel_rfl
theorem ajs (x:Stp):∀ v∈spC x,v.oneCell'=true:=by
 intro v hv
 unfold spC at hv
 rw [List.mem_append,List.mem_append,List.mem_append] at hv
 rcases hv with ((h | h) | h) | h
 · revert v;simp [fC,Value.oneCell']
 · exact bI _ v h
 · exact bI _ v h
 · rw [List.mem_singleton] at h;subst h;rfl
structure ahO (g:Sk.Game) (l:List En) (X Y:Nat→Prop) (pre:List Stp) (x:Stp) (W:World):Prop where
 i:x.i=pre.length
 lt:pre.length<l.length
 e:l[pre.length]? =some x.e
 s:x.s=abt g l pre.length
 t:x.t=Sk.step g x.s x.e.x
 rule:x.rule=Sk.legal g x.s x.e.x
structure ayJ (g:Sk.Game) (l:List En) (K:Nat→Prop) (J:(Nat→Prop)→(Nat→Prop)→List Stp→World→Prop) (W:World) (Bf k:Nat) (X Y:Nat→Prop) (pre:List Stp) (wr:World):Prop where
 len:pre.length=k
 j:J X Y pre wr
 f:Held wr Bf (aQ (abt g l k)) 26
 xf:X Bf
 xs:∀ b,X b∨Y b→W.heap.size≤b∧b<wr.heap.size
 k:∀ b,K b→wr.heap[b]? =W.heap[b]?
 sz:W.heap.size≤wr.heap.size
theorem aww {x:Stp} {W:World} {g:Nat} {t:TypeId} (h:Held W g (spC x) t):W.there g 18 13:=fun j hj=>by
 have h1:(spC x).length=32:=rfl;rw [h.cell (List.getElem?_eq_getElem (show 18+j<(spC x).length by omega))];exact ⟨rfl,h.frozen _⟩
theorem azY {k:Nat} {e:En} {s t:Sk.State} {ru:Int} {W:World} {g:Nat} {ty:TypeId} (h:Held W g (spC ⟨k,e,s,t,ru⟩) ty) (t2:Sk.State):Held (W.setCells g 18 (aQ t2)) g (spC ⟨k,e,s,t2,ru⟩) ty:=
 Held.aoh (aQ t2) (fC e++aQ s) (aQ t) [.int .i64 ru] W h rfl
theorem asv (k:Nat) (e:En) (s t:Sk.State) (ru:Int):∀ j v,(aQ t)[j]? =some v→(spC ⟨k,e,s,t,ru⟩)[18+j]? =some v:=by
 intro j v hj;have hl:j<13:=(List.getElem?_eq_some_iff.1 hj).1
 unfold spC
 rw [List.getElem?_append_left (by simp [fC,aQ];omega),List.getElem?_append_right (by simp [fC,aQ])];rw [show 18+j - (fC e++aQ s).length=j by simp [fC,aQ]];exact hj
theorem ahy (g:Sk.Game) (n c:Nat) (A:Option Addr) (w:World):Calls Tryz.prog 34 #[rF g,.slice A n c] w fun e w'=>e= .returned (.func (.func 70) #[] #[ptr w.heap.size,ptr (w.heap.size+1)])∧aC w w' [(dN g,23),([.slice A n c],38)]:=by
 go_enter Tryz.func34,Tryz.ntmps34
 go_wp2;go_ret;exact ⟨rfl,(((aC.nil w).new (by simp) (dN g) _).new (by simp) ([.slice A n c]) _)⟩
theorem apl {W W':World} {Bg:Nat} {cg:List Value} {tg:TypeId} (hG:Held W Bg cg tg) (hb:Below W.heap.size W W'):∀ q,W'.cell? ⟨Bg,q,none⟩=W.cell? ⟨Bg,q,none⟩:=fun q=>hb.cell (p:=⟨Bg,q,none⟩) hG.lt
theorem aeH {W:World} {Bg:Nat} {cg:List Value} {tg:TypeId} (hG:Held W Bg cg tg) (o:Obj):∀ q,(W.alloc o).cell? ⟨Bg,q,none⟩=W.cell? ⟨Bg,q,none⟩:=apl hG ((Below.refl _ _).alloc (Nat.le_refl _) o)
theorem anS {W:World} {Bg Be:Nat} (vs:List Value) (o:Nat) (h1:Bg≠Be):∀ q,(W.setCells Be o vs).cell? ⟨Bg,q,none⟩=W.cell? ⟨Bg,q,none⟩:=fun q=>kV vs o Bg q h1
theorem adI {W W' W2:World} {Bg:Nat} (h:∀ q,W'.cell? ⟨Bg,q,none⟩=W.cell? ⟨Bg,q,none⟩) (k:∀ q,W2.cell? ⟨Bg,q,none⟩=W'.cell? ⟨Bg,q,none⟩):∀ q,W2.cell? ⟨Bg,q,none⟩=W.cell? ⟨Bg,q,none⟩:=fun q=>(k q).trans (h q)
theorem je.as4 {w:World} {S:Nat→Prop} {e:En} (h:je w S e):je w.drew S e:=⟨h.hits,h.aV⟩
theorem agu (g:Sk.Game) (l:List En) (Al:Option Addr) (cl:Nat) (K:Nat→Prop) (Bg Bl n:Nat) (w:World) (hn:1≤n) (hck0:Sk.eU g=0) (hck:∀ e∈l,Sk.jc g e.x=0) (hlen:l.length≤1000)
 (hKw:∀ b,K b→b<w.heap.size) (hBg:Held w Bg (dN g) 23) (hKg:K Bg) (hBl:Held w Bl [.slice Al l.length cl] 38) (hKl:K Bl) (hL:wF w K Al cl l):
 Du (jO none) n Tryz.prog 70 #[ptr Bg,ptr Bl] anK K (ahO g l) (fun xs=>xs.length=l.length) (fun _=>True) l.length w:=by
 intro l0 J Jx W hW hJ hJx hY h0;refine kG ?_;have aAE:=hBg.below hW;have aB1:=hBl.below hW;have hLW:=hL.below hW;have hkn:=Sk.zZ hck0;have hKW:∀ b,K b→b<W.heap.size:=fun b hb=>Nat.lt_of_lt_of_le (hKw b hb) hW.size;have HY:=hide hY;clear hY hBg hBl hL
 go_enter Tryz.func70,Tryz.ntmps70
 go_upto_region 0 with (fail)
 go_cut [4] (fun v4 wx=>∃ Bf X Y,v4=ptr Bf∧ayJ g l K J W Bf 0 X Y [] wx)
 case first=>
  go_wp2_with (first | ((with_reducible refine dh 23 1 ?_);refine dO (aAE) Tryz.underlying23 fG ?_) | (go_at_call 37;refine (Ez g hkn _).mono ?_;rintro e w1 ⟨rfl,hb1⟩;have hG1:=Held.new w1 (aQ Sk.zero) 26) | ((with_reducible refine isS 26 4 9 ?_);refine iZ (hG1) (aQ (Sk.start g)) ak (bI _) ?_))
  go_meet;have hbT:Below W.heap.size W ((w1.alloc (.cells (aQ Sk.zero).toArray 26)).setCells w1.heap.size 0 (aQ (Sk.start g))):=below_setCells _ hb1.size _ _ _ _ (hb1.alloc hb1.size _);refine ⟨w1.heap.size,(fun b=>b=w1.heap.size),(fun _=>False),rfl,⟨rfl,hJ _ _ _ _ _ _ _ h0 (Turn.of_below hbT) (fun b h=>by subst h;exact .inr hb1.size) (fun b h=>h.elim),by rw [agT];exact hG1.whole _ rfl,rfl,?_,fun b hb=>hbT.block b (hKW b hb),hbT.size⟩⟩
  rintro b (h | h)
  · subst h;exact ⟨hb1.size,by rw [setCells_size];simp⟩
  · exact h.elim
 case rest=>
  obtain ⟨Bf,X0,Y0,rfl,hI⟩:=hcut;have aAL:Held wc Bl [.slice Al l.length cl] 38:=(hI.k Bl hKl).trans aB1;have s0:=aAL.cell (j:=0) rfl;go_wp2
  go_loopw [12] (fun i wr=>∃ (k:Nat) (X Y:Nat→Prop) (pre:List Stp),k≤l.length∧i= .int .i64 k∧ayJ g l K J W Bf k X Y pre wr) (fun i _=>l.length - (intOf i).toNat)
  case atStart=>exact ⟨0,X0,Y0,[],Nat.zero_le _,rfl,hI⟩
  case round=>
   clear hI s0 aAL;obtain ⟨k,X,Y,pre,hk,rfl,hI⟩:=hrel
   by_cases hlt:k<l.length
   · have hLr:wF wr K Al cl l:=hLW.keep hI.sz (fun b o hb _=>World.cell?_of_block (hI.k b hb))
     have hGr:Held wr Bg (dN g) 23:=(hI.k Bg hKg).trans aAE;have aCO:=hLr.bd;obtain ⟨b,o,rfl,_,hbl,hc⟩:=hLr.at_ k hlt;have hrg:=Oc hLr hlt (Below.refl _ _) rfl;have hent:=hLr.ent k hlt;have hce:=hck _ (List.getElem_mem hlt);have hOk:=atc hck0 hck k (by omega);have hsc:=afe g l k hlt;have hle:l[k]? =some l[k]:=List.getElem?_eq_getElem hlt;obtain ⟨e,he⟩:∃ e,l[k]=e:=⟨_,rfl⟩;rw [he] at hrg hent hce hsc hle;have hF:=hI.f;obtain ⟨s,hs⟩:∃ s,abt g l k=s:=⟨_,rfl⟩;rw [hs] at hF hOk hsc;have HI:=hide hI;have EX:=hide hsc;have HS:=hide hs;have HLE:=hide hle;clear hI hc hsc hs hle he hLr
     go_upto_region 3 with (fail)
     go_cut [5,6] from 14 to 16 (fun v5 v6 wx=>∃ Bx,v5= .int .i64 k∧v6=ptr Bx∧wr.heap.size≤Bx∧Held wx Bx (fC e) 41∧Below wr.heap.size wr wx)
     case first=>
      have hX0:=Held.new wr axe 41
      go_wp2_with (first | (refine dA 41 (.tmp 15) rfl ?_;refine iJ hrg Tryz.underlying41 rfl bY rfl (.tmp 15) rfl rfl ?_) | (refine fO 41 (.tmp 6) (.tmp 16) rfl ?_;refine dP hX0 (fC e) rfl bY (TG e) rfl (.tmp 6) (.tmp 16) rfl rfl rfl ?_))
      go_meet;exact ⟨wr.heap.size,rfl,rfl,Nat.le_refl _,hX0.whole _ rfl,below_setCells _ (Nat.le_refl _) _ _ _ _ ((Below.refl _ _).alloc (Nat.le_refl _) _)⟩
     case rest=>
      rename World=>W1
      obtain ⟨Bx,rfl,rfl,hBx,hX,hb1⟩:=hcut;have hFx:=hF.below hb1;have hGx:=hGr.below hb1;have hex:=hent.below hb1;have hL4:=fun W h=>qV K g s e W hOk hce h;obtain ⟨ru,hru⟩:∃ q,Sk.legal g s e.x=q:=⟨_,rfl⟩;rw [hru] at hL4;have HL4:=hide hL4;have HRU:=hide hru;clear hL4 hru
      go_upto_region 4 with (fail)
      go_cut [7] from 17 to 24 (fun v7 wy=>∃ Be,v7=ptr Be∧W1.heap.size≤Be∧Held wy Be (spC ⟨k,e,s,s,ru⟩) 100∧Below W1.heap.size W1 wy)
      case first=>
       have hrX:∀ W:World,(fun w':World=>((∀ q,w'.cell? ⟨Bx,q,none⟩=W1.cell? ⟨Bx,q,none⟩)∧(∀ q,w'.cell? ⟨Bf,q,none⟩=W1.cell? ⟨Bf,q,none⟩))∧(∀ q,w'.cell? ⟨Bg,q,none⟩=W1.cell? ⟨Bg,q,none⟩)) W→W.rangeAt Bx 0 [.string e.x.kind,.string e.x.called,.slice e.A e.x.hits.length e.a,.slice e.B e.x.aV.length e.b,.int .i64 e.x.dM]:=fun W h j v hj=>by rw [Nat.zero_add,h.1.1 j];exact hX.cell hj
       have hrF:∀ W:World,(fun w':World=>((∀ q,w'.cell? ⟨Bx,q,none⟩=W1.cell? ⟨Bx,q,none⟩)∧(∀ q,w'.cell? ⟨Bf,q,none⟩=W1.cell? ⟨Bf,q,none⟩))∧(∀ q,w'.cell? ⟨Bg,q,none⟩=W1.cell? ⟨Bg,q,none⟩)) W→W.rangeAt Bf 0 [.int .i64 s.turn,.int .i64 s.s0,.int .i64 s.s1,.int .i64 s.brk,.string s.phase,.int .i64 s.aW,.int .i64 s.colour,.bool s.free,.bool s.aO,.int .i64 s.aJ,.int .i64 s.t0,.int .i64 s.t1,.int .i64 s.ay]:=fun W h j v hj=>by rw [Nat.zero_add,h.1.2 j];exact hFx.cell hj
       have hrG:∀ W:World,(fun w':World=>((∀ q,w'.cell? ⟨Bx,q,none⟩=W1.cell? ⟨Bx,q,none⟩)∧(∀ q,w'.cell? ⟨Bf,q,none⟩=W1.cell? ⟨Bf,q,none⟩))∧(∀ q,w'.cell? ⟨Bg,q,none⟩=W1.cell? ⟨Bg,q,none⟩)) W→W.rangeAt Bg 0 [.string g.kind,.int .i64 g.aW,.int .i64 g.target,.int .i64 g.turns]:=fun W h j v hj=>by rw [Nat.zero_add,h.2 j];exact hGx.cell hj
       refine wp_region_held_drew (S:=(fun w':World=>((∀ q,w'.cell? ⟨Bx,q,none⟩=W1.cell? ⟨Bx,q,none⟩)∧(∀ q,w'.cell? ⟨Bf,q,none⟩=W1.cell? ⟨Bf,q,none⟩))∧(∀ q,w'.cell? ⟨Bg,q,none⟩=W1.cell? ⟨Bg,q,none⟩))) (by kernel_rfl) ?bU (fun hHeld=>?_)
       case bU=>exact ⟨⟨fun q=>rfl,fun q=>rfl⟩,fun q=>rfl⟩
       refine bP 0 hrX Tryz.underlying41 ?_;refine bP 1 hrF Tryz.underlying26 ?_;refine bP 2 hrF Tryz.underlying26 ?_;refine bP 3 hrG Tryz.underlying23 ?_;refine bP 4 hrF Tryz.underlying26 ?_;refine bP 5 hrX Tryz.underlying41 ?_;refine iF 6 8 (fun K hK=>?_) fun K hK=>?_
       · go_simp
         (first | (go_at_call 63;refine (HL4.out W1.drew hex.as4).mono ?_;rintro e4 w4 ⟨rfl,hb4⟩;have aiV:=And.intro (apu hX.drew hFx.drew hb4) (apl hGx.drew hb4)) | (go_at_call 63;refine (HL4.out (W1.drew.alloc _) (hex.as4.below ((Below.refl _ _).alloc (Nat.le_refl _) _))).mono ?_;rintro e4 w4 ⟨rfl,hb4⟩;have akP:=And.intro (apu (hX.drew.alloc _) (hFx.drew.alloc _) hb4) (apl (hGx.drew.alloc _) hb4)))
         refine au hK (by first | exact aiV | exact ⟨(adQ (aeP hX.drew hFx.drew _) akP.1),(adI (aeH hGx.drew _) akP.2)⟩) fun hHeld=>?_;clear hK K;refine aA 7 ?_;refine aB 8 fun K hK=>?_;go_simp;refine au hK (by first | exact ⟨(adQ aiV.1 (aeP (hX.drew.below hb4) (hFx.drew.below hb4) _)),(adI aiV.2 (aeH (hGx.drew.below hb4) _))⟩ | exact ⟨(aeP hX.drew hFx.drew _),(aeH hGx.drew _)⟩) fun hHeld=>?_;clear hK K;refine aB 9 fun K hK=>?_
         first | (have hk5:=And.intro (adQ (adQ aiV.1 (aeP (hX.drew.below hb4) (hFx.drew.below hb4) (.cells acd.toArray 100))) (an1 (Be:=w4.heap.size) (spC ⟨k,e,s,s,ru⟩) 0 (by have:=hX.lt;have:=hb4.size;simp at this;omega) (by have:=hFx.lt;have:=hb4.size;simp at this;omega))) (adI (adI aiV.2 (aeH (hGx.drew.below hb4) (.cells acd.toArray 100))) (anS (Be:=w4.heap.size) (spC ⟨k,e,s,s,ru⟩) 0 (by have:=hGx.lt;have:=hb4.size;simp at this;omega)));have hE0:=Held.new w4 acd 100;refine aG hE0 (spC ⟨k,e,s,s,ru⟩) rfl afC (ajs _) (.tmp 7) (.tmp 24) rfl rfl rfl ?_) | (have hk5:=And.intro (adQ (adQ (aeP hX.drew hFx.drew (.cells acd.toArray 100)) akP.1) (an1 (Be:=W1.heap.size) (spC ⟨k,e,s,s,ru⟩) 0 (by have:=hX.lt;omega) (by have:=hFx.lt;omega))) (adI (adI (aeH hGx.drew (.cells acd.toArray 100)) akP.2) (anS (Be:=W1.heap.size) (spC ⟨k,e,s,s,ru⟩) 0 (by have:=hGx.lt;omega)));have hE0:=(Held.new W1.drew acd 100).below hb4;refine aG hE0 (spC ⟨k,e,s,s,ru⟩) rfl afC (ajs _) (.tmp 7) (.tmp 24) rfl rfl rfl ?_)
         refine au hK (hk5) fun hHeld=>?_;clear hK K;refine wpAnyH_done (by kernel_rfl) ?_ _;clear hk5 hrX hrF hrG
         first | clear aiV | clear akP
         go_wp2;go_meet
         first | exact ⟨w4.heap.size,rfl,hb4.size,hE0.whole _ rfl,below_setCells _ hb4.size _ _ _ _ ((lN hb4).alloc hb4.size _)⟩ | exact ⟨W1.heap.size,rfl,Nat.le_refl _,hE0.whole _ rfl,below_setCells _ (Nat.le_refl _) _ _ _ _ (((lN (Below.refl _ W1.drew)).alloc (Nat.le_refl _) _).trans (hb4.mono (by simp)))⟩
       · go_simp
         refine au hK (by first | exact ⟨(adQ aiV.1 (aeP (hX.drew.below hb4) (hFx.drew.below hb4) _)),(adI aiV.2 (aeH (hGx.drew.below hb4) _))⟩ | exact ⟨(aeP hX.drew hFx.drew _),(aeH hGx.drew _)⟩) fun hHeld=>?_;clear hK K;refine aB 6 fun K hK=>?_;go_simp
         (first | (go_at_call 63;refine (HL4.out W1.drew hex.as4).mono ?_;rintro e4 w4 ⟨rfl,hb4⟩;have aiV:=And.intro (apu hX.drew hFx.drew hb4) (apl hGx.drew hb4)) | (go_at_call 63;refine (HL4.out (W1.drew.alloc _) (hex.as4.below ((Below.refl _ _).alloc (Nat.le_refl _) _))).mono ?_;rintro e4 w4 ⟨rfl,hb4⟩;have akP:=And.intro (apu (hX.drew.alloc _) (hFx.drew.alloc _) hb4) (apl (hGx.drew.alloc _) hb4)))
         refine au hK (by first | exact aiV | exact ⟨(adQ (aeP hX.drew hFx.drew _) akP.1),(adI (aeH hGx.drew _) akP.2)⟩) fun hHeld=>?_;clear hK K;refine aA 7 ?_;refine aB 9 fun K hK=>?_
         first | (have hk5:=And.intro (adQ (adQ aiV.1 (aeP (hX.drew.below hb4) (hFx.drew.below hb4) (.cells acd.toArray 100))) (an1 (Be:=w4.heap.size) (spC ⟨k,e,s,s,ru⟩) 0 (by have:=hX.lt;have:=hb4.size;simp at this;omega) (by have:=hFx.lt;have:=hb4.size;simp at this;omega))) (adI (adI aiV.2 (aeH (hGx.drew.below hb4) (.cells acd.toArray 100))) (anS (Be:=w4.heap.size) (spC ⟨k,e,s,s,ru⟩) 0 (by have:=hGx.lt;have:=hb4.size;simp at this;omega)));have hE0:=Held.new w4 acd 100;refine aG hE0 (spC ⟨k,e,s,s,ru⟩) rfl afC (ajs _) (.tmp 7) (.tmp 24) rfl rfl rfl ?_) | (have hk5:=And.intro (adQ (adQ (aeP hX.drew hFx.drew (.cells acd.toArray 100)) akP.1) (an1 (Be:=W1.heap.size) (spC ⟨k,e,s,s,ru⟩) 0 (by have:=hX.lt;omega) (by have:=hFx.lt;omega))) (adI (adI (aeH hGx.drew (.cells acd.toArray 100)) akP.2) (anS (Be:=W1.heap.size) (spC ⟨k,e,s,s,ru⟩) 0 (by have:=hGx.lt;omega)));have hE0:=(Held.new W1.drew acd 100).below hb4;refine aG hE0 (spC ⟨k,e,s,s,ru⟩) rfl afC (ajs _) (.tmp 7) (.tmp 24) rfl rfl rfl ?_)
         refine au hK (hk5) fun hHeld=>?_;clear hK K;refine wpAnyH_done (by kernel_rfl) ?_ _;clear hk5 hrX hrF hrG
         first | clear aiV | clear akP
         go_wp2;go_meet
         first | exact ⟨w4.heap.size,rfl,hb4.size,hE0.whole _ rfl,below_setCells _ hb4.size _ _ _ _ ((lN hb4).alloc hb4.size _)⟩ | exact ⟨W1.heap.size,rfl,Nat.le_refl _,hE0.whole _ rfl,below_setCells _ (Nat.le_refl _) _ _ _ _ (((lN (Below.refl _ W1.drew)).alloc (Nat.le_refl _) _).trans (hb4.mono (by simp)))⟩
      case rest=>
       obtain ⟨Be,rfl,hBe,hE,hb2⟩:=hcut;have hEF:=hE.cell (j:=31) rfl;have hFe:=hFx.below hb2;have hXe:=hX.below hb2;have hGe:=hGx.below hb2;have aCf:=hex.below hb2;have Xf:=hb1.trans (hb2.mono hb1.size)
       go_upto_if 27 with (fail)
       go_cut [] from 25 to 32 (fun wz=>Held wz Be (spC ⟨k,e,s,Sk.step g s e.x,ru⟩) 100∧Below W1.heap.size W1 wz)
       case first=>
        rcases zr:(ru == 0) with _ | _
        · have hst:Sk.step g s e.x=s:=by
           unfold Sk.step
           rw [if_neg (by rw [HRU.out];simpa using zr)]
          have HST:=hide hst;clear hst;go_wp2;go_meet;rw [HST.out];exact ⟨hE,hb2⟩
        · have hl0:Sk.legal g s e.x=0:=by rw [HRU.out];simpa using zr
          have hst:Sk.step g s e.x=Sk.next g s e.x:=by
           unfold Sk.step
           rw [if_pos hl0]
          have hn5:=fun W h=>vZ K g s e W hOk hce ((Sk.oq.1 hl0).call) h;have HST:=hide hst;have HN5:=hide hn5;clear hst hn5 hl0
          go_wp2_with (first | ((with_reducible refine dh 23 1 ?_);refine dO (hGe) Tryz.underlying23 fG ?_) | ((with_reducible refine dh 26 4 ?_);refine dO (hFe) Tryz.underlying26 ak ?_) | ((with_reducible refine dh 41 6 ?_);refine dO (hXe) Tryz.underlying41 bY ?_) | (go_at_call 65;refine (HN5.out _ (aCf.below (Below.refl _ _))).mono ?_;rintro e5 w5 ⟨rfl,hb5⟩;have hE5:=hE.below hb5) | (refine fO 26 (.tmp 32) (.tmp 31) rfl ?_;refine ahq (o:=18) (vs:=aQ (Sk.next g s e.x)) (aww hE5) ak (bI _) rfl (.tmp 32) (.tmp 31) rfl rfl rfl ?_))
          go_meet;rw [HST.out];exact ⟨azY hE5 _,below_setCells _ hBe _ _ _ _ (hb2.trans (hb5.mono hb2.size))⟩
       case rest=>
        rename World=>W3
        obtain ⟨hE',hb3⟩:=hcut;have hf3:=hFx.below hb3;have aB8:W3.rangeAt Be 18 (aQ (Sk.step g s e.x)):=fun j v hj=>hE'.cell (asv k e s (Sk.step g s e.x) ru j v hj)
        have hfb:Bf≠Be:=by have:=hFx.lt;omega
        go_upto_region 7 with (fail)
        go_cut [] from 33 to 34 (fun wz=>Held wz Be (spC ⟨k,e,s,Sk.step g s e.x,ru⟩) 100∧Held wz Bf (aQ (Sk.step g s e.x)) 26∧Turn (fun b=>b=Bf) wr wz∧wr.heap.size≤wz.heap.size)
        case first=>
         go_wp2_with (first | (refine dA 26 (.tmp 33) rfl ?_;refine iJ aB8 Tryz.underlying26 rfl ak rfl (.tmp 33) rfl rfl ?_) | ((with_reducible refine isS 26 4 34 ?_);refine iZ (hf3) (aQ (Sk.step g s e.x)) ak (bI _) ?_))
         go_meet;have aAS:=hb1.trans (hb3.mono hb1.size);exact ⟨(yZ hfb.symm _ _ _).trans hE',hf3.whole _ rfl,((Turn.of_below aAS).mono (X:=fun _=>False) (fun b h=>h.elim)).trans (ajA (X:=fun b=>b=Bf) rfl _ 0) (fun b h=> .inl h),by rw [setCells_size];exact aAS.size⟩
        case rest=>
         rename World=>W4
         obtain ⟨J4,hf4,ht4,hs4⟩:=hcut;have aCH:wr.heap.size≤Be:=Nat.le_trans hb1.size hBe;have hxk:=HI.out;obtain ⟨X',hX'⟩:∃ X':Nat→Prop,X'=fun b=>X b∨b=Be:=⟨_,rfl⟩
         have gX:JM wr X X':=fun b h=>by rw [hX'] at h;rcases h with h | h;exact .inl h;exact .inr (by omega)
         have xf':X' Bf:=by rw [hX'];exact .inl hxk.xf
         have xe':X' Be:=by rw [hX'];exact .inr rfl
         have xs':∀ b,X' b∨Y b→W.heap.size≤b∧b<W4.heap.size:=fun b h=>by
          have s1:=hxk.sz;have s3:=J4.lt;rw [hX'] at h
          rcases h with (h | h) | h
          · have:=hxk.xs b (.inl h);omega
          · subst h;omega
          · have:=hxk.xs b (.inr h);omega
         have hj4:=hJ _ _ _ _ X' Y _ hxk.j (ht4.mono (fun b h=>by subst h;exact hxk.xf)) gX (fun b h=> .inl h)
         have hk4:∀ b,K b→W4.heap[b]? =W.heap[b]? :=fun b hb=>(ht4.block b (Nat.lt_of_lt_of_le (hKW b hb) hxk.sz) (fun e=>by
          have h1:=hKW b hb;have h2:=(hxk.xs Bf (.inl hxk.xf)).1
          omega)).trans (hxk.k b hb)
         have hT:ahO g l X' Y pre ⟨k,e,s,Sk.step g s e.x,ru⟩ W4:=⟨hxk.len.symm,by rw [hxk.len];exact hlt,by rw [hxk.len];exact HLE.out,by rw [hxk.len];exact HS.out.symm,rfl,HRU.out.symm⟩;obtain ⟨fn',afY,assign',body',hy,hR⟩:=HY.out X' Y pre ⟨k,e,s,Sk.step g s e.x,ru⟩ W4 hj4 xs' (by rw [hxk.len];exact hlt) hT;have aC9:=hxk.sz;have aA6:=hxk.len;clear hX' gX hxk hT
         have hlen':(pre++[(⟨k,e,s,Sk.step g s e.x,ru⟩:Stp)]).length=k+1:=by rw [List.length_append,aA6];rfl
         have hs1:abt g l (k+1)=Sk.step g s e.x:=EX.out;have HLEN:=hide hlen';have Nr:=hide hs1;clear hlen' hs1 aA6;obtain ⟨xx,hxx⟩:∃ q:Stp,(⟨k,e,s,Sk.step g s e.x,ru⟩:Stp)=q:=⟨_,rfl⟩;rw [hxx] at hy hR HLEN J4
         have hyx:anK xx= #[.int .i64 ((k:Int)+1),.agg (spC xx).toArray]:=by rw [← hxx];rfl
         rw [hyx] at hy;have HXX:=hide hxx
         have hwr:IntKind.i64.wrap ((k:Int)+1)=(k:Int)+1:=by rw [IntKind.wrap_i64];omega
         clear hyx hxx
         go_upto_region 8 with (fail)
         go_cut [40] from 35 to 40 (fun v wx=>(v= .bool false∧J X' Y (pre++[xx]) wx∧uf K X' Y W4 wx)∨(v= .bool true∧Jx X' Y (pre++[xx]) wx))
         case first=>
          refine (wpIn_wide (n:=n)).1 ?_;have aks:(jO none).round=none:=rfl;have ajh:(jO none).depth=none:=rfl;have ajv:∀ f,(jO none).fn f=True:=fun _=>rfl;refine wpIn_region_lit ?_
          gi_wp2_with (refine UL J4 Tryz.underlying100 rfl afC rfl (.tmp 7) rfl rfl ?_)
          refine hR.mono ?_
          rintro e4 W5 (⟨rfl,WW,hk5⟩ | ⟨rfl,DT⟩)
          · gi_wp2
            go_meet;exact .inl ⟨rfl,WW,hk5⟩
          · gi_wp2
            go_meet;exact .inr ⟨rfl,DT⟩
         case rest=>
          clear hy hR
          rcases hcut with ⟨rfl,WW,hk5⟩ | ⟨rfl,DT⟩
          · have hf5:Held wc Bf (aQ (Sk.step g s e.x)) 26:=(hk5.block Bf (.inl xf')).trans hf4
            clear hJx;go_wp2
            go_roundw
            case rel=>
             refine ⟨k+1,X',Y,pre++[xx],by omega,by go_num,HLEN.out,WW,by rw [Nr.out];exact hf5,xf',fun b h=>?_,fun b h=>(hk5.keep b h).trans (hk4 b h),?_⟩
             · have h1:=xs' b h
               have h2:=hk5.size;exact ⟨h1.1,by omega⟩
             · have:=hk5.size;omega
            case measure=>simp [intOf];omega
          · go_wp2
            refine bodyPost_ret (results_none rfl _ _ _) rfl ?_;exact ⟨⟨_,rfl⟩,.inr ⟨X',Y,pre++[xx],DT⟩⟩
   · obtain rfl:k=l.length:=by omega
     go_wp2
     go_end0
     exact ⟨⟨_,rfl⟩,.inl ⟨X,Y,pre,hI.len,hI.j⟩⟩
theorem at_eq {b:ByteArray} {l:List ByteArray} {n:Int} {x:ByteArray}:Sk.at_ b (x::l) n=if x=b then n else Sk.at_ b l (n+1):=rfl
theorem aqP {k:Nat} (hk:k<8):Sk.dX.drop k=(Sk.dX[k]'hk)::Sk.dX.drop (k+1):=List.drop_eq_getElem_cons _
theorem aa1 (x:ByteArray) (w:World):Calls Tryz.prog 66 #[.string x] w fun e w'=>e= .returned (.int .i64 (Sk.value x))∧Below w.heap.size w w':=by
 have hcell:∀ k (hk:k<8),(w.alloc (.cells (Sk.dX.map Value.string).toArray 9)).cell? ⟨w.heap.size,k,none⟩=some (.string (Sk.dX[k]'hk)):=fun k hk=>by
  have h:=jU w 9 (Sk.dX.map Value.string) w.heap.size rfl k (.string (Sk.dX[k]'hk)) (by rw [List.getElem?_map,List.getElem?_eq_getElem hk];rfl)
  rwa [qB,Nat.zero_add] at h
 have hbw:Below w.heap.size w (w.alloc (.cells (Sk.dX.map Value.string).toArray 9)):=(Below.refl _ _).alloc (Nat.le_refl _) _;have HB:Hid (∃ G,Calls Tryz.prog 60 #[] w fun e w'=>e= .returned (.slice (some ⟨G,0,none⟩) 8 8)∧(∀ k (hk:k<8),w'.cell? ⟨G,k,none⟩=some (.string (Sk.dX[k]'hk)))∧Below w.heap.size w w'):=hide ⟨w.heap.size,(uI w).mono (fun e w' ⟨h1,h2⟩=>⟨h1,by subst h2;exact hcell,by subst h2;exact hbw⟩)⟩;obtain ⟨G,hB⟩:=HB.out;have HB:=hide hB;clear hcell hbw hB
 go_enter Tryz.func66,Tryz.ntmps66
 go_wp2_with (go_at_call 60;refine HB.out.mono ?_;rintro e w1 ⟨rfl,hcell,hbw⟩)
 have HC:=hide hcell;clear hcell
 go_loopw [4] (fun i wr=>∃ k:Nat,k≤8∧i= .int .i64 k∧Aside (Sk.at_ x (Sk.dX.drop k) k=Sk.value x)∧Aside (∀ k (hk:k<8),wr.cell? ⟨G,k,none⟩=some (.string (Sk.dX[k]'hk)))∧Aside (Below w.heap.size w wr)) (fun i _=>8 - (intOf i).toNat)
 case atStart=>exact ⟨0,by omega,rfl,rfl,HC.out,hbw⟩
 case round=>
  obtain ⟨k,hk,rfl,hat,hcA,hbA⟩:=hrel;have hcell:=hcA.out;have hbw:=hbA.out
  by_cases hlt:k<8
  · have hc:=hcell k hlt
    have hd:=aqP hlt;obtain ⟨y,hy⟩:∃ q,Sk.dX[k]'hlt=q:=⟨_,rfl⟩;rw [hy] at hc hd;have hlt1:decide ((k:Int)<8)=true:=decide_eq_true (by omega)
    have i1:(0:Int)≤(k:Int):=by omega
    have i2:(k:Int)<8:=by omega
    have hA:=hat.out;rw [hd,at_eq] at hA;have HA:=hide hA;clear hA hd hy hcell
    by_cases he:y=x
    · have he1:=mD he
      have HR:=hide (show (k:Int)=Sk.value x by rw [← HA.out,if_pos he]);clear he;go_wp2;go_ret;exact ⟨bG HR.out,hbw⟩
    · have he1:=mg he
      have HR:=hide (show Sk.at_ x (Sk.dX.drop (k+1)) ((k:Int)+1)=Sk.value x by rw [← HA.out,if_neg he]);clear he;go_wp2
      go_roundw
      case rel=>exact ⟨k+1,by omega,by go_num,by have:=HR.out;exact (by push_cast;exact this),hcA.out,hbA.out⟩
      case measure=>simp [intOf];omega
  · obtain rfl:k=8:=by omega
    have HR:=hide (show (-1:Int)=Sk.value x from hat.out);clear hcell;go_wp2;go_ret;exact ⟨bG HR.out,hbw⟩
theorem ahO.putObj {g:Sk.Game} {l:List En} {X Y:Nat→Prop} {pre:List Stp} {x:Stp} {W W':World} (h:ahO g l X Y pre x W):ahO g l X Y pre x W':=⟨h.i,h.lt,h.e,h.s,h.t,h.rule⟩
structure aeY (w:World) (D:Nat) (boxes:Nat→List (Nat × List Value × TypeId)) (X Y:Nat→Prop) (xs:List Stp) (W:World):Prop where
 bw:Below w.heap.size w W
 sz:D≤W.heap.size
 sep:∀ b,X b∨Y b→D≤b
 bx:∀ p∈boxes xs.length,Held W p.1 p.2.1 p.2.2
theorem awh {D:Nat} {X Y X' Y':Nat→Prop} {W:World} (h:∀ b,X b∨Y b→D≤b) (hs:D≤W.heap.size) (hX:JM W X X') (hY:JM W Y Y'):∀ b,X' b∨Y' b→D≤b:=by
 rintro b (hb | hb)
 · rcases hX b hb with h2 | h2
   · exact h b (.inl h2)
   · exact Nat.le_trans hs h2
 · rcases hY b hb with h2 | h2
   · exact h b (.inr h2)
   · exact Nat.le_trans hs h2
section
variable {w:World} {D:Nat} {boxes:Nat→List (Nat × List Value × TypeId)}
theorem aeY.abides (hw:w.heap.size≤D) (hD:∀ k,∀ p∈boxes k,p.1<D):sH (aeY w D boxes):=by
 intro X Y pre W X' Y' W' h ht hX hY;exact ⟨H8 h.bw ht (fun b hb=>by have:=h.sep b (.inl hb);omega) (by have:=h.sz;omega),Nat.le_trans h.sz ht.size,awh h.sep h.sz hX hY,fun p hp=>(h.bx p hp).turn ht (fun hx=>by have:=h.sep _ (.inl hx);have:=hD _ p hp;omega)⟩
theorem aeY.putObj {X Y:Nat→Prop} {pre:List Stp} {W:World} {lp:Nat} {o:Obj} (h:aeY w D boxes X Y pre W) (hD:w.heap.size≤D) (hlp:D≤lp) (hl:W.heap[lp]? =some o) (ho:o.isCells=false) (o':Obj):aeY w D boxes X Y pre (W.putObj lp o'):=
 ⟨qE h.bw (by omega) _,by simpa using h.sz,h.sep,fun p hp=>(h.bx p hp).putObj hl ho _⟩
end
def aoF (e ty:TypeId) (size D B:Nat) (len:Nat→Nat) (rows:Nat→List Value) (X Y:Nat→Prop) (xs:List Stp) (W:World):Prop:=∃ v,Held W B [v] ty∧ad9 W D X Y e size v (len xs.length) (rows xs.length)
section
variable {e ty:TypeId} {size D B:Nat} {len:Nat→Nat} {rows:Nat→List Value}
theorem aoF.turn {X Y X' Y':Nat→Prop} {pre:List Stp} {W W':World} (hB:B<D) (h:aoF e ty size D B len rows X Y pre W) (ht:Turn X W W') (hs:∀ b,X b∨Y b→D≤b) (hX:JM W X X') (hY:JM W Y Y'):aoF e ty size D B len rows X' Y' pre W':=by
 obtain ⟨v,hv,ho⟩:=h;exact ⟨v,hv.turn ht (fun hx=>by have:=hs _ (.inl hx);omega),ho.turn ht hX hY⟩
theorem aoF.putObj {X Y:Nat→Prop} {pre:List Stp} {W:World} {lp:Nat} {o:Obj} (h:aoF e ty size D B len rows X Y pre W) (hl:W.heap[lp]? =some o) (ho:o.isCells=false) (o':Obj):aoF e ty size D B len rows X Y pre (W.putObj lp o'):=by
 obtain ⟨v,hv,hw⟩:=h;exact ⟨v,hv.putObj hl ho _,hw.putObj hl ho _⟩
end
def atl (w:World) (D:Nat) (boxes:Nat→List (Nat × List Value × TypeId)) (e ty:TypeId) (size B:Nat) (len:Nat→Nat) (rows:Nat→List Value) (X Y:Nat→Prop) (xs:List Stp) (W:World):Prop:=
 aeY w D boxes X Y xs W∧aoF e ty size D B len rows X Y xs W
theorem atl.abides {w:World} {D:Nat} {boxes:Nat→List (Nat × List Value × TypeId)} {e ty:TypeId} {size B:Nat} {len:Nat→Nat} {rows:Nat→List Value} (hw:w.heap.size≤D) (hB:B<D) (hD:∀ k,∀ p∈boxes k,p.1<D):sH (atl w D boxes e ty size B len rows):=
 fun X Y pre W X' Y' W' h ht hX hY=>⟨aeY.abides hw hD X Y pre W X' Y' W' h.1 ht hX hY,h.2.turn hB ht h.1.sep hX hY⟩
theorem azR {Z X Y K:Nat→Prop} {W W6:World} {D:Nat} (hWs:D≤W.heap.size) (hX:∀ b,X b∨Y b→D≤b∧b<W.heap.size) (hZ:∀ b,Z b→(b<D∧¬ K b)∨((∃ o:Obj,W.heap[b]? =some o∧o.isCells=true)∧D≤b∧¬ X b∧¬ Y b)) (hK:∀ b,K b→b<D)
 (hT:Turn Z W W6):KeepsFrom D W W6∧uf K X Y W W6:=by
 refine ⟨⟨hT.size,fun k o hk hl hc=>(hT.block k (Array.getElem?_eq_some_iff.1 hl).1 ?_).trans hl⟩,⟨hT.size,fun b h=>hT.block b (hX b h).2 ?_,fun b h=>hT.block b (Nat.lt_of_lt_of_le (hK b h) hWs) ?_⟩⟩
 · intro h
   rcases hZ k h with h | ⟨⟨o2,h2,h3⟩,_⟩
   · omega
   · rw [hl] at h2;cases h2;rw [hc] at h3;cases h3
 · have h1:=(hX b h).1
   intro h2
   rcases hZ b h2 with h3 | h3
   · omega
   · exact h.elim h3.2.2.1 h3.2.2.2
 · intro h2
   rcases hZ b h2 with h3 | h3
   · exact h3.2 h
   · have:=hK b h;omega
theorem aBe {W:World} {D:Nat} {X Y:Nat→Prop} {e:TypeId} {size:Nat} {v:Value} {n:Nat} {xs:List Value} (h:ad9 W D X Y e size v n xs) {b:Nat} (hb:v.ownBlock=some b):(∃ o:Obj,W.heap[b]? =some o∧o.isCells=true)∧D≤b∧¬ X b∧¬ Y b:=
 ⟨(Aa h.own hb).2,(Aa h.own hb).1,(h.far b hb).1,(h.far b hb).2⟩
theorem ant {g:Sk.Game} {l:List En} {X Y:Nat→Prop} {pre:List Stp} {x:Stp} {W:World} (ht:ahO g l X Y pre x W):abt g l (pre.length+1)=x.t:=by
 have h:=ht.e;have hl:=ht.lt;rw [List.getElem?_eq_getElem hl] at h;have h2:=Option.some.inj h;rw [afe g l _ hl,ht.t,ht.s,h2]
def ab2 (g:Sk.Game) (l:List En) (k:Nat):List Sk.aip:=Sk.aa9 g (Sk.start g) 1 (bare (l.take k))
def rfC (l:List Sk.aip):List Value:=l.flatMap fun x=>[.int .i64 x.number,.int .i64 x.rule]
theorem arZ (a b:List Sk.aip):rfC (a++b)=rfC a++rfC b:=by simp [rfC]
theorem alm (g:Sk.Game) (l:List En) (k:Nat):(ab2 g l k).length≤k:=by
 have go:∀ (l2:List Sk.Entry) (s:Sk.State) (n:Int),(Sk.aa9 g s n l2).length≤l2.length:=by
  intro l2
  induction l2 with
  | nil=>intro s n;exact Nat.le_refl _
  | cons y l2 ih=>
    intro s n
    have:=ih (Sk.step g s y) (n+1)
    rw [Sk.aa9,List.length_append,List.length_cons]
    split <;> simp <;> omega
 have:=go (bare (l.take k)) (Sk.start g) 1
 unfold ab2
 rw [abB,List.length_take] at this
 omega
theorem aqr (g:Sk.Game) (l:List En) (k:Nat) (hk:k<l.length):ab2 g l (k+1)=ab2 g l k++(if Sk.legal g (abt g l k) l[k].x=0 then [] else [⟨(k:Int)+1,Sk.legal g (abt g l k) l[k].x⟩]):=by
 have go:∀ (l2:List Sk.Entry) (s:Sk.State) (n:Int) (x:Sk.Entry),Sk.aa9 g s n (l2++[x])=Sk.aa9 g s n l2++(if Sk.legal g (Sk.final g s l2) x=0 then [] else [⟨n+l2.length,Sk.legal g (Sk.final g s l2) x⟩]):=by
  intro l2
  induction l2 with
  | nil=>intro s n x;simp [Sk.aa9,Sk.final]
  | cons y l2 ih=>
    intro s n x;rw [List.cons_append,Sk.aa9,Sk.aa9,ih,List.append_assoc]
    simp only [Sk.final,List.foldl_cons,List.length_cons]
    rw [show n+1+(l2.length:Int)=n+((l2.length+1:Nat):Int) by push_cast;omega]
    rfl
 unfold ab2 abt
 rw [List.take_succ_eq_append_getElem hk]
 unfold bare
 rw [List.map_append,List.map_cons,List.map_nil,go]
 congr 2
 simp only [List.length_map,List.length_take,Nat.min_eq_left (Nat.le_of_lt hk)]
 rw [Int.add_comm]
theorem au7 {g:Sk.Game} {l:List En} {X Y:Nat→Prop} {pre:List Stp} {x:Stp} {W:World} (ht:ahO g l X Y pre x W):ab2 g l (pre.length+1)=ab2 g l pre.length++(if x.rule=0 then [] else [⟨(pre.length:Int)+1,x.rule⟩]):=by
 have h:=ht.e;have hl:=ht.lt;rw [List.getElem?_eq_getElem hl] at h;have h2:=Option.some.inj h;rw [aqr g l _ hl,h2,ht.rule,ht.s]
theorem ajR {g:Sk.Game} {l:List En} (h:Sk.aaT g (bare l)=0):Sk.eU g=0∧(∀ e∈l,Sk.jc g e.x=0)∧l.length≤1000:=by
 unfold Sk.aaT at h
 split at h
 · rename_i h2;exact absurd h h2
 · rename_i h2
   split at h
   · cases h
   · rename_i h3
     refine ⟨by simpa using h2,?_,by rw [abB] at h3;omega⟩;clear h2 h3
     induction l with
     | nil=>intro e he;cases he
     | cons y l ih=>
       rw [bare,List.map_cons,Sk.abL] at h
       by_cases h5:Sk.jc g y.x=0
       · intro e he
         rcases List.mem_cons.1 he with rfl | he
         · exact h5
         · refine ih ?_ e he
           rw [if_neg (by simpa using h5)] at h;exact h
       · rw [if_pos h5] at h
         exact absurd h h5
theorem apD (g:Sk.Game) (s:Sk.State) (e:Sk.Entry):0≤Sk.legal g s e∧Sk.legal g s e≤5:=by
 unfold Sk.legal
 repeat' split
 all_goals decide
theorem ax3:(Tryz.prog.info? 154).map (fun i=>(i.zero,i.size,i.bytes))=some (some (.agg #[.int .i64 0,.int .i64 0]),2,16):=by kernel_rfl
theorem ap9 (g:Sk.Game) (l:List En):abt g l l.length=Sk.final g (Sk.start g) (bare l):=by unfold abt;rw [List.take_length]
theorem ahW (g:Sk.Game) (l:List En):ab2 g l l.length=Sk.aa9 g (Sk.start g) 1 (bare l):=by unfold ab2;rw [List.take_length]
theorem awo {w:World} {D:Nat} {boxes:Nat→List (Nat × List Value × TypeId)} {e ty:TypeId} {size B:Nat} {len:Nat→Nat} {rows:Nat→List Value} {Z X Y K:Nat→Prop} {Ix:(Nat→Prop)→(Nat→Prop)→List Stp→World→Prop} {x:Stp} {pre:List Stp} {W W6:World} {a:Act}
 (hi:aeY w D boxes X Y pre W) (hw:w.heap.size≤D) (hX:∀ b,X b∨Y b→D≤b∧b<W.heap.size) (hK:∀ b,K b→b<D) (hT:Turn Z W W6) (hZ:∀ b,Z b→(w.heap.size≤b∧b<D∧¬ K b)∨((∃ o:Obj,W.heap[b]? =some o∧o.isCells=true)∧D≤b∧¬ X b∧¬ Y b))
 (hbx:∀ p∈boxes (pre.length+1),Held W6 p.1 p.2.1 p.2.2) (hrow:aoF e ty size D B len rows X Y (pre++[x]) W6):AX K D X Y (atl w D boxes e ty size B len rows) Ix (pre++[x]) W .normal a W6:=by
 obtain ⟨h1,h2⟩:=azR hi.sz hX (fun b hb=>(hZ b hb).elim (fun h=> .inl h.2) .inr) hK hT;refine ⟨h1,h2,⟨H8 hi.bw hT (fun b hb=>(hZ b hb).elim (fun h=>h.1) (fun h=>Nat.le_trans hw h.2.1)) (Nat.le_trans hw hi.sz),Nat.le_trans hi.sz hT.size,hi.sep,?_⟩,hrow⟩;rw [List.length_append,List.length_singleton];exact hbx
def rpS (g:Sk.Game) (l:List En):Sk.State:=if Sk.aaT g (bare l)=0 then Sk.final g (Sk.start g) (bare l) else Sk.zero
def rpR (g:Sk.Game) (l:List En):List Sk.aip:=if Sk.aaT g (bare l)=0 then Sk.aa9 g (Sk.start g) 1 (bare l) else []
theorem aop (S:Nat→Prop) (g:Sk.Game) (l:List En) (A:Option Addr) (c:Nat) (w:World) (hp:wF w S A c l):
 Calls Tryz.prog 32 #[rF g,.slice A l.length c] w fun e w'=>∃ A2 c2,e= .returned (.tuple #[lJ (rpS g l),.slice A2 (rpR g l).length c2,.int .i64 (Sk.aaT g (bare l))])∧Reads w' (fun b=>w.heap.size≤b) 2 A2 (rpR g l).length c2 (rfC (rpR g l))∧Below w.heap.size w w':=by
 refine callsIn_wide.1 (callsIn_of_wp_marks (F:=Fence.wide) (n:=5) Tryz.func32 rfl trivial ?_ rfl)
 simp only [Tryz.ntmps32,List.size_toArray,List.length_cons,List.length_nil,Nat.reduceAdd,Nat.reduceSub,Array.replicate_succ,
  Array.replicate_zero,List.push_toArray,List.append_toArray,List.nil_append,List.cons_append]
 refine wpIn_wide.2 ?_
 generalize hQ':bodyPostM Fence.wide 5 Tryz.prog _ _=Q'
 have hck:=fun W h=>ajZ S g l A c W h;obtain ⟨E,hE⟩:∃ E,Sk.aaT g (bare l)=E:=⟨_,rfl⟩;rw [hE] at hck;have uP:=hide hck;have HE:=hide hE;have HQ:=hide hQ';clear hck hE hQ'
 go_upto_region 0 with (fail)
 go_cut [2,4] from 2 to 7 (fun v2 v4 wx=>v2=ptr w.heap.size∧v4=ptr (w.heap.size+1)∧aC w wx [(dN g,23),(aQ Sk.zero,26)])
 case first=>
  go_wp2;go_meet;exact ⟨rfl,rfl,(((aC.nil w).new (by simp) (dN g) _).new (by simp) (aQ Sk.zero) _)⟩
 case rest=>
  obtain ⟨rfl,rfl,hB⟩:=hcut
  by_cases h0:E=0
  · have h0':(E != 0)=false:=by simp [h0]
    go_upto_region 4 with (first | ((with_reducible refine dh 23 2 ?_);refine dO (hB.aj rfl) Tryz.underlying23 fG ?_) | (go_at_call 33;refine (uP.out _ (hp.below hB.bw)).mono ?_;rintro e w1 ⟨rfl,hb1⟩;have hB1:=hB.call (by simp) hb1))
    have hck0:=HE.out.trans h0;have HL:=hide (ajR hck0);have hkn:=Sk.zZ HL.out.1;have hrs:rpS g l=Sk.final g (Sk.start g) (bare l)∧rpR g l=Sk.aa9 g (Sk.start g) 1 (bare l):=⟨by unfold rpS;rw [if_pos hck0],by unfold rpR;rw [if_pos hck0]⟩;have HRS:=hide hrs;clear h0' hrs hck0
    go_cut [8] from 19 to 21 (fun v8 wx=>∃ B8,v8=ptr B8∧aC w wx [(dN g,23),(aQ Sk.zero,26)]∧w.heap.size+2≤B8∧Held wx B8 (aQ (Sk.start g)) 26)
    case first=>
     go_wp2_with (first | ((with_reducible refine dh 23 2 ?_);refine dO (hB1.aj rfl) Tryz.underlying23 fG ?_) | (go_at_call 37;refine (Ez g hkn _).mono ?_;rintro e w2 ⟨rfl,hb2⟩;have hB2:=hB1.call (by simp) hb2;have hG2:=Held.new w2 (aQ Sk.zero) 26) | ((with_reducible refine isS 26 8 20 ?_);refine iZ (hG2) (aQ (Sk.start g)) ak (bI _) ?_))
     go_meet;have hs1:=hB1.size (by simp);have hs2:=hb2.size
     simp only [List.length_cons,List.length_nil] at hs1
     exact ⟨w2.heap.size,rfl,(hB2.alloc (by simp) _).fK (by simpa using Nat.le_trans hs1 hs2) _ _,by omega,hG2.whole _ rfl⟩
    case rest=>
     obtain ⟨B8,rfl,hB2,Fv,hG⟩:=hcut
     have aC2:w.heap.size+2≤wc.heap.size:=by simpa using hB2.size (by simp)
     go_wp2_with (first | ((with_reducible refine dh 23 2 ?_);refine dO ((hB2.alloc (by simp) _).aj rfl) Tryz.underlying23 fG ?_) | (go_at_call 34;refine (ahy g _ _ _ _).mono ?_;rintro e w3 ⟨rfl,hC⟩))
     rename_i KQ hKQ
     have hD3:wc.heap.size+3≤w3.heap.size:=by
      have:=hC.size (by simp)
      simp only [List.length_cons,List.length_nil,World.size_alloc] at this
      omega
     have hb3:=(hB2.bw.trans (((Below.refl _ _).alloc (Nat.le_refl _) _).mono (by omega))).trans (hC.bw.mono (by simp;omega));have aCA:=hG.lt
     have hGm:Held w3 (wc.heap.size+1) (dN g) 23:=by simpa using hC.aj rfl
     have azp:Held w3 (wc.heap.size+1+1) [.slice A l.length c] 38:=by simpa using hC.get 1 rfl
     have hK3:∀ b,(fun b=>b=wc.heap.size+1∨b=wc.heap.size+2∨(S b∧b<w.heap.size)) b→b<w3.heap.size:=by rintro b (h | h | ⟨_,h⟩) <;> omega
     have hLK:wF w3 (fun b=>b=wc.heap.size+1∨b=wc.heap.size+2∨(S b∧b<w.heap.size)) A c l:=(hp.more (S':=(fun b=>b=wc.heap.size+1∨b=wc.heap.size+2∨(S b∧b<w.heap.size))) (fun b hb h=> .inr (.inr ⟨h,hb⟩))).below hb3
     have hZ3:Held w3 (w.heap.size+1) (aQ Sk.zero) 26:=by have:=(hB2.get 1 rfl).alloc (.cells #[.slice none 0 0] 92);exact this.upto hC.bw (by simp;omega)
     have hG3:Held w3 B8 (aQ (Sk.start g)) 26:=(hG.alloc (.cells #[.slice none 0 0] 92)).upto hC.bw (by simp;omega);have hA3:Held w3 wc.heap.size [.slice none 0 0] 92:=(Held.new wc [.slice none 0 0] 92).upto hC.bw (by simp)
     have hbd:∀ k,∀ p∈((fun k=>[(B8,aQ (abt g l k),26),(w.heap.size+1,aQ Sk.zero,26)]) k),p.1<w3.heap.size:=by
      intro k p hp
      have hp2:p=(B8,aQ (abt g l k),26)∨p=(w.heap.size+1,aQ Sk.zero,26):=by simpa using hp
      rcases hp2 with rfl | rfl
      · show B8<w3.heap.size;omega
      · show w.heap.size+1<w3.heap.size;omega
     have HBD:=hide hbd;clear hbd;refine (wpIn_wide (n:=5)).1 ?_
     refine nV (F:=Fence.wide) rfl (by decide) rfl trivial (fun _ _=>rfl) (agu g l A c (fun b=>b=wc.heap.size+1∨b=wc.heap.size+2∨(S b∧b<w.heap.size)) _ _ 4 w3 (by decide) HL.out.1 HL.out.2.1 HL.out.2.2 hK3 hGm (.inl rfl) azp (.inr (.inl rfl)) hLK) hK3 (Below.refl _ _) (fun _=>rfl) (atl w w3.heap.size (fun k=>[(B8,aQ (abt g l k),26),(w.heap.size+1,aQ Sk.zero,26)]) 154 92 2 wc.heap.size (fun k=>(ab2 g l k).length) (fun k=>rfC (ab2 g l k))) (fun _ _ _ _=>False) (atl.abides (by omega) (by omega) HBD.out) (fun _ _ _ _ _ _ _ h _ _ _=>h)
      (fun X Y pre W lp o o' h hlp hl ho=>?ip) (fun _ _ _ _ _ _ _ h _ _ _=>h) (fun X Y pre x W lp o o' h hlp hl ho=>h.putObj) ?h0 (fun x a W=>∃ Be v0 v1 v2 v3 v4 v5 v6 v7 v12 v13 v14 v15 v16 v17 v18 v19 v20 v21 v22 v23 v24 v25 v26 v27 v28 v29 v30 v31 v32 v33 v34 v35 v36 v37 v38 v39,a= {tmps:= #[v0,v1,v2,v3,v4,v5,v6,v7,ptr B8,ptr wc.heap.size,.int .i64 ((x.i:Int)+1),ptr Be,v12,v13,v14,v15,v16,v17,v18,v19,v20,v21,v22,v23,v24,v25,v26,v27,v28,v29,v30,v31,v32,v33,v34,v35,v36,v37,v38,v39],defers:=[] }∧w3.heap.size≤Be∧Held W Be (spC x) 100) ?assign ?ap ?body ?done ?stop
     case ap=>
      rintro x a' W lp o o' ⟨Be,v0,v1,v2,v3,v4,v5,v6,v7,v12,v13,v14,v15,v16,v17,v18,v19,v20,v21,v22,v23,v24,v25,v26,v27,v28,v29,v30,v31,v32,v33,v34,v35,v36,v37,v38,v39,e2,h1,h2⟩ hlp hl ho
      exact ⟨Be,v0,v1,v2,v3,v4,v5,v6,v7,v12,v13,v14,v15,v16,v17,v18,v19,v20,v21,v22,v23,v24,v25,v26,v27,v28,v29,v30,v31,v32,v33,v34,v35,v36,v37,v38,v39,e2,h1,h2.putObj hl ho _⟩
     case stop=>exact fun _ _ _ _ _ _ _ h _=>h.elim
     case assign=>
      intro lp X Y pre x W K' hi ht hk SV;have hb:=((Below.refl W.heap.size W).alloc (Nat.le_refl _) (.cells acd.toArray 100));have hb':=below_setCells W.heap.size (Nat.le_refl _) (spC x) 0 _ _ hb;have hE0:=Held.new W acd 100;have hsz:w3.heap.size≤W.heap.size:=?szi
      case szi=>exact hi.1.sz
      have fin:∀ v0 v1 v2 v3 v4 v5 v6 v7 v12 v13 v14 v15 v16 v17 v18 v19 v20 v21 v22 v23 v24 v25 v26 v27 v28 v29 v30 v31 v32 v33 v34 v35 v36 v37 v38 v39:Value,K' {tmps:= #[v0,v1,v2,v3,v4,v5,v6,v7,ptr B8,ptr wc.heap.size,.int .i64 ((x.i:Int)+1),ptr W.heap.size,v12,v13,v14,v15,v16,v17,v18,v19,v20,v21,v22,v23,v24,v25,v26,v27,v28,v29,v30,v31,v32,v33,v34,v35,v36,v37,v38,v39],defers:=[] } ((W.alloc (.cells acd.toArray 100)).setCells W.heap.size 0 (spC x)):=fun _ _ _ _ _ _ _ _ _ _ _ _ _ _ _ _ _ _ _ _ _ _ _ _ _ _ _ _ _ _ _ _ _ _ _ _=>
       hk _ _ ⟨hb'.size,fun k o hk hl _=>(hb'.block k (Array.getElem?_eq_some_iff.1 hl).1).trans hl⟩
        ⟨hb'.size,fun b h=>hb'.block b (SV b h),fun b h=>hb'.block b (Nat.lt_of_lt_of_le (hK3 b h) hsz)⟩
        ((atl.abides (by omega) (by omega) HBD.out) _ _ _ _ _ _ _ hi (Turn.of_below hb') (fun b h=> .inl h) (fun b h=> .inl h))
        ht.putObj
        ⟨W.heap.size,_,_,_,_,_,_,_,_,_,_,_,_,_,_,_,_,_,_,_,_,_,_,_,_,_,_,_,_,_,_,_,_,_,_,_,_,rfl,hsz,hE0.whole _ rfl⟩
      have FIN:=hide fin;clear hk fin hb hb' hi ht SV hsz
      simp [anK]
      apply wpIn_seq_k;intro K1 hK1;refine lD (by kernel_rfl) (by rintro ⟨_,_,h⟩;exact h) ?_;go_wp2;refine lD (by kernel_rfl) (by rintro ⟨_,_,h⟩;exact h) ?_
      go_wp2_with (refine fO 100 (.tmp 11) (.tmp 25) rfl ?_;refine dP hE0 (spC x) rfl afC (ajs _) rfl (.tmp 11) (.tmp 25) rfl rfl rfl ?_)
      exact FIN.out _ _ _ _ _ _ _ _ _ _ _ _ _ _ _ _ _ _ _ _ _ _ _ _ _ _ _ _ _ _ _ _ _ _ _ _
     case ip=>exact ⟨h.1.putObj (by omega) hlp hl ho o',h.2.putObj hl ho o'⟩
     case h0=>
      intro W hW;refine ⟨⟨(hb3.trans (hW.mono (by omega))),hW.size,fun b h=>h.elim (fun h=>h.elim) (fun h=>h.elim),?_⟩,⟨.slice none 0 0,hA3.below hW,World.ownsRow_nil _ _ _ _,fun g hg=>by cases hg⟩⟩;intro p hp
      have hp2:p=(B8,aQ (abt g l 0),26)∨p=(w.heap.size+1,aQ Sk.zero,26):=by simpa using hp
      rcases hp2 with rfl | rfl
      · show Held W B8 (aQ (abt g l 0)) 26
        rw [agT];exact hG3.below hW
      · exact hZ3.below hW
     case body=>
      rintro lp X Y pre x a' W hi ht ⟨Be,v0,v1,v2,v3,v4,v5,v6,v7,v12,v13,v14,v15,v16,v17,v18,v19,v20,v21,v22,v23,v24,v25,v26,v27,v28,v29,v30,v31,v32,v33,v34,v35,v36,v37,v38,v39,rfl,hBe,hE⟩ hlt SV hWs
      obtain ⟨v,hV,afT⟩:=hi.2;have hbx:=hi.1.bx;have hF:Held W B8 (aQ (abt g l pre.length)) 26:=hbx (B8,aQ (abt g l pre.length),26) (by simp);have hZ:Held W (w.heap.size+1) (aQ Sk.zero) 26:=hbx (w.heap.size+1,aQ Sk.zero,26) (by simp);have h18:W.rangeAt Be 18 (aQ x.t):=fun j v hj=>hE.cell (asv x.i x.e x.s x.t x.rule j v hj);apply wpIn_block;apply wpIn_seq_k;intro K1 hK1;refine lD (by kernel_rfl) (by rintro ⟨_,_,h⟩;exact h) ?_
      go_wp2_with (first | (refine dA 26 (.tmp 26) rfl ?_;refine iJ (g:=Be) (o:=18) h18 Tryz.underlying26 rfl ak rfl (.tmp 26) rfl rfl ?_) | ((with_reducible refine isS 26 8 27 ?_);refine iZ (hF) (aQ x.t) ak (bI _) ?_))
      obtain ⟨W1,hW1⟩:∃ W1,W.setCells B8 0 (aQ x.t)=W1:=⟨_,rfl⟩
      have hoth:∀ b,b≠B8→W1.heap[b]? =W.heap[b]? :=fun b hb=>by rw [← hW1];exact Held.zq hb _ _ _
      have hs1:W1.heap.size=W.heap.size:=by rw [← hW1];exact setCells_size _ _ _ _
      have hF1:Held W1 B8 (aQ x.t) 26:=by rw [← hW1];exact hF.whole _ rfl
      have hZ1:Held W1 (w.heap.size+1) (aQ Sk.zero) 26:=hZ.blk (hoth _ (by omega));have hE1:=hE.blk (hoth Be (by omega));have hV1:=hV.blk (hoth wc.heap.size (by omega))
      have hT1:Turn (fun b=>b=B8) W W1:=by rw [← hW1];exact ajA (X:=fun b=>b=B8) rfl _ _
      have hown1:ad9 W1 w3.heap.size X Y 154 2 v (ab2 g l pre.length).length (rfC (ab2 g l pre.length)):=⟨yC afT.own (fun g hg=>hoth g (by have:=(Aa afT.own hg).1;omega)),afT.far⟩;rw [hW1]
      have hl0:0≤x.rule∧x.rule≤5:=by rw [ht.rule];exact apD _ _ _
      have hst:=ant ht;have hrf:=au7 ht;have hti:=ht.i;have hlen:=alm g l pre.length;have HI:=hide hi.1;have HST:=hide hst;have HRF:=hide hrf;have HX:=hide SV;have aAc:=HL.out.2.2;have HK3:=hide hK3;have HOW:=hide afT;have hsz3:=hi.1.sz;clear hst hrf SV hi ht hW1 h18 hF hZ hbx hK3 afT;have e31:=hE1.cell (j:=31) rfl;have c9:=hV1.cell (j:=0) rfl;have f9:=hV1.frozen 0;apply wpIn_seq_k;intro K2 hK2;refine lD (by kernel_rfl) (by rintro ⟨_,_,h⟩;exact h) ?_;go_wp2;refine wpIn_cond_split rfl (fun h=>?_) (fun h=>?_)
      · have h0:x.rule≠0:=by simpa using h
        clear h;obtain ⟨i0,hi0,hz0,hz1,hz2⟩:=info_parts ax3;refine lD (by kernel_rfl) (by rintro ⟨_,_,h⟩;exact h) ?_
        go_wp2_with (at_builtin;refine wpList_append_lies _ rfl _ _ _ rfl (w3.heap.size) 154 i0 (.agg #[.int .i64 0,.int .i64 0]) 2 16 Tryz.underlying92 hi0 hz0 hz1 hz2 rfl (by omega) _ _ _ rfl (hown1.own.alloc _) ⟨W.heap.size,0,none⟩ 1 1 [.int .i64 ((pre.length:Int)+1),.int .i64 x.rule] rfl rfl (jU _ _ _ _ hs1) ?c1 (by omega) ?c2 ?c3 ?c4 (W.heap.size+1) (by simp [hs1]) ?_)
        case c1=>simp [Value.oneCell']
        case c2=>simp only [maxLen];omega
        case c3=>omega
        case c4=>simp;omega
        intro g1 cap w4 hown4 hgrow hat hlt4;obtain ⟨hV4,La,YI,BI⟩:=aqH hV1 (by omega) hown1 (fun b hb=>by have:=(HX.out b hb).2;omega) (by omega) hgrow hown4 hat (by omega);have f94:=hV4.frozen 0;have c94:=hV4.cell (j:=0) rfl;have hob:∀ b,v.ownBlock=some b→w3.heap.size≤b:=fun b h=>(Aa hown1.own h).1;have OH:=(hT1.mono (fun b h=> .inl h)).trans (La.mono (X':=fun b=>b=B8∨b=wc.heap.size∨v.ownBlock=some b) (fun b h=> .inr h)) (fun b h=> .inl h)
        have fin:=awo (Ix:=(fun _ _ _ _=>False)) (a:={tmps:= #[],defers:=[] }) (x:=x) HI.out (boxes:=(fun k=>[(B8,aQ (abt g l k),26),(w.heap.size+1,aQ Sk.zero,26)])) (e:=154) (ty:=92) (size:=2) (B:=wc.heap.size) (len:=fun k=>(ab2 g l k).length) (rows:=fun k=>rfC (ab2 g l k)) (by omega) HX.out HK3.out OH (by
         rintro b (h | h | h)
         · refine .inl ⟨by omega,by omega,?_⟩
           rintro (h2 | h2 | ⟨_,h2⟩) <;> omega
         · refine .inl ⟨by omega,by omega,?_⟩
           rintro (h2 | h2 | ⟨_,h2⟩) <;> omega
         · exact .inr (aBe HOW.out h)) (by
         intro p hp
         have hp2:p=(B8,aQ (abt g l (pre.length+1)),26)∨p=(w.heap.size+1,aQ Sk.zero,26):=by simpa using hp
         rcases hp2 with rfl | rfl
         · show Held _ B8 (aQ (abt g l (pre.length+1))) 26
           rw [HST.out]
           exact hF1.turn La (by
            rintro (h2 | h2)
            · omega
            · have:=hob _ h2;omega)
         · exact hZ1.turn La (by
            rintro (h2 | h2)
            · omega
            · have:=hob _ h2;omega)) ⟨_,YI,by
         have e:ab2 g l (pre++[x]).length=ab2 g l pre.length++[⟨(pre.length:Int)+1,x.rule⟩]:=by
          rw [List.length_append,List.length_singleton,HRF.out,if_neg h0]
         dsimp only
         rw [e,List.length_append,List.length_singleton,arZ]
         exact BI⟩
        have FIN:=hide fin;clear fin OH La BI YI hob hE1 hV1 hF1 hZ1 hown1 e31 c9 f9 hgrow hown4;go_wp2;exact FIN.out
      · have h0:x.rule=0:=by simpa using h
        clear h;refine wpIn_skip ?_
        simp only [Exit.inBlock]
        refine awo HI.out (by omega) HX.out HK3.out hT1 ?_ ?_ ⟨v,hV1,?_⟩
        · rintro b rfl
          refine .inl ⟨by omega,by omega,?_⟩
          rintro (h2 | h2 | ⟨_,h2⟩) <;> omega
        · intro p hp
          have hp2:p=(B8,aQ (abt g l (pre.length+1)),26)∨p=(w.heap.size+1,aQ Sk.zero,26):=by simpa using hp
          rcases hp2 with rfl | rfl
          · show Held _ B8 (aQ (abt g l (pre.length+1))) 26
            rw [HST.out];exact hF1
          · exact hZ1
        · rw [List.length_append,List.length_singleton]
          dsimp only
          rw [HRF.out,if_pos h0,List.append_nil];exact hown1
     case done=>
      intro D X Y xs W hD hS hi hdef;obtain ⟨v,hV,afT⟩:=hi.2;have hF:Held W B8 (aQ (abt g l xs.length)) 26:=hi.1.bx (B8,aQ (abt g l xs.length),26) (by simp);have hZ:Held W (w.heap.size+1) (aQ Sk.zero) 26:=hi.1.bx (w.heap.size+1,aQ Sk.zero,26) (by simp);rw [hS,ap9] at hF;rw [hS] at afT
      dsimp only at afT
      rw [ahW] at afT;obtain ⟨A2,c2,rfl⟩:=sU afT.own;have hbw:=hi.1.bw;have hWs:=hi.1.sz
      have hlr:(Sk.aa9 g (Sk.start g) 1 (bare l)).length≤1000:=by have:=alm g l l.length;rw [ahW] at this;have:=HL.out.2.2;omega
      have hrg:∀ W':World,(fun w':World=>(∀ q,w'.cell? ⟨B8,q,none⟩=W.cell? ⟨B8,q,none⟩)∧(∀ q,w'.cell? ⟨wc.heap.size,q,none⟩=W.cell? ⟨wc.heap.size,q,none⟩)) W'→W'.rangeAt B8 0 (aQ (Sk.final g (Sk.start g) (bare l))):=fun W' h j v hj=>by rw [h.1];exact hF.range j v hj
      have c9:=hV.cell (j:=0) rfl;have WB:=hide hdef;have hZ5:=(hZ.drew).whole (aQ (Sk.final g (Sk.start g) (bare l))) rfl;have ho5:∀ b,b≠w.heap.size+1→((W.drew).setCells (w.heap.size+1) 0 (aQ (Sk.final g (Sk.start g) (bare l)))).heap[b]? =W.heap[b]? :=fun b hb=>Held.zq hb (aQ (Sk.final g (Sk.start g) (bare l))) 0 W.drew;have yQ:Below w.heap.size w ((W.drew).setCells (w.heap.size+1) 0 (aQ (Sk.final g (Sk.start g) (bare l)))):=below_setCells _ (by omega) _ _ _ _ (show Below w.heap.size w W.drew from ⟨hbw.os,hbw.tape,hbw.output,hbw.size,hbw.block⟩)
      have fin:∀ (a:Act),a.defers=[{target:= .collected D,args:= #[] }]→a.tmps.getD 4 undef=ptr (w.heap.size+1)→a.tmps.getD 5 undef= .slice A2 (Sk.aa9 g (Sk.start g) 1 (bare l)).length c2→a.tmps.getD 6 undef= .int .i64 0→Q' .ret a ((W.drew).setCells (w.heap.size+1) 0 (aQ (Sk.final g (Sk.start g) (bare l)))):=by
       intro a e1 e4 e5 e6;have hd5:=(ho5 D (by omega)).trans WB.out;rw [← HQ.out];refine vN e1 hd5 (amD (p:=4) (hZ5.putObj hd5 rfl _) Tryz.underlying26 rfl ak rfl _ e4) ⟨A2,c2,?_,?_,qE yQ (by omega) _⟩
       · rw [e5,e6,HE.out,HRS.out.1,HRS.out.2,h0];rfl
       · rw [HRS.out.2]
         exact Reads.Jd (yC afT.own (fun g hg=>by
          have h1:=Aa afT.own hg
          have hne:g≠D:=fun e=>by
           obtain ⟨_,o2,h2,h3⟩:=h1;rw [e,WB.out] at h2;cases h2;cases h3
          exact (World.putObj_heap_other hne).trans (ho5 g (by omega)))) (fun g hg=>by omega) (by omega)
      have FIN:=hide fin;clear fin hZ5 yQ hi hdef afT hV;refine hKQ _ _ ?_
      dsimp only
      refine yK ?_
      go_upto_region 12 with (fail)
      go_cut [5,6] from 38 to 40 (fun v5 v6 wx=>v5= .slice A2 (Sk.aa9 g (Sk.start g) 1 (bare l)).length c2∧v6= .int .i64 0∧wx=((W.drew).setCells (w.heap.size+1) 0 (aQ (Sk.final g (Sk.start g) (bare l)))))
      case first=>
       refine wp_region_held_drew (S:=(fun w':World=>(∀ q,w'.cell? ⟨B8,q,none⟩=W.cell? ⟨B8,q,none⟩)∧(∀ q,w'.cell? ⟨wc.heap.size,q,none⟩=W.cell? ⟨wc.heap.size,q,none⟩))) (by kernel_rfl) ?bU (fun hHeld=>?_)
       case bU=>first | exact hk3 | exact ⟨fun q=>rfl,fun q=>rfl⟩
       refine bP 0 hrg Tryz.underlying26 ?_;refine aA 1 ?_;refine aB 2 fun K hK=>?_;have hk3:(∀ q,((W.drew).setCells (w.heap.size+1) 0 (aQ (Sk.final g (Sk.start g) (bare l)))).cell? ⟨B8,q,none⟩=W.cell? ⟨B8,q,none⟩)∧(∀ q,((W.drew).setCells (w.heap.size+1) 0 (aQ (Sk.final g (Sk.start g) (bare l)))).cell? ⟨wc.heap.size,q,none⟩=W.cell? ⟨wc.heap.size,q,none⟩):=⟨fun q=>World.cell?_of_block (ho5 B8 (by omega)),fun q=>World.cell?_of_block (ho5 wc.heap.size (by omega))⟩;refine aG (hZ.drew) (aQ (Sk.final g (Sk.start g) (bare l))) rfl ak (bI _) (.tmp 4) (.tmp 38) rfl rfl rfl ?_;refine au hK (by first | (first | exact hk3 | exact ⟨fun q=>rfl,fun q=>rfl⟩) | (dsimp only;first | exact hk3 | exact ⟨fun q=>rfl,fun q=>rfl⟩)) fun hHeld=>?_;clear hK K;refine aA 3 ?_;refine aA 4 ?_;refine wpAnyH_done (by kernel_rfl) ?_ _;go_wp2;go_meet;exact ⟨rfl,rfl,rfl⟩
      case rest=>
       obtain ⟨rfl,rfl,rfl⟩:=hcut;go_wp2;exact FIN.out _ rfl rfl rfl rfl
  · have h0':(E != 0)=true:=by simp [h0]
    have hrs:rpS g l=Sk.zero∧rpR g l=[]:=by
     have:=HE.out
     exact ⟨by unfold rpS;rw [if_neg (by rw [this];exact h0)],by unfold rpR;rw [if_neg (by rw [this];exact h0)]⟩
    have HRS:=hide hrs;clear h0 hrs
    go_wp2_with (first | ((with_reducible refine dh 23 2 ?_);refine dO (hB.aj rfl) Tryz.underlying23 fG ?_) | (go_at_call 33;refine (uP.out _ (hp.below hB.bw)).mono ?_;rintro e w1 ⟨rfl,hb1⟩;have hB1:=hB.call (by simp) hb1) | ((with_reducible refine isS 26 4 17 ?_);refine iZ (hB1.get 1 rfl) (aQ Sk.zero) ak (bI _) ?_))
    have hF:=hB1.put 1 rfl (aQ Sk.zero) rfl;rw [← HQ.out];refine akX (amD (p:=4) (hF.get 1 rfl) Tryz.underlying26 rfl ak rfl _ rfl) rfl ⟨none,0,?_,?_,hF.bw⟩
    · rw [HRS.out.1,HRS.out.2,HE.out];rfl
    · rw [HRS.out.2];exact Reads.none_ _ _ _
def auy (a:Int × Int):List Value:=[.int .i64 a.1,.int .i64 a.2]
def RdQ (w:World) (S:Nat→Prop) (A:Option Addr) (c:Nat) (C:List (Int × Int)):Prop:=Reads w S 2 A C.length c (C.flatMap auy)
theorem alx (a b c d:Int) (w:World):(Op.equalIn 10000 24 (.agg #[.int .i64 a,.int .i64 b]) (.agg #[.int .i64 c,.int .i64 d])).run Tryz.prog w= .ok ((a == c) && (b == d)) w:=by
 obtain ⟨i,hi,hz0,hz1,hz2⟩:=info_parts (show (Tryz.prog.info? 3).map (fun i=>(i.zero,i.size,i.bytes))=some (some (.int .i64 0),1,8) by kernel_rfl)
 have hu:Tryz.prog.underlying 24=some (.array 2 3):=by kernel_rfl
 have hui:Tryz.prog.underlying 3=some (.int .i64):=by kernel_rfl
 have hc:Tryz.prog.cellsOf 3=1:=by kernel_rfl
 have h2:List.range 2=[0,1]:=rfl
 have p:∀ (x y:Value) (w:World),(part 3 #[x,y] (0*1)).run Tryz.prog w= .ok x w:=fun x y w=>by kernel_rfl
 have p':∀ (x y:Value) (w:World),(part 3 #[x,y] (1*1)).run Tryz.prog w= .ok y w:=fun x y w=>by kernel_rfl
 have q:∀ (a b:Int) (w:World),(Op.equalIn 9999 3 (.int .i64 a) (.int .i64 b)).run Tryz.prog w= .ok (a == b) w:=fun a b w=>run_equalIn_int w 9998 _ _ _ a b hui;rw [show (10000:Nat)=9999+1 from rfl,run_equalIn_array w 9999 _ _ hu hi,h2,hc]
 unfold Op.eqItems Op.eqItems Op.eqItems
 simp only [Sem.run_bind,p,p',q,Result.andThen_ok]
 have p1:∀ (x y:Value) (w:World),(part 3 #[x,y] 1).run Tryz.prog w= .ok y w:=fun x y w=>by kernel_rfl
 cases h1:(a == c) <;> cases h2:(b == d) <;> simp [q,p1,h2]
theorem am1:Tryz.prog.eqGuardType Tryz.prog.depth 24=false:=by kernel_rfl
def adE (g:Sk.Game) (l:List En) (C:List (Int × Int)):Int:=fst [Sk.aaT g (bare l),jA (decide (C.length≠l.length)) 2]
def adV (g:Sk.Game) (l:List En) (C:List (Int × Int)):Int:=if adE g l C=0 then Sk.aeh g (bare l) C else 0
theorem aoO {g:Sk.Game} {l:List En} {C:List (Int × Int)} (h:adE g l C=0):Sk.aaT g (bare l)=0∧C.length=l.length:=by
 unfold adE at h
 rw [qK] at h
 by_cases h1:Sk.aaT g (bare l)=0
 · rw [if_neg (by simpa using h1)] at h
   refine ⟨h1,?_⟩
   unfold jA at h
   by_cases h2:C.length=l.length
   · exact h2
   · rw [if_pos (by simpa using h2)] at h;cases h
 · rw [if_pos h1] at h;exact absurd h h1
def adF (g:Sk.Game) (l:List En) (C:List (Int × Int)) (k:Nat):Int:=Sk.adg g (abt g l k) (k+1) (bare (l.drop k)) (C.drop k)
theorem avw (g:Sk.Game) (l:List En) (C:List (Int × Int)):adF g l C 0=Sk.aeh g (bare l) C:=by unfold adF;rw [agT];rfl
theorem axl (g:Sk.Game) (l:List En) (C:List (Int × Int)):adF g l C l.length=0:=by unfold adF;rw [List.drop_length];rfl
theorem avo {g:Sk.Game} {l:List En} {C:List (Int × Int)} {k:Nat} (hk:k<l.length) (hc:k<C.length):adF g l C k=if ((abt g l (k+1)).s0 == C[k].1 && (abt g l (k+1)).s1 == C[k].2)=true then adF g l C (k+1) else (k:Int)+1:=by
 unfold adF
 rw [List.drop_eq_getElem_cons hk,List.drop_eq_getElem_cons hc,afe g l k hk]
 show Sk.adg g (abt g l k) (k+1) (l[k].x::bare (l.drop (k+1))) (C[k]::C.drop (k+1))=_
 rw [Sk.adg];obtain ⟨a,b⟩:=C[k]
 have e:(((k+1:Nat):Int)+1)=(k:Int)+1+1:=by push_cast;omega
 rw [e]
 by_cases h:((Sk.step g (abt g l k) l[k].x).s0,(Sk.step g (abt g l k) l[k].x).s1)=(a,b)
 · have h':=h
   injection h' with h1 h2
   rw [if_pos h,if_pos (by simp [h1,h2])]
 · rw [if_neg h,if_neg (by intro hh;rw [Bool.and_eq_true,beq_iff_eq,beq_iff_eq] at hh;exact h (by rw [hh.1,hh.2]))]
def abT (w:World) (g:Sk.Game) (A1:Option Addr) (n c1:Nat) (u6 u7:Value):List (Nat × List Value × TypeId):=
 [(w.heap.size,dN g,23),(w.heap.size+1,[.slice A1 n c1],50),(w.heap.size+2,[u6],3),(w.heap.size+3,[u7],31)]
section
variable {w:World} {D:Nat} {g:Sk.Game} {l:List En} {C:List (Int × Int)} {A1:Option Addr} {n c1:Nat}
theorem aj9 (h9:w.heap.size+4≤D) {u6 u7:Value}:∀ p∈abT w g A1 n c1 u6 u7,p.1<D:=by
 intro p hp
 have hp2:p=(w.heap.size,dN g,23)∨p=(w.heap.size+1,[.slice A1 n c1],50)∨p=(w.heap.size+2,[u6],3)∨p=(w.heap.size+3,[u7],31):=by simpa [abT] using hp
 rcases hp2 with rfl | rfl | rfl | rfl <;> (dsimp only;omega)
theorem ag1 {W:World} {v6 v7:Value} {k:Nat} (h2:k≠w.heap.size+2) (h3:k≠w.heap.size+3):((W.setCell ⟨w.heap.size+2,0,none⟩ v6).setCell ⟨w.heap.size+3,0,none⟩ v7).heap[k]? =W.heap[k]? :=
 (Below.heap_setCell _ _ _ _ h3).trans (Below.heap_setCell _ _ _ _ h2)
theorem amT {W:World} {v6 v7:Value}:W.heap.size≤((W.setCell ⟨w.heap.size+2,0,none⟩ v6).setCell ⟨w.heap.size+3,0,none⟩ v7).heap.size:=
 (((Below.refl 0 W).setCell (p:=⟨w.heap.size+2,0,none⟩) (Nat.zero_le _) v6).setCell (p:=⟨w.heap.size+3,0,none⟩) (Nat.zero_le _) v7).size
theorem aqh {X Y:Nat→Prop} {xs ys:List Stp} {W:World} {u6 u7:Value} (h9:w.heap.size+4≤D) (h:aeY w D (fun _=>abT w g A1 n c1 u6 u7) X Y xs W) (v6 v7:Value):aeY w D (fun _=>abT w g A1 n c1 v6 v7) X Y ys ((W.setCell ⟨w.heap.size+2,0,none⟩ v6).setCell ⟨w.heap.size+3,0,none⟩ v7):=by
 have g0:=h.bx (w.heap.size,dN g,23) (by simp [abT]);have g1:=h.bx (w.heap.size+1,[.slice A1 n c1],50) (by simp [abT]);have g2:Held W (w.heap.size+2) [u6] 3:=h.bx (w.heap.size+2,[u6],3) (by simp [abT]);have g3:Held W (w.heap.size+3) [u7] 31:=h.bx (w.heap.size+3,[u7],31) (by simp [abT]);have a2:Held (W.setCell ⟨w.heap.size+2,0,none⟩ v6) (w.heap.size+2) [v6] 3:=g2.set 0 v6;have b3:Held (W.setCell ⟨w.heap.size+2,0,none⟩ v6) (w.heap.size+3) [u7] 31:=g3.blk (Below.heap_setCell W _ _ _ (by show ¬ _=_;simp));refine ⟨(h.bw.setCell (p:=⟨w.heap.size+2,0,none⟩) (by show _≤w.heap.size+2;omega) v6).setCell (p:=⟨w.heap.size+3,0,none⟩) (by show _≤w.heap.size+3;omega) v7,Nat.le_trans h.sz amT,h.sep,?_⟩;intro p hp
 have hp2:p=(w.heap.size,dN g,23)∨p=(w.heap.size+1,[.slice A1 n c1],50)∨p=(w.heap.size+2,[v6],3)∨p=(w.heap.size+3,[v7],31):=by simpa [abT] using hp
 rcases hp2 with rfl | rfl | rfl | rfl
 · exact g0.blk (ag1 (by omega) (by omega))
 · exact g1.blk (ag1 (by omega) (by omega))
 · exact a2.blk (Below.heap_setCell _ _ _ _ (by show ¬ _=_;simp))
 · exact b3.set 0 v7
def aki (w:World) (D:Nat) (g:Sk.Game) (l:List En) (C:List (Int × Int)) (A1:Option Addr) (c1:Nat) (X Y:Nat→Prop) (xs:List Stp) (W:World):Prop:=
 aeY w D (fun _=>abT w g A1 C.length c1 (.int .i64 0) (.int .i64 0)) X Y xs W∧Sk.aeh g (bare l) C=adF g l C xs.length
theorem aki.abides (h9:w.heap.size+4≤D):sH (aki w D g l C A1 c1):=fun X Y pre W X' Y' W' h ht hX hY=>⟨aeY.abides (by omega) (fun _=>aj9 h9) X Y pre W X' Y' W' h.1 ht hX hY,h.2⟩
end
theorem ajk {W:World} {g h:Nat} {u v:Value} {t1 t2 t3 t4:TypeId} {d1 d2:TypeDesc} {fn:Func} {p q:Tmp} (hg:Held W g [u] t1) (hh:Held W h [v] t2) (hu:Tryz.prog.underlying t3=some d1) (hv:Tryz.prog.underlying t4=some d2) (h1:d1.isRow=false) (h2:d2.isRow=false)
 (hr:fn.results= #[.cell p t3,.cell q t4]) (tmps:Array Value) (hp:tmps.getD p undef=ptr g) (hq:tmps.getD q undef=ptr h):(results fn tmps).run Tryz.prog W= .ok (.tuple #[u,v]) W:=by
 have e:(results fn tmps).run Tryz.prog W=((asAddr (tmps.getD p undef)).run Tryz.prog W).andThen fun a w₁=>((loadVar t3 a).run Tryz.prog w₁).andThen fun v w₂=>((asAddr (tmps.getD q undef)).run Tryz.prog w₂).andThen fun a w₃=>((loadVar t4 a).run Tryz.prog w₃).andThen fun v' w₄=> .ok (.tuple #[v,v']) w₄:=by
  simp only [results,hr]
  simp [Sem.run_bind,Result.andThen]
 rw [e,hp,hq]
 simp only [ptr,asAddr,Sem.run_pure,Result.andThen_ok,af2 hg hu h1,af2 hh hv h2]
theorem agl (S S':Nat→Prop) (g:Sk.Game) (l:List En) (C:List (Int × Int)) (A A1:Option Addr) (c c1:Nat) (w:World) (hp:wF w S A c l) (hc:RdQ w S' A1 c1 C):
 Calls Tryz.prog 15 #[rF g,.slice A l.length c,.slice A1 C.length c1] w fun e w'=>e= .returned (.tuple #[.int .i64 (adV g l C),.int .i64 (adE g l C)])∧Below w.heap.size w w':=by
 refine callsIn_wide.1 (callsIn_of_wp_marks (F:=Fence.wide) (n:=5) Tryz.func15 rfl trivial ?_ rfl)
 simp only [Tryz.ntmps15,List.size_toArray,List.length_cons,List.length_nil,Nat.reduceAdd,Nat.reduceSub,Array.replicate_succ,
  Array.replicate_zero,List.push_toArray,List.append_toArray,List.nil_append,List.cons_append]
 refine wpIn_wide.2 ?_
 generalize hQ':bodyPostM Fence.wide 5 Tryz.prog _ _=Q'
 have HQ:=hide hQ';clear hQ';obtain ⟨d1,d2,d3⟩:=Reads.bd hc;obtain ⟨b1,b2,b3⟩:=hp.bd;refine yK ?_
 go_upto_region 0 with (fail)
 go_cut [3,5,6,7] from 3 to 8 (fun v3 v5 v6 v7 wx=>v3=ptr w.heap.size∧v5=ptr (w.heap.size+1)∧v6=ptr (w.heap.size+2)∧v7=ptr (w.heap.size+3)∧aC w wx [(dN g,23),([.slice A1 C.length c1],50),([.int .i64 0],3),([.int .i64 0],31)])
 case first=>
  go_wp2;go_meet;exact ⟨rfl,rfl,rfl,rfl,(((((aC.nil w).new (by simp) (dN g) _).new (by simp) ([.slice A1 C.length c1]) _).new (by simp) ([.int .i64 0]) _).new (by simp) ([.int .i64 0]) _)⟩
 case rest=>
  obtain ⟨rfl,rfl,rfl,rfl,hB⟩:=hcut;have hsz:=hB.size (by simp)
  simp only [List.length_cons,List.length_nil] at hsz
  have k1:=(hB.get 1 rfl).cell (j:=0) rfl
  have hrG:∀ W:World,(fun w':World=>∀ p q,p<w.heap.size+4→w'.cell? ⟨p,q,none⟩=wc.cell? ⟨p,q,none⟩) W→W.rangeAt w.heap.size 0 (dN g):=fun W h j v hj=>by rw [h _ _ (by omega)];exact (hB.aj rfl).range j v hj
  obtain ⟨bn,hbn⟩:∃ b,((C.length:Int) != (l.length:Int))=b:=⟨_,rfl⟩
  have hEv:fst [Sk.aaT g (bare l),jA bn 2]=adE g l C:=by
   unfold adE
   rw [← hbn];rw [show ((C.length:Int) != (l.length:Int))=decide (C.length≠l.length) by rw [Bool.eq_iff_iff];simp;omega]
  go_upto_region 1 with (fail)
  go_cut [8] from 8 to 22 (fun v8 wx=>v8= .int .i64 (adE g l C)∧aC w wx [(dN g,23),([.slice A1 C.length c1],50),([.int .i64 0],3),([.int .i64 0],31)])
  case first=>
   refine wp_region_held_drew (S:=(fun w':World=>∀ p q,p<w.heap.size+4→w'.cell? ⟨p,q,none⟩=wc.cell? ⟨p,q,none⟩)) (by kernel_rfl) ?bU (fun hHeld=>?_)
   case bU=>exact fun p q h=>rfl
   refine bP 0 hrG Tryz.underlying23 ?_;refine aA 1 ?_;refine aA 3 ?_;refine aA 4 ?_;refine aA 5 ?_;refine aA 6 ?_;refine aA 7 ?_;refine aB 2 fun K hK=>?_;go_simp
   (go_at_call 33;refine (ajZ S g l A c _ (hp.below hB.drew.bw)).mono ?_;rintro e1 w1 ⟨rfl,hb1⟩;have hb8:Below wc.heap.size wc w1:=⟨hb1.os,hb1.tape,hb1.output,hb1.size,hb1.block⟩;have hB1:=hB.drew.call (by simp) hb1)
   refine au hK (fun p q h=>hb8.cell (p:=⟨p,q,none⟩) (Nat.lt_of_lt_of_le h hsz)) fun hHeld=>?_;clear hK K;refine aB 8 fun K hK=>?_;go_simp
   (go_at_call 25;refine (dJ _ _ _).mono ?_;rintro e1 oh ⟨rfl,rfl⟩)
   refine au hK (by first | exact fun p q h=>hb8.cell (p:=⟨p,q,none⟩) (Nat.lt_of_lt_of_le h hsz) | exact fun p q h=>rfl) fun hHeld=>?_;clear hK K;refine aB 9 fun K hK=>?_;go_simp;refine au hK (fun p q h=>(hb8.alloc hb8.size _).cell (p:=⟨p,q,none⟩) (Nat.lt_of_lt_of_le h hsz)) fun hHeld=>?_;clear hK K;refine aB 10 fun K hK=>?_;go_simp
   (go_at_call 23;refine (iO (fun _=>True) _ _ [Sk.aaT g (bare l),jA bn 2] _ (kX.row _ _ [Sk.aaT g (bare l),jA bn 2] (by simp) _ trivial)).mono ?_;rintro e1 oh ⟨rfl,rfl⟩)
   refine au hK (fun p q h=>(hb8.alloc hb8.size _).cell (p:=⟨p,q,none⟩) (Nat.lt_of_lt_of_le h hsz)) fun hHeld=>?_;clear hK K;refine aA 11 ?_;refine wpAnyH_done (by kernel_rfl) ?_ _;go_wp2;go_meet;exact ⟨by first | rfl | rw [hEv],hB1.alloc (by simp) _⟩
  case rest=>
   obtain ⟨rfl,hB1⟩:=hcut;clear hB k1 hrG hsz hEv hbn;obtain ⟨E,hE⟩:∃ E,adE g l C=E:=⟨_,rfl⟩;have HE:=hide hE;rw [hE];clear hE
   by_cases h0:E=0
   · have h0':(E != 0)=false:=by simp [h0]
     have hez:=HE.out.trans h0;have HL:=hide (ajR (aoO hez).1);have YE:=hide (aoO hez).2;have hkn:=Sk.zZ HL.out.1;have HRS:=hide (show adV g l C=Sk.aeh g (bare l) C by unfold adV;rw [if_pos hez]);have aAc:=HL.out.2.2;clear hez
     go_upto_region 4 with (fail)
     have hs3:=hB1.size (by simp)
     simp only [List.length_cons,List.length_nil] at hs3
     go_wp2_with (first | ((with_reducible refine dh 23 3 ?_);refine dO (hB1.aj rfl) Tryz.underlying23 fG ?_) | (go_at_call 34;refine (ahy g _ _ _ _).mono ?_;rintro e w3 ⟨rfl,hC⟩))
     rename_i KQ hKQ
     have hD3:wc.heap.size+2≤w3.heap.size:=by
      have:=hC.size (by simp)
      simp only [List.length_cons,List.length_nil] at this
      omega
     have hb3:=hB1.bw.trans (hC.bw.mono (by omega));have hGm:Held w3 wc.heap.size (dN g) 23:=hC.aj rfl;have azp:Held w3 (wc.heap.size+1) [.slice A l.length c] 38:=hC.get 1 rfl
     have hK3:∀ b,(fun b=>b=wc.heap.size+0∨b=wc.heap.size+1∨(S b∧b<w.heap.size)) b→b<w3.heap.size:=by rintro b (h | h | ⟨_,h⟩) <;> omega
     have hLK:wF w3 (fun b=>b=wc.heap.size+0∨b=wc.heap.size+1∨(S b∧b<w.heap.size)) A c l:=(hp.more (S':=(fun b=>b=wc.heap.size+0∨b=wc.heap.size+1∨(S b∧b<w.heap.size))) (fun b hb h=> .inr (.inr ⟨h,hb⟩))).below hb3;have hG3:Held w3 w.heap.size (dN g) 23:=(hB1.aj rfl).below hC.bw;have hS3:Held w3 (w.heap.size+1) [.slice A1 C.length c1] 50:=(hB1.get 1 rfl).below hC.bw;have hI3:Held w3 (w.heap.size+2) [.int .i64 0] 3:=(hB1.get 2 rfl).below hC.bw;have Ns:Held w3 (w.heap.size+3) [.int .i64 0] 31:=(hB1.get 3 rfl).below hC.bw;refine (wpIn_wide (n:=5)).1 ?_
     refine nV (F:=Fence.wide) rfl (by decide) rfl trivial (fun _ _=>rfl) (agu g l A c (fun b=>b=wc.heap.size+0∨b=wc.heap.size+1∨(S b∧b<w.heap.size)) _ _ 4 w3 (by decide) HL.out.1 HL.out.2.1 HL.out.2.2 hK3 hGm (.inl rfl) azp (.inr (.inl rfl)) hLK) hK3 (Below.refl _ _) (fun _=>rfl) (aki w w3.heap.size g l C A1 c1) (aeY w w3.heap.size (fun _=>abT w g A1 C.length c1 (.int .i64 (Sk.aeh g (bare l) C)) (.int .i64 0))) (aki.abides (by omega)) (aeY.abides (by omega) (fun _=>aj9 (by omega)))
      (fun X Y pre W lp o o' h hlp hl ho=>?ip) (fun X Y pre W lp o o' h hlp hl ho=>h.putObj (by omega) hlp hl ho o') (fun X Y pre x W lp o o' h hlp hl ho=>h.putObj) ?h0 (fun x a W=>∃ Be v0 v1 v2 v3 v4 v8 v11 v12 v13 v14 v15 v16 v17 v18 v19 v20 v21 v22 v23 v24 v25 v26 v27 v28 v29 v30 v31 v32 v33 v34 v35 v36 v37 v38 v39,a= {tmps:= #[v0,v1,v2,v3,v4,ptr (w.heap.size+1),ptr (w.heap.size+2),ptr (w.heap.size+3),v8,.int .i64 ((x.i:Int)+1),ptr Be,v11,v12,v13,v14,v15,v16,v17,v18,v19,v20,v21,v22,v23,v24,v25,v26,v27,v28,v29,v30,v31,v32,v33,v34,v35,v36,v37,v38,v39],defers:=[] }∧w3.heap.size≤Be∧Held W Be (spC x) 100) ?assign ?ap ?body ?done ?stop
     case ap=>
      rintro x a' W lp o o' ⟨Be,v0,v1,v2,v3,v4,v8,v11,v12,v13,v14,v15,v16,v17,v18,v19,v20,v21,v22,v23,v24,v25,v26,v27,v28,v29,v30,v31,v32,v33,v34,v35,v36,v37,v38,v39,e2,h1,h2⟩ hlp hl ho
      exact ⟨Be,v0,v1,v2,v3,v4,v8,v11,v12,v13,v14,v15,v16,v17,v18,v19,v20,v21,v22,v23,v24,v25,v26,v27,v28,v29,v30,v31,v32,v33,v34,v35,v36,v37,v38,v39,e2,h1,h2.putObj hl ho _⟩
     case assign=>
      intro lp X Y pre x W K' hi ht hk SV;have hb:=((Below.refl W.heap.size W).alloc (Nat.le_refl _) (.cells acd.toArray 100));have hb':=below_setCells W.heap.size (Nat.le_refl _) (spC x) 0 _ _ hb;have hE0:=Held.new W acd 100;have hsz:w3.heap.size≤W.heap.size:=?szi
      case szi=>exact hi.1.sz
      have fin:∀ v0 v1 v2 v3 v4 v8 v11 v12 v13 v14 v15 v16 v17 v18 v19 v20 v21 v22 v23 v24 v25 v26 v27 v28 v29 v30 v31 v32 v33 v34 v35 v36 v37 v38 v39:Value,K' {tmps:= #[v0,v1,v2,v3,v4,ptr (w.heap.size+1),ptr (w.heap.size+2),ptr (w.heap.size+3),v8,.int .i64 ((x.i:Int)+1),ptr W.heap.size,v11,v12,v13,v14,v15,v16,v17,v18,v19,v20,v21,v22,v23,v24,v25,v26,v27,v28,v29,v30,v31,v32,v33,v34,v35,v36,v37,v38,v39],defers:=[] } ((W.alloc (.cells acd.toArray 100)).setCells W.heap.size 0 (spC x)):=fun _ _ _ _ _ _ _ _ _ _ _ _ _ _ _ _ _ _ _ _ _ _ _ _ _ _ _ _ _ _ _ _ _ _ _=>
       hk _ _ ⟨hb'.size,fun k o hk hl _=>(hb'.block k (Array.getElem?_eq_some_iff.1 hl).1).trans hl⟩
        ⟨hb'.size,fun b h=>hb'.block b (SV b h),fun b h=>hb'.block b (Nat.lt_of_lt_of_le (hK3 b h) hsz)⟩
        ((aki.abides (by omega)) _ _ _ _ _ _ _ hi (Turn.of_below hb') (fun b h=> .inl h) (fun b h=> .inl h))
        ht.putObj
        ⟨W.heap.size,_,_,_,_,_,_,_,_,_,_,_,_,_,_,_,_,_,_,_,_,_,_,_,_,_,_,_,_,_,_,_,_,_,_,_,rfl,hsz,hE0.whole _ rfl⟩
      have FIN:=hide fin;clear hk fin hb hb' hi ht SV hsz
      simp [anK]
      apply wpIn_seq_k;intro K1 hK1;refine lD (by kernel_rfl) (by rintro ⟨_,_,h⟩;exact h) ?_;go_wp2;refine lD (by kernel_rfl) (by rintro ⟨_,_,h⟩;exact h) ?_
      go_wp2_with (refine fO 100 (.tmp 10) (.tmp 29) rfl ?_;refine dP hE0 (spC x) rfl afC (ajs _) rfl (.tmp 10) (.tmp 29) rfl rfl rfl ?_)
      exact FIN.out _ _ _ _ _ _ _ _ _ _ _ _ _ _ _ _ _ _ _ _ _ _ _ _ _ _ _ _ _ _ _ _ _ _ _
     case ip=>exact ⟨h.1.putObj (by omega) hlp hl ho o',h.2⟩
     case h0=>
      intro W hW;refine ⟨⟨(hb3.trans (hW.mono (by omega))),hW.size,fun b h=>h.elim (fun h=>h.elim) (fun h=>h.elim),?_⟩,(avw g l C).symm⟩;intro p hp
      have hp2:p=(w.heap.size,dN g,23)∨p=(w.heap.size+1,[.slice A1 C.length c1],50)∨p=(w.heap.size+2,[.int .i64 0],3)∨p=(w.heap.size+3,[.int .i64 0],31):=by simpa [abT] using hp
      rcases hp2 with rfl | rfl | rfl | rfl
      · exact hG3.below hW
      · exact hS3.below hW
      · exact hI3.below hW
      · exact Ns.below hW
     case body=>
      rintro lp X Y pre x a' W hi ht ⟨Be,v0,v1,v2,v3,v4,v8,v11,v12,v13,v14,v15,v16,v17,v18,v19,v20,v21,v22,v23,v24,v25,v26,v27,v28,v29,v30,v31,v32,v33,v34,v35,v36,v37,v38,v39,rfl,hBe,hE⟩ hlt SV hWs
      have hbx:=hi.1.bx;have hSc:Held W (w.heap.size+1) [.slice A1 C.length c1] 50:=hbx (w.heap.size+1,[.slice A1 C.length c1],50) (by simp [abT]);have Zl:Held W (w.heap.size+2) [.int .i64 0] 3:=hbx (w.heap.size+2,[.int .i64 0],3) (by simp [abT]);have Zm:Held W (w.heap.size+3) [.int .i64 0] 31:=hbx (w.heap.size+3,[.int .i64 0],31) (by simp [abT])
      have hkC:pre.length<C.length:=by have:=YE.out;omega
      have hrc:=Reads.below hc hi.1.bw;obtain ⟨b,o,rfl,_,hbl,hcs⟩:=Reads.at_ hrc (by omega)
      have h00:W.rangeAt b (o+pre.length*2) [.int .i64 C[pre.length].1,.int .i64 C[pre.length].2]:=fun j v hj=>by
       have h2:=hcs _ _ (xw (f:=auy) (n:=2) (fun _=>rfl) pre.length hkC (j:=j) (v:=v) hj)
       rwa [← Nat.add_assoc] at h2
      have hst:=ant ht;have hstep:=avo (g:=g) (l:=l) (C:=C) hlt hkC;rw [hst] at hstep
      have hsr:∀ W',(fun w':World=>(∀ q,w'.cell? ⟨w.heap.size+1,q,none⟩=W.cell? ⟨w.heap.size+1,q,none⟩)∧∀ b q,b<W.heap.size→w'.cell? ⟨b,q,none⟩=W.cell? ⟨b,q,none⟩) W'→W'.rangeAt Be 19 [.int .i64 x.t.s0,.int .i64 x.t.s1]:=fun W' hS j v hj=>by
       rw [hS.2 Be _ hE.lt]
       have hj2:(aQ x.t)[1+j]? =some v:=by
        match j,hj with
        | 0,hj=>exact hj
        | 1,hj=>exact hj
       have h1:=hE.cell (asv x.i x.e x.s x.t x.rule (1+j) v hj2);rw [show 19+j=18+(1+j) by omega];exact h1
      have hcr:∀ W',(fun w':World=>(∀ q,w'.cell? ⟨w.heap.size+1,q,none⟩=W.cell? ⟨w.heap.size+1,q,none⟩)∧∀ b q,b<W.heap.size→w'.cell? ⟨b,q,none⟩=W.cell? ⟨b,q,none⟩) W'→W'.rangeAt b (o+pre.length*2) [.int .i64 C[pre.length].1,.int .i64 C[pre.length].2]:=fun W' hS j v hj=>by
       rw [hS.2 b _ hbl];exact h00 j v hj
      have k5:=hSc.cell (j:=0) rfl;have hxi:=ht.i
      have i1:(0:Int)≤(pre.length:Int):=by omega
      have i2:(pre.length:Int)<(C.length:Int):=by omega
      have hgp:=am1;have hsc:=fun w=>alx x.t.s0 x.t.s1 C[pre.length].1 C[pre.length].2 w
      have hwr:IntKind.i64.wrap (pre.length:Int)=(pre.length:Int):=by rw [IntKind.wrap_i64];have:=aAc;omega
      have hSZ:=hi.1.sz;have HX:=hide SV;have HIF:=hide hi.2;obtain ⟨bq,hbq⟩:∃ q,(x.t.s0 == C[pre.length].1 && x.t.s1 == C[pre.length].2)=q:=⟨_,rfl⟩;rw [hbq] at hstep
      simp only [hbq] at hsc
      clear hbq hst hcs hrc h00 hbx ht SV
      cases bq with
      | true=>
        have hf2:Sk.aeh g (bare l) C=adF g l C (pre++[x]).length:=by
         rw [HIF.out,hstep,List.length_append,List.length_singleton];rfl
        have hi2:aeY w w3.heap.size (fun _=>abT w g (some ⟨b,o,none⟩) C.length c1 (.int .i64 0) (.int .i64 0)) X Y (pre++[x]) W.drew:=aeY.abides (by omega) (fun _=>aj9 (by omega)) X Y (pre++[x]) W X Y W.drew ⟨hi.1.bw,hi.1.sz,hi.1.sep,hi.1.bx⟩ ⟨rfl,rfl,rfl,Nat.le_refl _,fun _ _ _=>rfl⟩ (fun b h=> .inl h) (fun b h=> .inl h);have fin:∀ a,AX (fun b=>b=wc.heap.size+0∨b=wc.heap.size+1∨(S b∧b<w.heap.size)) w3.heap.size X Y (aki w w3.heap.size g l C (some ⟨b,o,none⟩) c1) (aeY w w3.heap.size (fun _=>abT w g (some ⟨b,o,none⟩) C.length c1 (.int .i64 (Sk.aeh g (bare l) C)) (.int .i64 0))) (pre++[x]) W .normal a W.drew:=fun a=>⟨⟨Nat.le_refl _,fun k o _ hl _=>hl⟩,⟨Nat.le_refl _,fun _ _=>rfl,fun _ _=>rfl⟩,⟨hi2,hf2⟩⟩;have FIN:=hide fin;clear fin hi2 hf2 hstep hi hSc Zl Zm;apply wpIn_block;apply wpIn_seq_k;intro K4 hK4;rw [hxi];refine rG (S:=(fun w':World=>(∀ q,w'.cell? ⟨w.heap.size+1,q,none⟩=W.cell? ⟨w.heap.size+1,q,none⟩)∧∀ b q,b<W.heap.size→w'.cell? ⟨b,q,none⟩=W.cell? ⟨b,q,none⟩)) (by kernel_rfl) (by rintro ⟨_,_,h⟩;exact h) (by kernel_rfl) ?cu (fun hHeld=>?_)
        case cu=>exact ⟨fun q=>rfl,fun b q _=>rfl⟩
        refine aA 0 ?_;refine aA 1 ?_;refine bP 2 hsr Tryz.underlying24 ?_;refine aA 3 ?_;refine aA 4 ?_;refine aA 5 ?_;refine aA 6 ?_;refine bP 7 hcr Tryz.underlying24 ?_;refine aA 8 ?_;refine wpAnyH_done (by kernel_rfl) ?_ _;refine hK4 _ _ ?_;refine wpIn_cond_split rfl (fun h=>by cases h) (fun _=>?_);refine wpIn_skip ?_;exact FIN.out {tmps:= #[],defers:=[] }
      | false=>
        have hf2:Sk.aeh g (bare l) C=(pre.length:Int)+1:=by rw [HIF.out,hstep];rfl
        have p6:=Zl.cell (j:=0) rfl;have pf6:=Zl.frozen 0;have p7:=Zm.cell (j:=0) rfl;have pf7:=Zm.frozen 0;have q1:=aqh (ys:=pre++[x]) (by omega) hi.1 (.int .i64 ((pre.length:Int)+1)) (.int .i64 0);have hi2:=aeY.abides (by omega) (fun _=>aj9 (by omega)) X Y (pre++[x]) _ X Y ((W.setCell ⟨w.heap.size+2,0,none⟩ (.int .i64 ((pre.length:Int)+1))).setCell ⟨w.heap.size+3,0,none⟩ (.int .i64 0)).drew q1 ⟨rfl,rfl,rfl,Nat.le_refl _,fun _ _ _=>rfl⟩ (fun b h=> .inl h) (fun b h=> .inl h)
        have hi3:(aeY w w3.heap.size (fun _=>abT w g (some ⟨b,o,none⟩) C.length c1 (.int .i64 (Sk.aeh g (bare l) C)) (.int .i64 0))) X Y (pre++[x]) ((W.setCell ⟨w.heap.size+2,0,none⟩ (.int .i64 ((pre.length:Int)+1))).setCell ⟨w.heap.size+3,0,none⟩ (.int .i64 0)).drew:=by rw [hf2];exact hi2
        have fin:∀ a,AX (fun b=>b=wc.heap.size+0∨b=wc.heap.size+1∨(S b∧b<w.heap.size)) w3.heap.size X Y (aki w w3.heap.size g l C (some ⟨b,o,none⟩) c1) (aeY w w3.heap.size (fun _=>abT w g (some ⟨b,o,none⟩) C.length c1 (.int .i64 (Sk.aeh g (bare l) C)) (.int .i64 0))) (pre++[x]) W .ret a ((W.setCell ⟨w.heap.size+2,0,none⟩ (.int .i64 ((pre.length:Int)+1))).setCell ⟨w.heap.size+3,0,none⟩ (.int .i64 0)).drew:=fun a=>⟨⟨amT,fun k o hk hl _=>(ag1 (by omega) (by omega)).trans hl⟩,hi3⟩;have FIN:=hide fin;clear fin q1 hi2 hi3 hf2 hstep hi hSc Zl Zm;apply wpIn_block;apply wpIn_seq_k;intro K4 hK4;rw [hxi];refine rG (S:=(fun w':World=>(∀ q,w'.cell? ⟨w.heap.size+1,q,none⟩=W.cell? ⟨w.heap.size+1,q,none⟩)∧∀ b q,b<W.heap.size→w'.cell? ⟨b,q,none⟩=W.cell? ⟨b,q,none⟩)) (by kernel_rfl) (by rintro ⟨_,_,h⟩;exact h) (by kernel_rfl) ?dF (fun hHeld=>?_)
        case dF=>exact ⟨fun q=>rfl,fun b q _=>rfl⟩
        refine aA 0 ?_;refine aA 1 ?_;refine bP 2 hsr Tryz.underlying24 ?_;refine aA 3 ?_;refine aA 4 ?_;refine aA 5 ?_;refine aA 6 ?_;refine bP 7 hcr Tryz.underlying24 ?_;refine aA 8 ?_;refine wpAnyH_done (by kernel_rfl) ?_ _;refine hK4 _ _ ?_;refine wpIn_cond_split rfl (fun _=>?_) (fun h=>by cases h);apply wpIn_seq_k;intro K5 hK5;refine lD (by kernel_rfl) (by rintro ⟨_,_,h⟩;exact h) ?_;go_wp2;refine wpIn_ret ?_;exact FIN.out {tmps:= #[],defers:=[] }
     case done=>
      intro D X Y xs W hD hS hi hdef;have Zl:Held W (w.heap.size+2) [.int .i64 0] 3:=hi.1.bx (w.heap.size+2,[.int .i64 0],3) (by simp [abT]);have Zm:Held W (w.heap.size+3) [.int .i64 0] 31:=hi.1.bx (w.heap.size+3,[.int .i64 0],31) (by simp [abT])
      have hz:Sk.aeh g (bare l) C=0:=by rw [hi.2,hS,axl]
      have p6:=Zl.cell (j:=0) rfl;have pf6:=Zl.frozen 0;have p7:=Zm.cell (j:=0) rfl;have pf7:=Zm.frozen 0;have q1:=aqh (ys:=xs) (by omega) hi.1 (.int .i64 0) (.int .i64 0);have q2:Held _ (w.heap.size+2) [.int .i64 0] 3:=q1.bx (w.heap.size+2,[.int .i64 0],3) (by simp [abT]);have q3:Held _ (w.heap.size+3) [.int .i64 0] 31:=q1.bx (w.heap.size+3,[.int .i64 0],31) (by simp [abT]);have hd:=(ag1 (W:=W) (w:=w) (v6:= .int .i64 0) (v7:= .int .i64 0) (k:=D) (by omega) (by omega)).trans hdef
      have fin:∀ (a:Act),a.defers=[{target:= .collected D,args:= #[] }]→a.tmps.getD 6 undef=ptr (w.heap.size+2)→a.tmps.getD 7 undef=ptr (w.heap.size+3)→Tq Q' .ret a ((W.setCell ⟨w.heap.size+2,0,none⟩ (.int .i64 0)).setCell ⟨w.heap.size+3,0,none⟩ (.int .i64 0)):=by
       intro a e1 e6 e7
       show Q' .ret _ _
       rw [← HQ.out];refine vN e1 hd (ajk (p:=6) (q:=7) (q2.putObj hd rfl _) (q3.putObj hd rfl _) Tryz.underlying3 Tryz.underlying31 rfl rfl rfl _ e6 e7) ⟨?_,qE q1.bw (by omega) _⟩;rw [HRS.out,hz,HE.out,h0]
      have FIN:=hide fin;clear fin q1 q2 q3 hd Zl Zm hi hdef hS hz;refine hKQ _ _ ?_
      dsimp only
      refine yK ?_;go_wp2;exact FIN.out _ rfl rfl rfl
     case stop=>
      intro D X Y pre W hD hSp hx hdef;have q2:Held W (w.heap.size+2) [.int .i64 (Sk.aeh g (bare l) C)] 3:=hx.bx (w.heap.size+2,[.int .i64 (Sk.aeh g (bare l) C)],3) (by simp [abT]);have q3:Held W (w.heap.size+3) [.int .i64 0] 31:=hx.bx (w.heap.size+3,[.int .i64 0],31) (by simp [abT]);refine wpIn_ret ?_
      show Q' .ret _ _
      rw [← HQ.out];refine vN rfl hdef (ajk (p:=6) (q:=7) (q2.putObj hdef rfl _) (q3.putObj hdef rfl _) Tryz.underlying3 Tryz.underlying31 rfl rfl rfl _ rfl rfl) ⟨?_,qE hx.bw (by omega) _⟩;rw [HRS.out,HE.out,h0]
   · have h0':(E != 0)=true:=by simp [h0]
     have HRS:=hide (show adV g l C=0 by unfold adV;rw [if_neg (by rw [HE.out];exact h0)]);clear h0;have p6:=(hB1.get 2 rfl).cell (j:=0) rfl;have pf6:=(hB1.get 2 rfl).frozen 0;have p7:=(hB1.get 3 rfl).cell (j:=0) rfl;have pf7:=(hB1.get 3 rfl).frozen 0;go_wp2;have hF:=(hB1.set 2 rfl 0 (.int .i64 0)).set 3 rfl 0 (.int .i64 E)
     show Q' .ret _ _
     rw [← HQ.out];refine akX (ajk (p:=6) (q:=7) (hF.get 2 rfl) (hF.get 3 rfl) Tryz.underlying3 Tryz.underlying31 rfl rfl rfl _ rfl rfl) rfl ⟨?_,hF.bw⟩;rw [HRS.out,HE.out]
end Go.Proofs.YtcbmedfongiojaaGreatDoor
