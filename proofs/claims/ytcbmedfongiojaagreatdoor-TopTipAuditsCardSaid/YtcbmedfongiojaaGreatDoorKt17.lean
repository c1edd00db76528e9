/- Parts of a proof. -/
import Derived.RangeFuncBound
import Derived.RangeFuncCalls
import Derived.RangeFuncLeaves
import Derived.RangeFuncNested
set_option linter.unusedVariables false
set_option linter.unusedSimpArgs false
namespace Go.Proofs.YtcbmedfongiojaaGreatDoor
open Go.RowKit
structure Turn (X:Nat→Prop) (W W':World):Prop where
 os:W'.os=W.os
 tape:W'.tape=W.tape
 output:W'.output=W.output
 size:W.heap.size≤W'.heap.size
 block:∀ b,b<W.heap.size→¬ X b→W'.heap[b]? =W.heap[b]?
theorem Turn.refl (X:Nat→Prop) (W:World):Turn X W W:=⟨rfl,rfl,rfl,Nat.le_refl _,fun _ _ _=>rfl⟩
theorem Turn.of_below {X:Nat→Prop} {W W':World} (h:Below W.heap.size W W'):Turn X W W':=⟨h.os,h.tape,h.output,h.size,fun b hb _=>h.block b hb⟩
theorem Turn.trans {X X':Nat→Prop} {W W' W2:World} (h:Turn X W W') (k:Turn X' W' W2) (hX:∀ b,X' b→X b∨W.heap.size≤b):Turn X W W2:=
 ⟨k.os.trans h.os,k.tape.trans h.tape,k.output.trans h.output,Nat.le_trans h.size k.size,fun b hb hn=>(k.block b (Nat.lt_of_lt_of_le hb h.size) (fun hx=>(hX b hx).elim hn (by omega))).trans (h.block b hb hn)⟩
theorem Turn.cell {X:Nat→Prop} {W W':World} (h:Turn X W W') {b o:Nat} (hb:b<W.heap.size) (hn:¬ X b):W'.cell? ⟨b,o,none⟩=W.cell? ⟨b,o,none⟩:=World.cell?_of_block (h.block b hb hn)
def JM (W:World) (X X':Nat→Prop):Prop:=∀ b,X' b→X b∨W.heap.size≤b
def sH {α:Type} (J:(Nat→Prop)→(Nat→Prop)→List α→World→Prop):Prop:=
 ∀ X Y pre W X' Y' W',J X Y pre W→Turn X W W'→JM W X X'→JM W Y Y'→J X' Y' pre W'
structure uf (K X Y:Nat→Prop) (W W':World):Prop where
 size:W.heap.size≤W'.heap.size
 block:∀ b,X b∨Y b→W'.heap[b]? =W.heap[b]?
 keep:∀ b,K b→W'.heap[b]? =W.heap[b]?
def Du {α:Type} (F:Fence) (n:Nat) (P:Program) (g:Nat) (lb:Array Value) (encs:α→Array Value) (K:Nat→Prop) (Told:(Nat→Prop)→(Nat→Prop)→List α→α→World→Prop) (S:List α→Prop) (Sp:List α→Prop) (N:Nat) (w:World):Prop:=
 ∀ (l:Nat) (J Jx:(Nat→Prop)→(Nat→Prop)→List α→World→Prop) (W:World),Below w.heap.size w W→sH J→sH Jx→
  (∀ X Y pre x W1,J X Y pre W1→(∀ b,X b∨Y b→W.heap.size≤b∧b<W1.heap.size)→pre.length<N→Told X Y pre x W1→YieldAt F (n - 1) P l (encs x) W1 fun e W'=>
    (e= .returned (.bool true)∧J X Y (pre++[x]) W'∧uf K X Y W1 W')∨(e= .returned (.bool false)∧Jx X Y (pre++[x]) W'))→
  J (fun _=>False) (fun _=>False) [] W→
  CallsIn F n P g (#[.func (.yield l) #[] #[]]++lb) W fun e W'=>(∃ v,e= .returned v)∧((∃ X Y xs,S xs∧J X Y xs W')∨(∃ X Y pre,Sp pre∧Jx X Y pre W'))
def AX {α:Type} (K:Nat→Prop) (B:Nat) (X Y:Nat→Prop) (I Ix:(Nat→Prop)→(Nat→Prop)→List α→World→Prop) (xs:List α) (W:World):Exit→Act→World→Prop
 | .normal,_,W'=>KeepsFrom B W W'∧uf K X Y W W'∧I X Y xs W'
 | .ret,_,W'=>KeepsFrom B W W'∧Ix X Y xs W'
 | _,_,_=>False
variable {F:Fence} {n:Nat} {P:Program}
theorem Ej {B:Nat} {W:World} {l:Nat} (o:Obj) (hl:B≤l):Below B W (W.putObj l o):=⟨rfl,rfl,rfl,by simp,fun k hk=>World.putObj_heap_other (by omega)⟩
theorem nV {α:Type} {g:Operand} {ps:Array Tmp} {assign body:Code} {Q:Exit→Act→World→Prop} {a:Act} {w:World}
 (hro:F.round=none) (h1:1≤n) {gf:Nat} {lb:Array Value} (hg:a.eval g= .func (.func gf) #[] lb) (hFg:F.fn gf) (eg:∀ args w,(callFunc gf args).run P w= .ok (.enter gf args) w)
 {encs:α→Array Value} {K:Nat→Prop} {Told:(Nat→Prop)→(Nat→Prop)→List α→α→World→Prop} {S Sp:List α→Prop} {N:Nat} {w0:World} (hseq:Du F (n - 1) P gf lb encs K Told S Sp N w0)
 (hKn:∀ b,K b→b<w.heap.size) (hb0:Below w0.heap.size w0 w) (hps:∀ x,(encs x).size=ps.size)
 (I Ix:(Nat→Prop)→(Nat→Prop)→List α→World→Prop) (hI:sH I) (hIx:sH Ix)
 (hIp:∀ X Y pre W l o o',I X Y pre W→w.heap.size≤l→W.heap[l]? =some o→o.isCells=false→I X Y pre (W.putObj l o'))
 (Zh:∀ X Y pre W l o o',Ix X Y pre W→w.heap.size≤l→W.heap[l]? =some o→o.isCells=false→Ix X Y pre (W.putObj l o'))
 (hTp:∀ X Y pre x W l o o',Told X Y pre x W→w.heap.size≤l→W.heap[l]? =some o→o.isCells=false→Told X Y pre x (W.putObj l o'))
 (h0:∀ W,Below w.heap.size w W→I (fun _=>False) (fun _=>False) [] W)
 (Ax:α→Act→World→Prop)
 (hassign:∀ (l:Nat) X Y pre (x:α) (W:World) (K':Act→World→Prop),I X Y pre W→Told X Y pre x W→(∀ a' W',KeepsFrom w.heap.size W W'→uf K X Y W W'→I X Y pre W'→Told X Y pre x W'→Ax x a' W'→K' a' W')→(∀ b,X b∨Y b→b<W.heap.size)→
   assign.wpIn (F.inRound l) (n - 1 - 1) P (Exit.then K' (fun _ _ _=>False)) {tmps:=(ps.zip (encs x)).foldl (fun t (p,v)=>t.setIfInBounds p v) a.tmps,defers:=[] } W)
 (hAp:∀ x a' W l o o',Ax x a' W→w.heap.size≤l→W.heap[l]? =some o→o.isCells=false→Ax x a' (W.putObj l o'))
 (hbody:∀ (l:Nat) X Y pre (x:α) (a':Act) (W:World),I X Y pre W→Told X Y pre x W→Ax x a' W→pre.length<N→(∀ b,X b∨Y b→w.heap.size≤b∧b<W.heap.size)→w.heap.size≤W.heap.size→body.wpIn (F.inRound l) (n - 1 - 1) P (AX K w.heap.size X Y I Ix (pre++[x]) W) a' W)
 (hdone:∀ (D:Nat) X Y (xs:List α) (W:World),w.heap.size≤D→S xs→I X Y xs W→W.heap[D]? =some (.deferred (some []))→Q .normal {a with defers:={target:= .collected D,args:= #[] }::a.defers } W)
 (hstop:∀ (D:Nat) X Y (pre:List α) (W:World),w.heap.size≤D→Sp pre→Ix X Y pre W→W.heap[D]? =some (.deferred (some []))→Code.ret.wpIn F n P Q {a with defers:={target:= .collected D,args:= #[] }::a.defers } W):
 (Code.rangeFunc g ps assign body).wpIn F n P Q a w:=by
 refine wpIn_rangeFunc fun fn hfn=>?_;rw [hro];obtain ⟨rc,hrc⟩:∃ rc:LoopState→Option Code→Loop,rc=fun st pe=>{state:=st,pending:=pe,fn,tmps:=a.tmps,params:=ps,assign,body,defers:=w.heap.size }:=⟨_,rfl⟩;obtain ⟨V,hV⟩:∃ V,(w.alloc (.deferred (some []))).alloc (.loop (rc .ready none))=V:=⟨_,rfl⟩
 have hVs:V.heap.size=w.heap.size+2:=by rw [← hV];simp
 have hVb:Below w.heap.size w V:=by rw [← hV];exact ((Below.refl _ w).alloc (Nat.le_refl _) _).alloc (by simp) _
 have hVl:V.heap[w.heap.size+1]? =some (.loop (rc .ready none)):=by
  rw [← hV];have:=World.alloc_heap_new (w.alloc (.deferred (some []))) (.loop (rc .ready none));rwa [World.size_alloc] at this
 have hVd:V.heap[w.heap.size]? =some (.deferred (some [])):=by
  rw [← hV];exact (Below.heap_alloc _ _ _ (by simp)).trans (World.alloc_heap_new w _)
 refine ⟨w.heap.size+1,[{target:= .collected w.heap.size,args:= #[] }],V,{target:= .fn (.func gf) lb,args:= #[.func (.yield (w.heap.size+1)) #[] #[]] },V,gf,
  #[.func (.yield (w.heap.size+1)) #[] #[]]++lb,V,?_,?_,?_,?_,fun _=>h1,?_⟩
 · rw [← hV,hrc];exact run_enterLoop_outer _ _ _ _ _
 · simp only [resolve,hg]
   simp [go_sem]
 · intro f' hf';simp [Target.leads] at hf';subst hf';exact hFg
 · simp [invoke,go_sem,eg]
 · -- what lies aside:the record in some state,the block for the deferred calls;both are the law's own
   have aside:∀ {R:Obj} {X X':Nat→Prop} {A B:World},(¬ X (w.heap.size+1)∧¬ X w.heap.size∧A.heap[w.heap.size+1]? =some R∧A.heap[w.heap.size]? =some (.deferred (some [])))→Turn X A B→JM A X X'→
    ¬ X' (w.heap.size+1)∧¬ X' w.heap.size∧B.heap[w.heap.size+1]? =some R∧B.heap[w.heap.size]? =some (.deferred (some [])):=by
    rintro R X X' A B ⟨x1,x2,h3,h4⟩ ht hX
    have l1:=(Array.getElem?_eq_some_iff.1 h3).1;exact ⟨fun h=>(hX _ h).elim x1 (by omega),fun h=>(hX _ h).elim x2 (by omega),(ht.block _ l1 x1).trans h3,(ht.block _ (by omega) x2).trans h4⟩
   refine (hseq (w.heap.size+1)
    (fun X Y pre W=>I X Y pre W∧(¬ X (w.heap.size+1)∧¬ X w.heap.size∧W.heap[w.heap.size+1]? =some (.loop (rc .ready none))∧W.heap[w.heap.size]? =some (.deferred (some []))))
    (fun X Y pre W=>Ix X Y pre W∧(¬ X (w.heap.size+1)∧¬ X w.heap.size∧W.heap[w.heap.size+1]? =some (.loop (rc .done (some .ret)))∧W.heap[w.heap.size]? =some (.deferred (some []))))
    V (hb0.trans (hVb.mono hb0.size))
    (fun X Y pre A X' Y' B h ht hX hY=>⟨hI X Y pre A X' Y' B h.1 ht hX hY,aside h.2 ht hX⟩)
    (fun X Y pre A X' Y' B h ht hX hY=>⟨hIx X Y pre A X' Y' B h.1 ht hX hY,aside h.2 ht hX⟩)
    ?_ ⟨h0 V hVb,by simp,by simp,hVl,hVd⟩).mono ?_
   · rintro X Y pre x W ⟨hi,hx1,hx2,hl,hd⟩ SV hlen ht
     have hXw:∀ b,X b∨Y b→w.heap.size+2≤b∧b<W.heap.size:=fun b hb=>by have:=SV b hb;omega
     have hlt:w.heap.size+1<W.heap.size:=(Array.getElem?_eq_some_iff.1 hl).1;have hy:=run_yield (P:=P) (args:=encs x) hl (by rw [hrc];exact hps x);rw [hrc] at hy;refine ⟨fn,_,assign,body,hy,roundIn_of_wpIn hfn (hassign _ X Y pre x W _ hi ht ?_ (fun b hb=>(hXw b hb).2))⟩;intro a' W1 XM rk1 hi1 ht1 ahR;have hl1:W1.heap[w.heap.size+1]? =some (.loop (rc .ready none)):=XM.same _ _ (by omega) hl rfl;have hd1:W1.heap[w.heap.size]? =some (.deferred (some [])):=XM.same _ _ (Nat.le_refl _) hd rfl;have hlt1:w.heap.size+1<W1.heap.size:=(Array.getElem?_eq_some_iff.1 hl1).1;refine ⟨_,run_beginRound hl1 (by rw [hrc]),?_⟩;obtain ⟨W2,hW2⟩:∃ W2,W1.putObj (w.heap.size+1) (.loop {rc .ready none with state:= .busy })=W2:=⟨_,rfl⟩
     have hl2:W2.heap[w.heap.size+1]? =some (.loop {rc .ready none with state:= .busy }):=by rw [← hW2];exact World.putObj_heap_same hlt1
     have hd2:W2.heap[w.heap.size]? =some (.deferred (some [])):=by rw [← hW2];exact (World.putObj_heap_other (by omega)).trans hd1
     have hs2:W2.heap.size=W1.heap.size:=by rw [← hW2];simp
     have hX2:∀ b,X b∨Y b→W2.heap[b]? =W1.heap[b]? :=fun b hb=>by rw [← hW2];exact World.putObj_heap_other (by have:=hXw b hb;omega)
     have hK2:∀ b,K b→W2.heap[b]? =W1.heap[b]? :=fun b hb=>by rw [← hW2];exact World.putObj_heap_other (by have:=hKn b hb;omega)
     rw [hW2]
     have hbd:=hbody (w.heap.size+1) X Y pre x a' W2 (by rw [← hW2];exact hIp _ _ _ _ _ _ _ hi1 (by omega) hl1 rfl) (by rw [← hW2];exact hTp _ _ _ _ _ _ _ _ ht1 (by omega) hl1 rfl) (by rw [← hW2];exact hAp _ _ _ _ _ _ ahR (by omega) hl1 rfl) hlen
      (fun b hb=>by have:=hXw b hb;have:=rk1.size;omega) (by omega)
     refine wpIn_mono hbd ?_
     have fin:∀ (jump:Option Code) (W3:World),KeepsFrom w.heap.size W2 W3→∃ W4,(Instr.endRound (w.heap.size+1) jump).run P W3= .ok (.bool jump.isNone) W4∧W4=W3.putObj (w.heap.size+1) (.loop (rc (if jump.isNone then .ready else .done) jump))∧
      W3.heap[w.heap.size+1]? =some (.loop {rc .ready none with state:= .busy })∧W4.heap[w.heap.size+1]? =some (.loop (rc (if jump.isNone then .ready else .done) jump))∧W4.heap[w.heap.size]? =some (.deferred (some [])):=by
      intro jump W3 hk3;have hl3:=hk3.same _ _ (by omega) hl2 rfl;have hd3:=hk3.same _ _ (Nat.le_refl _) hd2 rfl;have hr:=run_endRound (P:=P) jump hl3;refine ⟨_,hr,?_,hl3,?_,(World.putObj_heap_other (by omega)).trans hd3⟩
      · rw [hrc]
      · rw [World.putObj_heap_same (Array.getElem?_eq_some_iff.1 hl3).1,hrc]
     rintro e a3 W3 hp
     cases e with
     | normal=>
       obtain ⟨hk3,hr3,hi3⟩:=hp;obtain ⟨W4,hrun,YJ,hl3,hl4,hd4⟩:=fin none W3 hk3;refine ⟨_,_,hrun,.inl ⟨rfl,⟨by rw [YJ];exact hIp _ _ _ _ _ _ _ hi3 (by omega) hl3 rfl,hx1,hx2,hl4,hd4⟩,?_,?_,?_⟩⟩
       · rw [YJ];have:=rk1.size;have:=hr3.size;simp;omega
       · intro b hb
         rw [YJ,World.putObj_heap_other (by have:=hXw b hb;omega),hr3.block b hb,hX2 b hb,rk1.block b hb]
       · intro b hb
         rw [YJ,World.putObj_heap_other (by have:=hKn b hb;omega),hr3.keep b hb,hK2 b hb,rk1.keep b hb]
     | ret=>
       obtain ⟨hk3,hi3⟩:=hp;obtain ⟨W4,hrun,YJ,hl3,hl4,hd4⟩:=fin (some .ret) W3 hk3;exact ⟨_,_,hrun,.inr ⟨rfl,by rw [YJ];exact Zh _ _ _ _ _ _ _ hi3 (by omega) hl3 rfl,hx1,hx2,hl4,hd4⟩⟩
     | exit id=>exact hp.elim
     | goto t=>exact hp.elim
     | panic ch=>exact hp.elim
     | outgrown=>exact hp.elim
   · rintro e W2 ⟨⟨v,rfl⟩,(⟨X,Y,xs,hS,hi,_,_,hl,hd⟩ | ⟨X,Y,pre,hSp,hi,_,_,hl,hd⟩)⟩
     · have hend:=run_endLoop (P:=P) hl (by rw [hrc];simp)
       rw [hrc] at hend;exact ⟨none,_,hend,hdone w.heap.size X Y xs _ (Nat.le_refl _) hS (hIp _ _ _ _ _ _ _ hi (by omega) hl rfl) ((World.putObj_heap_other (by omega)).trans hd)⟩
     · have hend:=run_endLoop (P:=P) hl (by rw [hrc];simp)
       rw [hrc] at hend;exact ⟨some .ret,_,hend,hstop w.heap.size X Y pre _ (Nat.le_refl _) hSp (Zh _ _ _ _ _ _ _ hi (by omega) hl rfl) ((World.putObj_heap_other (by omega)).trans hd)⟩
end Go.Proofs.YtcbmedfongiojaaGreatDoor
