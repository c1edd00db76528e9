/- Parts of a proof. -/
import Derived.Test.YtcjglfbpjkdgiaaGreatDoorKk40
import Derived.Test.YtcjglfbpjkdgiaaGreatDoorKk42
set_option maxHeartbeats 8000000
set_option maxRecDepth 100000
set_option linter.unusedVariables false
set_option linter.unusedSimpArgs false
namespace Go.Proofs.YtcjglfbpjkdgiaaGreatDoor
open Go.RowKit
theorem uT {P:Program} {w w':World} {n:String} {cs:Array Value} (h:w.var? P n=some cs) (hb:∀ b,b<w.heap.size→w'.heap[b]? =w.heap[b]?):w'.var? P n=some cs:=by
 unfold World.var? at h ⊢
 cases hg:P.globalNamed n with
 | none=>rw [hg] at h;cases h
 | some g=>
   rw [hg] at h
   simp only [Option.bind_some] at h ⊢
   cases ho:w.heap[g]? with
   | none=>rw [ho] at h;cases h
   | some o=>
     have hlt:g<w.heap.size:=(Array.getElem?_eq_some_iff.1 ho).1;rw [hb g hlt];exact h
theorem Glob.Qo {w w':World} (h:Glob w) (hb:∀ b,b<w.heap.size→w'.heap[b]? =w.heap[b]?):Glob w':=by
 obtain ⟨m,hm⟩:=h.n;obtain ⟨t1,p1,h1⟩:=h.es;obtain ⟨t2,p2,h2⟩:=h.er;have hlt:1<w.heap.size:=Lib.lt_of_cell hm;exact ⟨⟨m,(World.cell?_of_block (hb 1 hlt)).trans hm⟩,⟨t1,p1,uT h1 hb⟩,⟨t2,p2,uT h2 hb⟩,uT h.tab hb⟩
def Valid (s:ByteArray):Prop:=∀ W,Glob W→Calls Tryz.prog 163 #[.string s] W fun e w'=>e= .returned (.int .i64 0)∧Below W.heap.size W w'
def Ns (_:Nat):Array Value:= #[.int .i64 0]
theorem PN (S:Nat→Prop) (A:Option Addr) (c:Nat) (xs:List ByteArray) (Bt n:Nat) (w:World) (hn:1≤n) (hg:Glob w) (hBt:Held w Bt [.slice A xs.length c] 327) (hL:Reads w S 1 A xs.length c (xs.map Value.string)) (hV:∀ s∈xs,Valid s):
 AZ (iL none) n Tryz.prog 277 #[ptr Bt] Ns (fun b=>b<w.heap.size) (fun _ _ pre x _=>x=pre.length∧x<xs.length) (fun ys=>ys=List.range xs.length) (fun _=>True) xs.length w:=by
 intro l0 J Jx W hW hJ hJx hY h0;refine ji ?_;have hBW:=hBt.below hW;have hL':Reads w (fun b=>b<w.heap.size) 1 A xs.length c (xs.map Value.string):=hL.more (fun b h _=>h);have hKb:∀ b,b<w.heap.size→W.heap[b]? =w.heap[b]? :=fun b h=>hW.block b h;have HY:=hide hY;have hbt:=hBt.lt;clear hY;have k0:=hBW.cell (j:=0) rfl;have EK:=hBW.frozen 0
 go_enter Tryz.func277,Tryz.ntmps277
 go_wp2
 go_loopw [7] (fun i wr=>∃ k:Nat,k≤xs.length∧i= .int .i64 k∧J (fun _=>False) (fun _=>False) (List.range k) wr∧W.heap.size≤wr.heap.size∧∀ b,b<w.heap.size→wr.heap[b]? =w.heap[b]?) (fun i _=>xs.length - (intOf i).toNat)
 case atStart=>exact ⟨0,by omega,rfl,h0,Nat.le_refl _,hKb⟩
 case round=>
  obtain ⟨k,hk,rfl,hj,hsz,hkp⟩:=hrel
  by_cases hlt:k<xs.length
  · have hgr:Glob wr:=hg.Qo hkp
    have hLr:=hL'.keep (Nat.le_trans hW.size hsz) (fun b o hb _=>World.cell?_of_block (hkp b hb));obtain ⟨b1,b2,b3⟩:=hLr.bd;obtain ⟨b,o,rfl,_,hbl,hc⟩:=hLr.at_ (by omega);have hck:=hc k (.string xs[k]) (by rw [List.getElem?_map,List.getElem?_eq_getElem hlt];rfl);have hv:=hV _ (List.getElem_mem hlt);obtain ⟨s,hs⟩:∃ s,xs[k]=s:=⟨_,rfl⟩;rw [hs] at hck hv;have HV:=hide (hv wr hgr);clear hc hs hv k0 EK hL hL' hLr hBt;have TY:decide ((k:Int)<(xs.length:Int))=true:=decide_eq_true (by omega)
    go_upto_region 3 with (fail)
    go_cut [15] from 10 to 15 (fun v wx=>(v= .bool false∧J (fun _=>False) (fun _=>False) (List.range (k+1)) wx∧wr.heap.size≤wx.heap.size∧∀ b,b<w.heap.size→wx.heap[b]? =w.heap[b]?)∨(v= .bool true∧Jx (fun _=>False) (fun _=>False) (List.range (k+1)) wx))
    case first=>
     refine (wpIn_wide (n:=n)).1 ?_;have ake:(iL none).round=none:=rfl;have ajo:(iL none).depth=none:=rfl;have ajC:∀ f,(iL none).fn f=True:=fun _=>rfl;have aD9:Fence.wide.round=none:=rfl;have aDH:Fence.wide.depth=none:=rfl;have aDO:∀ f,Fence.wide.fn f=True:=fun _=>rfl;refine wpIn_region_lit ?_
     gi_wp2_with (gi_at_call 163;refine (ji HV.out).mono ?_;rintro e w2 ⟨rfl,hb2⟩;obtain ⟨fn',Zq,assign',body',hy,hR⟩:=HY.out (fun _=>False) (fun _=>False) (List.range k) k w2 (hJ _ _ _ _ _ _ _ hj (Turn.of_below hb2) (fun b h=>h.elim) (fun b h=>h.elim)) (fun b h=>h.elim (fun h=>h.elim) (fun h=>h.elim)) (by rw [List.length_range];exact hlt) ⟨List.length_range.symm,hlt⟩;rw [show Ns k= #[.int .i64 0] from rfl] at hy)
     refine hR.mono ?_
     rintro e4 W4 (⟨rfl,TM,hk4⟩ | ⟨rfl,xE⟩)
     · gi_wp2
       go_meet;exact .inl ⟨rfl,by rw [List.range_succ];exact TM,Nat.le_trans hb2.size hk4.size,fun b hb=>(hk4.keep b hb).trans ((hb2.block b (Nat.lt_of_lt_of_le hb (Nat.le_trans hW.size hsz))).trans (hkp b hb))⟩
     · gi_wp2
       go_meet;exact .inr ⟨rfl,by rw [List.range_succ];exact xE⟩
    case rest=>
     rcases hcut with ⟨rfl,TM,hs4,hk4⟩ | ⟨rfl,xE⟩
     · go_wp2
       go_roundw
       case rel=>exact ⟨k+1,by omega,by go_num,TM,Nat.le_trans hsz hs4,hk4⟩
       case measure=>simp [intOf];omega
     · go_wp2
       refine bodyPost_ret (results_none rfl _ _ _) rfl ?_
       first | exact ⟨⟨_,rfl⟩,.inr ⟨_,_,_,trivial,xE⟩⟩ | exact ⟨⟨_,rfl⟩,.inr ⟨_,_,_,xE⟩⟩
  · obtain rfl:k=xs.length:=by omega
    go_wp2
    go_end0
    first | exact ⟨⟨_,rfl⟩,.inl ⟨_,_,hj⟩⟩ | exact ⟨⟨_,rfl⟩,.inl ⟨_,_,_,rfl,hj⟩⟩
theorem Me (A:Option Addr) (n c:Nat) (w:World):
 Calls Tryz.prog 270 #[.slice A n c] w fun e w'=>e= .returned (.func (.func 277) #[] #[ptr w.heap.size])∧aX w w' [([.slice A n c],327)]:=by
 go_enter Tryz.func270,Tryz.ntmps270
 go_wp2;go_ret;exact ⟨rfl,(aX.nil w).new (by simp) ([.slice A n c]) _⟩
structure YV (w:World) (D:Nat) (X Y:Nat→Prop) (pre:List Nat) (W:World):Prop where
 b:aX w W [([.int .i64 0],39)]
 sz:D≤W.heap.size
 sep:∀ b,X b∨Y b→D≤b
theorem YV.abides (w:World) (D:Nat) (hD:w.heap.size+1≤D):kZ (YV w D):=by
 intro X Y pre W X' Y' W' h ht hX hY;refine ⟨h.b.turn ht (fun b hb=>by have:=h.sep b (.inl hb);simp;omega) (by have:=h.sz;omega),Nat.le_trans h.sz ht.size,?_⟩
 rintro b (hb | hb)
 · rcases hX b hb with h2 | h2
   · exact h.sep b (.inl h2)
   · exact Nat.le_trans h.sz h2
 · rcases hY b hb with h2 | h2
   · exact h.sep b (.inr h2)
   · exact Nat.le_trans h.sz h2
theorem YV.putObj {w:World} {D:Nat} {X Y:Nat→Prop} {pre:List Nat} {W:World} {lp:Nat} {o:Obj} (h:YV w D X Y pre W) (hD:w.heap.size≤D) (hlp:D≤lp) (hl:W.heap[lp]? =some o) (ho:o.isCells=false) (o':Obj):YV w D X Y pre (W.putObj lp o'):=
 ⟨h.b.putObj (by omega) hl ho o',by simpa using h.sz,h.sep⟩
theorem Tc {W:World} {g:Nat} {u:Value} {t1 t3:TypeId} {d1:TypeDesc} {fn:Func} {p:Tmp} (hg:Held W g [u] t1) (hu:Tryz.prog.underlying t3=some d1) (h1:d1.isRow=false)
 (hr:fn.results= #[.cell p t3]) (tmps:Array Value) (hp:tmps.getD p undef=ptr g):(results fn tmps).run Tryz.prog W= .ok u W:=by
 have e:(results fn tmps).run Tryz.prog W=((asAddr (tmps.getD p undef)).run Tryz.prog W).andThen fun a w₁=>(loadVar t3 a).run Tryz.prog w₁:=by
  simp only [results,hr]
  simp [Sem.run_bind,Result.andThen]
 rw [e,hp]
 simp only [ptr,asAddr,Sem.run_pure,Result.andThen_ok,pK hg hu h1]
theorem FI (S:Nat→Prop) (A:Option Addr) (c:Nat) (xs:List ByteArray) (w:World) (hg:Glob w) (hL:Reads w S 1 A xs.length c (xs.map Value.string)) (hV:∀ s∈xs,Valid s):
 Calls Tryz.prog 245 #[.slice A xs.length c] w fun e w'=>e= .returned (.int .i64 0)∧Below w.heap.size w w':=by
 refine callsIn_wide.1 (callsIn_of_wp_marks (F:=Fence.wide) (n:=5) Tryz.func245 rfl trivial ?_ rfl)
 simp only [Tryz.ntmps245,List.size_toArray,List.length_cons,List.length_nil,Nat.reduceAdd,Nat.reduceSub,Array.replicate_succ,
  Array.replicate_zero,List.push_toArray,List.append_toArray,List.nil_append,List.cons_append]
 refine wpIn_wide.2 ?_
 generalize hQ':bodyPostM Fence.wide 5 Tryz.prog _ _=Q'
 have HQ:=hide hQ';clear hQ';obtain ⟨n0,hn0⟩:∃ n,xs.length=n:=⟨_,rfl⟩;have HN:=hide hn0;rw [hn0];clear hn0
 go_upto_region 0 with (fail)
 go_cut [2] from 2 to 3 (fun v2 w1=>v2=ptr w.heap.size∧aX w w1 [([.int .i64 0],39)])
 case first=>
  go_wp2;go_meet;exact ⟨rfl,((aX.nil w).new (by simp) ([.int .i64 0]) _)⟩
 case rest=>
  obtain ⟨rfl,hB⟩:=hcut
  rename World=>w1
  have hs1:=hB.size (by simp)
  simp only [List.length_cons,List.length_nil] at hs1
  go_wp2_with (go_at_call 270;refine (Me A n0 c _).mono ?_;rintro e w3 ⟨rfl,hC⟩)
  have hs3:=hC.size (by simp)
  simp only [List.length_cons,List.length_nil] at hs3
  have hB3:=hB.upto hC.bw (by simpa using hs1);have hb3:Below w.heap.size w w3:=hB3.bw;have hg3:=hg.below hb3;have hR3:Reads w3 S 1 A xs.length c (xs.map Value.string):=hL.below hb3
  have hC0:Held w3 w1.heap.size [.slice A xs.length c] 327:=by rw [HN.out];exact hC.ah rfl
  rename_i KQ TN;refine (wpIn_wide (n:=5)).1 ?_
  refine fV (F:=Fence.wide) rfl (by decide) rfl trivial (enters_of Tryz.func277 (by kernel_rfl) rfl) (PN S A c xs w1.heap.size 4 w3 (by decide) hg3 hC0 hR3 hV) (fun b h=>h) (Below.refl _ _) (fun _=>rfl) (YV w w3.heap.size) (fun _ _ _ _=>False) (YV.abides w w3.heap.size (by omega)) (fun _ _ _ _ _ _ _ h _ _ _=>h)
   (fun X Y pre W lp o o' h hlp hl ho=>h.putObj (by omega) hlp hl ho o') (fun _ _ _ _ _ _ _ h _ _ _=>h) (fun X Y pre x W lp o o' h hlp hl ho=>h) ?h0 (fun x a W=>∃ v0 v1 v4 v5 v6 v7 v8 v9,a= {tmps:= #[v0,v1,ptr w.heap.size,.int .i64 0,v4,v5,v6,v7,v8,v9],defers:=[] }) ?assign ?ap ?body ?done ?stop
  case h0=>
   intro W hW;exact ⟨hB3.upto hW (by simp;omega),hW.size,fun b h=>h.elim (fun h=>h.elim) (fun h=>h.elim)⟩
  case ap=>
   rintro x a' W lp o o' ⟨v0,v1,v4,v5,v6,v7,v8,v9,e2⟩ hlp hl ho
   exact ⟨v0,v1,v4,v5,v6,v7,v8,v9,e2⟩
  case stop=>exact fun _ _ _ _ _ _ _ h _=>h.elim
  case assign=>
   intro lp X Y pre x W K' hi ht hk uy
   have fin:∀ v0 v1 v4 v5 v6 v7 v8 v9:Value,K' {tmps:= #[v0,v1,ptr w.heap.size,.int .i64 0,v4,v5,v6,v7,v8,v9],defers:=[] } W:=fun _ _ _ _ _ _ _ _=>
    hk _ _ ⟨Nat.le_refl _,fun k o hk hl _=>hl⟩ ⟨Nat.le_refl _,fun b h=>rfl,fun b h=>rfl⟩ hi ht ⟨_,_,_,_,_,_,_,_,rfl⟩
   have FIN:=hide fin;clear hk fin hi ht uy
   simp [Ns]
   refine bH (by kernel_rfl) (by rintro ⟨_,_,h⟩;exact h) ?_;go_wp2;exact FIN.out _ _ _ _ _ _ _ _
  case body=>
   rintro lp X Y pre x a' W hi ht ⟨v0,v1,v4,v5,v6,v7,v8,v9,rfl⟩ hlt uy hWs
   have FIN:Hid (∀ a:Act,o8 (fun b=>b<w3.heap.size) w3.heap.size X Y (YV w w3.heap.size) (fun _ _ _ _=>False) (pre++[x]) W .normal a W):=hide (fun a=>⟨⟨Nat.le_refl _,fun k o hk hl _=>hl⟩,⟨Nat.le_refl _,fun b h=>rfl,fun b h=>rfl⟩,⟨hi.b,hi.sz,hi.sep⟩⟩);clear hi ht uy;apply wpIn_block;apply wpIn_seq_k;intro K1 hK1;refine bH (by kernel_rfl) (by rintro ⟨_,_,h⟩;exact h) ?_;go_wp2;refine wpIn_cond_split rfl (fun h=>?_) (fun h=>?_)
   · cases h
   · refine wpIn_skip ?_;exact FIN.out {tmps:= #[],defers:=[] }
  case done=>
   intro D X Y xs' W hD hS hi hdef;have Y7:=hi.b;have hc9:=(Y7.ah rfl).cell (j:=0) rfl;have hf9:=(Y7.ah rfl).frozen 0
   have hD':w.heap.size≤D:=by omega
   have hne:D≠w.heap.size:=by omega
   have yN:=hide hdef;clear hi hS hdef;refine TN _ _ ?_
   dsimp only
   refine kY ?_;go_wp2;have hZ:=Y7.set 0 rfl 0 (.int .i64 0);have hdz:=(Below.heap_setCell W ⟨w.heap.size,0,none⟩ (.int .i64 0) D hne).trans yN.out
   show Q' .ret _ _
   rw [← HQ.out];exact jA rfl hdz (Tc (p:=2) ((hZ.ah rfl).putObj hdz rfl _) Tryz.underlying39 rfl rfl _ rfl) ⟨rfl,fJ hZ.bw hD' _⟩
theorem Reads.lit (W:World) (t:TypeId) (S:Nat→Prop) (size n:Nat) (vs:List Value) (hn:n≤1000) (hl:vs.length=n*size) (hS:S W.heap.size):Reads (W.alloc (.cells vs.toArray t)) S size (some ⟨W.heap.size,0,none⟩) n n vs:=
 ⟨Nat.le_refl _,by omega,by omega,hl,fun _=>⟨W.heap.size,0,rfl,hS,by simp,fun j u hu=>by
  have:=dJ W t vs W.heap.size rfl j u hu
  rwa [oC] at this⟩⟩
theorem Ap (S:Nat→Prop) (A:Option Addr) (c:Nat) (x y:ByteArray) (w:World) (hg:Glob w) (hL:Reads w S 2 A 1 c [.string x,.string y]) (hx:Valid x) (hy:Valid y):
 Calls Tryz.prog 208 #[.slice A 1 c] w fun e w'=>e= .returned (.int .i64 0)∧Below w.heap.size w w':=by
 obtain ⟨b,o,rfl,_,hb,hc⟩:=hL.at_ (by omega);have c0:=hc 0 _ rfl;have c1:=hc 1 _ rfl;rw [Nat.add_zero] at c0;clear hc
 have HC:∀ (W:World) (G:Nat),Glob W→W.heap.size=G→Calls Tryz.prog 245 #[.slice (some ⟨G,0,none⟩) 2 2] (W.alloc (.cells #[.string x,.string y] 145)) fun e w'=>e= .returned (.int .i64 0)∧Below W.heap.size W w':=fun W G h hG=>by
  subst hG;have h2:Below W.heap.size W (W.alloc (.cells #[.string x,.string y] 145)):=(Below.refl _ _).alloc (Nat.le_refl _) _;refine (FI (fun _=>True) _ 2 [x,y] _ (h.below h2) (Reads.lit W _ _ 1 2 [.string x,.string y] (by omega) rfl trivial) (fun s hs=>by simp at hs;rcases hs with rfl | rfl <;> assumption)).mono ?_
  rintro e w' ⟨rfl,hb⟩
  exact ⟨rfl,h2.trans (hb.mono h2.size)⟩
 have HC:=hide HC;have HV:=hide (fun s (hs:s∈[x,y])=>show Valid s by simp at hs;rcases hs with rfl | rfl <;> assumption);clear hx hy hL
 go_enter Tryz.func208,Tryz.ntmps208
 go_wp2
 go_loopw [8] (fun i wr=>∃ k:Nat,k≤1∧i= .int .i64 k∧Below w.heap.size w wr) (fun i _=>1 - (intOf i).toNat)
 case atStart=>exact ⟨0,by omega,rfl,Below.refl _ _⟩
 case round=>
  obtain ⟨k,hk,rfl,hbw⟩:=hrel;have hgr:=hg.below hbw;have d0:wr.cell? ⟨b,o,none⟩=some (.string x):=(hbw.cell (p:=⟨b,o,none⟩) hb).trans c0;have d1:wr.cell? ⟨b,o+1,none⟩=some (.string y):=(hbw.cell (p:=⟨b,o+1,none⟩) hb).trans c1;clear c0 c1
  by_cases h0:k=0
  · subst h0
    go_wp2
    go_quiet (fail)
    have hbq:=below_drewN ((Below.refl wr.heap.size wr).alloc (Nat.le_refl _) (.cells #[.string x,.string y] 147)) nq
    go_wp2_with (go_at_call 245;refine (HC.out _ (wr.heap.size+1) (hgr.below hbq) (by simp)).mono ?_;rintro e w5 ⟨rfl,hb5⟩)
    have hb6:=hbw.trans ((hbq.trans (hb5.mono hbq.size)).mono hbw.size)
    go_roundw
    case rel=>exact ⟨1,by omega,by go_num,hb6⟩
    case measure=>simp [intOf]
  · obtain rfl:k=1:=by omega
    go_wp2;go_ret;exact ⟨rfl,hbw⟩
theorem BG (x y:ByteArray) (w:World) (hg:Glob w) (hx:Valid x) (hy:Valid y):
 Calls Tryz.prog 170 #[.agg #[.string x,.string y]] w fun e w'=>e= .returned (.int .i64 0)∧Below w.heap.size w w':=by
 have hb0:=(Below.refl w.heap.size w).alloc (Nat.le_refl _) (.cells #[.string x,.string y] 147)
 have HC:∀ (W:World) (G:Nat),Glob W→W.heap.size=G→Calls Tryz.prog 208 #[.slice (some ⟨G,0,none⟩) 1 1] (W.alloc (.cells #[.string x,.string y] 147)) fun e w'=>e= .returned (.int .i64 0)∧Below W.heap.size W w':=fun W G h hG=>by
  subst hG;have h2:Below W.heap.size W (W.alloc (.cells #[.string x,.string y] 147)):=(Below.refl _ _).alloc (Nat.le_refl _) _;refine (Ap (fun _=>True) _ 1 x y _ (h.below h2) (Reads.lit W _ _ 2 1 [.string x,.string y] (by omega) rfl trivial) hx hy).mono ?_
  rintro e w' ⟨rfl,hb⟩
  exact ⟨rfl,h2.trans (hb.mono h2.size)⟩
 have HC:=hide HC;clear hx hy
 go_enter Tryz.func170,Tryz.ntmps170
 go_wp2_with (go_at_call 208;refine (HC.out _ (w.heap.size+1) (hg.below hb0) (by simp)).mono ?_;rintro e w5 ⟨rfl,hb5⟩)
 go_ret;exact ⟨rfl,hb0.trans (hb5.mono hb0.size)⟩
theorem Rt:Valid jc:=fun W h=>xU [49,53,48,48] 49 [53,48,48] W h rfl (by decide) (by decide) (by rfl) (by decide) (by decide) (by decide)
theorem WW:Valid lU:=fun W h=>xU [53,48,48] 53 [48,48] W h rfl (by decide) (by decide) (by rfl) (by decide) (by decide) (by decide)
theorem Gl (c:Int) (w:World) (h0:97≤c) (h1:c≤122):Calls Tryz.prog 201 #[.int .i32 c] w fun e w'=>e= .returned (.bool true)∧w'=w:=by
 have e0:decide (97≤c)=true:=decide_eq_true h0;have e1:decide (c≤122)=true:=decide_eq_true h1
 go_enter Tryz.func201,Tryz.ntmps201
 go_wp2;go_ret;exact ⟨rfl,rfl⟩
theorem Ug (s:ByteArray) (w:World) (h1:1≤s.size) (h2:s.size≤24) (hat:∀ (k:Nat) (h:k<s.size),97≤(s[k]).toNat∧(s[k]).toNat≤122) (hne:(s.toList == [])=false):Calls Tryz.prog 162 #[.string s] w fun e w'=>e= .returned (.bool true)∧Below w.heap.size w w':=by
 obtain ⟨n,hsz⟩:∃ n,s.size=n:=⟨_,rfl⟩;have HAT:=hide hat;rw [hsz] at h1 h2;clear hat
 go_enter Tryz.func162,Tryz.ntmps162
 go_wp2
 go_loopw [] (fun wr=>∃ k:Nat,k≤n∧wr=w.iter s k) (fun w'=>n - w'.iterPos w.heap.size)
 case atStart=>exact ⟨0,Nat.zero_le _,rfl⟩
 case round=>
  obtain ⟨k,hk,rfl⟩:=hrel
  by_cases hlt:k<n
  · have hkz:k<s.size:=by rw [hsz];exact hlt
    have hlk:=HAT.out k hkz;have hnx:∀ ty,(Instr.next (.pointer (some ⟨w.heap.size,0,none⟩)) true ty).run Tryz.prog (w.iter s k)= .ok (.tuple #[.bool true,.int .i64 k,.int .i32 (s[k]).toNat]) (w.iter s (k+1)):=fun ty=>run_next_ascii w s k ty hkz (by omega);obtain ⟨ch,hch⟩:∃ q,((s[k]).toNat:Int)=q:=⟨_,rfl⟩
    have hq0:97≤ch:=by omega
    have hq1:ch≤122:=by omega
    rw [hch] at hnx;clear hch hlk
    go_wp2_with (go_at_call 201;refine (Gl ch _ hq0 hq1).mono ?_;rintro e w5 ⟨rfl,hw5⟩;rw [hw5])
    go_roundw
    case rel=>exact ⟨k+1,by omega,rfl⟩
    case measure=>simp;omega
  · have hke:k=n:=by omega
    subst hke;have hnx:∀ ty,(Instr.next (.pointer (some ⟨w.heap.size,0,none⟩)) true ty).run Tryz.prog (w.iter s k)= .ok (.tuple #[.bool false]) (w.iter s k):=fun ty=>run_next_end w s k ty (by omega);have HIT:=hide (LP w s k);have hle:decide ((k:Int)≤24)=true:=decide_eq_true (by omega);go_wp2;go_ret;exact ⟨rfl,HIT.out⟩
theorem Qi (w:World):Calls Tryz.prog 162 #[.string iK] w fun e w'=>e= .returned (.bool true)∧Below w.heap.size w w':=Ug iK w (by decide) (by decide) (fun k h=>by
 have h4:k<4:=h
 match k,h4 with
 | 0,_=>exact (by decide:97≤(102:UInt8).toNat∧(102:UInt8).toNat≤122)
 | 1,_=>exact (by decide:97≤(111:UInt8).toNat∧(111:UInt8).toNat≤122)
 | 2,_=>exact (by decide:97≤(111:UInt8).toNat∧(111:UInt8).toNat≤122)
 | 3,_=>exact (by decide:97≤(116:UInt8).toNat∧(116:UInt8).toNat≤122)) (by rw [ByteArray.toList_eq];rfl)
theorem Hl (W:World) (G:Nat) (hG:W.heap.size=G):Calls Tryz.prog 55 #[.slice (some ⟨G,0,none⟩) 2 2] (W.alloc (.cells #[.int .i64 0,.int .i64 0] 39)) fun e w'=>e= .returned (.int .i64 0)∧w'=W.alloc (.cells #[.int .i64 0,.int .i64 0] 39):=by
 subst hG;refine (Ak (fun _=>True) _ 2 2 _ (bQ.lit W _ [0,0] (by simp) _ trivial)).mono ?_
 rintro e w' ⟨rfl,rfl⟩
 exact ⟨rfl,rfl⟩
theorem Ho (W:World) (G:Nat) (hG:W.heap.size=G):Calls Tryz.prog 55 #[.slice (some ⟨G,0,none⟩) 3 3] (W.alloc (.cells #[.int .i64 0,.int .i64 0,.int .i64 0] 39)) fun e w'=>e= .returned (.int .i64 0)∧w'=W.alloc (.cells #[.int .i64 0,.int .i64 0,.int .i64 0] 39):=by
 subst hG;refine (Ak (fun _=>True) _ 3 3 _ (bQ.lit W _ [0,0,0] (by simp) _ trivial)).mono ?_
 rintro e w' ⟨rfl,rfl⟩
 exact ⟨rfl,rfl⟩
theorem Gi (A:Option Addr) (c:Nat) (v:Value) (w:World):Calls Tryz.prog 115 #[.slice A 0 c,v] w fun e w'=>e= .returned (.int .i64 (-1))∧w'=w:=by
 go_enter Tryz.func115,Tryz.ntmps115
 go_wp2
 go_loopw [8] (fun i wr=>i= .int .i64 0∧wr=w) (fun _ _=>0)
 case atStart=>exact ⟨rfl,rfl⟩
 case round=>
  obtain ⟨rfl,rfl⟩:=hrel;go_wp2;go_ret;exact ⟨rfl,rfl⟩
theorem F7 (A:Option Addr) (c:Nat) (v:Value) (w:World):Calls Tryz.prog 168 #[.slice A 0 c,v] w fun e w'=>e= .returned (.bool false)∧w'=w:=by
 go_enter Tryz.func168,Tryz.ntmps168
 go_wp2_with (go_at_call 115;refine (Gi A c v _).mono ?_;rintro e w1 ⟨rfl,hw1⟩;rw [hw1])
 go_ret;exact ⟨rfl,rfl⟩
theorem Au (v:Value) (w:World):Calls Tryz.prog 111 #[.slice none 0 0,.int .i64 12,v] w fun e w'=>e= .returned (.int .i64 0)∧w'=w:=by
 go_enter Tryz.func111,Tryz.ntmps111
 go_wp2
 go_loopw [16] (fun i wr=>i= .int .i64 0∧wr=w) (fun _ _=>0)
 case atStart=>exact ⟨rfl,rfl⟩
 case round=>
  obtain ⟨rfl,rfl⟩:=hrel;go_wp2;go_ret;exact ⟨rfl,rfl⟩
theorem Yw (S:Nat→Prop) (A B:Option Addr) (c d:Nat) (w:World) (hL:fP w S A c corners):
 Calls Tryz.prog 61 #[yj A c B d,uU (⟨1500,1⟩,⟨500,1⟩)] w fun e w'=>e= .returned (.int .i64 1)∧Below w.heap.size w w':=by
 have:=O7 S A B c d (⟨1500,1⟩,⟨500,1⟩) w hL (by decide)
 rwa [show Dj (⟨1500,1⟩,⟨500,1⟩) 4=1 by decide] at this
theorem DY (S:Nat→Prop) (A B P:Option Addr) (c d c':Nat) (w:World) (hg:Glob w) (hL:fP w S A c corners):
 Calls Tryz.prog 114 #[yj A c B d,.agg #[.string iK,.string jc,.string lU],.slice P 0 c'] w fun e w'=>e= .returned (.int .i64 0)∧Below w.heap.size w w':=by
 go_enter Tryz.func114,Tryz.ntmps114
 go_upto_region 0 with (fail)
 go_cut [3,4] (fun v3 v4 wx=>v3=ptr w.heap.size∧v4=ptr (w.heap.size+1)∧aX w wx [(dI A c B d,87),([.string iK,.string jc,.string lU],153)])
 case first=>
  go_wp2;go_meet;exact ⟨rfl,rfl,(((aX.nil w).new (by simp) (dI A c B d) _).new (by simp) ([.string iK,.string jc,.string lU]) _)⟩
 case rest=>
  obtain ⟨rfl,rfl,hB⟩:=hcut;have hB0:=hB
  go_upto_region 2 with (go_at_call 168;refine (F7 _ _ _ _).mono ?_;rintro e w1 ⟨rfl,hw1⟩;rw [hw1];clear hw1)
  refine wp_region_held_drew (S:=(fun w':World=>w'.cell? ⟨w.heap.size+1,0,none⟩=some (.string iK)∧w'.cell? ⟨w.heap.size+1,1,none⟩=some (.string jc)∧w'.cell? ⟨w.heap.size+1,2,none⟩=some (.string lU))) (by kernel_rfl) ?jY (fun hHeld=>?_)
  case jY=>exact ⟨((hB0.drew).get 1 rfl).cell (j:=0) rfl,((hB0.drew).get 1 rfl).cell (j:=1) rfl,((hB0.drew).get 1 rfl).cell (j:=2) rfl⟩
  refine tk 0 ?_;refine tk 1 ?_;refine tk 5 ?_;refine tk 7 ?_;refine tk 8 ?_;refine tr 2 fun K hK=>?_;go_simp
  (go_at_call 162;refine (Qi _).mono ?_;rintro e w1 ⟨rfl,hb1⟩)
  have hB1:=hB0.drew.call (by simp) hb1;refine hK.out _ _ ?apf (fun hHeld=>?_)
  case apf=>(exact ⟨((hB1).get 1 rfl).cell (j:=0) rfl,((hB1).get 1 rfl).cell (j:=1) rfl,((hB1).get 1 rfl).cell (j:=2) rfl⟩)
  clear hK K
  try simp only [Act.put,la,lz,ls]
  refine tk 3 ?_;refine tr 4 fun K hK=>?_;go_simp
  (go_at_call 56;refine (jM _ _).mono ?_;rintro e eY ⟨rfl,lH⟩;rw [← lH];clear lH)
  refine hK.out _ _ ?VY (fun hHeld=>?_)
  case VY=>(exact ⟨((hB1).get 1 rfl).cell (j:=0) rfl,((hB1).get 1 rfl).cell (j:=1) rfl,((hB1).get 1 rfl).cell (j:=2) rfl⟩)
  clear hK K
  try simp only [Act.put,la,lz,ls]
  refine tr 6 fun K hK=>?_;go_simp
  (go_at_call 56;refine (jM _ _).mono ?_;rintro e eY ⟨rfl,lH⟩;rw [← lH];clear lH)
  refine hK.out _ _ ?V7 (fun hHeld=>?_)
  case V7=>(exact ⟨((hB1).get 1 rfl).cell (j:=0) rfl,((hB1).get 1 rfl).cell (j:=1) rfl,((hB1).get 1 rfl).cell (j:=2) rfl⟩)
  clear hK K
  try simp only [Act.put,la,lz,ls]
  refine tr 9 fun K hK=>?_;go_simp
  (go_at_call 170;refine (BG jc lU _ (hg.below hB1.bw) Rt WW).mono ?_;rintro e w2 ⟨rfl,hb2⟩)
  have hB2:=hB1.call (by simp) hb2;have hB3:=hB2.alloc (by simp) (.cells #[.int .i64 0,.int .i64 0,.int .i64 0] 39);refine hK.out _ _ ?Wv (fun hHeld=>?_)
  case Wv=>(exact ⟨((hB2).get 1 rfl).cell (j:=0) rfl,((hB2).get 1 rfl).cell (j:=1) rfl,((hB2).get 1 rfl).cell (j:=2) rfl⟩)
  clear hK K
  try simp only [Act.put,la,lz,ls]
  refine tr 10 fun K hK=>?_;go_simp;refine hK.out _ _ ?NY (fun hHeld=>?_)
  case NY=>(exact ⟨((hB3).get 1 rfl).cell (j:=0) rfl,((hB3).get 1 rfl).cell (j:=1) rfl,((hB3).get 1 rfl).cell (j:=2) rfl⟩)
  clear hK K
  try simp only [Act.put,la,lz,ls]
  refine tr 11 fun K hK=>?_;go_simp
  (go_at_call 55;refine (Ho _ _ rfl).mono ?_;rintro e w5 ⟨rfl,hw5⟩;rw [hw5];clear hw5)
  refine hK.out _ _ ?agf (fun hHeld=>?_)
  case agf=>(exact ⟨((hB3).get 1 rfl).cell (j:=0) rfl,((hB3).get 1 rfl).cell (j:=1) rfl,((hB3).get 1 rfl).cell (j:=2) rfl⟩)
  clear hK K
  try simp only [Act.put,la,lz,ls]
  refine tk 12 ?_;refine wpAnyH_done (by kernel_rfl) ?_ _
  go_upto_region 5 with (fail)
  refine wp_region_held_drew (S:=(fun w':World=>w'.cell? ⟨w.heap.size,0,none⟩=some (.slice A 4 c)∧w'.cell? ⟨w.heap.size,1,none⟩=some (.int .i64 30)∧w'.cell? ⟨w.heap.size,2,none⟩=some (.slice none 0 0)∧w'.cell? ⟨w.heap.size,3,none⟩=some (.slice B 1 d)∧w'.cell? ⟨w.heap.size+1,0,none⟩=some (.string iK)∧w'.cell? ⟨w.heap.size+1,1,none⟩=some (.string jc)∧w'.cell? ⟨w.heap.size+1,2,none⟩=some (.string lU))) (by kernel_rfl) ?lS (fun hHeld=>?_)
  case lS=>exact ⟨((hB3.drew).ah rfl).cell (j:=0) rfl,((hB3.drew).ah rfl).cell (j:=1) rfl,((hB3.drew).ah rfl).cell (j:=2) rfl,((hB3.drew).ah rfl).cell (j:=3) rfl,((hB3.drew).get 1 rfl).cell (j:=0) rfl,((hB3.drew).get 1 rfl).cell (j:=1) rfl,((hB3.drew).get 1 rfl).cell (j:=2) rfl⟩
  refine tk 0 ?_;refine tk 1 ?_;refine tk 2 ?_;refine tr 3 fun K hK=>?_;go_simp
  (go_at_call 117;refine (O1 _ (hg.below hB3.drew.bw)).mono ?_;rintro e w4 ⟨rfl,hb4⟩)
  have hB4:=hB3.drew.call (by simp) hb4;refine hK.out _ _ ?VI (fun hHeld=>?_)
  case VI=>(exact ⟨((hB4).ah rfl).cell (j:=0) rfl,((hB4).ah rfl).cell (j:=1) rfl,((hB4).ah rfl).cell (j:=2) rfl,((hB4).ah rfl).cell (j:=3) rfl,((hB4).get 1 rfl).cell (j:=0) rfl,((hB4).get 1 rfl).cell (j:=1) rfl,((hB4).get 1 rfl).cell (j:=2) rfl⟩)
  clear hK K
  try simp only [Act.put,la,lz,ls]
  refine tr 4 fun K hK=>?_;go_simp
  (go_at_call 61;refine (Yw S A B c d _ (Reads.below hL hB4.bw)).mono ?_;rintro e w5 ⟨rfl,hb5⟩)
  have fM:=hB4.call (by simp) hb5;refine hK.out _ _ ?J9 (fun hHeld=>?_)
  case J9=>(exact ⟨((fM).ah rfl).cell (j:=0) rfl,((fM).ah rfl).cell (j:=1) rfl,((fM).ah rfl).cell (j:=2) rfl,((fM).ah rfl).cell (j:=3) rfl,((fM).get 1 rfl).cell (j:=0) rfl,((fM).get 1 rfl).cell (j:=1) rfl,((fM).get 1 rfl).cell (j:=2) rfl⟩)
  clear hK K
  try simp only [Act.put,la,lz,ls]
  refine tk 5 ?_;refine tr 6 fun K hK=>?_;go_simp
  (go_at_call 56;refine (jM _ _).mono ?_;rintro e eY ⟨rfl,lH⟩;rw [← lH];clear lH)
  refine hK.out _ _ ?ao1 (fun hHeld=>?_)
  case ao1=>(exact ⟨((fM).ah rfl).cell (j:=0) rfl,((fM).ah rfl).cell (j:=1) rfl,((fM).ah rfl).cell (j:=2) rfl,((fM).ah rfl).cell (j:=3) rfl,((fM).get 1 rfl).cell (j:=0) rfl,((fM).get 1 rfl).cell (j:=1) rfl,((fM).get 1 rfl).cell (j:=2) rfl⟩)
  clear hK K
  try simp only [Act.put,la,lz,ls]
  refine tk 7 ?_;refine wpAnyH_done (by kernel_rfl) ?_ _;go_wp2;go_ret;exact ⟨rfl,fM.bw⟩
theorem FY (S:Nat→Prop) (A B:Option Addr) (c d:Nat) (w:World) (hg:Glob w) (hL:fP w S A c corners) (hS:Reads w S 3 B 1 d [.string iK,.string jc,.string lU]):
 Calls Tryz.prog 113 #[.slice B 1 d,.int .i64 256,.func (.func 114) #[yj A c B d] #[]] w fun e w'=>e= .returned (.int .i64 0)∧Below w.heap.size w w':=by
 have eg:∀ args w,(callFunc 114 args).run Tryz.prog w= .ok (.enter 114 args) w:=enters_of Tryz.func114 (by kernel_rfl) rfl;obtain ⟨bd1,bd2,_⟩:=hS.bd;obtain ⟨b,o,rfl,hb,c0,c1,c2⟩:=wS hS;have HC:∀ (_:Nat) (W:World),Glob W→fP W S A c corners→Calls Tryz.prog 114 #[yj A c (some ⟨b,o,none⟩) d,.agg #[.string iK,.string jc,.string lU],.slice (some ⟨b,o,none⟩) 0 d] W fun e w'=>e= .returned (.int .i64 0)∧Below W.heap.size W w':=fun _ W h h'=>DY S A _ _ c d d W h h';have HC:=hide HC;clear hS
 go_enter Tryz.func113,Tryz.ntmps113
 go_wp2
 go_loopw [16] (fun i wr=>∃ k:Nat,k≤1∧i= .int .i64 k∧Below w.heap.size w wr) (fun i _=>1 - (intOf i).toNat)
 case atStart=>exact ⟨0,by omega,rfl,Below.refl _ _⟩
 case round=>
  obtain ⟨k,hk,rfl,hbw⟩:=hrel;have hgr:=hg.below hbw;have d0:wr.cell? ⟨b,o,none⟩=some (.string iK):=(hbw.cell (p:=⟨b,o,none⟩) hb).trans c0;have d1:wr.cell? ⟨b,o+1,none⟩=some (.string jc):=(hbw.cell (p:=⟨b,o+1,none⟩) hb).trans c1;have d2:wr.cell? ⟨b,o+2,none⟩=some (.string lU):=(hbw.cell (p:=⟨b,o+2,none⟩) hb).trans c2;clear c0 c1 c2
  by_cases h0:k=0
  · subst h0
    have hX:=Held.new wr [.string iK,.string jc,.string lU] 153;have hbx:=(Below.refl wr.heap.size wr).alloc (Nat.le_refl _) (.cells #[.string iK,.string jc,.string lU] 153)
    go_upto_region 6 with (fail)
    refine wp_region_held_drew (S:=(fun w':World=>w'.cell? ⟨wr.heap.size,0,none⟩=some (.string iK)∧w'.cell? ⟨wr.heap.size,1,none⟩=some (.string jc)∧w'.cell? ⟨wr.heap.size,2,none⟩=some (.string lU))) (by kernel_rfl) ?uP (fun hHeld=>?_)
    case uP=>exact ⟨(hX.drew).cell (j:=0) rfl,(hX.drew).cell (j:=1) rfl,(hX.drew).cell (j:=2) rfl⟩
    refine tk 0 ?_;refine tk 1 ?_;refine tk 2 ?_;refine tk 3 ?_;refine tk 4 ?_;refine tr 5 fun K hK=>?_;go_simp
    (go_at_fn 114;refine (HC.out wr.heap.size _ (hgr.below hbx.drew) (Reads.below hL (hbw.trans (hbx.drew.mono hbw.size)))).mono ?_;rintro e w5 ⟨rfl,hb5⟩)
    have hX2:=hX.drew.below hb5;refine hK.out _ _ ?apC (fun hHeld=>?_)
    case apC=>(exact ⟨(hX2).cell (j:=0) rfl,(hX2).cell (j:=1) rfl,(hX2).cell (j:=2) rfl⟩)
    clear hK K
    try simp only [Act.put,la,lz,ls]
    refine tk 6 ?_;refine wpAnyH_done (by kernel_rfl) ?_ _;go_wp2;exact ⟨⟨1,by omega,rfl,hbw.trans ((hbx.drew.trans (hb5.mono hbx.drew.size)).mono hbw.size)⟩,by simp [intOf]⟩
  · obtain rfl:k=1:=by omega
    go_wp2;go_ret;exact ⟨rfl,hbw⟩
def YA (k:Nat):Value:=Jt (corners.getD k ⟨0,0⟩)
def Lr (n:Nat):Array MapEntry:=((List.range n).map fun i=>{key:=YA i,val:= .bool true,born:=i }).toArray
theorem UL (n:Nat):(Lr n).push {key:=YA n,val:= .bool true,born:=n }=Lr (n+1):=by
 simp [Lr,List.range_succ]
theorem Y5 (k:Nat) (hk:k<4) (b:Bool) (W:World):(Instr.checkKey b 10000 151 (YA k)).run Tryz.prog W= .ok () W:=by
 obtain rfl | rfl | rfl | rfl:k=0∨k=1∨k=2∨k=3:=by omega
 all_goals (cases b <;> kernel_rfl)
theorem OB (k:Nat) (hk:k<4) (W:World):(Instr.findKey 151 (YA k) (Lr k).toList).run Tryz.prog W= .ok none W:=by
 obtain rfl | rfl | rfl | rfl:k=0∨k=1∨k=2∨k=3:=by omega
 all_goals kernel_rfl
theorem Yo (k:Nat) (hk:k<4) {W:World} {G:Nat} (hb:W.heap[G]? =some (.map (Lr k) k)):(Instr.lookup 235 (.map (some G)) (YA k) false).run Tryz.prog W= .ok (.bool false) W:=by
 have hck:=fun b=>Y5 k hk b W;have hf:=OB k hk W
 have hz:(zeroValue 4).run Tryz.prog W= .ok (.bool false) W:=by kernel_rfl
 simp [Instr.lookup,run_underlying Tryz.underlying235,oJ hb,hck,hf,hz]
theorem agQ (k:Nat) (hk:k<4) {W:World} {G:Nat} (hb:W.heap[G]? =some (.map (Lr k) k)):(Instr.mapUpdate 235 (.map (some G)) (YA k) (.bool true)).run Tryz.prog W= .ok () {W with heap:=W.heap.setIfInBounds G (.map (Lr (k+1)) (k+1)) }:=by
 have hck:=fun b=>Y5 k hk b W;have hf:=OB k hk W;have h2:=DF (P:=Tryz.prog) (.map (Lr (k+1)) (k+1)) hb;rw [← UL k] at h2 ⊢
 simp [Instr.mapUpdate,run_underlying Tryz.underlying235,oJ hb,hck,hf,h2]
theorem Rq {w W:World} {G:Nat} {L:List (List Value × TypeId)} (k:Nat) (hk:k<4) (hb:W.heap[G]? =some (.map (Lr k) k)) (hB:aX w W L) (hG:w.heap.size+L.length≤G):
 ∃ W2,(Instr.mapUpdate 235 (.map (some G)) (YA k) (.bool true)).run Tryz.prog W= .ok () W2∧aX w W2 L∧W2.heap[G]? =some (.map (Lr (k+1)) (k+1)):=by
 have hlt:G<W.heap.size:=(Array.getElem?_eq_some_iff.1 hb).1;refine ⟨_,agQ k hk hb,⟨fun i e he=>?_,⟨hB.bw.os,hB.bw.tape,hB.bw.output,?_,fun b h=>?_⟩⟩,?_⟩
 · have h1:=(List.getElem?_eq_some_iff.1 he).1
   show (W.heap.setIfInBounds G _)[w.heap.size+i]? =_
   rw [Array.getElem?_setIfInBounds_ne (by omega)];exact hB.at_ i e he
 · show w.heap.size≤(W.heap.setIfInBounds G _).size
   rw [Array.size_setIfInBounds];exact hB.bw.size
 · show (W.heap.setIfInBounds G _)[b]? =_
   rw [Array.getElem?_setIfInBounds_ne (by omega)];exact hB.bw.block b h
 · show (W.heap.setIfInBounds G _)[G]? =_
   rw [Array.getElem?_setIfInBounds_self_of_lt hlt]
theorem acH (k:Nat) (hk:k<4):YA k= .agg #[.int .i64 (corners[k]'hk).aT,.int .i64 (corners[k]'hk).aP]:=by
 obtain rfl | rfl | rfl | rfl:k=0∨k=1∨k=2∨k=3:=by omega
 all_goals rfl
theorem FW {W:World} {S:Nat→Prop} {A:Option Addr} {c:Nat} (h:fP W S A c corners):∃ b o,A=some ⟨b,o,none⟩∧b<W.heap.size∧(∀ k (hk:k<4),W.cell? ⟨b,o+k*2,none⟩=some (.int .i64 (corners[k]'hk).aT)∧W.cell? ⟨b,o+k*2+1,none⟩=some (.int .i64 (corners[k]'hk).aP)):=by
 obtain ⟨b,o,e,_,hb,hc⟩:=h.at_ 0 (by decide);exact ⟨b,o,e,hb,fun k hk=>hc k hk⟩
theorem alK (k:Nat) (hk:k<4) {x y:Int} (he:YA k= .agg #[.int .i64 x,.int .i64 y]) {W:World} {G:Nat} (hb:W.heap[G]? =some (.map (Lr k) k)):(Instr.lookup 235 (.map (some G)) (.agg #[.int .i64 x,.int .i64 y]) false).run Tryz.prog W= .ok (.bool false) W:=by
 rw [← he];exact Yo k hk hb
theorem LZ (S:Nat→Prop) (A B:Option Addr) (c d:Nat) (w:World) (hL:fP w S A c corners):
 Calls Tryz.prog 110 #[yj A c B d] w fun e w'=>e= .returned (.bool true)∧Below w.heap.size w w':=by
 obtain ⟨b,o,rfl,hbl,hcc⟩:=FW hL;have Xj:=hide hcc;have hmm:∀ W,(Instr.makeMap 235 none).run Tryz.prog W= .ok (.map (some W.heap.size)) (W.alloc (.map (Lr 0) 0)):=fun _=>rfl;clear hcc
 go_enter Tryz.func110,Tryz.ntmps110
 go_upto_region 0 with (fail)
 go_cut [1] (fun v1 wx=>v1=ptr w.heap.size∧aX w wx [(dI (some ⟨b,o,none⟩) c B d,87)])
 case first=>
  go_wp2;go_meet;exact ⟨rfl,((aX.nil w).new (by simp) (dI (some ⟨b,o,none⟩) c B d) _)⟩
 case rest=>
  obtain ⟨rfl,hB⟩:=hcut;have xI:=(hB.ah rfl).cell (j:=0) rfl;have lJ:=(hB.ah rfl).frozen 0;have ka1:=(hB.ah rfl).cell (j:=1) rfl;have lK:=(hB.ah rfl).frozen 1;have RI:=(hB.ah rfl).cell (j:=2) rfl;have AA:=(hB.ah rfl).frozen 2;have RN:=(hB.ah rfl).cell (j:=3) rfl;have AB:=(hB.ah rfl).frozen 3;obtain ⟨G,hG⟩:∃ G,wc.heap.size=G:=⟨_,rfl⟩;have hmm:=hmm wc;rw [hG] at hmm;have hB0:=hB.alloc (by simp) (.map (Lr 0) 0)
  have hM0:(wc.alloc (.map (Lr 0) 0)).heap[G]? =some (.map (Lr 0) 0):=by rw [← hG];exact heap_alloc_new wc _
  have atL:w.heap.size+1≤G:=by have:=hB.size (by simp);rw [← hG];simpa using this
  have CV:=(hB0.ah rfl).cell (j:=0) rfl;have qE:=(hB0.ah rfl).frozen 0;have CW:=(hB0.ah rfl).cell (j:=1) rfl;have qF:=(hB0.ah rfl).frozen 1;have DU:=(hB0.ah rfl).cell (j:=2) rfl;have qR:=(hB0.ah rfl).frozen 2;have DV:=(hB0.ah rfl).cell (j:=3) rfl;have qU:=(hB0.ah rfl).frozen 3;go_wp2
  go_loopw [16] (fun i wr=>∃ k:Nat,k≤4∧i= .int .i64 k∧aX w wr [(dI (some ⟨b,o,none⟩) c B d,87)]∧wr.heap[G]? =some (.map (Lr k) k)) (fun i _=>4 - (intOf i).toNat)
  case atStart=>exact ⟨0,by omega,rfl,hB0,hM0⟩
  case round=>
   obtain ⟨k,hk,rfl,hBr,hM⟩:=hrel;clear CV qE CW qF DU qR DV qU hB0 hM0
   by_cases hlt:k<4
   · have hx:=Xj.out k hlt
     have he:=acH k hlt;obtain ⟨x,hx0⟩:∃ x,(corners[k]'hlt).aT=x:=⟨_,rfl⟩;obtain ⟨y,hy0⟩:∃ x,(corners[k]'hlt).aP=x:=⟨_,rfl⟩;rw [hx0,hy0] at hx he;clear hx0 hy0;have x0:wr.cell? ⟨b,o+k*2,none⟩=some (.int .i64 x):=(hBr.bw.cell (p:=⟨b,o+k*2,none⟩) hbl).trans hx.1;have x1:wr.cell? ⟨b,o+k*2+1,none⟩=some (.int .i64 y):=(hBr.bw.cell (p:=⟨b,o+k*2+1,none⟩) hbl).trans hx.2;have hBa:=hBr.alloc (by simp) (.cells #[.int .i64 x,.int .i64 y] 151);have hMa:=(heap_alloc_old wr (.cells #[.int .i64 x,.int .i64 y] 151) (Array.getElem?_eq_some_iff.1 hM).1).trans hM;have hlk:=alK k hlt he hMa;obtain ⟨W2,hup,hB2,hM2⟩:=Rq k hlt hMa hBa atL;rw [he] at hup;have TY:decide ((k:Int)<4)=true:=decide_eq_true (by omega)
     have hk':(k:Int)<4:=by omega
     clear hx he hM hMa hBa;go_wp2
     go_roundw
     case rel=>exact ⟨k+1,by omega,by go_num,hB2,hM2⟩
     case measure=>simp [intOf];omega
   · obtain rfl:k=4:=by omega
     have hbr:=hBr.bw
     simp only [show ((4:Nat):Int)=4 from rfl]
     have y0:w.cell? ⟨b,o,none⟩=some (.int .i64 0):=(Xj.out 0 (by decide)).1;have y1:w.cell? ⟨b,o+1,none⟩=some (.int .i64 0):=(Xj.out 0 (by decide)).2;have y2:w.cell? ⟨b,o+2,none⟩=some (.int .i64 2000):=(Xj.out 1 (by decide)).1;have y3:w.cell? ⟨b,o+3,none⟩=some (.int .i64 0):=(Xj.out 1 (by decide)).2;have y4:w.cell? ⟨b,o+4,none⟩=some (.int .i64 2000):=(Xj.out 2 (by decide)).1;have y5:w.cell? ⟨b,o+5,none⟩=some (.int .i64 1000):=(Xj.out 2 (by decide)).2;have y6:w.cell? ⟨b,o+6,none⟩=some (.int .i64 0):=(Xj.out 3 (by decide)).1;have y7:w.cell? ⟨b,o+7,none⟩=some (.int .i64 1000):=(Xj.out 3 (by decide)).2;have CV:=(hBr.ah rfl).cell (j:=0) rfl;have qE:=(hBr.ah rfl).frozen 0;have CW:=(hBr.ah rfl).cell (j:=1) rfl;have qF:=(hBr.ah rfl).frozen 1;have DU:=(hBr.ah rfl).cell (j:=2) rfl;have qR:=(hBr.ah rfl).frozen 2;have DV:=(hBr.ah rfl).cell (j:=3) rfl;have qU:=(hBr.ah rfl).frozen 3;go_wp2
     go_loopw [32] (fun i wr=>∃ k:Nat,k≤4∧i= .int .i64 k∧aX w wr [(dI (some ⟨b,o,none⟩) c B d,87)]) (fun i _=>4 - (intOf i).toNat)
     case atStart=>exact ⟨0,by omega,rfl,hBr⟩
     case round=>
      clear CV qE CW qF DU qR DV qU hM hBr hbr;obtain ⟨i,hi,rfl,hB2⟩:=hrel;have CV:=(hB2.ah rfl).cell (j:=0) rfl;have qE:=(hB2.ah rfl).frozen 0;have CW:=(hB2.ah rfl).cell (j:=1) rfl;have qF:=(hB2.ah rfl).frozen 1;have DU:=(hB2.ah rfl).cell (j:=2) rfl;have qR:=(hB2.ah rfl).frozen 2;have DV:=(hB2.ah rfl).cell (j:=3) rfl;have qU:=(hB2.ah rfl).frozen 3;have x0:=(hB2.bw.cell (p:=⟨b,o,none⟩) hbl).trans y0;have x1:=(hB2.bw.cell (p:=⟨b,o+1,none⟩) hbl).trans y1;have x2:=(hB2.bw.cell (p:=⟨b,o+2,none⟩) hbl).trans y2;have x3:=(hB2.bw.cell (p:=⟨b,o+3,none⟩) hbl).trans y3;have x4:=(hB2.bw.cell (p:=⟨b,o+4,none⟩) hbl).trans y4;have x5:=(hB2.bw.cell (p:=⟨b,o+5,none⟩) hbl).trans y5;have x6:=(hB2.bw.cell (p:=⟨b,o+6,none⟩) hbl).trans y6;have x7:=(hB2.bw.cell (p:=⟨b,o+7,none⟩) hbl).trans y7
      have Yd:i=0∨i=1∨i=2∨i=3∨i=4:=by omega
      clear hi
      rcases Yd with rfl | rfl | rfl | rfl | rfl
      · have hA3:=Held.new wr [.int .i64 0,.int .i64 0] 151
        have hB3:=hB2.alloc (by simp) (.cells #[.int .i64 0,.int .i64 0] 151)
        have hwr:IntKind.i64.wrap 1=1:=by decide
        have hmr:(1:Int).tmod 4=1:=by decide
        go_upto_region 13 with (fail)
        refine wp_region_held_drew (S:=(fun w':World=>w'.cell? ⟨w.heap.size,0,none⟩=some (.slice (some ⟨b,o,none⟩) 4 c)∧w'.cell? ⟨w.heap.size,1,none⟩=some (.int .i64 30)∧w'.cell? ⟨w.heap.size,2,none⟩=some (.slice none 0 0)∧w'.cell? ⟨w.heap.size,3,none⟩=some (.slice B 1 d)∧w'.cell? ⟨b,o+2,none⟩=some (.int .i64 2000)∧w'.cell? ⟨b,o+3,none⟩=some (.int .i64 0))) (by kernel_rfl) ?lS (fun hHeld=>?_)
        case lS=>exact ⟨((hB3.drew).ah rfl).cell (j:=0) rfl,((hB3.drew).ah rfl).cell (j:=1) rfl,((hB3.drew).ah rfl).cell (j:=2) rfl,((hB3.drew).ah rfl).cell (j:=3) rfl,((hB3.drew).bw.cell (p:=⟨b,o+2,none⟩) hbl).trans y2,((hB3.drew).bw.cell (p:=⟨b,o+3,none⟩) hbl).trans y3⟩
        refine tk 0 ?_;refine tk 1 ?_;refine tk 2 ?_;refine tk 3 ?_;refine tk 4 ?_;refine tk 5 ?_;refine tk 6 ?_;refine tk 7 ?_;refine tr 8 fun K hK=>?_;go_simp;refine hK.out _ _ ?VJ (fun hHeld=>?_)
        case VJ=>(exact ⟨(((hB3.drew.alloc (by simp) _)).ah rfl).cell (j:=0) rfl,(((hB3.drew.alloc (by simp) _)).ah rfl).cell (j:=1) rfl,(((hB3.drew.alloc (by simp) _)).ah rfl).cell (j:=2) rfl,(((hB3.drew.alloc (by simp) _)).ah rfl).cell (j:=3) rfl,(((hB3.drew.alloc (by simp) _)).bw.cell (p:=⟨b,o+2,none⟩) hbl).trans y2,(((hB3.drew.alloc (by simp) _)).bw.cell (p:=⟨b,o+3,none⟩) hbl).trans y3⟩)
        clear hK K
        try simp only [Act.put,la,lz,ls]
        refine tr 9 fun K hK=>?_;go_simp;refine hK.out _ _ ?ao8 (fun hHeld=>?_)
        case ao8=>(exact ⟨(((hB3.drew.alloc (by simp) _)).ah rfl).cell (j:=0) rfl,(((hB3.drew.alloc (by simp) _)).ah rfl).cell (j:=1) rfl,(((hB3.drew.alloc (by simp) _)).ah rfl).cell (j:=2) rfl,(((hB3.drew.alloc (by simp) _)).ah rfl).cell (j:=3) rfl,(((hB3.drew.alloc (by simp) _)).bw.cell (p:=⟨b,o+2,none⟩) hbl).trans y2,(((hB3.drew.alloc (by simp) _)).bw.cell (p:=⟨b,o+3,none⟩) hbl).trans y3⟩)
        clear hK K
        try simp only [Act.put,la,lz,ls]
        refine wpAnyH_done (by kernel_rfl) ?_ _;have hB4:=(hB3.drew).alloc (by simp) (.cells #[.int .i64 2000,.int .i64 0] 151);have TL:=(hA3.drew).alloc (.cells #[.int .i64 2000,.int .i64 0] 151);have vg:=Held.newAt ((wr.alloc (.cells #[.int .i64 0,.int .i64 0] 151)).drew) [.int .i64 2000,.int .i64 0] 151 (g:=wr.heap.size+1) (by simp);go_wp2
        go_loopw [48] (fun v wr3=>∃ m:Nat,m≤4∧v= .int .i64 m∧aX w wr3 [(dI (some ⟨b,o,none⟩) c B d,87)]∧Held wr3 wr.heap.size [.int .i64 0,.int .i64 0] 151∧Held wr3 (wr.heap.size+1) [.int .i64 2000,.int .i64 0] 151) (fun v _=>4 - (intOf v).toNat)
        case atStart=>exact ⟨0,by omega,rfl,hB4,TL,vg⟩
        case round=>
         clear hB4 TL vg hA3 hB3 hB2 CV qE CW qF DU qR DV qU x0 x1 x2 x3 x4 x5 x6 x7;obtain ⟨m,hm,rfl,fM,rZ,rW⟩:=hrel;have ZR:=rZ.lt;have ZV:=rW.lt;have xI:=(rZ).cell (j:=0) rfl;have lJ:=(rZ).frozen 0;have ka1:=(rZ).cell (j:=1) rfl;have lK:=(rZ).frozen 1;have OO:=(rW).cell (j:=0) rfl;have Ed:=(rW).frozen 0;have Xe:=(rW).cell (j:=1) rfl;have Ee:=(rW).frozen 1;have x0:=(fM.bw.cell (p:=⟨b,o,none⟩) hbl).trans y0;have x1:=(fM.bw.cell (p:=⟨b,o+1,none⟩) hbl).trans y1;have x2:=(fM.bw.cell (p:=⟨b,o+2,none⟩) hbl).trans y2;have x3:=(fM.bw.cell (p:=⟨b,o+3,none⟩) hbl).trans y3;have x4:=(fM.bw.cell (p:=⟨b,o+4,none⟩) hbl).trans y4;have x5:=(fM.bw.cell (p:=⟨b,o+5,none⟩) hbl).trans y5;have x6:=(fM.bw.cell (p:=⟨b,o+6,none⟩) hbl).trans y6;have x7:=(fM.bw.cell (p:=⟨b,o+7,none⟩) hbl).trans y7
         have tC:m=0∨m=1∨m=2∨m=3∨m=4:=by omega
         clear hm
         rcases tC with rfl | rfl | rfl | rfl | rfl
         · have n1:∀ W,(binOp .neq 151 (.agg #[.int .i64 0,.int .i64 0]) (.agg #[.int .i64 0,.int .i64 0])).run Tryz.prog W= .ok (.bool false) W:=fun _=>by kernel_rfl
           have n2:∀ W,(binOp .neq 151 (.agg #[.int .i64 0,.int .i64 0]) (.agg #[.int .i64 2000,.int .i64 0])).run Tryz.prog W= .ok (.bool true) W:=fun _=>by kernel_rfl
           go_wp2
           go_roundw
           case rel=>exact ⟨1,by omega,rfl,fM.alloc (by simp) _,rZ.alloc _,rW.alloc _⟩
           case measure=>simp [intOf]
         · have n1:∀ W,(binOp .neq 151 (.agg #[.int .i64 2000,.int .i64 0]) (.agg #[.int .i64 0,.int .i64 0])).run Tryz.prog W= .ok (.bool true) W:=fun _=>by kernel_rfl
           have n2:∀ W,(binOp .neq 151 (.agg #[.int .i64 2000,.int .i64 0]) (.agg #[.int .i64 2000,.int .i64 0])).run Tryz.prog W= .ok (.bool false) W:=fun _=>by kernel_rfl
           go_wp2
           go_roundw
           case rel=>exact ⟨2,by omega,rfl,fM.alloc (by simp) _,rZ.alloc _,rW.alloc _⟩
           case measure=>simp [intOf]
         · have n1:∀ W,(binOp .neq 151 (.agg #[.int .i64 2000,.int .i64 1000]) (.agg #[.int .i64 0,.int .i64 0])).run Tryz.prog W= .ok (.bool true) W:=fun _=>by kernel_rfl
           have n2:∀ W,(binOp .neq 151 (.agg #[.int .i64 2000,.int .i64 1000]) (.agg #[.int .i64 2000,.int .i64 0])).run Tryz.prog W= .ok (.bool true) W:=fun _=>by kernel_rfl
           go_wp2
           go_roundw
           case rel=>exact ⟨3,by omega,rfl,fM.alloc (by simp) _,rZ.alloc _,rW.alloc _⟩
           case measure=>simp [intOf]
         · have n1:∀ W,(binOp .neq 151 (.agg #[.int .i64 0,.int .i64 1000]) (.agg #[.int .i64 0,.int .i64 0])).run Tryz.prog W= .ok (.bool true) W:=fun _=>by kernel_rfl
           have n2:∀ W,(binOp .neq 151 (.agg #[.int .i64 0,.int .i64 1000]) (.agg #[.int .i64 2000,.int .i64 0])).run Tryz.prog W= .ok (.bool true) W:=fun _=>by kernel_rfl
           go_wp2
           go_roundw
           case rel=>exact ⟨4,by omega,rfl,fM.alloc (by simp) _,rZ.alloc _,rW.alloc _⟩
           case measure=>simp [intOf]
         · go_wp2
           go_roundw
           case rel=>exact ⟨1,by omega,rfl,fM⟩
           case measure=>simp [intOf]
      · have hA3:=Held.new wr [.int .i64 2000,.int .i64 0] 151
        have hB3:=hB2.alloc (by simp) (.cells #[.int .i64 2000,.int .i64 0] 151)
        have hwr:IntKind.i64.wrap 2=2:=by decide
        have hmr:(2:Int).tmod 4=2:=by decide
        go_upto_region 13 with (fail)
        refine wp_region_held_drew (S:=(fun w':World=>w'.cell? ⟨w.heap.size,0,none⟩=some (.slice (some ⟨b,o,none⟩) 4 c)∧w'.cell? ⟨w.heap.size,1,none⟩=some (.int .i64 30)∧w'.cell? ⟨w.heap.size,2,none⟩=some (.slice none 0 0)∧w'.cell? ⟨w.heap.size,3,none⟩=some (.slice B 1 d)∧w'.cell? ⟨b,o+4,none⟩=some (.int .i64 2000)∧w'.cell? ⟨b,o+5,none⟩=some (.int .i64 1000))) (by kernel_rfl) ?jY (fun hHeld=>?_)
        case jY=>exact ⟨((hB3.drew).ah rfl).cell (j:=0) rfl,((hB3.drew).ah rfl).cell (j:=1) rfl,((hB3.drew).ah rfl).cell (j:=2) rfl,((hB3.drew).ah rfl).cell (j:=3) rfl,((hB3.drew).bw.cell (p:=⟨b,o+4,none⟩) hbl).trans y4,((hB3.drew).bw.cell (p:=⟨b,o+5,none⟩) hbl).trans y5⟩
        refine tk 0 ?_;refine tk 1 ?_;refine tk 2 ?_;refine tk 3 ?_;refine tk 4 ?_;refine tk 5 ?_;refine tk 6 ?_;refine tk 7 ?_;refine tr 8 fun K hK=>?_;go_simp;refine hK.out _ _ ?Wp (fun hHeld=>?_)
        case Wp=>(exact ⟨(((hB3.drew.alloc (by simp) _)).ah rfl).cell (j:=0) rfl,(((hB3.drew.alloc (by simp) _)).ah rfl).cell (j:=1) rfl,(((hB3.drew.alloc (by simp) _)).ah rfl).cell (j:=2) rfl,(((hB3.drew.alloc (by simp) _)).ah rfl).cell (j:=3) rfl,(((hB3.drew.alloc (by simp) _)).bw.cell (p:=⟨b,o+4,none⟩) hbl).trans y4,(((hB3.drew.alloc (by simp) _)).bw.cell (p:=⟨b,o+5,none⟩) hbl).trans y5⟩)
        clear hK K
        try simp only [Act.put,la,lz,ls]
        refine tr 9 fun K hK=>?_;go_simp;refine hK.out _ _ ?Wv (fun hHeld=>?_)
        case Wv=>(exact ⟨(((hB3.drew.alloc (by simp) _)).ah rfl).cell (j:=0) rfl,(((hB3.drew.alloc (by simp) _)).ah rfl).cell (j:=1) rfl,(((hB3.drew.alloc (by simp) _)).ah rfl).cell (j:=2) rfl,(((hB3.drew.alloc (by simp) _)).ah rfl).cell (j:=3) rfl,(((hB3.drew.alloc (by simp) _)).bw.cell (p:=⟨b,o+4,none⟩) hbl).trans y4,(((hB3.drew.alloc (by simp) _)).bw.cell (p:=⟨b,o+5,none⟩) hbl).trans y5⟩)
        clear hK K
        try simp only [Act.put,la,lz,ls]
        refine wpAnyH_done (by kernel_rfl) ?_ _;have hB4:=(hB3.drew).alloc (by simp) (.cells #[.int .i64 2000,.int .i64 1000] 151);have TL:=(hA3.drew).alloc (.cells #[.int .i64 2000,.int .i64 1000] 151);have vg:=Held.newAt ((wr.alloc (.cells #[.int .i64 2000,.int .i64 0] 151)).drew) [.int .i64 2000,.int .i64 1000] 151 (g:=wr.heap.size+1) (by simp);go_wp2
        go_loopw [48] (fun v wr3=>∃ m:Nat,m≤4∧v= .int .i64 m∧aX w wr3 [(dI (some ⟨b,o,none⟩) c B d,87)]∧Held wr3 wr.heap.size [.int .i64 2000,.int .i64 0] 151∧Held wr3 (wr.heap.size+1) [.int .i64 2000,.int .i64 1000] 151) (fun v _=>4 - (intOf v).toNat)
        case atStart=>exact ⟨0,by omega,rfl,hB4,TL,vg⟩
        case round=>
         clear hB4 TL vg hA3 hB3 hB2 CV qE CW qF DU qR DV qU x0 x1 x2 x3 x4 x5 x6 x7;obtain ⟨m,hm,rfl,fM,rZ,rW⟩:=hrel;have ZR:=rZ.lt;have ZV:=rW.lt;have xI:=(rZ).cell (j:=0) rfl;have lJ:=(rZ).frozen 0;have ka1:=(rZ).cell (j:=1) rfl;have lK:=(rZ).frozen 1;have OO:=(rW).cell (j:=0) rfl;have Ed:=(rW).frozen 0;have Xe:=(rW).cell (j:=1) rfl;have Ee:=(rW).frozen 1;have x0:=(fM.bw.cell (p:=⟨b,o,none⟩) hbl).trans y0;have x1:=(fM.bw.cell (p:=⟨b,o+1,none⟩) hbl).trans y1;have x2:=(fM.bw.cell (p:=⟨b,o+2,none⟩) hbl).trans y2;have x3:=(fM.bw.cell (p:=⟨b,o+3,none⟩) hbl).trans y3;have x4:=(fM.bw.cell (p:=⟨b,o+4,none⟩) hbl).trans y4;have x5:=(fM.bw.cell (p:=⟨b,o+5,none⟩) hbl).trans y5;have x6:=(fM.bw.cell (p:=⟨b,o+6,none⟩) hbl).trans y6;have x7:=(fM.bw.cell (p:=⟨b,o+7,none⟩) hbl).trans y7
         have tC:m=0∨m=1∨m=2∨m=3∨m=4:=by omega
         clear hm
         rcases tC with rfl | rfl | rfl | rfl | rfl
         · have n1:∀ W,(binOp .neq 151 (.agg #[.int .i64 0,.int .i64 0]) (.agg #[.int .i64 2000,.int .i64 0])).run Tryz.prog W= .ok (.bool true) W:=fun _=>by kernel_rfl
           have n2:∀ W,(binOp .neq 151 (.agg #[.int .i64 0,.int .i64 0]) (.agg #[.int .i64 2000,.int .i64 1000])).run Tryz.prog W= .ok (.bool true) W:=fun _=>by kernel_rfl
           go_wp2
           go_roundw
           case rel=>exact ⟨1,by omega,rfl,fM.alloc (by simp) _,rZ.alloc _,rW.alloc _⟩
           case measure=>simp [intOf]
         · have n1:∀ W,(binOp .neq 151 (.agg #[.int .i64 2000,.int .i64 0]) (.agg #[.int .i64 2000,.int .i64 0])).run Tryz.prog W= .ok (.bool false) W:=fun _=>by kernel_rfl
           have n2:∀ W,(binOp .neq 151 (.agg #[.int .i64 2000,.int .i64 0]) (.agg #[.int .i64 2000,.int .i64 1000])).run Tryz.prog W= .ok (.bool true) W:=fun _=>by kernel_rfl
           go_wp2
           go_roundw
           case rel=>exact ⟨2,by omega,rfl,fM.alloc (by simp) _,rZ.alloc _,rW.alloc _⟩
           case measure=>simp [intOf]
         · have n1:∀ W,(binOp .neq 151 (.agg #[.int .i64 2000,.int .i64 1000]) (.agg #[.int .i64 2000,.int .i64 0])).run Tryz.prog W= .ok (.bool true) W:=fun _=>by kernel_rfl
           have n2:∀ W,(binOp .neq 151 (.agg #[.int .i64 2000,.int .i64 1000]) (.agg #[.int .i64 2000,.int .i64 1000])).run Tryz.prog W= .ok (.bool false) W:=fun _=>by kernel_rfl
           go_wp2
           go_roundw
           case rel=>exact ⟨3,by omega,rfl,fM.alloc (by simp) _,rZ.alloc _,rW.alloc _⟩
           case measure=>simp [intOf]
         · have n1:∀ W,(binOp .neq 151 (.agg #[.int .i64 0,.int .i64 1000]) (.agg #[.int .i64 2000,.int .i64 0])).run Tryz.prog W= .ok (.bool true) W:=fun _=>by kernel_rfl
           have n2:∀ W,(binOp .neq 151 (.agg #[.int .i64 0,.int .i64 1000]) (.agg #[.int .i64 2000,.int .i64 1000])).run Tryz.prog W= .ok (.bool true) W:=fun _=>by kernel_rfl
           go_wp2
           go_roundw
           case rel=>exact ⟨4,by omega,rfl,fM.alloc (by simp) _,rZ.alloc _,rW.alloc _⟩
           case measure=>simp [intOf]
         · go_wp2
           go_roundw
           case rel=>exact ⟨2,by omega,rfl,fM⟩
           case measure=>simp [intOf]
      · have hA3:=Held.new wr [.int .i64 2000,.int .i64 1000] 151
        have hB3:=hB2.alloc (by simp) (.cells #[.int .i64 2000,.int .i64 1000] 151)
        have hwr:IntKind.i64.wrap 3=3:=by decide
        have hmr:(3:Int).tmod 4=3:=by decide
        go_upto_region 13 with (fail)
        refine wp_region_held_drew (S:=(fun w':World=>w'.cell? ⟨w.heap.size,0,none⟩=some (.slice (some ⟨b,o,none⟩) 4 c)∧w'.cell? ⟨w.heap.size,1,none⟩=some (.int .i64 30)∧w'.cell? ⟨w.heap.size,2,none⟩=some (.slice none 0 0)∧w'.cell? ⟨w.heap.size,3,none⟩=some (.slice B 1 d)∧w'.cell? ⟨b,o+6,none⟩=some (.int .i64 0)∧w'.cell? ⟨b,o+7,none⟩=some (.int .i64 1000))) (by kernel_rfl) ?uP (fun hHeld=>?_)
        case uP=>exact ⟨((hB3.drew).ah rfl).cell (j:=0) rfl,((hB3.drew).ah rfl).cell (j:=1) rfl,((hB3.drew).ah rfl).cell (j:=2) rfl,((hB3.drew).ah rfl).cell (j:=3) rfl,((hB3.drew).bw.cell (p:=⟨b,o+6,none⟩) hbl).trans y6,((hB3.drew).bw.cell (p:=⟨b,o+7,none⟩) hbl).trans y7⟩
        refine tk 0 ?_;refine tk 1 ?_;refine tk 2 ?_;refine tk 3 ?_;refine tk 4 ?_;refine tk 5 ?_;refine tk 6 ?_;refine tk 7 ?_;refine tr 8 fun K hK=>?_;go_simp;refine hK.out _ _ ?apQ (fun hHeld=>?_)
        case apQ=>(exact ⟨(((hB3.drew.alloc (by simp) _)).ah rfl).cell (j:=0) rfl,(((hB3.drew.alloc (by simp) _)).ah rfl).cell (j:=1) rfl,(((hB3.drew.alloc (by simp) _)).ah rfl).cell (j:=2) rfl,(((hB3.drew.alloc (by simp) _)).ah rfl).cell (j:=3) rfl,(((hB3.drew.alloc (by simp) _)).bw.cell (p:=⟨b,o+6,none⟩) hbl).trans y6,(((hB3.drew.alloc (by simp) _)).bw.cell (p:=⟨b,o+7,none⟩) hbl).trans y7⟩)
        clear hK K
        try simp only [Act.put,la,lz,ls]
        refine tr 9 fun K hK=>?_;go_simp;refine hK.out _ _ ?apX (fun hHeld=>?_)
        case apX=>(exact ⟨(((hB3.drew.alloc (by simp) _)).ah rfl).cell (j:=0) rfl,(((hB3.drew.alloc (by simp) _)).ah rfl).cell (j:=1) rfl,(((hB3.drew.alloc (by simp) _)).ah rfl).cell (j:=2) rfl,(((hB3.drew.alloc (by simp) _)).ah rfl).cell (j:=3) rfl,(((hB3.drew.alloc (by simp) _)).bw.cell (p:=⟨b,o+6,none⟩) hbl).trans y6,(((hB3.drew.alloc (by simp) _)).bw.cell (p:=⟨b,o+7,none⟩) hbl).trans y7⟩)
        clear hK K
        try simp only [Act.put,la,lz,ls]
        refine wpAnyH_done (by kernel_rfl) ?_ _;have hB4:=(hB3.drew).alloc (by simp) (.cells #[.int .i64 0,.int .i64 1000] 151);have TL:=(hA3.drew).alloc (.cells #[.int .i64 0,.int .i64 1000] 151);have vg:=Held.newAt ((wr.alloc (.cells #[.int .i64 2000,.int .i64 1000] 151)).drew) [.int .i64 0,.int .i64 1000] 151 (g:=wr.heap.size+1) (by simp);go_wp2
        go_loopw [48] (fun v wr3=>∃ m:Nat,m≤4∧v= .int .i64 m∧aX w wr3 [(dI (some ⟨b,o,none⟩) c B d,87)]∧Held wr3 wr.heap.size [.int .i64 2000,.int .i64 1000] 151∧Held wr3 (wr.heap.size+1) [.int .i64 0,.int .i64 1000] 151) (fun v _=>4 - (intOf v).toNat)
        case atStart=>exact ⟨0,by omega,rfl,hB4,TL,vg⟩
        case round=>
         clear hB4 TL vg hA3 hB3 hB2 CV qE CW qF DU qR DV qU x0 x1 x2 x3 x4 x5 x6 x7;obtain ⟨m,hm,rfl,fM,rZ,rW⟩:=hrel;have ZR:=rZ.lt;have ZV:=rW.lt;have xI:=(rZ).cell (j:=0) rfl;have lJ:=(rZ).frozen 0;have ka1:=(rZ).cell (j:=1) rfl;have lK:=(rZ).frozen 1;have OO:=(rW).cell (j:=0) rfl;have Ed:=(rW).frozen 0;have Xe:=(rW).cell (j:=1) rfl;have Ee:=(rW).frozen 1;have x0:=(fM.bw.cell (p:=⟨b,o,none⟩) hbl).trans y0;have x1:=(fM.bw.cell (p:=⟨b,o+1,none⟩) hbl).trans y1;have x2:=(fM.bw.cell (p:=⟨b,o+2,none⟩) hbl).trans y2;have x3:=(fM.bw.cell (p:=⟨b,o+3,none⟩) hbl).trans y3;have x4:=(fM.bw.cell (p:=⟨b,o+4,none⟩) hbl).trans y4;have x5:=(fM.bw.cell (p:=⟨b,o+5,none⟩) hbl).trans y5;have x6:=(fM.bw.cell (p:=⟨b,o+6,none⟩) hbl).trans y6;have x7:=(fM.bw.cell (p:=⟨b,o+7,none⟩) hbl).trans y7
         have tC:m=0∨m=1∨m=2∨m=3∨m=4:=by omega
         clear hm
         rcases tC with rfl | rfl | rfl | rfl | rfl
         · have n1:∀ W,(binOp .neq 151 (.agg #[.int .i64 0,.int .i64 0]) (.agg #[.int .i64 2000,.int .i64 1000])).run Tryz.prog W= .ok (.bool true) W:=fun _=>by kernel_rfl
           have n2:∀ W,(binOp .neq 151 (.agg #[.int .i64 0,.int .i64 0]) (.agg #[.int .i64 0,.int .i64 1000])).run Tryz.prog W= .ok (.bool true) W:=fun _=>by kernel_rfl
           go_wp2
           go_roundw
           case rel=>exact ⟨1,by omega,rfl,fM.alloc (by simp) _,rZ.alloc _,rW.alloc _⟩
           case measure=>simp [intOf]
         · have n1:∀ W,(binOp .neq 151 (.agg #[.int .i64 2000,.int .i64 0]) (.agg #[.int .i64 2000,.int .i64 1000])).run Tryz.prog W= .ok (.bool true) W:=fun _=>by kernel_rfl
           have n2:∀ W,(binOp .neq 151 (.agg #[.int .i64 2000,.int .i64 0]) (.agg #[.int .i64 0,.int .i64 1000])).run Tryz.prog W= .ok (.bool true) W:=fun _=>by kernel_rfl
           go_wp2
           go_roundw
           case rel=>exact ⟨2,by omega,rfl,fM.alloc (by simp) _,rZ.alloc _,rW.alloc _⟩
           case measure=>simp [intOf]
         · have n1:∀ W,(binOp .neq 151 (.agg #[.int .i64 2000,.int .i64 1000]) (.agg #[.int .i64 2000,.int .i64 1000])).run Tryz.prog W= .ok (.bool false) W:=fun _=>by kernel_rfl
           have n2:∀ W,(binOp .neq 151 (.agg #[.int .i64 2000,.int .i64 1000]) (.agg #[.int .i64 0,.int .i64 1000])).run Tryz.prog W= .ok (.bool true) W:=fun _=>by kernel_rfl
           go_wp2
           go_roundw
           case rel=>exact ⟨3,by omega,rfl,fM.alloc (by simp) _,rZ.alloc _,rW.alloc _⟩
           case measure=>simp [intOf]
         · have n1:∀ W,(binOp .neq 151 (.agg #[.int .i64 0,.int .i64 1000]) (.agg #[.int .i64 2000,.int .i64 1000])).run Tryz.prog W= .ok (.bool true) W:=fun _=>by kernel_rfl
           have n2:∀ W,(binOp .neq 151 (.agg #[.int .i64 0,.int .i64 1000]) (.agg #[.int .i64 0,.int .i64 1000])).run Tryz.prog W= .ok (.bool false) W:=fun _=>by kernel_rfl
           go_wp2
           go_roundw
           case rel=>exact ⟨4,by omega,rfl,fM.alloc (by simp) _,rZ.alloc _,rW.alloc _⟩
           case measure=>simp [intOf]
         · go_wp2
           go_roundw
           case rel=>exact ⟨3,by omega,rfl,fM⟩
           case measure=>simp [intOf]
      · have hA3:=Held.new wr [.int .i64 0,.int .i64 1000] 151
        have hB3:=hB2.alloc (by simp) (.cells #[.int .i64 0,.int .i64 1000] 151)
        have hwr:IntKind.i64.wrap 4=4:=by decide
        have hmr:(4:Int).tmod 4=0:=by decide
        go_upto_region 13 with (fail)
        refine wp_region_held_drew (S:=(fun w':World=>w'.cell? ⟨w.heap.size,0,none⟩=some (.slice (some ⟨b,o,none⟩) 4 c)∧w'.cell? ⟨w.heap.size,1,none⟩=some (.int .i64 30)∧w'.cell? ⟨w.heap.size,2,none⟩=some (.slice none 0 0)∧w'.cell? ⟨w.heap.size,3,none⟩=some (.slice B 1 d)∧w'.cell? ⟨b,o,none⟩=some (.int .i64 0)∧w'.cell? ⟨b,o+1,none⟩=some (.int .i64 0))) (by kernel_rfl) ?sG (fun hHeld=>?_)
        case sG=>exact ⟨((hB3.drew).ah rfl).cell (j:=0) rfl,((hB3.drew).ah rfl).cell (j:=1) rfl,((hB3.drew).ah rfl).cell (j:=2) rfl,((hB3.drew).ah rfl).cell (j:=3) rfl,((hB3.drew).bw.cell (p:=⟨b,o,none⟩) hbl).trans y0,((hB3.drew).bw.cell (p:=⟨b,o+1,none⟩) hbl).trans y1⟩
        refine tk 0 ?_;refine tk 1 ?_;refine tk 2 ?_;refine tk 3 ?_;refine tk 4 ?_;refine tk 5 ?_;refine tk 6 ?_;refine tk 7 ?_;refine tr 8 fun K hK=>?_;go_simp;refine hK.out _ _ ?ac2 (fun hHeld=>?_)
        case ac2=>(exact ⟨(((hB3.drew.alloc (by simp) _)).ah rfl).cell (j:=0) rfl,(((hB3.drew.alloc (by simp) _)).ah rfl).cell (j:=1) rfl,(((hB3.drew.alloc (by simp) _)).ah rfl).cell (j:=2) rfl,(((hB3.drew.alloc (by simp) _)).ah rfl).cell (j:=3) rfl,(((hB3.drew.alloc (by simp) _)).bw.cell (p:=⟨b,o,none⟩) hbl).trans y0,(((hB3.drew.alloc (by simp) _)).bw.cell (p:=⟨b,o+1,none⟩) hbl).trans y1⟩)
        clear hK K
        try simp only [Act.put,la,lz,ls]
        refine tr 9 fun K hK=>?_;go_simp;refine hK.out _ _ ?ac9 (fun hHeld=>?_)
        case ac9=>(exact ⟨(((hB3.drew.alloc (by simp) _)).ah rfl).cell (j:=0) rfl,(((hB3.drew.alloc (by simp) _)).ah rfl).cell (j:=1) rfl,(((hB3.drew.alloc (by simp) _)).ah rfl).cell (j:=2) rfl,(((hB3.drew.alloc (by simp) _)).ah rfl).cell (j:=3) rfl,(((hB3.drew.alloc (by simp) _)).bw.cell (p:=⟨b,o,none⟩) hbl).trans y0,(((hB3.drew.alloc (by simp) _)).bw.cell (p:=⟨b,o+1,none⟩) hbl).trans y1⟩)
        clear hK K
        try simp only [Act.put,la,lz,ls]
        refine wpAnyH_done (by kernel_rfl) ?_ _;have hB4:=(hB3.drew).alloc (by simp) (.cells #[.int .i64 0,.int .i64 0] 151);have TL:=(hA3.drew).alloc (.cells #[.int .i64 0,.int .i64 0] 151);have vg:=Held.newAt ((wr.alloc (.cells #[.int .i64 0,.int .i64 1000] 151)).drew) [.int .i64 0,.int .i64 0] 151 (g:=wr.heap.size+1) (by simp);go_wp2
        go_loopw [48] (fun v wr3=>∃ m:Nat,m≤4∧v= .int .i64 m∧aX w wr3 [(dI (some ⟨b,o,none⟩) c B d,87)]∧Held wr3 wr.heap.size [.int .i64 0,.int .i64 1000] 151∧Held wr3 (wr.heap.size+1) [.int .i64 0,.int .i64 0] 151) (fun v _=>4 - (intOf v).toNat)
        case atStart=>exact ⟨0,by omega,rfl,hB4,TL,vg⟩
        case round=>
         clear hB4 TL vg hA3 hB3 hB2 CV qE CW qF DU qR DV qU x0 x1 x2 x3 x4 x5 x6 x7;obtain ⟨m,hm,rfl,fM,rZ,rW⟩:=hrel;have ZR:=rZ.lt;have ZV:=rW.lt;have xI:=(rZ).cell (j:=0) rfl;have lJ:=(rZ).frozen 0;have ka1:=(rZ).cell (j:=1) rfl;have lK:=(rZ).frozen 1;have OO:=(rW).cell (j:=0) rfl;have Ed:=(rW).frozen 0;have Xe:=(rW).cell (j:=1) rfl;have Ee:=(rW).frozen 1;have x0:=(fM.bw.cell (p:=⟨b,o,none⟩) hbl).trans y0;have x1:=(fM.bw.cell (p:=⟨b,o+1,none⟩) hbl).trans y1;have x2:=(fM.bw.cell (p:=⟨b,o+2,none⟩) hbl).trans y2;have x3:=(fM.bw.cell (p:=⟨b,o+3,none⟩) hbl).trans y3;have x4:=(fM.bw.cell (p:=⟨b,o+4,none⟩) hbl).trans y4;have x5:=(fM.bw.cell (p:=⟨b,o+5,none⟩) hbl).trans y5;have x6:=(fM.bw.cell (p:=⟨b,o+6,none⟩) hbl).trans y6;have x7:=(fM.bw.cell (p:=⟨b,o+7,none⟩) hbl).trans y7
         have tC:m=0∨m=1∨m=2∨m=3∨m=4:=by omega
         clear hm
         rcases tC with rfl | rfl | rfl | rfl | rfl
         · have n1:∀ W,(binOp .neq 151 (.agg #[.int .i64 0,.int .i64 0]) (.agg #[.int .i64 0,.int .i64 1000])).run Tryz.prog W= .ok (.bool true) W:=fun _=>by kernel_rfl
           have n2:∀ W,(binOp .neq 151 (.agg #[.int .i64 0,.int .i64 0]) (.agg #[.int .i64 0,.int .i64 0])).run Tryz.prog W= .ok (.bool false) W:=fun _=>by kernel_rfl
           go_wp2
           go_roundw
           case rel=>exact ⟨1,by omega,rfl,fM.alloc (by simp) _,rZ.alloc _,rW.alloc _⟩
           case measure=>simp [intOf]
         · have n1:∀ W,(binOp .neq 151 (.agg #[.int .i64 2000,.int .i64 0]) (.agg #[.int .i64 0,.int .i64 1000])).run Tryz.prog W= .ok (.bool true) W:=fun _=>by kernel_rfl
           have n2:∀ W,(binOp .neq 151 (.agg #[.int .i64 2000,.int .i64 0]) (.agg #[.int .i64 0,.int .i64 0])).run Tryz.prog W= .ok (.bool true) W:=fun _=>by kernel_rfl
           go_wp2
           go_roundw
           case rel=>exact ⟨2,by omega,rfl,fM.alloc (by simp) _,rZ.alloc _,rW.alloc _⟩
           case measure=>simp [intOf]
         · have n1:∀ W,(binOp .neq 151 (.agg #[.int .i64 2000,.int .i64 1000]) (.agg #[.int .i64 0,.int .i64 1000])).run Tryz.prog W= .ok (.bool true) W:=fun _=>by kernel_rfl
           have n2:∀ W,(binOp .neq 151 (.agg #[.int .i64 2000,.int .i64 1000]) (.agg #[.int .i64 0,.int .i64 0])).run Tryz.prog W= .ok (.bool true) W:=fun _=>by kernel_rfl
           go_wp2
           go_roundw
           case rel=>exact ⟨3,by omega,rfl,fM.alloc (by simp) _,rZ.alloc _,rW.alloc _⟩
           case measure=>simp [intOf]
         · have n1:∀ W,(binOp .neq 151 (.agg #[.int .i64 0,.int .i64 1000]) (.agg #[.int .i64 0,.int .i64 1000])).run Tryz.prog W= .ok (.bool false) W:=fun _=>by kernel_rfl
           have n2:∀ W,(binOp .neq 151 (.agg #[.int .i64 0,.int .i64 1000]) (.agg #[.int .i64 0,.int .i64 0])).run Tryz.prog W= .ok (.bool true) W:=fun _=>by kernel_rfl
           go_wp2
           go_roundw
           case rel=>exact ⟨4,by omega,rfl,fM.alloc (by simp) _,rZ.alloc _,rW.alloc _⟩
           case measure=>simp [intOf]
         · go_wp2
           go_roundw
           case rel=>exact ⟨4,by omega,rfl,fM⟩
           case measure=>simp [intOf]
      · go_wp2
        go_ret;exact ⟨rfl,hB2.bw⟩
theorem TB (S:Nat→Prop) (A:Option Addr) (c:Nat) (w:World) (hL:fP w S A c corners):
 Calls Tryz.prog 108 #[.slice A 4 c,.func (.func 109) #[] #[]] w fun e w'=>e= .returned (.bool false)∧Below w.heap.size w w':=by
 have:=Td S A c corners 109 #[] _ w hL (PO w)
 rwa [show (corners.any fun p=>decide (10000<max p.aT p.aP) || decide (min p.aT p.aP< -10000))=false by decide] at this
theorem BH (S:Nat→Prop) (A B:Option Addr) (c d:Nat) (w:World) (hg:Glob w) (hL:fP w S A c corners) (hS:Reads w S 3 B 1 d [.string iK,.string jc,.string lU]):
 Calls Tryz.prog 52 #[yj A c B d] w fun e w'=>e= .returned (.int .i64 0)∧Below w.heap.size w w':=by
 go_enter Tryz.func52,Tryz.ntmps52
 go_upto_region 0 with (fail)
 go_cut [1] (fun v1 wx=>v1=ptr w.heap.size∧aX w wx [(dI A c B d,87)])
 case first=>
  go_wp2;go_meet;exact ⟨rfl,((aX.nil w).new (by simp) (dI A c B d) _)⟩
 case rest=>
  obtain ⟨rfl,hB⟩:=hcut;have hB0:=hB
  go_upto_region 1 with (fail)
  refine wp_region_held_drew (S:=(fun w':World=>w'.cell? ⟨w.heap.size,0,none⟩=some (.slice A 4 c)∧w'.cell? ⟨w.heap.size,1,none⟩=some (.int .i64 30)∧w'.cell? ⟨w.heap.size,2,none⟩=some (.slice none 0 0)∧w'.cell? ⟨w.heap.size,3,none⟩=some (.slice B 1 d))) (by kernel_rfl) ?QJ (fun hHeld=>?_)
  case QJ=>exact ⟨((hB0.drew).ah rfl).cell (j:=0) rfl,((hB0.drew).ah rfl).cell (j:=1) rfl,((hB0.drew).ah rfl).cell (j:=2) rfl,((hB0.drew).ah rfl).cell (j:=3) rfl⟩
  refine tk 0 ?_;refine tk 1 ?_;refine tk 2 ?_;refine tk 3 ?_;refine tk 5 ?_;refine tk 6 ?_;refine tk 7 ?_;refine tk 8 ?_;refine tk 10 ?_;refine tk 11 ?_;refine tr 4 fun K hK=>?_;go_simp
  (go_at_call 56;refine (jM _ _).mono ?_;rintro e eY ⟨rfl,lH⟩;rw [← lH];clear lH)
  refine hK.out _ _ ?adi (fun hHeld=>?_)
  case adi=>(exact ⟨((hB0.drew).ah rfl).cell (j:=0) rfl,((hB0.drew).ah rfl).cell (j:=1) rfl,((hB0.drew).ah rfl).cell (j:=2) rfl,((hB0.drew).ah rfl).cell (j:=3) rfl⟩)
  clear hK K
  try simp only [Act.put,la,lz,ls]
  refine tr 9 fun K hK=>?_;go_simp
  (go_at_call 56;refine (jM _ _).mono ?_;rintro e eY ⟨rfl,lH⟩;rw [← lH];clear lH)
  refine hK.out _ _ ?adr (fun hHeld=>?_)
  case adr=>(exact ⟨((hB0.drew).ah rfl).cell (j:=0) rfl,((hB0.drew).ah rfl).cell (j:=1) rfl,((hB0.drew).ah rfl).cell (j:=2) rfl,((hB0.drew).ah rfl).cell (j:=3) rfl⟩)
  clear hK K
  try simp only [Act.put,la,lz,ls]
  refine tr 12 fun K hK=>?_;go_simp
  (go_at_call 108;refine (TB S A c _ (Reads.below hL hB0.drew.bw)).mono ?_;rintro e w1 ⟨rfl,hb1⟩)
  have hB1:=hB0.drew.call (by simp) hb1;refine hK.out _ _ ?YF (fun hHeld=>?_)
  case YF=>(exact ⟨((hB1).ah rfl).cell (j:=0) rfl,((hB1).ah rfl).cell (j:=1) rfl,((hB1).ah rfl).cell (j:=2) rfl,((hB1).ah rfl).cell (j:=3) rfl⟩)
  clear hK K
  try simp only [Act.put,la,lz,ls]
  refine tr 13 fun K hK=>?_;go_simp
  (go_at_call 56;refine (jM _ _).mono ?_;rintro e eY ⟨rfl,lH⟩;rw [← lH];clear lH)
  have hB2:=hB1.alloc (by simp) (.cells #[.int .i64 0,.int .i64 0,.int .i64 0] 39);refine hK.out _ _ ?YG (fun hHeld=>?_)
  case YG=>(exact ⟨((hB1).ah rfl).cell (j:=0) rfl,((hB1).ah rfl).cell (j:=1) rfl,((hB1).ah rfl).cell (j:=2) rfl,((hB1).ah rfl).cell (j:=3) rfl⟩)
  clear hK K
  try simp only [Act.put,la,lz,ls]
  refine tr 14 fun K hK=>?_;go_simp;refine hK.out _ _ ?YH (fun hHeld=>?_)
  case YH=>(exact ⟨((hB2).ah rfl).cell (j:=0) rfl,((hB2).ah rfl).cell (j:=1) rfl,((hB2).ah rfl).cell (j:=2) rfl,((hB2).ah rfl).cell (j:=3) rfl⟩)
  clear hK K
  try simp only [Act.put,la,lz,ls]
  refine tr 15 fun K hK=>?_;go_simp
  (go_at_call 55;refine (Ho _ _ rfl).mono ?_;rintro e w5 ⟨rfl,hw5⟩;rw [hw5];clear hw5)
  refine hK.out _ _ ?YI (fun hHeld=>?_)
  case YI=>(exact ⟨((hB2).ah rfl).cell (j:=0) rfl,((hB2).ah rfl).cell (j:=1) rfl,((hB2).ah rfl).cell (j:=2) rfl,((hB2).ah rfl).cell (j:=3) rfl⟩)
  clear hK K
  try simp only [Act.put,la,lz,ls]
  refine tk 16 ?_;refine wpAnyH_done (by kernel_rfl) ?_ _
  go_upto_region 4 with (fail)
  refine wp_region_held_drew (S:=(fun w':World=>w'.cell? ⟨w.heap.size,0,none⟩=some (.slice A 4 c)∧w'.cell? ⟨w.heap.size,1,none⟩=some (.int .i64 30)∧w'.cell? ⟨w.heap.size,2,none⟩=some (.slice none 0 0)∧w'.cell? ⟨w.heap.size,3,none⟩=some (.slice B 1 d))) (by kernel_rfl) ?sG (fun hHeld=>?_)
  case sG=>exact ⟨((hB2.drew).ah rfl).cell (j:=0) rfl,((hB2.drew).ah rfl).cell (j:=1) rfl,((hB2.drew).ah rfl).cell (j:=2) rfl,((hB2.drew).ah rfl).cell (j:=3) rfl⟩
  refine tk 0 ?_;refine tk 4 ?_;refine tk 5 ?_;refine tk 6 ?_;refine tk 13 ?_;refine tk 14 ?_;refine tk 15 ?_;refine tk 16 ?_;refine tr 1 fun K hK=>?_;go_simp
  (go_at_call 110;refine (LZ S A B c d _ (Reads.below hL hB2.drew.bw)).mono ?_;rintro e w3 ⟨rfl,hb3⟩)
  have hB3:=hB2.drew.call (by simp) hb3;refine hK.out _ _ ?acO (fun hHeld=>?_)
  case acO=>(exact ⟨((hB3).ah rfl).cell (j:=0) rfl,((hB3).ah rfl).cell (j:=1) rfl,((hB3).ah rfl).cell (j:=2) rfl,((hB3).ah rfl).cell (j:=3) rfl⟩)
  clear hK K
  try simp only [Act.put,la,lz,ls]
  refine tk 2 ?_;refine tr 3 fun K hK=>?_;go_simp
  (go_at_call 56;refine (jM _ _).mono ?_;rintro e eY ⟨rfl,lH⟩;rw [← lH];clear lH)
  refine hK.out _ _ ?acV (fun hHeld=>?_)
  case acV=>(exact ⟨((hB3).ah rfl).cell (j:=0) rfl,((hB3).ah rfl).cell (j:=1) rfl,((hB3).ah rfl).cell (j:=2) rfl,((hB3).ah rfl).cell (j:=3) rfl⟩)
  clear hK K
  try simp only [Act.put,la,lz,ls]
  refine tk 7 ?_;refine tk 8 ?_;refine tk 9 ?_;refine tk 10 ?_;refine tk 11 ?_;refine tr 12 fun K hK=>?_;go_simp
  (go_at_call 56;refine (jM _ _).mono ?_;rintro e eY ⟨rfl,lH⟩;rw [← lH];clear lH)
  refine hK.out _ _ ?YB (fun hHeld=>?_)
  case YB=>(exact ⟨((hB3).ah rfl).cell (j:=0) rfl,((hB3).ah rfl).cell (j:=1) rfl,((hB3).ah rfl).cell (j:=2) rfl,((hB3).ah rfl).cell (j:=3) rfl⟩)
  clear hK K
  try simp only [Act.put,la,lz,ls]
  refine tr 17 fun K hK=>?_;go_simp
  (go_at_call 111;refine (Au _ _).mono ?_;rintro e w6 ⟨rfl,hw6⟩;rw [hw6];clear hw6)
  have hB4:=hB3.alloc (by simp) (.cells #[.int .i64 0,.int .i64 0,.int .i64 0] 39);refine hK.out _ _ ?YC (fun hHeld=>?_)
  case YC=>(exact ⟨((hB3).ah rfl).cell (j:=0) rfl,((hB3).ah rfl).cell (j:=1) rfl,((hB3).ah rfl).cell (j:=2) rfl,((hB3).ah rfl).cell (j:=3) rfl⟩)
  clear hK K
  try simp only [Act.put,la,lz,ls]
  refine tr 18 fun K hK=>?_;go_simp;refine hK.out _ _ ?YD (fun hHeld=>?_)
  case YD=>(exact ⟨((hB4).ah rfl).cell (j:=0) rfl,((hB4).ah rfl).cell (j:=1) rfl,((hB4).ah rfl).cell (j:=2) rfl,((hB4).ah rfl).cell (j:=3) rfl⟩)
  clear hK K
  try simp only [Act.put,la,lz,ls]
  refine tr 19 fun K hK=>?_;go_simp
  (go_at_call 55;refine (Ho _ _ rfl).mono ?_;rintro e w5 ⟨rfl,hw5⟩;rw [hw5];clear hw5)
  refine hK.out _ _ ?YE (fun hHeld=>?_)
  case YE=>(exact ⟨((hB4).ah rfl).cell (j:=0) rfl,((hB4).ah rfl).cell (j:=1) rfl,((hB4).ah rfl).cell (j:=2) rfl,((hB4).ah rfl).cell (j:=3) rfl⟩)
  clear hK K
  try simp only [Act.put,la,lz,ls]
  refine tk 20 ?_;refine wpAnyH_done (by kernel_rfl) ?_ _;have hg4:=hg.below hB4.bw;have hL4:=Reads.below hL hB4.bw;have hS4:=hS.below hB4.bw;have CV:=(hB4.ah rfl).cell (j:=0) rfl;have qE:=(hB4.ah rfl).frozen 0;have CW:=(hB4.ah rfl).cell (j:=1) rfl;have qF:=(hB4.ah rfl).frozen 1;have DU:=(hB4.ah rfl).cell (j:=2) rfl;have qR:=(hB4.ah rfl).frozen 2;have DV:=(hB4.ah rfl).cell (j:=3) rfl;have qU:=(hB4.ah rfl).frozen 3
  go_wp2_with (go_at_call 113;refine (FY S A B c d _ hg4 hL4 hS4).mono ?_;rintro e w7 ⟨rfl,hb7⟩;have ZT:=hB4.call (by simp) hb7)
  go_ret;exact ⟨rfl,ZT.bw⟩
abbrev aqi:ByteArray:=⟨#[116,114,105,97,110,103,108,101]⟩
def rkV (i j:Nat):Nm.Vec:=(Nm.div ⟨7*i*30,1⟩ ⟨4,1⟩,⟨(2*j - (i+1)+1)*30,1⟩)
def rkP (i j:Nat):Nm.Vec:=Nm.O9 (⟨1500,1⟩,⟨500,1⟩) (rkV i j)
def aqb (i j:Nat):Bool:=Nm.ok ⟨7*i*30,1⟩ && Nm.ok (Nm.inv ⟨4,1⟩) && Nm.Ru (rkV i j) && Nm.Ru (rkP i j) && Yu (rkP i j) && decide (0≤Dj (rkP i j) 4)
theorem WM:∀ i,i<5→∀ j,j<i+1→aqb i j=true:=by decide+kernel
theorem newAt {w W:World} (_:Below w.heap.size w W) (us:List Value) (t:TypeId):Held (W.alloc (.cells us.toArray t)) W.heap.size us t:=Held.new W us t
theorem rO (x:Int) (h: -9223372036854775808≤x) (h':x<9223372036854775808):IntKind.i64.wrap x=x:=by rw [IntKind.wrap_i64];omega
def tri:Nat→Nat
 | 0=>0
 | k+1=>tri k+(k+1)
structure ZH (w:World) (A B:Option Addr) (c d g gk n:Nat) (v:Value) (xs:List Value) (W:World):Prop where
 b:aX w W [(dI A c B d,87),([.int .i64 5,.int .i64 0],51)]
 vc:Held W g (aN (⟨1500,1⟩,⟨500,1⟩)) 130
 kd:Held W gk [.func (.func 118) #[] #[],.func (.func 119) #[] #[]] 136
 own:W.ownsRow (gk+2) 147 2 v n xs
 sz:gk+2≤W.heap.size
theorem Kv:(Tryz.prog.info? 147).map (fun i=>(i.zero,i.size,i.bytes))=some (some (.agg #[.string ⟨#[]⟩,.string ⟨#[]⟩]),2,32):=by kernel_rfl
theorem agC (k:Nat) (h:k<5):tri k≤10:=by
 obtain rfl | rfl | rfl | rfl | rfl:k=0∨k=1∨k=2∨k=3∨k=4:=by omega
 all_goals decide
theorem ZH.below {w W W':World} {A B:Option Addr} {c d g gk n:Nat} {v:Value} {xs:List Value} (h:ZH w A B c d g gk n v xs W) (hb:Below W.heap.size W W'):ZH w A B c d g gk n v xs W':=
 ⟨h.b.call (by simp) hb,h.vc.below hb,h.kd.below hb,xX h.own hb,Nat.le_trans h.sz hb.size⟩
theorem Rn (S:Nat→Prop) (A B:Option Addr) (c d:Nat) (w:World) (hg:Glob w) (hL:fP w S A c corners) (hS:Reads w S 3 B 1 d [.string iK,.string jc,.string lU]):
 Calls Tryz.prog 26 #[yj A c B d,.string iK,.string aqi,.agg #[.int .i64 5,.int .i64 0]] w fun e w'=>(∃ P q,e= .returned (.tuple #[.slice P 15 q,.int .i64 0]))∧Below w.heap.size w w':=by
 have eg2:∀ args w,(callFunc 119 args).run Tryz.prog w= .ok (.enter 119 args) w:=enters_of Tryz.func119 (by kernel_rfl) rfl;have eg1:∀ args w,(callFunc 118 args).run Tryz.prog w= .ok (.enter 118 args) w:=enters_of Tryz.func118 (by kernel_rfl) rfl
 go_enter Tryz.func26,Tryz.ntmps26
 go_upto_region 0 with (fail)
 go_cut [4,7] (fun v4 v7 wx=>v4=ptr w.heap.size∧v7=ptr (w.heap.size+1)∧aX w wx [(dI A c B d,87),([.int .i64 5,.int .i64 0],51)])
 case first=>
  go_wp2;go_meet;exact ⟨rfl,rfl,(((aX.nil w).new (by simp) (dI A c B d) _).new (by simp) ([.int .i64 5,.int .i64 0]) _)⟩
 case rest=>
  obtain ⟨rfl,rfl,hB⟩:=hcut
  go_upto_region 4 with (first | (go_at_call 52;refine (BH S A B c d _ (hg.below hB.bw) (Reads.below hL hB.bw) (hS.below hB.bw)).mono ?_;rintro e w1 ⟨rfl,hb1⟩;have hB1:=hB.call (by simp) hb1) | (refine aB 87 (.tmp 4) rfl ?_;refine ak (hB.ah rfl) Tryz.underlying87 rfl sN rfl (.tmp 4) rfl rfl ?_))
  go_cut [11,12] (fun v11 v12 wx=>∃ g,v11=ptr g∧v12= .bool true∧aX w wx [(dI A c B d,87),([.int .i64 5,.int .i64 0],51)]∧w.heap.size+2≤g∧Held wx g (aN (⟨1500,1⟩,⟨500,1⟩)) 130)
  case first=>
   go_wp2_with (first | (go_at_call 53;refine (WR S A B c d _ (hg.below hB1.bw) (hS.below hB1.bw)).mono ?_;rintro e w2 ⟨rfl,hb2⟩;have hB2:=hB1.call (by simp) hb2;have hX:=Held.new w2 (aN (⟨0,0⟩,⟨0,0⟩)) 130) | (refine aB 87 (.tmp 4) rfl ?_;refine ak (hB1.ah rfl) Tryz.underlying87 rfl sN rfl (.tmp 4) rfl rfl ?_) | (refine aO 130 (.tmp 11) (.tmp 37) rfl ?_;refine aF (hX) (aN (⟨1500,1⟩,⟨500,1⟩)) rfl dZ (jd _) rfl (.tmp 11) (.tmp 37) rfl rfl rfl ?_))
   go_meet;have hs2:=hB2.size (by simp)
   simp only [List.length_cons,List.length_nil] at hs2
   exact ⟨w2.heap.size,rfl,rfl,(hB2.alloc (by simp) _).Ig (by simpa using hs2) _ _,by simpa using hs2,hX.whole _ rfl⟩
  case rest=>
   obtain ⟨g,rfl,rfl,hB3,hg1,hV⟩:=hcut
   rename World=>W3
   have hlk:=Ef (heap_alloc_new W3 (.map (KL 2) 2));have hK0:=Held.newAt (W3.alloc (.map (KL 2) 2)) [.func (.func 118) #[] #[],.func (.func 119) #[] #[]] 136 (g:=W3.heap.size+1) (by simp);have hB4:=(hB3.alloc (by simp) (.map (KL 2) 2)).alloc (by simp) (.cells ([.func (.func 118) #[] #[],.func (.func 119) #[] #[]]).toArray 136);have uw:=(hV.alloc (.map (KL 2) 2)).alloc (.cells ([.func (.func 118) #[] #[],.func (.func 119) #[] #[]]).toArray 136)
   go_upto_region 9 with (first | (go_at_call 54;refine (Ol _).mono ?_;rintro e w4 ⟨rfl,hw4⟩;rw [← hw4];clear hw4) | (go_at_call 56;refine (jM _ _).mono ?_;rintro e eY ⟨rfl,lH⟩;rw [← lH];clear lH) | (go_at_call 55;refine (Hl _ _ (by simp)).mono ?_;rintro e w5 ⟨rfl,hw5⟩;rw [hw5];clear hw5))
   have fM:=hB4.alloc (by simp) (.cells #[.int .i64 0,.int .i64 0] 39);have XY:=uw.alloc (.cells #[.int .i64 0,.int .i64 0] 39);have hK5:=hK0.alloc (.cells #[.int .i64 0,.int .i64 0] 39);have ks0:=(fM.get 1 rfl).cell (j:=0) rfl;have avE:=(fM.get 1 rfl).frozen 0;have ks1:=(fM.get 1 rfl).cell (j:=1) rfl;have avL:=(fM.get 1 rfl).frozen 1;have kk0:=(hK5).cell (j:=0) rfl;have Yl:=(hK5).frozen 0;have kk1:=(hK5).cell (j:=1) rfl;have Ym:=(hK5).frozen 1;have hs3:=hB3.size (by simp)
   simp only [List.length_cons,List.length_nil] at hs3
   obtain ⟨gk,hgk⟩:∃ gk,W3.heap.size+1=gk:=⟨_,rfl⟩;rw [hgk] at hK5 kk0 Yl kk1 Ym
   have aDV:w.heap.size+2≤gk:=by omega
   have hgl:=hV.lt
   have hD:((W3.alloc (.map (KL 2) 2)).alloc (.cells ([.func (.func 118) #[] #[],.func (.func 119) #[] #[]]).toArray 136)).heap.size+1=gk+2:=by simp;omega
   simp only [hgk]
   clear hlk hK0 hB4 uw hV hB3
   go_quiet (fail)
   have hI0:ZH w A B c d g gk 0 (.slice none 0 0) [] ((((W3.alloc (.map (KL 2) 2)).alloc (.cells ([.func (.func 118) #[] #[],.func (.func 119) #[] #[]]).toArray 136)).alloc (.cells #[.int .i64 0,.int .i64 0] 39)).drewN nq):=⟨fM.drewN nq,XY.drewN nq,hK5.drewN nq,World.ownsRow_nil _ _ _ _,by show gk+2≤(Array.push _ _).size;rw [Array.size_push];omega⟩;clear fM XY hK5 hD hs3
   go_wp2_with (go_at_fn 119;refine (fits_any _ _).mono ?_;rintro e w5 ⟨rfl,hw5⟩;rw [hw5];clear hw5)
   go_loopw [18,19,20,82] (fun v18 v19 v20 i wr=>∃ (k:Nat) (P:Option Addr) (q:Nat) (xs:List Value),k≤5∧i= .int .i64 k∧v18= .slice P (tri k) q∧v19= .bool false∧v20= .int .i64 0∧ZH w A B c d g gk (tri k) (.slice P (tri k) q) xs wr) (fun _ _ _ i _=>5 - (intOf i).toNat)
   case atStart=>exact ⟨0,none,0,[],by omega,rfl,rfl,rfl,rfl,hI0⟩
   case round=>
    clear hI0 ks0 avE ks1 avL kk0 Yl kk1 Ym;obtain ⟨k,P,q,xs,hk,rfl,rfl,rfl,rfl,hI⟩:=hrel
    by_cases hlt:k<5
    · have TY:decide ((k:Int)<5)=true:=decide_eq_true (by omega)
      have kk0:=(hI.kd).cell (j:=0) rfl;have Yl:=(hI.kd).frozen 0;have kk1:=(hI.kd).cell (j:=1) rfl;have Ym:=(hI.kd).frozen 1
      go_wp2_with (go_at_fn 118;refine (YN 5 k _ (by omega) (by omega)).mono ?_;rintro e w5 ⟨rfl,hw5⟩;rw [hw5];clear hw5)
      go_loopw [18,19,20,91] (fun v18 v19 v20 i wr2=>∃ (j:Nat) (P:Option Addr) (q:Nat) (xs:List Value),j≤k+1∧i= .int .i64 j∧v18= .slice P (tri k+j) q∧v19= .bool false∧v20= .int .i64 0∧ZH w A B c d g gk (tri k+j) (.slice P (tri k+j) q) xs wr2) (fun _ _ _ i _=>(k+1) - (intOf i).toNat)
      case atStart=>exact ⟨0,P,q,xs,by omega,rfl,rfl,rfl,rfl,hI⟩
      case round=>
       clear hI kk0 Yl kk1 Ym;obtain ⟨j,P,q,xs,hj,rfl,rfl,rfl,rfl,hI⟩:=hrel
       by_cases hjl:j<k+1
       · have hok:=WM k hlt j hjl
         unfold aqb at hok
         simp only [Bool.and_eq_true] at hok
         obtain ⟨⟨⟨⟨⟨o1,o2⟩,o3⟩,o4⟩,o5⟩,o6⟩:=hok;have HD:=fun W=>TD ⟨7*(k:Int)*30,1⟩ ⟨4,1⟩ W o1 (by decide) (by decide) o2;have uD:=fun W=>Rw (⟨1500,1⟩,⟨500,1⟩) (rkV k j) W (by decide) o3;have RF:=fun W=>KT (rkV k j) W;have Xa:=fun W h=>O7 S A B c d (rkP k j) W h o5;have yL:=fun W h=>Oe (rkP k j) W h o4
         unfold rkP at Xa yL o6
         unfold rkV at Xa yL o6 uD RF
         obtain ⟨a1,ha1⟩:∃ a,7*(k:Int)*30=a:=⟨_,rfl⟩;obtain ⟨b1,hb1'⟩:∃ b,(2*(j:Int) - ((k:Int)+1)+1)*30=b:=⟨_,rfl⟩
         have hwa:IntKind.i64.wrap (IntKind.i64.wrap (7*(k:Int))*30)=a1:=by rw [rO (7*(k:Int)) (by omega) (by omega),rO _ (by omega) (by omega),ha1]
         have hwb:IntKind.i64.wrap (IntKind.i64.wrap (IntKind.i64.wrap (IntKind.i64.wrap (2*(j:Int)) - ((k:Int)+1))+1)*30)=b1:=by rw [rO (2*(j:Int)) (by omega) (by omega),rO (2*(j:Int) - ((k:Int)+1)) (by omega) (by omega),rO (2*(j:Int) - ((k:Int)+1)+1) (by omega) (by omega),rO _ (by omega) (by omega),hb1']
         simp only [ha1,hb1'] at HD uD RF Xa yL o6
         obtain ⟨r,hr⟩:∃ r,Nm.div ⟨a1,1⟩ ⟨4,1⟩=r:=⟨_,rfl⟩
         simp only [hr] at HD uD RF Xa yL o6
         obtain ⟨p,hp⟩:∃ p,Nm.O9 (⟨1500,1⟩,⟨500,1⟩) (r,⟨b1,1⟩)=p:=⟨_,rfl⟩
         simp only [hp] at uD Xa yL o6
         obtain ⟨m,hm⟩:∃ m,Dj p 4=m:=⟨_,rfl⟩
         simp only [hm] at Xa o6
         have hm0:decide (m<0)=false:=decide_eq_false (by have:=of_decide_eq_true o6;omega);have hjb:decide ((j:Int)<(k:Int)+1)=true:=decide_eq_true (by omega);clear hr hp hm o1 o2 o3 o4 o5 o6;have HD:=hide HD;have uD:=hide uD;have RF:=hide RF;have Xa:=hide Xa;have yL:=hide yL;have hT:=hI.b;have pO:=hI.vc
         go_upto_region 21 with (fail)
         go_cut [24] from 94 to 116 (fun v24 wx=>∃ G,v24=ptr G∧wr.heap.size≤G∧Held wx G (aN p) 130∧Below wr.heap.size wr wx)
         case first=>
          have hcur:Below wr.heap.size wr wr.drew:=(Below.refl _ _).drew;refine wp_region_held_drew (S:=(fun w':World=>w'.cell? ⟨w.heap.size,1,none⟩=some (.int .i64 30)∧Held w' g (aN (⟨1500,1⟩,⟨500,1⟩)) 130)) (by kernel_rfl) ?sG (fun hHeld=>?_)
          case sG=>exact ⟨(hT.drew.ah rfl).cell (j:=1) rfl,pO.drew⟩
          refine wpAnyH_take (i:=0) (oi:=_) (v:=_) (ga rfl) (by kernel_rfl) (by kernel_rfl) (by kernel_rfl) (fun _ _ _ h=>h) (yieldsIf_load_mid (by rfl) _ _ (by rfl) _ _ (by rfl) _ _ (fun _ h=>(h.2:Held _ _ _ _).range) Tryz.underlying130 rfl (by kernel_rfl)) (by assumption) ?_
          try simp only [Act.put,la,lz,ls]
          refine tk 1 ?_;refine tk 2 ?_;refine tk 3 ?_;refine tk 4 ?_;refine tk 5 ?_;refine tk 9 ?_;refine tk 10 ?_;refine tk 11 ?_;refine tk 12 ?_;refine tk 13 ?_;refine tk 14 ?_;refine tk 15 ?_;refine tk 16 ?_;refine tk 19 ?_;refine wpAnyH_ready (rs:=[6,22]) (by kernel_rfl) (by simp) ?_;refine AllReadyH.cons (o:=_) (ga rfl) (fun K hK=>?_) (AllReadyH.cons (o:=_) (ga rfl) (fun K hK=>?_) AllReadyH.nil)
          · go_simp
            (go_at_call 58;refine (f_any a1 _).mono ?_;rintro e w10 ⟨rfl,sW⟩)
            first
            | (have aI:=bK.trans (sW.mono bK.size);have dU:=hp2.below sW;clear bK hp2 hcur;have hcur:=aI;have hpp:=dU;clear aI dU)
            | (have aI:=hcur.trans (sW.mono hcur.size);have dU:=hpp.below sW;clear hcur hpp;have hcur:=aI;have hpp:=dU;clear aI dU)
            | (have aI:=hcur.trans (sW.mono hcur.size);clear hcur;have hcur:=aI;clear aI)
            refine hK.out _ _ ?QG (fun hHeld=>?_)
            case QG=>(exact ⟨((hT.call (by simp) hcur).ah rfl).cell (j:=1) rfl,pO.below hcur⟩)
            clear hK K
            try simp only [Act.put,la,lz,ls]
            refine wpAnyH_ready (rs:=[7,22]) (by kernel_rfl) (by simp) ?_;refine AllReadyH.cons (o:=_) (ga rfl) (fun K hK=>?_) (AllReadyH.cons (o:=_) (ga rfl) (fun K hK=>?_) AllReadyH.nil)
            · go_simp
              (go_at_call 58;refine (f_any 4 _).mono ?_;rintro e Xg ⟨rfl,oD⟩)
              first
              | (have aI:=bK.trans (oD.mono bK.size);have dU:=hp2.below oD;clear bK hp2 hcur;have hcur:=aI;have hpp:=dU;clear aI dU)
              | (have aI:=hcur.trans (oD.mono hcur.size);have dU:=hpp.below oD;clear hcur hpp;have hcur:=aI;have hpp:=dU;clear aI dU)
              | (have aI:=hcur.trans (oD.mono hcur.size);clear hcur;have hcur:=aI;clear aI)
              refine hK.out _ _ ?QH (fun hHeld=>?_)
              case QH=>(exact ⟨((hT.call (by simp) hcur).ah rfl).cell (j:=1) rfl,pO.below hcur⟩)
              clear hK K
              try simp only [Act.put,la,lz,ls]
              refine wpAnyH_ready (rs:=[8,22]) (by kernel_rfl) (by simp) ?_;refine AllReadyH.cons (o:=_) (ga rfl) (fun K hK=>?_) (AllReadyH.cons (o:=_) (ga rfl) (fun K hK=>?_) AllReadyH.nil)
              · go_simp
                (go_at_call 59;refine (HD.out _).mono ?_;rintro e w12 ⟨rfl,oh⟩)
                first
                | (have aI:=bK.trans (oh.mono bK.size);have dU:=hp2.below oh;clear bK hp2 hcur;have hcur:=aI;have hpp:=dU;clear aI dU)
                | (have aI:=hcur.trans (oh.mono hcur.size);have dU:=hpp.below oh;clear hcur hpp;have hcur:=aI;have hpp:=dU;clear aI dU)
                | (have aI:=hcur.trans (oh.mono hcur.size);clear hcur;have hcur:=aI;clear aI)
                refine hK.out _ _ ?QI (fun hHeld=>?_)
                case QI=>(exact ⟨((hT.call (by simp) hcur).ah rfl).cell (j:=1) rfl,pO.below hcur⟩)
                clear hK K
                try simp only [Act.put,la,lz,ls]
                refine wpAnyH_ready (rs:=[17,22]) (by kernel_rfl) (by simp) ?_;refine AllReadyH.cons (o:=_) (ga rfl) (fun K hK=>?_) (AllReadyH.cons (o:=_) (ga rfl) (fun K hK=>?_) AllReadyH.nil)
                · go_simp
                  (go_at_call 58;refine (f_any b1 _).mono ?_;rintro e Zr ⟨rfl,jP⟩)
                  first
                  | (have aI:=bK.trans (jP.mono bK.size);have dU:=hp2.below jP;clear bK hp2 hcur;have hcur:=aI;have hpp:=dU;clear aI dU)
                  | (have aI:=hcur.trans (jP.mono hcur.size);have dU:=hpp.below jP;clear hcur hpp;have hcur:=aI;have hpp:=dU;clear aI dU)
                  | (have aI:=hcur.trans (jP.mono hcur.size);clear hcur;have hcur:=aI;clear aI)
                  refine hK.out _ _ ?Jy (fun hHeld=>?_)
                  case Jy=>(exact ⟨((hT.call (by simp) hcur).ah rfl).cell (j:=1) rfl,pO.below hcur⟩)
                  clear hK K
                  try simp only [Act.put,la,lz,ls]
                  refine tk 18 ?_;refine wpAnyH_ready (rs:=[20,22]) (by kernel_rfl) (by simp) ?_;refine AllReadyH.cons (o:=_) (ga rfl) (fun K hK=>?_) (AllReadyH.cons (o:=_) (ga rfl) (fun K hK=>?_) AllReadyH.nil)
                  · go_simp
                    (go_at_call 60;refine (RF.out _).mono ?_;rintro e Xh ⟨rfl,jT⟩)
                    first
                    | (have aI:=bK.trans (jT.mono bK.size);have dU:=hp2.below jT;clear bK hp2 hcur;have hcur:=aI;have hpp:=dU;clear aI dU)
                    | (have aI:=hcur.trans (jT.mono hcur.size);have dU:=hpp.below jT;clear hcur hpp;have hcur:=aI;have hpp:=dU;clear aI dU)
                    | (have aI:=hcur.trans (jT.mono hcur.size);clear hcur;have hcur:=aI;clear aI)
                    refine hK.out _ _ ?JD (fun hHeld=>?_)
                    case JD=>(exact ⟨((hT.call (by simp) hcur).ah rfl).cell (j:=1) rfl,pO.below hcur⟩)
                    clear hK K
                    try simp only [Act.put,la,lz,ls]
                    refine wpAnyH_ready (rs:=[21,22]) (by kernel_rfl) (by simp) ?_;refine AllReadyH.cons (o:=_) (ga rfl) (fun K hK=>?_) (AllReadyH.cons (o:=_) (ga rfl) (fun K hK=>?_) AllReadyH.nil)
                    · go_simp
                      (go_at_call 57;refine (uD.out _).mono ?_;rintro e w15 ⟨rfl,jl⟩)
                      first
                      | (have aI:=bK.trans (jl.mono bK.size);have dU:=hp2.below jl;clear bK hp2 hcur;have hcur:=aI;have hpp:=dU;clear aI dU)
                      | (have aI:=hcur.trans (jl.mono hcur.size);have dU:=hpp.below jl;clear hcur hpp;have hcur:=aI;have hpp:=dU;clear aI dU)
                      | (have aI:=hcur.trans (jl.mono hcur.size);clear hcur;have hcur:=aI;clear aI)
                      refine hK.out _ _ ?JJ (fun hHeld=>?_)
                      case JJ=>(exact ⟨((hT.call (by simp) hcur).ah rfl).cell (j:=1) rfl,pO.below hcur⟩)
                      clear hK K
                      try simp only [Act.put,la,lz,ls]
                      refine tr 22 fun K hK=>?_;go_simp;have Fp:=True.intro;have hp2:=newAt hcur (aN (⟨0,0⟩,⟨0,0⟩)) 130;have bK:=hcur.alloc hcur.size (.cells (aN (⟨0,0⟩,⟨0,0⟩)).toArray 130);have oG:=hcur.size;refine hK.out _ _ ?JU (fun hHeld=>?_)
                      case JU=>(exact ⟨((hT.call (by simp) bK).ah rfl).cell (j:=1) rfl,pO.below bK⟩)
                      clear hK K
                      try simp only [Act.put,la,lz,ls]
                      refine wpAnyH_ready (rs:=[23]) (by kernel_rfl) (by simp) ?_
                      first
                      | (have hF:=hp2.whole (aN p) rfl;have qg:=below_setCells _ oG (aN p) 0 _ _ bK;refine dM (o:=_) (ga rfl) (by kernel_rfl) hp2 (aN p) rfl dZ (jd _) (.tmp 24) (.tmp 115) rfl rfl rfl (by exact ⟨((hT.call (by simp) qg).ah rfl).cell (j:=1) rfl,pO.below qg⟩) ?_)
                      | (have hF:=hpp.whole (aN p) rfl;have qg:=below_setCells _ oG (aN p) 0 _ _ hcur;refine dM (o:=_) (ga rfl) (by kernel_rfl) hpp (aN p) rfl dZ (jd _) (.tmp 24) (.tmp 115) rfl rfl rfl (by exact ⟨((hT.call (by simp) qg).ah rfl).cell (j:=1) rfl,pO.below qg⟩) ?_)
                      try simp only [Act.put,la,lz,ls]
                      refine wpAnyH_done (by kernel_rfl) ?_ _;go_wp2;go_meet;exact ⟨_,rfl,oG,hF,qg⟩
                    · go_simp
                      have Fp:=True.intro;have hp2:=newAt hcur (aN (⟨0,0⟩,⟨0,0⟩)) 130;have bK:=hcur.alloc hcur.size (.cells (aN (⟨0,0⟩,⟨0,0⟩)).toArray 130);have oG:=hcur.size;refine hK.out _ _ ?JV (fun hHeld=>?_)
                      case JV=>(exact ⟨((hT.call (by simp) bK).ah rfl).cell (j:=1) rfl,pO.below bK⟩)
                      clear hK K
                      try simp only [Act.put,la,lz,ls]
                      refine tr 21 fun K hK=>?_;go_simp
                      (go_at_call 57;refine (uD.out _).mono ?_;rintro e w15 ⟨rfl,jl⟩)
                      first
                      | (have aI:=bK.trans (jl.mono bK.size);have dU:=hp2.below jl;clear bK hp2 hcur;have hcur:=aI;have hpp:=dU;clear aI dU)
                      | (have aI:=hcur.trans (jl.mono hcur.size);have dU:=hpp.below jl;clear hcur hpp;have hcur:=aI;have hpp:=dU;clear aI dU)
                      | (have aI:=hcur.trans (jl.mono hcur.size);clear hcur;have hcur:=aI;clear aI)
                      refine hK.out _ _ ?JK (fun hHeld=>?_)
                      case JK=>(exact ⟨((hT.call (by simp) hcur).ah rfl).cell (j:=1) rfl,pO.below hcur⟩)
                      clear hK K
                      try simp only [Act.put,la,lz,ls]
                      refine wpAnyH_ready (rs:=[23]) (by kernel_rfl) (by simp) ?_
                      first
                      | (have hF:=hp2.whole (aN p) rfl;have qg:=below_setCells _ oG (aN p) 0 _ _ bK;refine dM (o:=_) (ga rfl) (by kernel_rfl) hp2 (aN p) rfl dZ (jd _) (.tmp 24) (.tmp 115) rfl rfl rfl (by exact ⟨((hT.call (by simp) qg).ah rfl).cell (j:=1) rfl,pO.below qg⟩) ?_)
                      | (have hF:=hpp.whole (aN p) rfl;have qg:=below_setCells _ oG (aN p) 0 _ _ hcur;refine dM (o:=_) (ga rfl) (by kernel_rfl) hpp (aN p) rfl dZ (jd _) (.tmp 24) (.tmp 115) rfl rfl rfl (by exact ⟨((hT.call (by simp) qg).ah rfl).cell (j:=1) rfl,pO.below qg⟩) ?_)
                      try simp only [Act.put,la,lz,ls]
                      refine wpAnyH_done (by kernel_rfl) ?_ _;go_wp2;go_meet;exact ⟨_,rfl,oG,hF,qg⟩
                  · go_simp
                    have Fp:=True.intro;have hp2:=newAt hcur (aN (⟨0,0⟩,⟨0,0⟩)) 130;have bK:=hcur.alloc hcur.size (.cells (aN (⟨0,0⟩,⟨0,0⟩)).toArray 130);have oG:=hcur.size;refine hK.out _ _ ?JW (fun hHeld=>?_)
                    case JW=>(exact ⟨((hT.call (by simp) bK).ah rfl).cell (j:=1) rfl,pO.below bK⟩)
                    clear hK K
                    try simp only [Act.put,la,lz,ls]
                    refine tr 20 fun K hK=>?_;go_simp
                    (go_at_call 60;refine (RF.out _).mono ?_;rintro e Xh ⟨rfl,jT⟩)
                    first
                    | (have aI:=bK.trans (jT.mono bK.size);have dU:=hp2.below jT;clear bK hp2 hcur;have hcur:=aI;have hpp:=dU;clear aI dU)
                    | (have aI:=hcur.trans (jT.mono hcur.size);have dU:=hpp.below jT;clear hcur hpp;have hcur:=aI;have hpp:=dU;clear aI dU)
                    | (have aI:=hcur.trans (jT.mono hcur.size);clear hcur;have hcur:=aI;clear aI)
                    refine hK.out _ _ ?JE (fun hHeld=>?_)
                    case JE=>(exact ⟨((hT.call (by simp) hcur).ah rfl).cell (j:=1) rfl,pO.below hcur⟩)
                    clear hK K
                    try simp only [Act.put,la,lz,ls]
                    refine tr 21 fun K hK=>?_;go_simp
                    (go_at_call 57;refine (uD.out _).mono ?_;rintro e w15 ⟨rfl,jl⟩)
                    first
                    | (have aI:=bK.trans (jl.mono bK.size);have dU:=hp2.below jl;clear bK hp2 hcur;have hcur:=aI;have hpp:=dU;clear aI dU)
                    | (have aI:=hcur.trans (jl.mono hcur.size);have dU:=hpp.below jl;clear hcur hpp;have hcur:=aI;have hpp:=dU;clear aI dU)
                    | (have aI:=hcur.trans (jl.mono hcur.size);clear hcur;have hcur:=aI;clear aI)
                    refine hK.out _ _ ?JL (fun hHeld=>?_)
                    case JL=>(exact ⟨((hT.call (by simp) hcur).ah rfl).cell (j:=1) rfl,pO.below hcur⟩)
                    clear hK K
                    try simp only [Act.put,la,lz,ls]
                    refine wpAnyH_ready (rs:=[23]) (by kernel_rfl) (by simp) ?_
                    first
                    | (have hF:=hp2.whole (aN p) rfl;have qg:=below_setCells _ oG (aN p) 0 _ _ bK;refine dM (o:=_) (ga rfl) (by kernel_rfl) hp2 (aN p) rfl dZ (jd _) (.tmp 24) (.tmp 115) rfl rfl rfl (by exact ⟨((hT.call (by simp) qg).ah rfl).cell (j:=1) rfl,pO.below qg⟩) ?_)
                    | (have hF:=hpp.whole (aN p) rfl;have qg:=below_setCells _ oG (aN p) 0 _ _ hcur;refine dM (o:=_) (ga rfl) (by kernel_rfl) hpp (aN p) rfl dZ (jd _) (.tmp 24) (.tmp 115) rfl rfl rfl (by exact ⟨((hT.call (by simp) qg).ah rfl).cell (j:=1) rfl,pO.below qg⟩) ?_)
                    try simp only [Act.put,la,lz,ls]
                    refine wpAnyH_done (by kernel_rfl) ?_ _;go_wp2;go_meet;exact ⟨_,rfl,oG,hF,qg⟩
                · go_simp
                  have Fp:=True.intro;have hp2:=newAt hcur (aN (⟨0,0⟩,⟨0,0⟩)) 130;have bK:=hcur.alloc hcur.size (.cells (aN (⟨0,0⟩,⟨0,0⟩)).toArray 130);have oG:=hcur.size;refine hK.out _ _ ?JX (fun hHeld=>?_)
                  case JX=>(exact ⟨((hT.call (by simp) bK).ah rfl).cell (j:=1) rfl,pO.below bK⟩)
                  clear hK K
                  try simp only [Act.put,la,lz,ls]
                  refine tr 17 fun K hK=>?_;go_simp
                  (go_at_call 58;refine (f_any b1 _).mono ?_;rintro e Zr ⟨rfl,jP⟩)
                  first
                  | (have aI:=bK.trans (jP.mono bK.size);have dU:=hp2.below jP;clear bK hp2 hcur;have hcur:=aI;have hpp:=dU;clear aI dU)
                  | (have aI:=hcur.trans (jP.mono hcur.size);have dU:=hpp.below jP;clear hcur hpp;have hcur:=aI;have hpp:=dU;clear aI dU)
                  | (have aI:=hcur.trans (jP.mono hcur.size);clear hcur;have hcur:=aI;clear aI)
                  refine hK.out _ _ ?Jz (fun hHeld=>?_)
                  case Jz=>(exact ⟨((hT.call (by simp) hcur).ah rfl).cell (j:=1) rfl,pO.below hcur⟩)
                  clear hK K
                  try simp only [Act.put,la,lz,ls]
                  refine tk 18 ?_;refine tr 20 fun K hK=>?_;go_simp
                  (go_at_call 60;refine (RF.out _).mono ?_;rintro e Xh ⟨rfl,jT⟩)
                  first
                  | (have aI:=bK.trans (jT.mono bK.size);have dU:=hp2.below jT;clear bK hp2 hcur;have hcur:=aI;have hpp:=dU;clear aI dU)
                  | (have aI:=hcur.trans (jT.mono hcur.size);have dU:=hpp.below jT;clear hcur hpp;have hcur:=aI;have hpp:=dU;clear aI dU)
                  | (have aI:=hcur.trans (jT.mono hcur.size);clear hcur;have hcur:=aI;clear aI)
                  refine hK.out _ _ ?JF (fun hHeld=>?_)
                  case JF=>(exact ⟨((hT.call (by simp) hcur).ah rfl).cell (j:=1) rfl,pO.below hcur⟩)
                  clear hK K
                  try simp only [Act.put,la,lz,ls]
                  refine tr 21 fun K hK=>?_;go_simp
                  (go_at_call 57;refine (uD.out _).mono ?_;rintro e w15 ⟨rfl,jl⟩)
                  first
                  | (have aI:=bK.trans (jl.mono bK.size);have dU:=hp2.below jl;clear bK hp2 hcur;have hcur:=aI;have hpp:=dU;clear aI dU)
                  | (have aI:=hcur.trans (jl.mono hcur.size);have dU:=hpp.below jl;clear hcur hpp;have hcur:=aI;have hpp:=dU;clear aI dU)
                  | (have aI:=hcur.trans (jl.mono hcur.size);clear hcur;have hcur:=aI;clear aI)
                  refine hK.out _ _ ?JM (fun hHeld=>?_)
                  case JM=>(exact ⟨((hT.call (by simp) hcur).ah rfl).cell (j:=1) rfl,pO.below hcur⟩)
                  clear hK K
                  try simp only [Act.put,la,lz,ls]
                  refine wpAnyH_ready (rs:=[23]) (by kernel_rfl) (by simp) ?_
                  first
                  | (have hF:=hp2.whole (aN p) rfl;have qg:=below_setCells _ oG (aN p) 0 _ _ bK;refine dM (o:=_) (ga rfl) (by kernel_rfl) hp2 (aN p) rfl dZ (jd _) (.tmp 24) (.tmp 115) rfl rfl rfl (by exact ⟨((hT.call (by simp) qg).ah rfl).cell (j:=1) rfl,pO.below qg⟩) ?_)
                  | (have hF:=hpp.whole (aN p) rfl;have qg:=below_setCells _ oG (aN p) 0 _ _ hcur;refine dM (o:=_) (ga rfl) (by kernel_rfl) hpp (aN p) rfl dZ (jd _) (.tmp 24) (.tmp 115) rfl rfl rfl (by exact ⟨((hT.call (by simp) qg).ah rfl).cell (j:=1) rfl,pO.below qg⟩) ?_)
                  try simp only [Act.put,la,lz,ls]
                  refine wpAnyH_done (by kernel_rfl) ?_ _;go_wp2;go_meet;exact ⟨_,rfl,oG,hF,qg⟩
              · go_simp
                have Fp:=True.intro;have hp2:=newAt hcur (aN (⟨0,0⟩,⟨0,0⟩)) 130;have bK:=hcur.alloc hcur.size (.cells (aN (⟨0,0⟩,⟨0,0⟩)).toArray 130);have oG:=hcur.size;refine hK.out _ _ ?JY (fun hHeld=>?_)
                case JY=>(exact ⟨((hT.call (by simp) bK).ah rfl).cell (j:=1) rfl,pO.below bK⟩)
                clear hK K
                try simp only [Act.put,la,lz,ls]
                refine tr 8 fun K hK=>?_;go_simp
                (go_at_call 59;refine (HD.out _).mono ?_;rintro e w12 ⟨rfl,oh⟩)
                first
                | (have aI:=bK.trans (oh.mono bK.size);have dU:=hp2.below oh;clear bK hp2 hcur;have hcur:=aI;have hpp:=dU;clear aI dU)
                | (have aI:=hcur.trans (oh.mono hcur.size);have dU:=hpp.below oh;clear hcur hpp;have hcur:=aI;have hpp:=dU;clear aI dU)
                | (have aI:=hcur.trans (oh.mono hcur.size);clear hcur;have hcur:=aI;clear aI)
                refine hK.out _ _ ?NR (fun hHeld=>?_)
                case NR=>(exact ⟨((hT.call (by simp) hcur).ah rfl).cell (j:=1) rfl,pO.below hcur⟩)
                clear hK K
                try simp only [Act.put,la,lz,ls]
                refine tr 17 fun K hK=>?_;go_simp
                (go_at_call 58;refine (f_any b1 _).mono ?_;rintro e Zr ⟨rfl,jP⟩)
                first
                | (have aI:=bK.trans (jP.mono bK.size);have dU:=hp2.below jP;clear bK hp2 hcur;have hcur:=aI;have hpp:=dU;clear aI dU)
                | (have aI:=hcur.trans (jP.mono hcur.size);have dU:=hpp.below jP;clear hcur hpp;have hcur:=aI;have hpp:=dU;clear aI dU)
                | (have aI:=hcur.trans (jP.mono hcur.size);clear hcur;have hcur:=aI;clear aI)
                refine hK.out _ _ ?JA (fun hHeld=>?_)
                case JA=>(exact ⟨((hT.call (by simp) hcur).ah rfl).cell (j:=1) rfl,pO.below hcur⟩)
                clear hK K
                try simp only [Act.put,la,lz,ls]
                refine tk 18 ?_;refine tr 20 fun K hK=>?_;go_simp
                (go_at_call 60;refine (RF.out _).mono ?_;rintro e Xh ⟨rfl,jT⟩)
                first
                | (have aI:=bK.trans (jT.mono bK.size);have dU:=hp2.below jT;clear bK hp2 hcur;have hcur:=aI;have hpp:=dU;clear aI dU)
                | (have aI:=hcur.trans (jT.mono hcur.size);have dU:=hpp.below jT;clear hcur hpp;have hcur:=aI;have hpp:=dU;clear aI dU)
                | (have aI:=hcur.trans (jT.mono hcur.size);clear hcur;have hcur:=aI;clear aI)
                refine hK.out _ _ ?JG (fun hHeld=>?_)
                case JG=>(exact ⟨((hT.call (by simp) hcur).ah rfl).cell (j:=1) rfl,pO.below hcur⟩)
                clear hK K
                try simp only [Act.put,la,lz,ls]
                refine tr 21 fun K hK=>?_;go_simp
                (go_at_call 57;refine (uD.out _).mono ?_;rintro e w15 ⟨rfl,jl⟩)
                first
                | (have aI:=bK.trans (jl.mono bK.size);have dU:=hp2.below jl;clear bK hp2 hcur;have hcur:=aI;have hpp:=dU;clear aI dU)
                | (have aI:=hcur.trans (jl.mono hcur.size);have dU:=hpp.below jl;clear hcur hpp;have hcur:=aI;have hpp:=dU;clear aI dU)
                | (have aI:=hcur.trans (jl.mono hcur.size);clear hcur;have hcur:=aI;clear aI)
                refine hK.out _ _ ?JO (fun hHeld=>?_)
                case JO=>(exact ⟨((hT.call (by simp) hcur).ah rfl).cell (j:=1) rfl,pO.below hcur⟩)
                clear hK K
                try simp only [Act.put,la,lz,ls]
                refine wpAnyH_ready (rs:=[23]) (by kernel_rfl) (by simp) ?_
                first
                | (have hF:=hp2.whole (aN p) rfl;have qg:=below_setCells _ oG (aN p) 0 _ _ bK;refine dM (o:=_) (ga rfl) (by kernel_rfl) hp2 (aN p) rfl dZ (jd _) (.tmp 24) (.tmp 115) rfl rfl rfl (by exact ⟨((hT.call (by simp) qg).ah rfl).cell (j:=1) rfl,pO.below qg⟩) ?_)
                | (have hF:=hpp.whole (aN p) rfl;have qg:=below_setCells _ oG (aN p) 0 _ _ hcur;refine dM (o:=_) (ga rfl) (by kernel_rfl) hpp (aN p) rfl dZ (jd _) (.tmp 24) (.tmp 115) rfl rfl rfl (by exact ⟨((hT.call (by simp) qg).ah rfl).cell (j:=1) rfl,pO.below qg⟩) ?_)
                try simp only [Act.put,la,lz,ls]
                refine wpAnyH_done (by kernel_rfl) ?_ _;go_wp2;go_meet;exact ⟨_,rfl,oG,hF,qg⟩
            · go_simp
              have Fp:=True.intro;have hp2:=newAt hcur (aN (⟨0,0⟩,⟨0,0⟩)) 130;have bK:=hcur.alloc hcur.size (.cells (aN (⟨0,0⟩,⟨0,0⟩)).toArray 130);have oG:=hcur.size;refine hK.out _ _ ?JZ (fun hHeld=>?_)
              case JZ=>(exact ⟨((hT.call (by simp) bK).ah rfl).cell (j:=1) rfl,pO.below bK⟩)
              clear hK K
              try simp only [Act.put,la,lz,ls]
              refine tr 7 fun K hK=>?_;go_simp
              (go_at_call 58;refine (f_any 4 _).mono ?_;rintro e Xg ⟨rfl,oD⟩)
              first
              | (have aI:=bK.trans (oD.mono bK.size);have dU:=hp2.below oD;clear bK hp2 hcur;have hcur:=aI;have hpp:=dU;clear aI dU)
              | (have aI:=hcur.trans (oD.mono hcur.size);have dU:=hpp.below oD;clear hcur hpp;have hcur:=aI;have hpp:=dU;clear aI dU)
              | (have aI:=hcur.trans (oD.mono hcur.size);clear hcur;have hcur:=aI;clear aI)
              refine hK.out _ _ ?NP (fun hHeld=>?_)
              case NP=>(exact ⟨((hT.call (by simp) hcur).ah rfl).cell (j:=1) rfl,pO.below hcur⟩)
              clear hK K
              try simp only [Act.put,la,lz,ls]
              refine tr 8 fun K hK=>?_;go_simp
              (go_at_call 59;refine (HD.out _).mono ?_;rintro e w12 ⟨rfl,oh⟩)
              first
              | (have aI:=bK.trans (oh.mono bK.size);have dU:=hp2.below oh;clear bK hp2 hcur;have hcur:=aI;have hpp:=dU;clear aI dU)
              | (have aI:=hcur.trans (oh.mono hcur.size);have dU:=hpp.below oh;clear hcur hpp;have hcur:=aI;have hpp:=dU;clear aI dU)
              | (have aI:=hcur.trans (oh.mono hcur.size);clear hcur;have hcur:=aI;clear aI)
              refine hK.out _ _ ?NS (fun hHeld=>?_)
              case NS=>(exact ⟨((hT.call (by simp) hcur).ah rfl).cell (j:=1) rfl,pO.below hcur⟩)
              clear hK K
              try simp only [Act.put,la,lz,ls]
              refine tr 17 fun K hK=>?_;go_simp
              (go_at_call 58;refine (f_any b1 _).mono ?_;rintro e Zr ⟨rfl,jP⟩)
              first
              | (have aI:=bK.trans (jP.mono bK.size);have dU:=hp2.below jP;clear bK hp2 hcur;have hcur:=aI;have hpp:=dU;clear aI dU)
              | (have aI:=hcur.trans (jP.mono hcur.size);have dU:=hpp.below jP;clear hcur hpp;have hcur:=aI;have hpp:=dU;clear aI dU)
              | (have aI:=hcur.trans (jP.mono hcur.size);clear hcur;have hcur:=aI;clear aI)
              refine hK.out _ _ ?JB (fun hHeld=>?_)
              case JB=>(exact ⟨((hT.call (by simp) hcur).ah rfl).cell (j:=1) rfl,pO.below hcur⟩)
              clear hK K
              try simp only [Act.put,la,lz,ls]
              refine tk 18 ?_;refine tr 20 fun K hK=>?_;go_simp
              (go_at_call 60;refine (RF.out _).mono ?_;rintro e Xh ⟨rfl,jT⟩)
              first
              | (have aI:=bK.trans (jT.mono bK.size);have dU:=hp2.below jT;clear bK hp2 hcur;have hcur:=aI;have hpp:=dU;clear aI dU)
              | (have aI:=hcur.trans (jT.mono hcur.size);have dU:=hpp.below jT;clear hcur hpp;have hcur:=aI;have hpp:=dU;clear aI dU)
              | (have aI:=hcur.trans (jT.mono hcur.size);clear hcur;have hcur:=aI;clear aI)
              refine hK.out _ _ ?JH (fun hHeld=>?_)
              case JH=>(exact ⟨((hT.call (by simp) hcur).ah rfl).cell (j:=1) rfl,pO.below hcur⟩)
              clear hK K
              try simp only [Act.put,la,lz,ls]
              refine tr 21 fun K hK=>?_;go_simp
              (go_at_call 57;refine (uD.out _).mono ?_;rintro e w15 ⟨rfl,jl⟩)
              first
              | (have aI:=bK.trans (jl.mono bK.size);have dU:=hp2.below jl;clear bK hp2 hcur;have hcur:=aI;have hpp:=dU;clear aI dU)
              | (have aI:=hcur.trans (jl.mono hcur.size);have dU:=hpp.below jl;clear hcur hpp;have hcur:=aI;have hpp:=dU;clear aI dU)
              | (have aI:=hcur.trans (jl.mono hcur.size);clear hcur;have hcur:=aI;clear aI)
              refine hK.out _ _ ?JQ (fun hHeld=>?_)
              case JQ=>(exact ⟨((hT.call (by simp) hcur).ah rfl).cell (j:=1) rfl,pO.below hcur⟩)
              clear hK K
              try simp only [Act.put,la,lz,ls]
              refine wpAnyH_ready (rs:=[23]) (by kernel_rfl) (by simp) ?_
              first
              | (have hF:=hp2.whole (aN p) rfl;have qg:=below_setCells _ oG (aN p) 0 _ _ bK;refine dM (o:=_) (ga rfl) (by kernel_rfl) hp2 (aN p) rfl dZ (jd _) (.tmp 24) (.tmp 115) rfl rfl rfl (by exact ⟨((hT.call (by simp) qg).ah rfl).cell (j:=1) rfl,pO.below qg⟩) ?_)
              | (have hF:=hpp.whole (aN p) rfl;have qg:=below_setCells _ oG (aN p) 0 _ _ hcur;refine dM (o:=_) (ga rfl) (by kernel_rfl) hpp (aN p) rfl dZ (jd _) (.tmp 24) (.tmp 115) rfl rfl rfl (by exact ⟨((hT.call (by simp) qg).ah rfl).cell (j:=1) rfl,pO.below qg⟩) ?_)
              try simp only [Act.put,la,lz,ls]
              refine wpAnyH_done (by kernel_rfl) ?_ _;go_wp2;go_meet;exact ⟨_,rfl,oG,hF,qg⟩
          · go_simp
            have Fp:=True.intro;have hp2:=newAt hcur (aN (⟨0,0⟩,⟨0,0⟩)) 130;have bK:=hcur.alloc hcur.size (.cells (aN (⟨0,0⟩,⟨0,0⟩)).toArray 130);have oG:=hcur.size;refine hK.out _ _ ?J4 (fun hHeld=>?_)
            case J4=>(exact ⟨((hT.call (by simp) bK).ah rfl).cell (j:=1) rfl,pO.below bK⟩)
            clear hK K
            try simp only [Act.put,la,lz,ls]
            refine tr 6 fun K hK=>?_;go_simp
            (go_at_call 58;refine (f_any a1 _).mono ?_;rintro e w10 ⟨rfl,sW⟩)
            first
            | (have aI:=bK.trans (sW.mono bK.size);have dU:=hp2.below sW;clear bK hp2 hcur;have hcur:=aI;have hpp:=dU;clear aI dU)
            | (have aI:=hcur.trans (sW.mono hcur.size);have dU:=hpp.below sW;clear hcur hpp;have hcur:=aI;have hpp:=dU;clear aI dU)
            | (have aI:=hcur.trans (sW.mono hcur.size);clear hcur;have hcur:=aI;clear aI)
            refine hK.out _ _ ?NM (fun hHeld=>?_)
            case NM=>(exact ⟨((hT.call (by simp) hcur).ah rfl).cell (j:=1) rfl,pO.below hcur⟩)
            clear hK K
            try simp only [Act.put,la,lz,ls]
            refine tr 7 fun K hK=>?_;go_simp
            (go_at_call 58;refine (f_any 4 _).mono ?_;rintro e Xg ⟨rfl,oD⟩)
            first
            | (have aI:=bK.trans (oD.mono bK.size);have dU:=hp2.below oD;clear bK hp2 hcur;have hcur:=aI;have hpp:=dU;clear aI dU)
            | (have aI:=hcur.trans (oD.mono hcur.size);have dU:=hpp.below oD;clear hcur hpp;have hcur:=aI;have hpp:=dU;clear aI dU)
            | (have aI:=hcur.trans (oD.mono hcur.size);clear hcur;have hcur:=aI;clear aI)
            refine hK.out _ _ ?NQ (fun hHeld=>?_)
            case NQ=>(exact ⟨((hT.call (by simp) hcur).ah rfl).cell (j:=1) rfl,pO.below hcur⟩)
            clear hK K
            try simp only [Act.put,la,lz,ls]
            refine tr 8 fun K hK=>?_;go_simp
            (go_at_call 59;refine (HD.out _).mono ?_;rintro e w12 ⟨rfl,oh⟩)
            first
            | (have aI:=bK.trans (oh.mono bK.size);have dU:=hp2.below oh;clear bK hp2 hcur;have hcur:=aI;have hpp:=dU;clear aI dU)
            | (have aI:=hcur.trans (oh.mono hcur.size);have dU:=hpp.below oh;clear hcur hpp;have hcur:=aI;have hpp:=dU;clear aI dU)
            | (have aI:=hcur.trans (oh.mono hcur.size);clear hcur;have hcur:=aI;clear aI)
            refine hK.out _ _ ?NT (fun hHeld=>?_)
            case NT=>(exact ⟨((hT.call (by simp) hcur).ah rfl).cell (j:=1) rfl,pO.below hcur⟩)
            clear hK K
            try simp only [Act.put,la,lz,ls]
            refine tr 17 fun K hK=>?_;go_simp
            (go_at_call 58;refine (f_any b1 _).mono ?_;rintro e Zr ⟨rfl,jP⟩)
            first
            | (have aI:=bK.trans (jP.mono bK.size);have dU:=hp2.below jP;clear bK hp2 hcur;have hcur:=aI;have hpp:=dU;clear aI dU)
            | (have aI:=hcur.trans (jP.mono hcur.size);have dU:=hpp.below jP;clear hcur hpp;have hcur:=aI;have hpp:=dU;clear aI dU)
            | (have aI:=hcur.trans (jP.mono hcur.size);clear hcur;have hcur:=aI;clear aI)
            refine hK.out _ _ ?JC (fun hHeld=>?_)
            case JC=>(exact ⟨((hT.call (by simp) hcur).ah rfl).cell (j:=1) rfl,pO.below hcur⟩)
            clear hK K
            try simp only [Act.put,la,lz,ls]
            refine tk 18 ?_;refine tr 20 fun K hK=>?_;go_simp
            (go_at_call 60;refine (RF.out _).mono ?_;rintro e Xh ⟨rfl,jT⟩)
            first
            | (have aI:=bK.trans (jT.mono bK.size);have dU:=hp2.below jT;clear bK hp2 hcur;have hcur:=aI;have hpp:=dU;clear aI dU)
            | (have aI:=hcur.trans (jT.mono hcur.size);have dU:=hpp.below jT;clear hcur hpp;have hcur:=aI;have hpp:=dU;clear aI dU)
            | (have aI:=hcur.trans (jT.mono hcur.size);clear hcur;have hcur:=aI;clear aI)
            refine hK.out _ _ ?JI (fun hHeld=>?_)
            case JI=>(exact ⟨((hT.call (by simp) hcur).ah rfl).cell (j:=1) rfl,pO.below hcur⟩)
            clear hK K
            try simp only [Act.put,la,lz,ls]
            refine tr 21 fun K hK=>?_;go_simp
            (go_at_call 57;refine (uD.out _).mono ?_;rintro e w15 ⟨rfl,jl⟩)
            first
            | (have aI:=bK.trans (jl.mono bK.size);have dU:=hp2.below jl;clear bK hp2 hcur;have hcur:=aI;have hpp:=dU;clear aI dU)
            | (have aI:=hcur.trans (jl.mono hcur.size);have dU:=hpp.below jl;clear hcur hpp;have hcur:=aI;have hpp:=dU;clear aI dU)
            | (have aI:=hcur.trans (jl.mono hcur.size);clear hcur;have hcur:=aI;clear aI)
            refine hK.out _ _ ?JR (fun hHeld=>?_)
            case JR=>(exact ⟨((hT.call (by simp) hcur).ah rfl).cell (j:=1) rfl,pO.below hcur⟩)
            clear hK K
            try simp only [Act.put,la,lz,ls]
            refine wpAnyH_ready (rs:=[23]) (by kernel_rfl) (by simp) ?_
            first
            | (have hF:=hp2.whole (aN p) rfl;have qg:=below_setCells _ oG (aN p) 0 _ _ bK;refine dM (o:=_) (ga rfl) (by kernel_rfl) hp2 (aN p) rfl dZ (jd _) (.tmp 24) (.tmp 115) rfl rfl rfl (by exact ⟨((hT.call (by simp) qg).ah rfl).cell (j:=1) rfl,pO.below qg⟩) ?_)
            | (have hF:=hpp.whole (aN p) rfl;have qg:=below_setCells _ oG (aN p) 0 _ _ hcur;refine dM (o:=_) (ga rfl) (by kernel_rfl) hpp (aN p) rfl dZ (jd _) (.tmp 24) (.tmp 115) rfl rfl rfl (by exact ⟨((hT.call (by simp) qg).ah rfl).cell (j:=1) rfl,pO.below qg⟩) ?_)
            try simp only [Act.put,la,lz,ls]
            refine wpAnyH_done (by kernel_rfl) ?_ _;go_wp2;go_meet;exact ⟨_,rfl,oG,hF,qg⟩
         case rest=>
          obtain ⟨G,rfl,hG,hP,hbx⟩:=hcut
          rename World=>Wx
          have hgx:Glob Wx:=(hg.below hI.b.bw).below hbx;have hIx:=hI.below hbx;have hLx:=Reads.below hL hIx.b.bw;clear hI hT pO HD uD RF;have kt0:=(hIx.b.ah rfl).cell (j:=0) rfl;have avS:=(hIx.b.ah rfl).frozen 0;have kt1:=(hIx.b.ah rfl).cell (j:=1) rfl;have avZ:=(hIx.b.ah rfl).frozen 1;have kt2:=(hIx.b.ah rfl).cell (j:=2) rfl;have av7:=(hIx.b.ah rfl).frozen 2;have kt3:=(hIx.b.ah rfl).cell (j:=3) rfl;have awg:=(hIx.b.ah rfl).frozen 3;have kp0:=(hP).cell (j:=0) rfl;have auJ:=(hP).frozen 0;have kp1:=(hP).cell (j:=1) rfl;have auQ:=(hP).frozen 1;have kp2:=(hP).cell (j:=2) rfl;have auX:=(hP).frozen 2;have kp3:=(hP).cell (j:=3) rfl;have au4:=(hP).frozen 3;have kp4:=(hP).cell (j:=4) rfl;have avb:=(hP).frozen 4;have kp5:=(hP).cell (j:=5) rfl;have avi:=(hP).frozen 5;have kp6:=(hP).cell (j:=6) rfl;have avp:=(hP).frozen 6;have kp7:=(hP).cell (j:=7) rfl;have avw:=(hP).frozen 7
          go_upto_region 23 with (first | (go_at_call 61;refine (Xa.out _ hLx).mono ?_;rintro e w10 ⟨rfl,sW⟩))
          have hIx:=hIx.below sW;have hP:=hP.below sW;have hgx:=hgx.below sW;clear kt0 avS kt1 avZ kt2 av7 kt3 awg kp0 auJ kp1 auQ kp2 auX kp3 au4 kp4 avb kp5 avi kp6 avp kp7 avw Xa
          go_cut [25,26] from 123 to 127 (fun v25 v26 wx=>∃ H s1 s2,v25=ptr H∧v26= .int .i64 0∧Held wx H [.string s1,.string s2] 147∧Below w10.heap.size w10 wx)
          case first=>
           go_wp2_with (first | (go_at_call 62;refine (yL.out _ hgx).mono ?_;rintro e Xg ⟨s1,s2,rfl,oD⟩;have hZ:=Held.new Xg [.string ⟨#[]⟩,.string ⟨#[]⟩] 147) | (refine aB 130 (.tmp 24) rfl ?_;refine ak (hP) Tryz.underlying130 rfl dZ rfl (.tmp 24) rfl rfl ?_) | (refine aO 147 (.tmp 25) (.tmp 126) rfl ?_;refine aF hZ [.string s1,.string s2] rfl wQ (by simp [Value.oneCell']) rfl (.tmp 25) (.tmp 126) rfl rfl rfl ?_))
           go_meet;exact ⟨Xg.heap.size,s1,s2,rfl,rfl,hZ.whole _ rfl,below_setCells _ oD.size _ _ _ _ (oD.alloc oD.size _)⟩
          case rest=>
           obtain ⟨H,s1,s2,rfl,rfl,hR,hby⟩:=hcut
           rename World=>Wy
           have hIy:=hIx.below hby;clear hIx hP hgx yL
           go_upto_region 25 with (go_at_call 55;refine (Hl _ _ (by simp)).mono ?_;rintro e w12 ⟨rfl,akz⟩;rw [akz];clear akz)
           have Y9:=hIy.below ((Below.refl _ _).alloc (Nat.le_refl _) (.cells #[.int .i64 0,.int .i64 0] 39));have hRz:=hR.alloc (.cells #[.int .i64 0,.int .i64 0] 39);obtain ⟨Wz,hWz⟩:∃ W,Wy.alloc (.cells #[.int .i64 0,.int .i64 0] 39)=W:=⟨_,rfl⟩
           simp only [hWz] at Y9 hRz ⊢
           clear hIy hR hWz;have hsz:=Y9.sz;have hj4:=agC k hlt;obtain ⟨i0,hi0,hz0,hz1,hz2⟩:=info_parts Kv
           go_wp2_with (first | (refine aB 147 (.tmp 25) rfl ?_;refine ak (hRz) Tryz.underlying147 rfl wQ rfl (.tmp 25) rfl rfl ?_) | (at_builtin;refine wpList_append_lies _ rfl _ _ _ rfl (gk+2) 147 i0 (.agg #[.string ⟨#[]⟩,.string ⟨#[]⟩]) 2 32 Tryz.underlying80 hi0 hz0 hz1 hz2 rfl (by omega) _ _ _ rfl (Y9.own.alloc _) ⟨Wz.heap.size,0,none⟩ 1 1 [.string s1,.string s2] rfl rfl (dJ _ _ _ _ rfl) ?c1 (by omega) ?c2 ?c3 ?c4 (Wz.heap.size+1) (by simp) ?_))
           case c1=>simp [Value.oneCell']
           case c2=>simp only [maxLen];omega
           case c3=>omega
           case c4=>simp;omega
           intro g1 cap w4 hown4 hgrow _ _;have hbd:=eX (B:=gk+2) (Y9.own.alloc _) hgrow (Nat.le_refl _) (by simp;omega);have XR:ZH w A B c d g gk (tri k+(j+1)) (.slice (some ⟨g1,0,none⟩) (tri k+(j+1)) cap) _ w4:=⟨(Y9.b.alloc (by simp) _).upto hbd (by simp;omega),(Y9.vc.alloc _).upto hbd (by omega),(Y9.kd.alloc _).upto hbd (by omega),hown4,Nat.le_trans (by simp;omega) hbd.size⟩;clear Y9 hown4 hgrow hbd hRz hi0 hz0 hz1 hz2
           have hwj:IntKind.i64.wrap ((j:Int)+1)=(((j+1:Nat)):Int):=by rw [rO _ (by omega) (by omega)];rfl
           go_wp2
           go_roundw
           case rel=>exact ⟨j+1,_,cap,_,by omega,by go_num,by go_num,rfl,rfl,XR⟩
           case measure=>simp [intOf];omega
       · obtain rfl:j=k+1:=by omega
         have hjb:decide (((k+1:Nat):Int)<(k:Int)+1)=false:=decide_eq_false (by omega);go_wp2
         go_roundw
         case rel=>exact ⟨k+1,P,q,xs,by omega,by go_num,rfl,rfl,rfl,hI⟩
         case measure=>simp [intOf];omega
    · obtain rfl:k=5:=by omega
      go_wp2_with (first | (go_at_call 56;refine (jM _ _).mono ?_;rintro e eY ⟨rfl,lH⟩;rw [← lH];clear lH) | (go_at_call 55;refine (Hl _ _ (by simp)).mono ?_;rintro e w5 ⟨rfl,hw5⟩;rw [hw5];clear hw5))
      go_ret2;exact ⟨⟨P,q,rfl⟩,hI.b.bw.alloc hI.b.bw.size _⟩
theorem zk (W:World) (t:TypeId) (n size:Nat) (cs:List Value) (hl:cs.length=n*size) (hn:n≤1000) (S:Nat→Prop) (hS:S W.heap.size):Reads (W.alloc (.cells cs.toArray t)) S size (some ⟨W.heap.size,0,none⟩) n n cs:=
 ⟨Nat.le_refl _,by omega,by omega,hl,fun _=>⟨W.heap.size,0,rfl,hS,by simp,fun j u hu=>by
  have:=dJ W t cs W.heap.size rfl j u hu
  rwa [oC] at this⟩⟩
theorem Gn (w:World):Calls Tryz.prog 27 #[] w fun e w'=>∃ A c B d,e= .returned (yj A c B d)∧fP w' (fun _=>True) A c corners∧Reads w' (fun _=>True) 3 B 1 d [.string iK,.string jc,.string lU]∧Below w.heap.size w w':=by
 have hB0:=(aX.nil w).new (by simp) ([.slice none 0 0,.int .i64 0,.slice none 0 0,.slice none 0 0]) 87;have hB1:=hB0.new (by simp) ([.int .i64 0,.int .i64 0,.int .i64 2000,.int .i64 0,.int .i64 2000,.int .i64 1000,.int .i64 0,.int .i64 1000]) 151;have hB:=hB1.new (by simp) ([.string iK,.string jc,.string lU]) 153;have hr1:=zk (w.alloc (.cells ([.slice none 0 0,.int .i64 0,.slice none 0 0,.slice none 0 0]:List Value).toArray 87)) 151 4 2 ([.int .i64 0,.int .i64 0,.int .i64 2000,.int .i64 0,.int .i64 2000,.int .i64 1000,.int .i64 0,.int .i64 1000]) rfl (by omega) (fun b=>b≠w.heap.size) (by simp);rw [World.size_alloc] at hr1;have hr1:=Reads.alloc hr1 (.cells ([.string iK,.string jc,.string lU]:List Value).toArray 153);have hr2:=zk ((w.alloc (.cells ([.slice none 0 0,.int .i64 0,.slice none 0 0,.slice none 0 0]:List Value).toArray 87)).alloc (.cells ([.int .i64 0,.int .i64 0,.int .i64 2000,.int .i64 0,.int .i64 2000,.int .i64 1000,.int .i64 0,.int .i64 1000]:List Value).toArray 151)) 153 1 3 ([.string iK,.string jc,.string lU]) rfl (by omega) (fun b=>b≠w.heap.size) (by simp;omega);rw [World.size_alloc,World.size_alloc] at hr2
 go_enter Tryz.func27,Tryz.ntmps27
 go_wp2_with (refine aO 87 (.tmp 0) (.tmp 9) rfl ?_;refine aF (hB.ah rfl) (dI _ 4 _ 1) rfl sN (YR _ _ _ _) rfl (.tmp 0) (.tmp 9) rfl rfl rfl ?_)
 have hF:=(hB.ah rfl).whole (dI (some ⟨w.heap.size+1,0,none⟩) 4 (some ⟨w.heap.size+1+1,0,none⟩) 1) rfl;refine bodyPost_ret (bf (p:=0) hF Tryz.underlying87 rfl sN rfl _ rfl) rfl ⟨_,_,_,_,rfl,?_,?_,below_setCells _ (Nat.le_refl _) _ _ _ _ hB.bw⟩
 · refine Reads.more (Reads.keep hr1 (by rw [setCells_size];exact Nat.le_refl _) (fun b o hb _=>World.cell?_of_block (Held.lu hb _ _ _))) (fun _ _ _=>trivial)
 · refine Reads.more (Reads.keep hr2 (by rw [setCells_size];exact Nat.le_refl _) (fun b o hb _=>World.cell?_of_block (Held.lu hb _ _ _))) (fun _ _ _=>trivial)
namespace M
def jbT:List (List UInt8):=[[97,32,98,114,101,97,107,32,102,51,32,43,32,112,57,47,50],[97,32,112,108,97,121,32,99,49,48,47,49,32,102,49,48,32,112,49,48,47,49]]
def aaL:List (List UInt8):=[[97,32,112,108,97,121,32,99,50,47,49,32,102,50,32,112,50,47,49]]
def Uh:List aV:=[⟨0,dS,0,0,3,true,[⟨9,2⟩]⟩,⟨0,oq,10,1,10,false,[⟨10,1⟩]⟩]
def Xd:aV:=⟨0,oq,2,1,2,false,[⟨2,1⟩]⟩
theorem at1:oU jbT=Uh:=by rfl
theorem aue:oU aaL=[Xd]:=by rfl
def Hu:Rules:=⟨bF,0,0⟩
def Ye:List aV:=[⟨0,dS,0,0,3,true,[⟨9,2⟩]⟩,Xd]
def jbS:State:=final Hu (start Hu) Uh
def Ui:State:=final Hu (start Hu) Ye
theorem akN:(jbS.group == 2)=true:=by decide+kernel
theorem akU:(Ui.group == 1)=true:=by decide+kernel
theorem akG:changed Hu Uh Ye=2:=by decide+kernel
theorem IK:aQ Hu=0:=by decide+kernel
theorem OL:dO Uh=0:=by decide+kernel
theorem OM:dO Ye=0:=by decide+kernel
end M
theorem Uj (ts:List (List UInt8)) (ls:List M.aV) (n:Nat) (cs:List Value) (hts:M.oU ts=ls) (hcs:cs=ts.map jG) (hn:ts.length=n) (h1:n≤1000) (h2:∀ s∈ts,s.length≤1000) (W:World) (G:Nat) (hG:W.heap.size=G) (t:TypeId):
 Calls Tryz.prog 25 #[.slice (some ⟨G,0,none⟩) n n] (W.alloc (.cells cs.toArray t)) fun e w'=>∃ l A c,(plain l=ls∧l.length=n)∧e= .returned (.slice A n c)∧jQ w' (fun _=>True) A c l∧Below W.heap.size W w':=by
 subst hcs hn hG;refine (Gm (fun _=>True) ts _ _ _ (zk W t ts.length 1 _ (by simp) h1 _ trivial) h1 h2).mono ?_
 rintro e w' ⟨l,A,c,hp,rfl,hr,hb⟩
 have hlen:l.length=ts.length:=by
  have:=congrArg List.length hp
  rw [aW] at this;rw [this];simp [M.oU]
 rw [World.size_alloc] at hr hb;exact ⟨l,A,c,⟨hp.trans hts,hlen⟩,by rw [hlen],(hr.read (by omega)).more (fun _ _ _=>trivial),((Below.refl W.heap.size W).alloc (Nat.le_refl _) _).trans (hb.mono (by omega))⟩
theorem aaS (cs:List Value) (hcs:cs=M.aaL.map jG) (W:World) (G:Nat) (hG:W.heap.size=G) (t:TypeId):
 Calls Tryz.prog 25 #[.slice (some ⟨G,0,none⟩) 1 1] (W.alloc (.cells cs.toArray t)) fun e w'=>∃ b o c P d,e= .returned (.slice (some ⟨b,o,none⟩) 1 c)∧(b<w'.heap.size∧w'.rangeAt b o (aA ⟨M.Xd,P,d⟩))∧fP w' (fun _=>True) P d M.Xd.aC∧Below W.heap.size W w':=by
 refine (Uj M.aaL [M.Xd] 1 cs M.aue hcs rfl (by omega) (by decide) W G hG t).mono ?_
 rintro e w' ⟨l,A,c,⟨hp,hl⟩,rfl,hr,hb⟩
 obtain ⟨y,rfl⟩:∃ y,l=[y]:=List.length_eq_one_iff.1 hl;obtain ⟨y,P,d⟩:=y
 obtain rfl:y=M.Xd:=by simpa [plain] using hp
 obtain ⟨b,o,rfl,_,hbl,hcs⟩:=Reads.at_ hr.1 (by simp);exact ⟨b,o,c,P,d,rfl,⟨hbl,fun j v hj=>hcs j v (by simpa [cZ] using hj)⟩,hr.aC 0 (by simp),hb⟩
theorem MR (l:List Sh) (A:Option Addr) (c:Nat) (P:Option Addr) (d:Nat) (w:World) (hl:plain l=M.Uh∧l.length=2) (hp:jQ w (fun _=>True) A c l) (hx:fP w (fun _=>True) P d M.Xd.aC):
 Calls Tryz.prog 10 #[.slice A 2 c,.int .i64 2,iy M.Xd P d] w fun e w'=>∃ L A' c',e= .returned (.tuple #[.slice A' 2 c',.int .i64 0])∧(plain L=M.Ye∧L.length=2)∧jQ w' (fun _=>True) A' c' L∧Below w.heap.size w w':=by
 have h:=GN _ _ l A c 2 M.Xd P d w hp hx
 have hE:Yx M.Uh 2 M.Xd=0:=by decide+kernel
 rw [hl.2,hl.1,hE] at h;refine h.mono ?_
 rintro e w' ⟨L,A',c',rfl,hL,hr,hb⟩
 have hM:plain L=M.Ye:=hL.trans (by unfold pcM;rw [if_pos hE];rfl)
 have hn:L.length=2:=by have:=congrArg List.length hM;rwa [aW] at this
 exact ⟨L,A',c',by rw [hn],⟨hM,hn⟩,hr,hb⟩
theorem EI (ls:List M.aV) (hck:M.dO ls=0) (l:List Sh) (A:Option Addr) (c:Nat) (w:World) (hl:plain l=ls∧l.length=2) (hp:jQ w (fun _=>True) A c l):
 Calls Tryz.prog 14 #[iJ M.Hu,.slice A 2 c] w fun e w'=>∃ A' c' A2 n2 c2,e= .returned (.tuple #[oK (M.final M.Hu (M.start M.Hu) ls) A' c',.slice A2 n2 c2,.int .i64 0])∧Below w.heap.size w w':=by
 have h:=DC _ M.Hu l A c w hp
 have hE:wK M.Hu l=0:=by unfold wK;rw [hl.1,hck,M.IK];rfl
 have hS:qV M.Hu l=M.final M.Hu (M.start M.Hu) ls:=by unfold qV;rw [if_pos hE,hl.1]
 rw [hl.2,hE,hS] at h;refine h.mono ?_
 rintro e w' ⟨A',c',A2,c2,rfl,_,_,hb⟩
 exact ⟨A',c',A2,_,c2,rfl,hb⟩
theorem MQ (l m:List Sh) (A B:Option Addr) (c d:Nat) (w:World) (hl:plain l=M.Uh∧l.length=2) (hm:plain m=M.Ye∧m.length=2) (hp:jQ w (fun _=>True) A c l) (hq:jQ w (fun _=>True) B d m):
 Calls Tryz.prog 11 #[iJ M.Hu,.slice A 2 c,.slice B 2 d] w fun e w'=>e= .returned (.tuple #[.int .i64 2,.int .i64 0])∧Below w.heap.size w w':=by
 have h:=GL M.Hu l m A B c d w hp hq
 have hE:QA M.Hu M.Uh M.Ye=0:=by unfold QA;rw [M.IK,M.OL,M.OM];rfl
 have hV:UF M.Hu M.Uh M.Ye=2:=by unfold UF;rw [if_pos hE,M.akG]
 rw [hl.2,hm.2,hl.1,hm.1,hE,hV] at h;exact h
theorem Yf (A B:Option Addr) (c d:Nat) (w:World) (hg:Glob w) (hL:fP w (fun _=>True) A c corners) (hS:Reads w (fun _=>True) 3 B 1 d [.string iK,.string jc,.string lU]):
 Calls Tryz.prog 26 #[yj A c B d,.string iK,.string aqi,.agg #[.int .i64 5,.int .i64 0]] w fun e w'=>∃ P q,e= .returned (.tuple #[.slice P 15 q,.int .i64 0])∧Below w.heap.size w w':=
 (Rn _ A B c d w hg hL hS).mono fun e w' ⟨⟨P,q,h⟩,hb⟩=>⟨P,q,h,hb⟩
theorem tq (w:World) (hg:Glob w):Calls Tryz.prog 9 #[] w fun e w'=>e= .returned (.bool true)∧Below w.heap.size w w':=by
 have hB:=(aX.nil w).new (by simp) [.string ⟨#[]⟩,.int .i64 0,.int .i64 0] 23
 go_enter Tryz.func9,Tryz.ntmps9
 go_upto_region 2 with (refine aO 23 (.tmp 1) (.tmp 15) rfl ?_;refine aF (hB.ah rfl) [.string M.bF,.int .i64 0,.int .i64 0] rfl dB (Q8 _ _ _) rfl (.tmp 1) (.tmp 15) rfl rfl rfl ?_)
 obtain ⟨W1,hW1⟩:∃ W,(w.alloc (.cells #[.string ⟨#[]⟩,.int .i64 0,.int .i64 0] 23)).setCells w.heap.size 0 [.string M.bF,.int .i64 0,.int .i64 0]=W:=⟨_,rfl⟩
 have hR:Held W1 w.heap.size [.string M.bF,.int .i64 0,.int .i64 0] 23:=by rw [← hW1];exact (hB.ah rfl).whole _ rfl
 have hb0:Below w.heap.size w W1:=by rw [← hW1];exact below_setCells _ (Nat.le_refl _) _ _ _ _ hB.bw
 rw [hW1];clear hW1 hB
 try dsimp only [Act.put]
 go_upto_region 3 with (go_at_call 25;refine (Uj M.jbT M.Uh 2 _ M.at1 rfl rfl (by omega) (by decide) W1 _ rfl _).mono ?_;rintro e w2 ⟨l,A,c,hl,rfl,hrl,hb2⟩)
 go_upto_region 4 with (first | (go_at_call 25;refine (aaS _ rfl w2 _ rfl _).mono ?_;rintro e w3 ⟨b,o,c3,P,d,rfl,⟨hbl,h00⟩,hrx,hb3⟩;have i1:(0:Int)<1:=by decide) | (refine aB 27 (.tmp 22) rfl ?_;refine dH (g:=b) (o:=o) h00 Tryz.underlying27 rfl bG rfl (.tmp 22) rfl rfl ?_) | (go_at_call 10;refine (MR l A c P d w3 hl (hrl.below hb3) hrx).mono ?_;rintro e w4 ⟨m,A4,c4,rfl,hm,hrm,hb4⟩))
 have hrl:=(hrl.below hb3).below hb4;have hR:=((hR.below hb2).below hb3).below hb4
 go_upto_region 5 with (first | (refine aB 23 (.tmp 1) rfl ?_;refine ak (hR) Tryz.underlying23 rfl dB rfl (.tmp 1) rfl rfl ?_) | (go_at_call 14;refine (EI M.Uh M.OL l A c w4 hl hrl).mono ?_;rintro e w5 ⟨A5,c5,A6,n6,c6,rfl,hb5⟩;have hbx:=Held.new w5 aZ 53) | (refine aO 53 (.tmp 5) (.tmp 31) rfl ?_;refine aF hbx (aJ M.jbS A5 c5) rfl bg (fG _ _ _) rfl (.tmp 5) (.tmp 31) rfl rfl rfl ?_))
 try dsimp only [Act.put]
 obtain ⟨W5,hW5⟩:∃ W,(w5.alloc (.cells #[.int .i64 0,.bool false,.bool false,.bool false,.bool false,.int .i64 0,.slice none 0 0,.int .i64 0,.int .i64 0,.int .i64 0,.int .i64 0,.int .i64 0,.int .i64 0,.bool false,.int .i64 0] 53)).setCells w5.heap.size 0 (aJ M.jbS A5 c5)=W:=⟨_,rfl⟩
 have hS5:Held W5 w5.heap.size (aJ M.jbS A5 c5) 53:=by rw [← hW5];exact hbx.whole _ rfl
 have hb5:Below w4.heap.size w4 W5:=by rw [← hW5];exact hb5.trans (below_setCells _ hb5.size _ _ _ _ ((Below.refl _ _).alloc hb5.size _))
 rw [hW5];clear hW5 hbx;have hrl:=hrl.below hb5;have hrm:=hrm.below hb5;have hR:=hR.below hb5
 go_upto_region 6 with (first | (refine aB 23 (.tmp 1) rfl ?_;refine ak (hR) Tryz.underlying23 rfl dB rfl (.tmp 1) rfl rfl ?_) | (go_at_call 14;refine (EI M.Ye M.OM m A4 c4 W5 hm hrm).mono ?_;rintro e w6 ⟨A8,c8,A9,n9,c9,rfl,hb6⟩;have hbx:=Held.new w6 aZ 53) | (refine aO 53 (.tmp 8) (.tmp 38) rfl ?_;refine aF hbx (aJ M.Ui A8 c8) rfl bg (fG _ _ _) rfl (.tmp 8) (.tmp 38) rfl rfl rfl ?_))
 try dsimp only [Act.put]
 obtain ⟨W6,XZ⟩:∃ W,(w6.alloc (.cells #[.int .i64 0,.bool false,.bool false,.bool false,.bool false,.int .i64 0,.slice none 0 0,.int .i64 0,.int .i64 0,.int .i64 0,.int .i64 0,.int .i64 0,.int .i64 0,.bool false,.int .i64 0] 53)).setCells w6.heap.size 0 (aJ M.Ui A8 c8)=W:=⟨_,rfl⟩
 have hS6:Held W6 w6.heap.size (aJ M.Ui A8 c8) 53:=by rw [← XZ];exact hbx.whole _ rfl
 have hb6:Below W5.heap.size W5 W6:=by rw [← XZ];exact hb6.trans (below_setCells _ hb6.size _ _ _ _ ((Below.refl _ _).alloc hb6.size _))
 rw [XZ];clear XZ hbx;have hrl:=hrl.below hb6;have hrm:=hrm.below hb6;have hR:=hR.below hb6;have hS5:=hS5.below hb6;have hb1:=jv (jv (jv (jv (jv hb0 hb2) hb3) hb4) hb5) hb6;clear hb0 hb2 hb3 hb4 hb5 hb6 h00 hrx hbl i1
 go_upto_region 7 with (first | (refine aB 23 (.tmp 1) rfl ?_;refine ak (hR) Tryz.underlying23 rfl dB rfl (.tmp 1) rfl rfl ?_) | (go_at_call 11;refine (MQ l m A A4 c c4 W6 hl hm hrl hrm).mono ?_;rintro e w7 ⟨rfl,hb7⟩))
 have hb8:=jv hb1 hb7
 go_upto_region 8 with (first | (go_at_call 27;refine (Gn w7).mono ?_;rintro e w9 ⟨Ta,tc,Tb,td,rfl,ht1,ht2,OE⟩) | (go_at_call 26;refine (Yf Ta Tb tc td w9 (hg.below (jv hb8 OE)) ht1 ht2).mono ?_;rintro e w10 ⟨Pp,pq,rfl,sW⟩))
 have hS5:=((hS5.below hb7).below OE).below sW;have hS6:=((hS6.below hb7).below OE).below sW;have k5:=hS5.cell (j:=5) rfl;have k6:=hS6.cell (j:=5) rfl;have e5:(M.jbS.group == 2)=true:=M.akN;have e6:(M.Ui.group == 1)=true:=M.akU;go_wp2;go_ret;exact ⟨rfl,jv (jv hb8 OE) sW⟩
structure jg (r:M.Rules) (l:List Sh) (n:Nat):Prop where
 len:l.length≤n
 rules:M.aQ r=0
 log:M.dO (plain l)=0
def jlB (r:M.Rules) (l:List Sh) (n:Nat):Bool:=decide (r.game.size≤60) && (decide (l.length≤n) && (ug (plain l) n && (decide (M.aQ r=0) && decide (M.dO (plain l)=0))))
theorem jg.of {r:M.Rules} {l:List Sh} {n:Nat} (h:jlB r l n=true):jg r l n:=by
 unfold jlB at h
 simp only [Bool.and_eq_true,decide_eq_true_eq] at h
 exact ⟨h.2.1,h.2.2.2.1,h.2.2.2.2⟩
theorem MO (r:M.Rules) (l:List Sh) (A:Option Addr) (c:Nat) (n:Nat) (w:World) (hp:jQ w (fun _=>True) A c l) (hl:l.length*80≤140737488355328) (hpl:∀ e∈l,e.x.aC.length*16≤140737488355328):
 Calls Tryz.prog 6 #[iJ r,.slice A l.length c,.int .i64 n] w fun e w'=>e= .returned (.bool (jlB r l n))∧Below w.heap.size w w':=by
 obtain ⟨B,hB'⟩:∃ B,jlB r l n=B:=⟨_,rfl⟩;rw [hB'];have hB:=(aX.nil w).new (by simp) ([.string r.game,.int .i64 r.target,.int .i64 r.bD]) 23
 go_enter Tryz.func6,Tryz.ntmps6
 go_upto_region 2 with (go_at_call 5;refine (MP _ l A c _ (hp.below hB.bw) hl hpl).mono ?_;rintro e w1 ⟨m,A1,c1,hm,rfl,hr1,hb1⟩)
 have hR:=(hB.ah rfl).below hb1;have k0:=hR.cell (j:=0) rfl;have hbw:=hB.bw.trans (hb1.mono hB.bw.size);obtain ⟨sb,hsb⟩:∃ b,ug (plain m) n=b:=⟨_,rfl⟩;obtain ⟨E4,h4⟩:∃ e,M.aQ r=e:=⟨_,rfl⟩;obtain ⟨E5,h5⟩:∃ e,M.dO (plain m)=e:=⟨_,rfl⟩;have hsl:=He _ m A1 c1 n w1 hr1;have hcr:=fun W=>Dy r W;have hcl:=fun W h=>GY _ m A1 c1 W (hr1.below h);rw [hsb] at hsl;rw [h4] at hcr;rw [h5] at hcl;have HSL:=hide hsl;have HCR:=hide hcr;have Ls:=hide hcl
 have HJ:jlB r l n=(decide (r.game.size≤60) && (decide (l.length≤n) && (sb && (decide (E4=0) && decide (E5=0))))):=by unfold jlB;rw [← hm,hsb,h4,h5]
 rw [hB'] at HJ;clear hB';have HR:=hide hR;clear hsl hcr hcl h4 h5 hsb hm hr1 hl hpl hp hB hR
 by_cases g1:r.game.size≤60
 · have g1':(r.game.size:Int)≤60:=by omega
   by_cases g2:l.length≤n
   · have g2':(l.length:Int)≤(n:Int):=by omega
     cases sb with
     | true=>
       by_cases g4:E4=0
       · have q4:(E4 == 0)=true:=by simpa using g4
         by_cases g5:E5=0
         · have q5:(E5 == 0)=true:=by simpa using g5
           obtain rfl:B=true:=by rw [HJ];simp [g1,g2,g4,g5]
           clear HJ g1 g2 g4 g5
           go_wp2_with (first | (go_at_call 20;refine (HSL.out).mono ?_;rintro e w2 ⟨rfl,hb2⟩;dsimp only) | (go_at_call 21;refine (HCR.out _).mono ?_;rintro e w3 ⟨rfl,hb3⟩;dsimp only) | (go_at_call 22;refine (Ls.out _ (hb2.trans (hb3.mono hb2.size))).mono ?_;rintro e w4 ⟨rfl,hb4⟩;dsimp only) | (refine aB 23 (.tmp 3) rfl ?_;refine ak ((HR.out.below hb2)) Tryz.underlying23 rfl dB rfl (.tmp 3) rfl rfl ?_) | (refine aB 23 (.tmp 3) rfl ?_;refine iE ((HR.out.below hb2)) Tryz.underlying23 rfl dB rfl (.tmp 3) rfl rfl ?_) | (refine iR 23 (.tmp 3) rfl ?_;refine iF ((HR.out.below hb2)) Tryz.underlying23 rfl dB (.tmp 3) rfl rfl ?_))
           go_ret;exact ⟨rfl,jv (jv (jv hbw hb2) hb3) hb4⟩
         · have q5:(E5 == 0)=false:=by simpa using g5
           obtain rfl:B=false:=by rw [HJ];simp [g5]
           clear HJ g1 g2 g4 g5
           go_wp2_with (first | (go_at_call 20;refine (HSL.out).mono ?_;rintro e w2 ⟨rfl,hb2⟩;dsimp only) | (go_at_call 21;refine (HCR.out _).mono ?_;rintro e w3 ⟨rfl,hb3⟩;dsimp only) | (go_at_call 22;refine (Ls.out _ (hb2.trans (hb3.mono hb2.size))).mono ?_;rintro e w4 ⟨rfl,hb4⟩;dsimp only) | (refine aB 23 (.tmp 3) rfl ?_;refine ak ((HR.out.below hb2)) Tryz.underlying23 rfl dB rfl (.tmp 3) rfl rfl ?_) | (refine aB 23 (.tmp 3) rfl ?_;refine iE ((HR.out.below hb2)) Tryz.underlying23 rfl dB rfl (.tmp 3) rfl rfl ?_) | (refine iR 23 (.tmp 3) rfl ?_;refine iF ((HR.out.below hb2)) Tryz.underlying23 rfl dB (.tmp 3) rfl rfl ?_))
           go_ret;exact ⟨rfl,jv (jv (jv hbw hb2) hb3) hb4⟩
       · have q4:(E4 == 0)=false:=by simpa using g4
         obtain rfl:B=false:=by rw [HJ];simp [g4]
         clear HJ g1 g2 g4
         go_wp2_with (first | (go_at_call 20;refine (HSL.out).mono ?_;rintro e w2 ⟨rfl,hb2⟩;dsimp only) | (go_at_call 21;refine (HCR.out _).mono ?_;rintro e w3 ⟨rfl,hb3⟩;dsimp only) | (go_at_call 22;refine (Ls.out _ (hb2.trans (hb3.mono hb2.size))).mono ?_;rintro e w4 ⟨rfl,hb4⟩;dsimp only) | (refine aB 23 (.tmp 3) rfl ?_;refine ak ((HR.out.below hb2)) Tryz.underlying23 rfl dB rfl (.tmp 3) rfl rfl ?_) | (refine aB 23 (.tmp 3) rfl ?_;refine iE ((HR.out.below hb2)) Tryz.underlying23 rfl dB rfl (.tmp 3) rfl rfl ?_) | (refine iR 23 (.tmp 3) rfl ?_;refine iF ((HR.out.below hb2)) Tryz.underlying23 rfl dB (.tmp 3) rfl rfl ?_))
         go_ret;exact ⟨rfl,jv (jv hbw hb2) hb3⟩
     | false=>
       obtain rfl:B=false:=by rw [HJ];simp
       clear HJ g1 g2
       go_wp2_with (first | (go_at_call 20;refine (HSL.out).mono ?_;rintro e w2 ⟨rfl,hb2⟩;dsimp only) | (go_at_call 21;refine (HCR.out _).mono ?_;rintro e w3 ⟨rfl,hb3⟩;dsimp only) | (go_at_call 22;refine (Ls.out _ (hb2.trans (hb3.mono hb2.size))).mono ?_;rintro e w4 ⟨rfl,hb4⟩;dsimp only) | (refine aB 23 (.tmp 3) rfl ?_;refine ak ((HR.out.below hb2)) Tryz.underlying23 rfl dB rfl (.tmp 3) rfl rfl ?_) | (refine aB 23 (.tmp 3) rfl ?_;refine iE ((HR.out.below hb2)) Tryz.underlying23 rfl dB rfl (.tmp 3) rfl rfl ?_) | (refine iR 23 (.tmp 3) rfl ?_;refine iF ((HR.out.below hb2)) Tryz.underlying23 rfl dB (.tmp 3) rfl rfl ?_))
       go_ret;exact ⟨rfl,jv hbw hb2⟩
   · have g2':¬ (l.length:Int)≤(n:Int):=by omega
     obtain rfl:B=false:=by rw [HJ];simp [g2]
     clear HJ g1 g2;go_wp2;go_ret;exact ⟨rfl,hbw⟩
 · have g1':¬ (r.game.size:Int)≤60:=by omega
   obtain rfl:B=false:=by rw [HJ];simp [g1]
   clear HJ g1;go_wp2;go_ret;exact ⟨rfl,hbw⟩
namespace M
end M
theorem QB (l m:List Sh):plain (l++m)=plain l++plain m:=by simp [plain]
def LK (ls:List M.aV) (v:Value) (W:World):Prop:=∃ L A c,v= .slice A (L:List Sh).length c∧plain L=ls∧jQ W (fun _=>True) A c L
theorem LK.below {ls:List M.aV} {v:Value} {W W':World} (h:LK ls v W) (hb:Below W.heap.size W W'):LK ls v W':=by
 obtain ⟨L,A,c,h1,h2,h3⟩:=h;exact ⟨L,A,c,h1,h2,h3.below hb⟩
def Pq (ns:List M.Note) (v:Value) (W:World):Prop:=∃ A c,v= .slice A ns.length c∧Reads W (fun _=>True) 6 A ns.length c (noteCells ns)
theorem Pq.below {ns:List M.Note} {v:Value} {W W':World} (h:Pq ns v W) (hb:Below W.heap.size W W'):Pq ns v W':=by
 obtain ⟨A,c,h1,h2⟩:=h;exact ⟨A,c,h1,Reads.below h2 hb⟩
theorem Ei {W W':World} {b o:Nat} {cs:List Value} (h:W.rangeAt b o cs) (hlt:b<W.heap.size) (hb:Below W.heap.size W W'):W'.rangeAt b o cs:=fun j v hj=>(hb.cell (p:=⟨b,o+j,none⟩) hlt).trans (h j v hj)
section
variable {r:M.Rules} {L K:List Sh} {A B:Option Addr} {c d:Nat} {W:World}
theorem OV (hr:M.aQ r=0) (hl:M.dO (plain L)=0):wK r L=0:=by unfold wK;rw [hr,hl];rfl
theorem EJ (hr:M.aQ r=0) (hl:M.dO (plain L)=0) (s:M.State) (hs:M.final r (M.start r) (plain L)=s) (hp:jQ W (fun _=>True) A c L):
 Calls Tryz.prog 14 #[iJ r,.slice A L.length c] W fun e w'=>∃ A' c' v2,e= .returned (.tuple #[oK s A' c',v2,.int .i64 0])∧(∃ A2 c2,v2= .slice A2 (M.gQ r (M.start r) 1 (plain L)).length c2)∧bQ w' (fun b=>W.heap.size≤b) A' c' s.au∧Below W.heap.size W w':=by
 have h0:=OV hr hl;have h:=DC _ r L A c W hp
 have e1:qV r L=s:=by unfold qV;rw [if_pos h0,hs]
 have e2:zl r L=M.gQ r (M.start r) 1 (plain L):=by unfold zl;rw [if_pos h0]
 rw [h0,e1,e2] at h;refine h.mono ?_
 rintro e w' ⟨A',c',A2,c2,rfl,h1,_,h3⟩
 exact ⟨A',c',_,rfl,⟨A2,c2,rfl⟩,h1,h3⟩
theorem Uk (hr:M.aQ r=0) (hl:M.dO (plain L)=0) (hp:jQ W (fun _=>True) A c L):
 Calls Tryz.prog 12 #[iJ r,.slice A L.length c] W fun e w'=>∃ v,e= .returned (.tuple #[v,.int .i64 0])∧Pq (M.notes r (M.start r) 1 (plain L)) v w'∧Below W.heap.size W w':=by
 have h0:=OV hr hl;have h:=Ql _ r L A c W hp
 have e1:lN r L=M.notes r (M.start r) 1 (plain L):=by unfold lN;rw [if_pos h0]
 rw [h0,e1] at h;refine h.mono ?_
 rintro e w' ⟨A2,c2,rfl,h1,h2⟩
 exact ⟨_,rfl,⟨A2,c2,rfl,Reads.more h1 (fun _ _ _=>trivial)⟩,h2⟩
end
theorem yV {W w4:World} {o:Obj} {v:Value} (hgrow:(W.alloc o).grownBy w4 v.ownBlock) {S S':Nat→Prop} {A:Option Addr} {c:Nat} {zs:List M.kL} (h:fP W S A c zs) (hS:∀ b,b<W.heap.size→S b→v.ownBlock≠some b∧S' b):fP w4 S' A c zs:=by
 have h1:=fP.more h (S':=fun b=>(S b∧b<W.heap.size)) (fun b hb h=>⟨h,hb⟩);have h2:=fP.keep h1 (Nat.le_trans (by simp) hgrow.size) (w':=w4) (fun b o hb hlt=>World.cell?_of_block (lG hgrow hb.2 (hS b hb.2 hb.1).1));exact fP.more h2 (fun b _ hb=>(hS b hb.2 hb.1).2)
structure Bz (W0:World) (Bs:Nat) (WL:World) (s:Int × Int) (n9:Nat) (C:List (Int × Int)) (A9:Option Addr) (c9:Nat) (n1:Nat) (L:List Sh) (A1:Option Addr) (c1:Nat) (W:World):Prop where
 Gx:Turn (fun b=>b=Bs∨WL.heap.size≤b) WL W
 lt:Bs<WL.heap.size
 ge:W0.heap.size≤Bs
 bx:Held W Bs (vG s) 51
 Dl:W.ownsRow WL.heap.size 51 2 (.slice A9 n9 c9) n9 (C.flatMap vG)
 Dk:W.ownsRow WL.heap.size 27 7 (.slice A1 n1 c1) n1 (cZ L)
 ne:∀ g,(Value.slice A9 n9 c9).ownBlock=some g→(Value.slice A1 n1 c1).ownBlock≠some g
 each:∀ x∈L,fP W (fun b=>b≠Bs∧(Value.slice A9 n9 c9).ownBlock≠some b∧(Value.slice A1 n1 c1).ownBlock≠some b) x.a x.c x.x.aC
 bw:Below W0.heap.size W0 W
section
variable {W0 WL W W':World} {Bs n9 n1 c9 c1:Nat} {s:Int × Int} {C:List (Int × Int)} {L:List Sh} {A9 A1:Option Addr}
theorem Bz.start {Bs:Nat} (hb:Below W0.heap.size W0 WL) (h:W0.heap.size≤Bs) (hh:Held WL Bs (vG (0,0)) 51):Bz W0 Bs WL (0,0) 0 [] none 0 0 [] none 0 WL:=
 ⟨Turn.refl _ _,hh.lt,h,hh,World.ownsRow_nil _ _ _ _,World.ownsRow_nil _ _ _ _,fun g hg=>(by cases hg),fun x hx=>(by cases hx),hb⟩
theorem Bz.below (h:Bz W0 Bs WL s n9 C A9 c9 n1 L A1 c1 W) (hb:Below W.heap.size W W'):Bz W0 Bs WL s n9 C A9 c9 n1 L A1 c1 W':=
 ⟨h.Gx.trans (X':=fun _=>False) (Turn.of_below hb) (fun b h=>h.elim),h.lt,h.ge,h.bx.below hb,dV h.Dl (fun g hg=>hb.block g (qH h.Dl hg)),dV h.Dk (fun g hg=>hb.block g (qH h.Dk hg)),h.ne,
  fun x hx=>Reads.below (h.each x hx) hb,jv h.bw hb⟩
theorem Bz.old {b:Nat} (h:Bz W0 Bs WL s n9 C A9 c9 n1 L A1 c1 W) (hb:b<WL.heap.size) (hn:b≠Bs) {cs:List Value} {t:TypeId} (hh:Held WL b cs t):Held W b cs t:=hh.turn h.Gx (fun hx=>by rcases hx with hx | hx;exact hn hx;omega)
theorem Bz.size (h:Bz W0 Bs WL s n9 C A9 c9 n1 L A1 c1 W):WL.heap.size≤W.heap.size:=h.Gx.size
theorem Bz.sum (h:Bz W0 Bs WL s n9 C A9 c9 n1 L A1 c1 W) (s':Int × Int) (o:Nat) (v:Value) (he:vG s'=(vG s).set o v):Bz W0 Bs WL s' n9 C A9 c9 n1 L A1 c1 (W.setCell ⟨Bs,o,none⟩ v):=by
 have hf:∀ {e:TypeId} {size n:Nat} {v':Value} {xs:List Value},W.ownsRow WL.heap.size e size v' n xs→(W.setCell ⟨Bs,o,none⟩ v).ownsRow WL.heap.size e size v' n xs:=fun ho=>
  dV ho (fun g hg=>Below.heap_setCell _ _ _ g (fun e=>by have:=(dh ho hg).1;have:=h.lt;have e:g=Bs:=e;omega))
 refine ⟨h.Gx.trans (kH (X:=fun b=>b=Bs) rfl [v] o) (fun b hb=> .inl (.inl hb)),h.lt,h.ge,?_,hf h.Dl,hf h.Dk,h.ne,fun x hx=>Reads.setCell (h.each x hx) (fun hx=>hx.1 rfl) v,h.bw.setCell (p:=⟨Bs,o,none⟩) h.ge v⟩;rw [he];exact h.bx.set o v
theorem Bz.claim {w4:World} {g1 cap:Nat} {o:Obj} {z:Int × Int} (h:Bz W0 Bs WL s n9 C A9 c9 n1 L A1 c1 W) (hgrow:(W.alloc o).grownBy w4 (Value.slice A9 n9 c9).ownBlock)
 (hown4:w4.ownsRow WL.heap.size 51 2 (.slice (some ⟨g1,0,none⟩) (n9+1) cap) (n9+1) (C.flatMap vG++vG z)) (hat:(Value.slice A9 n9 c9).ownBlock=some g1∨g1=W.heap.size+1):
 Bz W0 Bs WL s (n9+1) (C++[z]) (some ⟨g1,0,none⟩) cap n1 L A1 c1 w4:=by
 have hge:∀ g,(Value.slice A9 n9 c9).ownBlock=some g→WL.heap.size≤g:=fun g hg=>(dh h.Dl hg).1;have hlt:=h.lt;have hsz:=h.Gx.size
 have hne:∀ b,b<W.heap.size→(Value.slice A9 n9 c9).ownBlock≠some b→(some g1:Option Nat)≠some b:=fun b hb hn e=>by
  cases e
  rcases hat with h3 | h3
  · exact hn h3
  · omega
 refine ⟨h.Gx.trans (ED (X:=fun b=>WL.heap.size≤b) hgrow hge) (fun b hb=> .inl (.inr hb)),h.lt,h.ge,h.bx.blk (lG hgrow (by omega) (fun e=>by have:=hge _ e;omega)),?_,?_,?_,?_,?_⟩
 · rw [List.flatMap_append]
   have:[z].flatMap vG=vG z:=by simp
   rw [this];exact hown4
 · exact dV h.Dk (fun g hg=>lG hgrow (qH h.Dk hg) (fun e=>h.ne g e hg))
 · intro g hg e
   exact hne g (qH h.Dk e) (fun e2=>h.ne g e2 e) hg
 · exact fun x hx=>yV hgrow (h.each x hx) (fun b hb hS=>⟨hS.2.1,hS.1,hne b hb hS.2.1,hS.2.2⟩)
 · exact h.bw.trans ((Below.refl _ _).trans ⟨hgrow.os,hgrow.tape,hgrow.output,Nat.le_trans (by simp) hgrow.size,fun b hb=>lG hgrow (by have:=h.bw.size;omega) (fun e=>by have:=hge b e;have:=h.ge;omega)⟩)
theorem Bz.read {w4:World} {g1 cap:Nat} {o:Obj} {x:Sh} (h:Bz W0 Bs WL s n9 C A9 c9 n1 L A1 c1 W) (hx:fP W (fun b=>b≠Bs∧(Value.slice A9 n9 c9).ownBlock≠some b∧(Value.slice A1 n1 c1).ownBlock≠some b) x.a x.c x.x.aC) (hgrow:(W.alloc o).grownBy w4 (Value.slice A1 n1 c1).ownBlock)
 (hown4:w4.ownsRow WL.heap.size 27 7 (.slice (some ⟨g1,0,none⟩) (n1+1) cap) (n1+1) (cZ L++aA x)) (hat:(Value.slice A1 n1 c1).ownBlock=some g1∨g1=W.heap.size+1):
 Bz W0 Bs WL s n9 C A9 c9 (n1+1) (L++[x]) (some ⟨g1,0,none⟩) cap w4:=by
 have hge:∀ g,(Value.slice A1 n1 c1).ownBlock=some g→WL.heap.size≤g:=fun g hg=>(dh h.Dk hg).1;have hlt:=h.lt;have hsz:=h.Gx.size
 have hne:∀ b,b<W.heap.size→(Value.slice A1 n1 c1).ownBlock≠some b→(some g1:Option Nat)≠some b:=fun b hb hn e=>by
  cases e
  rcases hat with h3 | h3
  · exact hn h3
  · omega
 refine ⟨h.Gx.trans (ED (X:=fun b=>WL.heap.size≤b) hgrow hge) (fun b hb=> .inl (.inr hb)),h.lt,h.ge,h.bx.blk (lG hgrow (by omega) (fun e=>by have:=hge _ e;omega)),?_,?_,?_,?_,?_⟩
 · exact dV h.Dl (fun g hg=>lG hgrow (qH h.Dl hg) (h.ne g hg))
 · have:cZ [x]=aA x:=by simp [cZ]
   rw [kS,this];exact hown4
 · exact fun g hg=>hne g (qH h.Dl hg) (h.ne g hg)
 · intro y hy
   rcases List.mem_append.1 hy with hy | hy
   · exact yV hgrow (h.each y hy) (fun b hb hS=>⟨hS.2.2,hS.1,hS.2.1,hne b hb hS.2.2⟩)
   · obtain rfl:=List.mem_singleton.1 hy
     exact yV hgrow hx (fun b hb hS=>⟨hS.2.2,hS.1,hS.2.1,hne b hb hS.2.2⟩)
 · exact h.bw.trans ((Below.refl _ _).trans ⟨hgrow.os,hgrow.tape,hgrow.output,Nat.le_trans (by simp) hgrow.size,fun b hb=>lG hgrow (by have:=h.bw.size;omega) (fun e=>by have:=hge b e;have:=h.ge;omega)⟩)
end
def DW (v9:Value) (s:M.State) (t:TypeId) (v:Value) (W:World):Prop:=∃ D B A c,v=ptr B∧(∀ g,v9.ownBlock=some g→g<D)∧D≤B∧Held W B (aJ s A c) t∧bQ W (fun b=>D≤b) A c s.au
theorem DW.below {v9:Value} {s:M.State} {t:TypeId} {v:Value} {W W':World} (h:DW v9 s t v W) (hb:Below W.heap.size W W'):DW v9 s t v W':=by
 obtain ⟨D,B,A,c,h1,h2,h3,h4,h5⟩:=h;exact ⟨D,B,A,c,h1,h2,h3,h4.below hb,h5.below hb⟩
theorem DW.new {v9:Value} {s:M.State} {t:TypeId} {A:Option Addr} {c:Nat} {W w1:World} (hg:∀ g,v9.ownBlock=some g→g<W.heap.size) (hb1:Below W.heap.size W w1) (hr:bQ w1 (fun b=>W.heap.size≤b) A c s.au) (hbx:Held (w1.alloc (.cells aZ.toArray t)) w1.heap.size aZ t):
 DW v9 s t (ptr w1.heap.size) ((w1.alloc (.cells aZ.toArray t)).setCells w1.heap.size 0 (aJ s A c))∧Below w1.heap.size w1 ((w1.alloc (.cells aZ.toArray t)).setCells w1.heap.size 0 (aJ s A c)):=by
 have hb:Below w1.heap.size w1 ((w1.alloc (.cells aZ.toArray t)).setCells w1.heap.size 0 (aJ s A c)):=below_setCells _ (Nat.le_refl _) _ _ _ _ ((Below.refl _ _).alloc (Nat.le_refl _) _);exact ⟨⟨W.heap.size,w1.heap.size,A,c,rfl,hg,hb1.size,hbx.whole _ rfl,hr.below hb⟩,hb⟩
def Sm (D:Nat) (C:List (Int × Int)) (v:Value) (W:World):Prop:=∃ A c,v= .slice A C.length c∧W.ownsRow D 51 2 (.slice A C.length c) C.length (C.flatMap vG)
theorem Sm.below {D:Nat} {C:List (Int × Int)} {v:Value} {W W':World} (h:Sm D C v W) (hb:Below W.heap.size W W'):Sm D C v W':=by
 obtain ⟨A,c,e,h⟩:=h;exact ⟨A,c,e,dV h (fun g hg=>hb.block g (qH h hg))⟩
theorem Sm.lt {D:Nat} {C:List (Int × Int)} {v:Value} {W:World} (h:Sm D C v W):∀ g,v.ownBlock=some g→g<W.heap.size:=by
 obtain ⟨A,c,rfl,h⟩:=h;exact fun g hg=>qH h hg
theorem Xy (C:List (Int × Int)) (k:Nat) (hk:k<C.length) (o:Nat) (ho:o<2) (z:Int × Int) (v:Value) (he:vG z=(vG C[k]).set o v):(C.set k z).flatMap vG=(C.flatMap vG).set (k*2+o) v:=by
 have e1:C.set k z=C.take k++z::C.drop (k+1):=by rw [List.set_eq_take_append_cons_drop,if_pos hk]
 have e2:C=C.take k++C[k]::C.drop (k+1):=by rw [← List.drop_eq_getElem_cons hk,List.take_append_drop]
 have hl:((C.take k).flatMap vG).length=k*2:=by rw [flat_length vG Ba,List.length_take,Nat.min_eq_left (by omega)]
 rw [e1]
 conv=>rhs;rw [e2]
 rw [List.flatMap_append,List.flatMap_append,List.flatMap_cons,List.flatMap_cons,he,List.set_append_right _ _ (by rw [hl];omega),hl,Nat.add_sub_cancel_left,List.set_append_left _ _ (by rw [Ba];exact ho)]
def IL (p:Int) (l:List Sh):Nat:=(p % (l.length:Int)).toNat
theorem aaZ {p:Int} {l:List Sh} (h:0<l.length):IL p l<l.length:=by
 have h1:=Int.emod_lt_of_pos p (show (0:Int)<(l.length:Int) by omega)
 unfold IL
 generalize p % (l.length:Int)=q at h1 ⊢
 omega
theorem Yg {p:Int} {l:List Sh} (h:0<l.length) (hp:0≤p):p.tmod (l.length:Int)=(IL p l:Int):=by
 rw [Int.tmod_eq_emod_of_nonneg hp];have h1:=Int.emod_nonneg p (show (l.length:Int)≠0 by omega)
 unfold IL
 generalize p % (l.length:Int)=q at h1 ⊢
 omega
theorem Nj {W:World} {b o:Nat} {n:M.Note} (h:W.rangeAt b o [.int .i64 n.number,.int .i64 n.aG,.int .i64 n.rule,.int .i64 n.iw,.int .i64 n.points,.bool n.turn]):W.cell? ⟨b,o,none⟩=some (.int .i64 n.number)∧W.cell? ⟨b,o+1,none⟩=some (.int .i64 n.aG)∧W.cell? ⟨b,o+2,none⟩=some (.int .i64 n.rule)∧W.cell? ⟨b,o+3,none⟩=some (.int .i64 n.iw)∧W.cell? ⟨b,o+4,none⟩=some (.int .i64 n.points)∧W.cell? ⟨b,o+5,none⟩=some (.bool n.turn):=
 ⟨h 0 _ rfl,h 1 _ rfl,h 2 _ rfl,h 3 _ rfl,h 4 _ rfl,h 5 _ rfl⟩
theorem YL (W:World):fP W (fun _=>True) none 0 []:=⟨Nat.le_refl _,by omega,by simp,rfl,fun h=>absurd h (by simp)⟩
end Go.Proofs.YtcjglfbpjkdgiaaGreatDoor
