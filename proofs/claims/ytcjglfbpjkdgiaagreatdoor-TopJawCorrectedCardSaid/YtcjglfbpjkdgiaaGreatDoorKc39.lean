/- Parts of a proof. -/
import Derived.Test.YtcjglfbpjkdgiaaGreatDoorKc36
import Derived.Test.YtcjglfbpjkdgiaaGreatDoorKc38
set_option maxHeartbeats 8000000
set_option maxRecDepth 100000
set_option linter.unusedVariables false
set_option linter.unusedSimpArgs false
namespace Go.Proofs.YtcjglfbpjkdgiaaGreatDoor
open Go.RowKit
theorem rU {P:Program} {w w':World} {n:String} {cs:Array Value} (h:w.var? P n=some cs) (hb:∀ b,b<w.heap.size→w'.heap[b]? =w.heap[b]?):w'.var? P n=some cs:=by
 unfold World.var? at h ⊢
 cases hg:P.globalNamed n with
 | none=>rw [hg] at h;cases h
 | some g=>
   rw [hg] at h
   simp only [Option.bind_some] at h ⊢
   cases ho:w.heap[g]? with
   | none=>rw [ho] at h;cases h
   | some o=>
     have hlt:g<w.heap.size:=(Array.getElem?_eq_some_iff.1 ho).1;rw [hb g hlt];exact h
theorem Glob.Mc {w w':World} (h:Glob w) (hb:∀ b,b<w.heap.size→w'.heap[b]? =w.heap[b]?):Glob w':=by
 obtain ⟨m,hm⟩:=h.n;obtain ⟨t1,p1,h1⟩:=h.es;obtain ⟨t2,p2,h2⟩:=h.er;have hlt:1<w.heap.size:=Lib.lt_of_cell hm;exact ⟨⟨m,(World.cell?_of_block (hb 1 hlt)).trans hm⟩,⟨t1,p1,rU h1 hb⟩,⟨t2,p2,rU h2 hb⟩,rU h.tab hb⟩
def Valid (s:ByteArray):Prop:=∀ W,Glob W→Calls Tryz.prog 163 #[.string s] W fun e w'=>e= .returned (.int .i64 0)∧Below W.heap.size W w'
def I4 (_:Nat):Array Value:= #[.int .i64 0]
theorem KW (S:Nat→Prop) (A:Option Addr) (c:Nat) (xs:List ByteArray) (Bt n:Nat) (w:World) (hn:1≤n) (hg:Glob w) (hBt:Held w Bt [.slice A xs.length c] 327) (hL:Reads w S 1 A xs.length c (xs.map Value.string)) (hV:∀ s∈xs,Valid s):
 yE (gQ none) n Tryz.prog 277 #[ptr Bt] I4 (fun b=>b<w.heap.size) (fun _ _ pre x _=>x=pre.length∧x<xs.length) (fun ys=>ys=List.range xs.length) (fun _=>True) xs.length w:=by
 intro l0 J Jx W hW hJ hJx hY h0;refine iJ ?_;have hBW:=hBt.below hW;have hL':Reads w (fun b=>b<w.heap.size) 1 A xs.length c (xs.map Value.string):=hL.more (fun b h _=>h);have hKb:∀ b,b<w.heap.size→W.heap[b]? =w.heap[b]? :=fun b h=>hW.block b h;have HY:=hide hY;have hbt:=hBt.lt;clear hY;have k0:=hBW.cell (j:=0) rfl;have Fg:=hBW.frozen 0
 go_enter Tryz.func277,Tryz.ntmps277
 go_wp2
 go_loopw [7] (fun i wr=>∃ k:Nat,k≤xs.length∧i= .int .i64 k∧J (fun _=>False) (fun _=>False) (List.range k) wr∧W.heap.size≤wr.heap.size∧∀ b,b<w.heap.size→wr.heap[b]? =w.heap[b]?) (fun i _=>xs.length - (intOf i).toNat)
 case atStart=>exact ⟨0,by omega,rfl,h0,Nat.le_refl _,hKb⟩
 case round=>
  obtain ⟨k,hk,rfl,hj,hsz,hkp⟩:=hrel
  by_cases hlt:k<xs.length
  · have hgr:Glob wr:=hg.Mc hkp
    have hLr:=hL'.keep (Nat.le_trans hW.size hsz) (fun b o hb _=>World.cell?_of_block (hkp b hb));obtain ⟨b1,b2,b3⟩:=hLr.bd;obtain ⟨b,o,rfl,_,hbl,hc⟩:=hLr.at_ (by omega);have hck:=hc k (.string xs[k]) (by rw [List.getElem?_map,List.getElem?_eq_getElem hlt];rfl);have hv:=hV _ (List.getElem_mem hlt);obtain ⟨s,hs⟩:∃ s,xs[k]=s:=⟨_,rfl⟩;rw [hs] at hck hv;have HV:=hide (hv wr hgr);clear hc hs hv k0 Fg hL hL' hLr hBt;have Po:decide ((k:Int)<(xs.length:Int))=true:=decide_eq_true (by omega)
    go_upto_region 3 with (fail)
    go_cut [15] from 10 to 15 (fun v wx=>(v= .bool false∧J (fun _=>False) (fun _=>False) (List.range (k+1)) wx∧wr.heap.size≤wx.heap.size∧∀ b,b<w.heap.size→wx.heap[b]? =w.heap[b]?)∨(v= .bool true∧Jx (fun _=>False) (fun _=>False) (List.range (k+1)) wx))
    case first=>
     refine (wpIn_wide (n:=n)).1 ?_;have YH:(gQ none).round=none:=rfl;have Yy:(gQ none).depth=none:=rfl;have YA:∀ f,(gQ none).fn f=True:=fun _=>rfl;have am9:Fence.wide.round=none:=rfl;have amH:Fence.wide.depth=none:=rfl;have amO:∀ f,Fence.wide.fn f=True:=fun _=>rfl;refine wpIn_region_lit ?_
     gi_wp2_with (gi_at_call 163;refine (iJ HV.out).mono ?_;rintro e w2 ⟨rfl,hb2⟩;obtain ⟨fn',VH,assign',body',hy,hR⟩:=HY.out (fun _=>False) (fun _=>False) (List.range k) k w2 (hJ _ _ _ _ _ _ _ hj (Turn.of_below hb2) (fun b h=>h.elim) (fun b h=>h.elim)) (fun b h=>h.elim (fun h=>h.elim) (fun h=>h.elim)) (by rw [List.length_range];exact hlt) ⟨List.length_range.symm,hlt⟩;rw [show I4 k= #[.int .i64 0] from rfl] at hy)
     refine hR.mono ?_
     rintro e4 W4 (⟨rfl,O5,hk4⟩ | ⟨rfl,uM⟩)
     · gi_wp2
       go_meet;exact .inl ⟨rfl,by rw [List.range_succ];exact O5,Nat.le_trans hb2.size hk4.size,fun b hb=>(hk4.keep b hb).trans ((hb2.block b (Nat.lt_of_lt_of_le hb (Nat.le_trans hW.size hsz))).trans (hkp b hb))⟩
     · gi_wp2
       go_meet;exact .inr ⟨rfl,by rw [List.range_succ];exact uM⟩
    case rest=>
     rcases hcut with ⟨rfl,O5,hs4,hk4⟩ | ⟨rfl,uM⟩
     · go_wp2
       go_roundw
       case rel=>exact ⟨k+1,by omega,by go_num,O5,Nat.le_trans hsz hs4,hk4⟩
       case measure=>simp [intOf];omega
     · go_wp2
       refine bodyPost_ret (results_none rfl _ _ _) rfl ?_
       first | exact ⟨⟨_,rfl⟩,.inr ⟨_,_,_,trivial,uM⟩⟩ | exact ⟨⟨_,rfl⟩,.inr ⟨_,_,_,uM⟩⟩
  · obtain rfl:k=xs.length:=by omega
    go_wp2
    go_end0
    first | exact ⟨⟨_,rfl⟩,.inl ⟨_,_,hj⟩⟩ | exact ⟨⟨_,rfl⟩,.inl ⟨_,_,_,rfl,hj⟩⟩
theorem Il (A:Option Addr) (n c:Nat) (w:World):
 Calls Tryz.prog 270 #[.slice A n c] w fun e w'=>e= .returned (.func (.func 277) #[] #[ptr w.heap.size])∧aS w w' [([.slice A n c],327)]:=by
 go_enter Tryz.func270,Tryz.ntmps270
 go_wp2;go_ret;exact ⟨rfl,(aS.nil w).new (by simp) ([.slice A n c]) _⟩
structure Vj (w:World) (D:Nat) (X Y:Nat→Prop) (pre:List Nat) (W:World):Prop where
 b:aS w W [([.int .i64 0],39)]
 sz:D≤W.heap.size
 sep:∀ b,X b∨Y b→D≤b
theorem Vj.abides (w:World) (D:Nat) (hD:w.heap.size+1≤D):nT (Vj w D):=by
 intro X Y pre W X' Y' W' h ht hX hY;refine ⟨h.b.turn ht (fun b hb=>by have:=h.sep b (.inl hb);simp;omega) (by have:=h.sz;omega),Nat.le_trans h.sz ht.size,?_⟩
 rintro b (hb | hb)
 · rcases hX b hb with h2 | h2
   · exact h.sep b (.inl h2)
   · exact Nat.le_trans h.sz h2
 · rcases hY b hb with h2 | h2
   · exact h.sep b (.inr h2)
   · exact Nat.le_trans h.sz h2
theorem Vj.putObj {w:World} {D:Nat} {X Y:Nat→Prop} {pre:List Nat} {W:World} {lp:Nat} {o:Obj} (h:Vj w D X Y pre W) (hD:w.heap.size≤D) (hlp:D≤lp) (hl:W.heap[lp]? =some o) (ho:o.isCells=false) (o':Obj):Vj w D X Y pre (W.putObj lp o'):=
 ⟨h.b.putObj (by omega) hl ho o',by simpa using h.sz,h.sep⟩
theorem OH {W:World} {g:Nat} {u:Value} {t1 t3:TypeId} {d1:TypeDesc} {fn:Func} {p:Tmp} (hg:Held W g [u] t1) (hu:Tryz.prog.underlying t3=some d1) (h1:d1.isRow=false)
 (hr:fn.results= #[.cell p t3]) (tmps:Array Value) (hp:tmps.getD p undef=ptr g):(results fn tmps).run Tryz.prog W= .ok u W:=by
 have e:(results fn tmps).run Tryz.prog W=((asAddr (tmps.getD p undef)).run Tryz.prog W).andThen fun a w₁=>(loadVar t3 a).run Tryz.prog w₁:=by
  simp only [results,hr]
  simp [Sem.run_bind,Result.andThen]
 rw [e,hp]
 simp only [ptr,asAddr,Sem.run_pure,Result.andThen_ok,yx hg hu h1]
theorem Di (S:Nat→Prop) (A:Option Addr) (c:Nat) (xs:List ByteArray) (w:World) (hg:Glob w) (hL:Reads w S 1 A xs.length c (xs.map Value.string)) (hV:∀ s∈xs,Valid s):
 Calls Tryz.prog 245 #[.slice A xs.length c] w fun e w'=>e= .returned (.int .i64 0)∧Below w.heap.size w w':=by
 refine callsIn_wide.1 (callsIn_of_wp_marks (F:=Fence.wide) (n:=5) Tryz.func245 rfl trivial ?_ rfl)
 simp only [Tryz.ntmps245,List.size_toArray,List.length_cons,List.length_nil,Nat.reduceAdd,Nat.reduceSub,Array.replicate_succ,
  Array.replicate_zero,List.push_toArray,List.append_toArray,List.nil_append,List.cons_append]
 refine wpIn_wide.2 ?_
 generalize hQ':bodyPostM Fence.wide 5 Tryz.prog _ _=Q'
 have HQ:=hide hQ';clear hQ';obtain ⟨n0,hn0⟩:∃ n,xs.length=n:=⟨_,rfl⟩;have HN:=hide hn0;rw [hn0];clear hn0
 go_upto_region 0 with (fail)
 go_cut [2] from 2 to 3 (fun v2 w1=>v2=ptr w.heap.size∧aS w w1 [([.int .i64 0],39)])
 case first=>
  go_wp2;go_meet;exact ⟨rfl,((aS.nil w).new (by simp) ([.int .i64 0]) _)⟩
 case rest=>
  obtain ⟨rfl,hB⟩:=hcut
  rename World=>w1
  have hs1:=hB.size (by simp)
  simp only [List.length_cons,List.length_nil] at hs1
  go_wp2_with (go_at_call 270;refine (Il A n0 c _).mono ?_;rintro e w3 ⟨rfl,hC⟩)
  have hs3:=hC.size (by simp)
  simp only [List.length_cons,List.length_nil] at hs3
  have hB3:=hB.upto hC.bw (by simpa using hs1);have hb3:Below w.heap.size w w3:=hB3.bw;have hg3:=hg.below hb3;have hR3:Reads w3 S 1 A xs.length c (xs.map Value.string):=hL.below hb3
  have hC0:Held w3 w1.heap.size [.slice A xs.length c] 327:=by rw [HN.out];exact hC.ah rfl
  rename_i KQ Uc;refine (wpIn_wide (n:=5)).1 ?_
  refine fV (F:=Fence.wide) rfl (by decide) rfl trivial (enters_of Tryz.func277 (by kernel_rfl) rfl) (KW S A c xs w1.heap.size 4 w3 (by decide) hg3 hC0 hR3 hV) (fun b h=>h) (Below.refl _ _) (fun _=>rfl) (Vj w w3.heap.size) (fun _ _ _ _=>False) (Vj.abides w w3.heap.size (by omega)) (fun _ _ _ _ _ _ _ h _ _ _=>h)
   (fun X Y pre W lp o o' h hlp hl ho=>h.putObj (by omega) hlp hl ho o') (fun _ _ _ _ _ _ _ h _ _ _=>h) (fun X Y pre x W lp o o' h hlp hl ho=>h) ?h0 (fun x a W=>∃ v0 v1 v4 v5 v6 v7 v8 v9,a= {tmps:= #[v0,v1,ptr w.heap.size,.int .i64 0,v4,v5,v6,v7,v8,v9],defers:=[] }) ?assign ?ap ?body ?done ?stop
  case h0=>
   intro W hW;exact ⟨hB3.upto hW (by simp;omega),hW.size,fun b h=>h.elim (fun h=>h.elim) (fun h=>h.elim)⟩
  case ap=>
   rintro x a' W lp o o' ⟨v0,v1,v4,v5,v6,v7,v8,v9,e2⟩ hlp hl ho
   exact ⟨v0,v1,v4,v5,v6,v7,v8,v9,e2⟩
  case stop=>exact fun _ _ _ _ _ _ _ h _=>h.elim
  case assign=>
   intro lp X Y pre x W K' hi ht hk uy
   have fin:∀ v0 v1 v4 v5 v6 v7 v8 v9:Value,K' {tmps:= #[v0,v1,ptr w.heap.size,.int .i64 0,v4,v5,v6,v7,v8,v9],defers:=[] } W:=fun _ _ _ _ _ _ _ _=>
    hk _ _ ⟨Nat.le_refl _,fun k o hk hl _=>hl⟩ ⟨Nat.le_refl _,fun b h=>rfl,fun b h=>rfl⟩ hi ht ⟨_,_,_,_,_,_,_,_,rfl⟩
   have FIN:=hide fin;clear hk fin hi ht uy
   simp [I4]
   refine bJ (by kernel_rfl) (by rintro ⟨_,_,h⟩;exact h) ?_;go_wp2;exact FIN.out _ _ _ _ _ _ _ _
  case body=>
   rintro lp X Y pre x a' W hi ht ⟨v0,v1,v4,v5,v6,v7,v8,v9,rfl⟩ hlt uy hWs
   have FIN:Hid (∀ a:Act,qg (fun b=>b<w3.heap.size) w3.heap.size X Y (Vj w w3.heap.size) (fun _ _ _ _=>False) (pre++[x]) W .normal a W):=hide (fun a=>⟨⟨Nat.le_refl _,fun k o hk hl _=>hl⟩,⟨Nat.le_refl _,fun b h=>rfl,fun b h=>rfl⟩,⟨hi.b,hi.sz,hi.sep⟩⟩);clear hi ht uy;apply wpIn_block;apply wpIn_seq_k;intro K1 hK1;refine bJ (by kernel_rfl) (by rintro ⟨_,_,h⟩;exact h) ?_;go_wp2;refine wpIn_cond_split rfl (fun h=>?_) (fun h=>?_)
   · cases h
   · refine wpIn_skip ?_;exact FIN.out {tmps:= #[],defers:=[] }
  case done=>
   intro D X Y xs' W hD hS hi hdef;have Vp:=hi.b;have hc9:=(Vp.ah rfl).cell (j:=0) rfl;have hf9:=(Vp.ah rfl).frozen 0
   have hD':w.heap.size≤D:=by omega
   have hne:D≠w.heap.size:=by omega
   have wu:=hide hdef;clear hi hS hdef;refine Uc _ _ ?_
   dsimp only
   refine nK ?_;go_wp2;have hZ:=Vp.set 0 rfl 0 (.int .i64 0);have hdz:=(Below.heap_setCell W ⟨w.heap.size,0,none⟩ (.int .i64 0) D hne).trans wu.out
   show Q' .ret _ _
   rw [← HQ.out];exact kC rfl hdz (OH (p:=2) ((hZ.ah rfl).putObj hdz rfl _) Tryz.underlying39 rfl rfl _ rfl) ⟨rfl,fZ hZ.bw hD' _⟩
theorem Reads.lit (W:World) (t:TypeId) (S:Nat→Prop) (size n:Nat) (vs:List Value) (hn:n≤1000) (hl:vs.length=n*size) (hS:S W.heap.size):Reads (W.alloc (.cells vs.toArray t)) S size (some ⟨W.heap.size,0,none⟩) n n vs:=
 ⟨Nat.le_refl _,by omega,by omega,hl,fun _=>⟨W.heap.size,0,rfl,hS,by simp,fun j u hu=>by
  have:=dV W t vs W.heap.size rfl j u hu
  rwa [jP] at this⟩⟩
theorem xW (S:Nat→Prop) (A:Option Addr) (c:Nat) (x y:ByteArray) (w:World) (hg:Glob w) (hL:Reads w S 2 A 1 c [.string x,.string y]) (hx:Valid x) (hy:Valid y):
 Calls Tryz.prog 208 #[.slice A 1 c] w fun e w'=>e= .returned (.int .i64 0)∧Below w.heap.size w w':=by
 obtain ⟨b,o,rfl,_,hb,hc⟩:=hL.at_ (by omega);have c0:=hc 0 _ rfl;have c1:=hc 1 _ rfl;rw [Nat.add_zero] at c0;clear hc
 have HC:∀ (W:World) (G:Nat),Glob W→W.heap.size=G→Calls Tryz.prog 245 #[.slice (some ⟨G,0,none⟩) 2 2] (W.alloc (.cells #[.string x,.string y] 145)) fun e w'=>e= .returned (.int .i64 0)∧Below W.heap.size W w':=fun W G h hG=>by
  subst hG;have h2:Below W.heap.size W (W.alloc (.cells #[.string x,.string y] 145)):=(Below.refl _ _).alloc (Nat.le_refl _) _;refine (Di (fun _=>True) _ 2 [x,y] _ (h.below h2) (Reads.lit W _ _ 1 2 [.string x,.string y] (by omega) rfl trivial) (fun s hs=>by simp at hs;rcases hs with rfl | rfl <;> assumption)).mono ?_
  rintro e w' ⟨rfl,hb⟩
  exact ⟨rfl,h2.trans (hb.mono h2.size)⟩
 have HC:=hide HC;have HV:=hide (fun s (hs:s∈[x,y])=>show Valid s by simp at hs;rcases hs with rfl | rfl <;> assumption);clear hx hy hL
 go_enter Tryz.func208,Tryz.ntmps208
 go_wp2
 go_loopw [8] (fun i wr=>∃ k:Nat,k≤1∧i= .int .i64 k∧Below w.heap.size w wr) (fun i _=>1 - (intOf i).toNat)
 case atStart=>exact ⟨0,by omega,rfl,Below.refl _ _⟩
 case round=>
  obtain ⟨k,hk,rfl,hbw⟩:=hrel;have hgr:=hg.below hbw;have d0:wr.cell? ⟨b,o,none⟩=some (.string x):=(hbw.cell (p:=⟨b,o,none⟩) hb).trans c0;have d1:wr.cell? ⟨b,o+1,none⟩=some (.string y):=(hbw.cell (p:=⟨b,o+1,none⟩) hb).trans c1;clear c0 c1
  by_cases h0:k=0
  · subst h0
    go_wp2
    go_quiet (fail)
    have hbq:=below_drewN ((Below.refl wr.heap.size wr).alloc (Nat.le_refl _) (.cells #[.string x,.string y] 147)) nq
    go_wp2_with (go_at_call 245;refine (HC.out _ (wr.heap.size+1) (hgr.below hbq) (by simp)).mono ?_;rintro e w5 ⟨rfl,hb5⟩)
    have hb6:=hbw.trans ((hbq.trans (hb5.mono hbq.size)).mono hbw.size)
    go_roundw
    case rel=>exact ⟨1,by omega,by go_num,hb6⟩
    case measure=>simp [intOf]
  · obtain rfl:k=1:=by omega
    go_wp2;go_ret;exact ⟨rfl,hbw⟩
theorem yP (x y:ByteArray) (w:World) (hg:Glob w) (hx:Valid x) (hy:Valid y):
 Calls Tryz.prog 170 #[.agg #[.string x,.string y]] w fun e w'=>e= .returned (.int .i64 0)∧Below w.heap.size w w':=by
 have hb0:=(Below.refl w.heap.size w).alloc (Nat.le_refl _) (.cells #[.string x,.string y] 147)
 have HC:∀ (W:World) (G:Nat),Glob W→W.heap.size=G→Calls Tryz.prog 208 #[.slice (some ⟨G,0,none⟩) 1 1] (W.alloc (.cells #[.string x,.string y] 147)) fun e w'=>e= .returned (.int .i64 0)∧Below W.heap.size W w':=fun W G h hG=>by
  subst hG;have h2:Below W.heap.size W (W.alloc (.cells #[.string x,.string y] 147)):=(Below.refl _ _).alloc (Nat.le_refl _) _;refine (xW (fun _=>True) _ 1 x y _ (h.below h2) (Reads.lit W _ _ 2 1 [.string x,.string y] (by omega) rfl trivial) hx hy).mono ?_
  rintro e w' ⟨rfl,hb⟩
  exact ⟨rfl,h2.trans (hb.mono h2.size)⟩
 have HC:=hide HC;clear hx hy
 go_enter Tryz.func170,Tryz.ntmps170
 go_wp2_with (go_at_call 208;refine (HC.out _ (w.heap.size+1) (hg.below hb0) (by simp)).mono ?_;rintro e w5 ⟨rfl,hb5⟩)
 go_ret;exact ⟨rfl,hb0.trans (hb5.mono hb0.size)⟩
theorem ND:Valid iy:=fun W h=>vg [49,53,48,48] 49 [53,48,48] W h rfl (by decide) (by decide) (by rfl) (by decide) (by decide) (by decide)
theorem S9:Valid kJ:=fun W h=>vg [53,48,48] 53 [48,48] W h rfl (by decide) (by decide) (by rfl) (by decide) (by decide) (by decide)
theorem DF (c:Int) (w:World) (h0:97≤c) (h1:c≤122):Calls Tryz.prog 201 #[.int .i32 c] w fun e w'=>e= .returned (.bool true)∧w'=w:=by
 have e0:decide (97≤c)=true:=decide_eq_true h0;have e1:decide (c≤122)=true:=decide_eq_true h1
 go_enter Tryz.func201,Tryz.ntmps201
 go_wp2;go_ret;exact ⟨rfl,rfl⟩
theorem PD (s:ByteArray) (w:World) (h1:1≤s.size) (h2:s.size≤24) (hat:∀ (k:Nat) (h:k<s.size),97≤(s[k]).toNat∧(s[k]).toNat≤122) (hne:(s.toList == [])=false):Calls Tryz.prog 162 #[.string s] w fun e w'=>e= .returned (.bool true)∧Below w.heap.size w w':=by
 obtain ⟨n,hsz⟩:∃ n,s.size=n:=⟨_,rfl⟩;have HAT:=hide hat;rw [hsz] at h1 h2;clear hat
 go_enter Tryz.func162,Tryz.ntmps162
 go_wp2
 go_loopw [] (fun wr=>∃ k:Nat,k≤n∧wr=w.iter s k) (fun w'=>n - w'.iterPos w.heap.size)
 case atStart=>exact ⟨0,Nat.zero_le _,rfl⟩
 case round=>
  obtain ⟨k,hk,rfl⟩:=hrel
  by_cases hlt:k<n
  · have hkz:k<s.size:=by rw [hsz];exact hlt
    have hlk:=HAT.out k hkz;have hnx:∀ ty,(Instr.next (.pointer (some ⟨w.heap.size,0,none⟩)) true ty).run Tryz.prog (w.iter s k)= .ok (.tuple #[.bool true,.int .i64 k,.int .i32 (s[k]).toNat]) (w.iter s (k+1)):=fun ty=>run_next_ascii w s k ty hkz (by omega);obtain ⟨ch,hch⟩:∃ q,((s[k]).toNat:Int)=q:=⟨_,rfl⟩
    have hq0:97≤ch:=by omega
    have hq1:ch≤122:=by omega
    rw [hch] at hnx;clear hch hlk
    go_wp2_with (go_at_call 201;refine (DF ch _ hq0 hq1).mono ?_;rintro e w5 ⟨rfl,hw5⟩;rw [hw5])
    go_roundw
    case rel=>exact ⟨k+1,by omega,rfl⟩
    case measure=>simp;omega
  · have hke:k=n:=by omega
    subst hke;have hnx:∀ ty,(Instr.next (.pointer (some ⟨w.heap.size,0,none⟩)) true ty).run Tryz.prog (w.iter s k)= .ok (.tuple #[.bool false]) (w.iter s k):=fun ty=>run_next_end w s k ty (by omega);have HIT:=hide (H7 w s k);have hle:decide ((k:Int)≤24)=true:=decide_eq_true (by omega);go_wp2;go_ret;exact ⟨rfl,HIT.out⟩
theorem LQ (w:World):Calls Tryz.prog 162 #[.string gK] w fun e w'=>e= .returned (.bool true)∧Below w.heap.size w w':=PD gK w (by decide) (by decide) (fun k h=>by
 have h4:k<4:=h
 match k,h4 with
 | 0,_=>exact (by decide:97≤(102:UInt8).toNat∧(102:UInt8).toNat≤122)
 | 1,_=>exact (by decide:97≤(111:UInt8).toNat∧(111:UInt8).toNat≤122)
 | 2,_=>exact (by decide:97≤(111:UInt8).toNat∧(111:UInt8).toNat≤122)
 | 3,_=>exact (by decide:97≤(116:UInt8).toNat∧(116:UInt8).toNat≤122)) (by rw [ByteArray.toList_eq];rfl)
theorem En (W:World) (G:Nat) (hG:W.heap.size=G):Calls Tryz.prog 55 #[.slice (some ⟨G,0,none⟩) 2 2] (W.alloc (.cells #[.int .i64 0,.int .i64 0] 39)) fun e w'=>e= .returned (.int .i64 0)∧w'=W.alloc (.cells #[.int .i64 0,.int .i64 0] 39):=by
 subst hG;refine (xU (fun _=>True) _ 2 2 _ (bT.lit W _ [0,0] (by simp) _ trivial)).mono ?_
 rintro e w' ⟨rfl,rfl⟩
 exact ⟨rfl,rfl⟩
theorem Eo (W:World) (G:Nat) (hG:W.heap.size=G):Calls Tryz.prog 55 #[.slice (some ⟨G,0,none⟩) 3 3] (W.alloc (.cells #[.int .i64 0,.int .i64 0,.int .i64 0] 39)) fun e w'=>e= .returned (.int .i64 0)∧w'=W.alloc (.cells #[.int .i64 0,.int .i64 0,.int .i64 0] 39):=by
 subst hG;refine (xU (fun _=>True) _ 3 3 _ (bT.lit W _ [0,0,0] (by simp) _ trivial)).mono ?_
 rintro e w' ⟨rfl,rfl⟩
 exact ⟨rfl,rfl⟩
theorem DC (A:Option Addr) (c:Nat) (v:Value) (w:World):Calls Tryz.prog 115 #[.slice A 0 c,v] w fun e w'=>e= .returned (.int .i64 (-1))∧w'=w:=by
 go_enter Tryz.func115,Tryz.ntmps115
 go_wp2
 go_loopw [8] (fun i wr=>i= .int .i64 0∧wr=w) (fun _ _=>0)
 case atStart=>exact ⟨rfl,rfl⟩
 case round=>
  obtain ⟨rfl,rfl⟩:=hrel;go_wp2;go_ret;exact ⟨rfl,rfl⟩
theorem Dv (A:Option Addr) (c:Nat) (v:Value) (w:World):Calls Tryz.prog 168 #[.slice A 0 c,v] w fun e w'=>e= .returned (.bool false)∧w'=w:=by
 go_enter Tryz.func168,Tryz.ntmps168
 go_wp2_with (go_at_call 115;refine (DC A c v _).mono ?_;rintro e w1 ⟨rfl,hw1⟩;rw [hw1])
 go_ret;exact ⟨rfl,rfl⟩
theorem xY (v:Value) (w:World):Calls Tryz.prog 111 #[.slice none 0 0,.int .i64 12,v] w fun e w'=>e= .returned (.int .i64 0)∧w'=w:=by
 go_enter Tryz.func111,Tryz.ntmps111
 go_wp2
 go_loopw [16] (fun i wr=>i= .int .i64 0∧wr=w) (fun _ _=>0)
 case atStart=>exact ⟨rfl,rfl⟩
 case round=>
  obtain ⟨rfl,rfl⟩:=hrel;go_wp2;go_ret;exact ⟨rfl,rfl⟩
theorem UN (S:Nat→Prop) (A B:Option Addr) (c d:Nat) (w:World) (hL:fA w S A c corners):
 Calls Tryz.prog 61 #[vI A c B d,rV (⟨1500,1⟩,⟨500,1⟩)] w fun e w'=>e= .returned (.int .i64 1)∧Below w.heap.size w w':=by
 have:=Ku S A B c d (⟨1500,1⟩,⟨500,1⟩) w hL (by decide)
 rwa [show zU (⟨1500,1⟩,⟨500,1⟩) 4=1 by decide] at this
theorem AB (S:Nat→Prop) (A B P:Option Addr) (c d c':Nat) (w:World) (hg:Glob w) (hL:fA w S A c corners):
 Calls Tryz.prog 114 #[vI A c B d,.agg #[.string gK,.string iy,.string kJ],.slice P 0 c'] w fun e w'=>e= .returned (.int .i64 0)∧Below w.heap.size w w':=by
 go_enter Tryz.func114,Tryz.ntmps114
 go_upto_region 0 with (fail)
 go_cut [3,4] (fun v3 v4 wx=>v3=ptr w.heap.size∧v4=ptr (w.heap.size+1)∧aS w wx [(dF A c B d,87),([.string gK,.string iy,.string kJ],153)])
 case first=>
  go_wp2;go_meet;exact ⟨rfl,rfl,(((aS.nil w).new (by simp) (dF A c B d) _).new (by simp) ([.string gK,.string iy,.string kJ]) _)⟩
 case rest=>
  obtain ⟨rfl,rfl,hB⟩:=hcut;have hB0:=hB
  go_upto_region 2 with (go_at_call 168;refine (Dv _ _ _ _).mono ?_;rintro e w1 ⟨rfl,hw1⟩;rw [hw1];clear hw1)
  refine wp_region_held_drew (S:=(fun w':World=>w'.cell? ⟨w.heap.size+1,0,none⟩=some (.string gK)∧w'.cell? ⟨w.heap.size+1,1,none⟩=some (.string iy)∧w'.cell? ⟨w.heap.size+1,2,none⟩=some (.string kJ))) (by kernel_rfl) ?iM (fun hHeld=>?_)
  case iM=>exact ⟨((hB0.drew).get 1 rfl).cell (j:=0) rfl,((hB0.drew).get 1 rfl).cell (j:=1) rfl,((hB0.drew).get 1 rfl).cell (j:=2) rfl⟩
  refine tk 0 ?_;refine tk 1 ?_;refine tk 5 ?_;refine tk 7 ?_;refine tk 8 ?_;refine tr 2 fun K hK=>?_;go_simp
  (go_at_call 162;refine (LQ _).mono ?_;rintro e w1 ⟨rfl,hb1⟩)
  have hB1:=hB0.drew.call (by simp) hb1;refine hK.out _ _ ?ZK (fun hHeld=>?_)
  case ZK=>(exact ⟨((hB1).get 1 rfl).cell (j:=0) rfl,((hB1).get 1 rfl).cell (j:=1) rfl,((hB1).get 1 rfl).cell (j:=2) rfl⟩)
  clear hK K
  try simp only [Act.put,la,lz,ls]
  refine tk 3 ?_;refine tr 4 fun K hK=>?_;go_simp
  (go_at_call 56;refine (jg _ _).mono ?_;rintro e nH ⟨rfl,jY⟩;rw [← jY];clear jY)
  refine hK.out _ _ ?Ry (fun hHeld=>?_)
  case Ry=>(exact ⟨((hB1).get 1 rfl).cell (j:=0) rfl,((hB1).get 1 rfl).cell (j:=1) rfl,((hB1).get 1 rfl).cell (j:=2) rfl⟩)
  clear hK K
  try simp only [Act.put,la,lz,ls]
  refine tr 6 fun K hK=>?_;go_simp
  (go_at_call 56;refine (jg _ _).mono ?_;rintro e nH ⟨rfl,jY⟩;rw [← jY];clear jY)
  refine hK.out _ _ ?RI (fun hHeld=>?_)
  case RI=>(exact ⟨((hB1).get 1 rfl).cell (j:=0) rfl,((hB1).get 1 rfl).cell (j:=1) rfl,((hB1).get 1 rfl).cell (j:=2) rfl⟩)
  clear hK K
  try simp only [Act.put,la,lz,ls]
  refine tr 9 fun K hK=>?_;go_simp
  (go_at_call 170;refine (yP iy kJ _ (hg.below hB1.bw) ND S9).mono ?_;rintro e w2 ⟨rfl,hb2⟩)
  have hB2:=hB1.call (by simp) hb2;have hB3:=hB2.alloc (by simp) (.cells #[.int .i64 0,.int .i64 0,.int .i64 0] 39);refine hK.out _ _ ?Sj (fun hHeld=>?_)
  case Sj=>(exact ⟨((hB2).get 1 rfl).cell (j:=0) rfl,((hB2).get 1 rfl).cell (j:=1) rfl,((hB2).get 1 rfl).cell (j:=2) rfl⟩)
  clear hK K
  try simp only [Act.put,la,lz,ls]
  refine tr 10 fun K hK=>?_;go_simp;refine hK.out _ _ ?Jo (fun hHeld=>?_)
  case Jo=>(exact ⟨((hB3).get 1 rfl).cell (j:=0) rfl,((hB3).get 1 rfl).cell (j:=1) rfl,((hB3).get 1 rfl).cell (j:=2) rfl⟩)
  clear hK K
  try simp only [Act.put,la,lz,ls]
  refine tr 11 fun K hK=>?_;go_simp
  (go_at_call 55;refine (Eo _ _ rfl).mono ?_;rintro e w5 ⟨rfl,hw5⟩;rw [hw5];clear hw5)
  refine hK.out _ _ ?Xw (fun hHeld=>?_)
  case Xw=>(exact ⟨((hB3).get 1 rfl).cell (j:=0) rfl,((hB3).get 1 rfl).cell (j:=1) rfl,((hB3).get 1 rfl).cell (j:=2) rfl⟩)
  clear hK K
  try simp only [Act.put,la,lz,ls]
  refine tk 12 ?_;refine wpAnyH_done (by kernel_rfl) ?_ _
  go_upto_region 5 with (fail)
  refine wp_region_held_drew (S:=(fun w':World=>w'.cell? ⟨w.heap.size,0,none⟩=some (.slice A 4 c)∧w'.cell? ⟨w.heap.size,1,none⟩=some (.int .i64 30)∧w'.cell? ⟨w.heap.size,2,none⟩=some (.slice none 0 0)∧w'.cell? ⟨w.heap.size,3,none⟩=some (.slice B 1 d)∧w'.cell? ⟨w.heap.size+1,0,none⟩=some (.string gK)∧w'.cell? ⟨w.heap.size+1,1,none⟩=some (.string iy)∧w'.cell? ⟨w.heap.size+1,2,none⟩=some (.string kJ))) (by kernel_rfl) ?jv (fun hHeld=>?_)
  case jv=>exact ⟨((hB3.drew).ah rfl).cell (j:=0) rfl,((hB3.drew).ah rfl).cell (j:=1) rfl,((hB3.drew).ah rfl).cell (j:=2) rfl,((hB3.drew).ah rfl).cell (j:=3) rfl,((hB3.drew).get 1 rfl).cell (j:=0) rfl,((hB3.drew).get 1 rfl).cell (j:=1) rfl,((hB3.drew).get 1 rfl).cell (j:=2) rfl⟩
  refine tk 0 ?_;refine tk 1 ?_;refine tk 2 ?_;refine tr 3 fun K hK=>?_;go_simp
  (go_at_call 117;refine (J9 _ (hg.below hB3.drew.bw)).mono ?_;rintro e w4 ⟨rfl,hb4⟩)
  have hB4:=hB3.drew.call (by simp) hb4;refine hK.out _ _ ?Q8 (fun hHeld=>?_)
  case Q8=>(exact ⟨((hB4).ah rfl).cell (j:=0) rfl,((hB4).ah rfl).cell (j:=1) rfl,((hB4).ah rfl).cell (j:=2) rfl,((hB4).ah rfl).cell (j:=3) rfl,((hB4).get 1 rfl).cell (j:=0) rfl,((hB4).get 1 rfl).cell (j:=1) rfl,((hB4).get 1 rfl).cell (j:=2) rfl⟩)
  clear hK K
  try simp only [Act.put,la,lz,ls]
  refine tr 4 fun K hK=>?_;go_simp
  (go_at_call 61;refine (UN S A B c d _ (Reads.below hL hB4.bw)).mono ?_;rintro e w5 ⟨rfl,hb5⟩)
  have eP:=hB4.call (by simp) hb5;refine hK.out _ _ ?GK (fun hHeld=>?_)
  case GK=>(exact ⟨((eP).ah rfl).cell (j:=0) rfl,((eP).ah rfl).cell (j:=1) rfl,((eP).ah rfl).cell (j:=2) rfl,((eP).ah rfl).cell (j:=3) rfl,((eP).get 1 rfl).cell (j:=0) rfl,((eP).get 1 rfl).cell (j:=1) rfl,((eP).get 1 rfl).cell (j:=2) rfl⟩)
  clear hK K
  try simp only [Act.put,la,lz,ls]
  refine tk 5 ?_;refine tr 6 fun K hK=>?_;go_simp
  (go_at_call 56;refine (jg _ _).mono ?_;rintro e nH ⟨rfl,jY⟩;rw [← jY];clear jY)
  refine hK.out _ _ ?ZJ (fun hHeld=>?_)
  case ZJ=>(exact ⟨((eP).ah rfl).cell (j:=0) rfl,((eP).ah rfl).cell (j:=1) rfl,((eP).ah rfl).cell (j:=2) rfl,((eP).ah rfl).cell (j:=3) rfl,((eP).get 1 rfl).cell (j:=0) rfl,((eP).get 1 rfl).cell (j:=1) rfl,((eP).get 1 rfl).cell (j:=2) rfl⟩)
  clear hK K
  try simp only [Act.put,la,lz,ls]
  refine tk 7 ?_;refine wpAnyH_done (by kernel_rfl) ?_ _;go_wp2;go_ret;exact ⟨rfl,eP.bw⟩
theorem Dp (S:Nat→Prop) (A B:Option Addr) (c d:Nat) (w:World) (hg:Glob w) (hL:fA w S A c corners) (hS:Reads w S 3 B 1 d [.string gK,.string iy,.string kJ]):
 Calls Tryz.prog 113 #[.slice B 1 d,.int .i64 256,.func (.func 114) #[vI A c B d] #[]] w fun e w'=>e= .returned (.int .i64 0)∧Below w.heap.size w w':=by
 have eg:∀ args w,(callFunc 114 args).run Tryz.prog w= .ok (.enter 114 args) w:=enters_of Tryz.func114 (by kernel_rfl) rfl;obtain ⟨bd1,bd2,_⟩:=hS.bd;obtain ⟨b,o,rfl,hb,c0,c1,c2⟩:=uq hS;have HC:∀ (_:Nat) (W:World),Glob W→fA W S A c corners→Calls Tryz.prog 114 #[vI A c (some ⟨b,o,none⟩) d,.agg #[.string gK,.string iy,.string kJ],.slice (some ⟨b,o,none⟩) 0 d] W fun e w'=>e= .returned (.int .i64 0)∧Below W.heap.size W w':=fun _ W h h'=>AB S A _ _ c d d W h h';have HC:=hide HC;clear hS
 go_enter Tryz.func113,Tryz.ntmps113
 go_wp2
 go_loopw [16] (fun i wr=>∃ k:Nat,k≤1∧i= .int .i64 k∧Below w.heap.size w wr) (fun i _=>1 - (intOf i).toNat)
 case atStart=>exact ⟨0,by omega,rfl,Below.refl _ _⟩
 case round=>
  obtain ⟨k,hk,rfl,hbw⟩:=hrel;have hgr:=hg.below hbw;have d0:wr.cell? ⟨b,o,none⟩=some (.string gK):=(hbw.cell (p:=⟨b,o,none⟩) hb).trans c0;have d1:wr.cell? ⟨b,o+1,none⟩=some (.string iy):=(hbw.cell (p:=⟨b,o+1,none⟩) hb).trans c1;have d2:wr.cell? ⟨b,o+2,none⟩=some (.string kJ):=(hbw.cell (p:=⟨b,o+2,none⟩) hb).trans c2;clear c0 c1 c2
  by_cases h0:k=0
  · subst h0
    have hX:=Held.new wr [.string gK,.string iy,.string kJ] 153;have hbx:=(Below.refl wr.heap.size wr).alloc (Nat.le_refl _) (.cells #[.string gK,.string iy,.string kJ] 153)
    go_upto_region 6 with (fail)
    refine wp_region_held_drew (S:=(fun w':World=>w'.cell? ⟨wr.heap.size,0,none⟩=some (.string gK)∧w'.cell? ⟨wr.heap.size,1,none⟩=some (.string iy)∧w'.cell? ⟨wr.heap.size,2,none⟩=some (.string kJ))) (by kernel_rfl) ?rF (fun hHeld=>?_)
    case rF=>exact ⟨(hX.drew).cell (j:=0) rfl,(hX.drew).cell (j:=1) rfl,(hX.drew).cell (j:=2) rfl⟩
    refine tk 0 ?_;refine tk 1 ?_;refine tk 2 ?_;refine tk 3 ?_;refine tk 4 ?_;refine tr 5 fun K hK=>?_;go_simp
    (go_at_fn 114;refine (HC.out wr.heap.size _ (hgr.below hbx.drew) (Reads.below hL (hbw.trans (hbx.drew.mono hbw.size)))).mono ?_;rintro e w5 ⟨rfl,hb5⟩)
    have hX2:=hX.drew.below hb5;refine hK.out _ _ ?ZN (fun hHeld=>?_)
    case ZN=>(exact ⟨(hX2).cell (j:=0) rfl,(hX2).cell (j:=1) rfl,(hX2).cell (j:=2) rfl⟩)
    clear hK K
    try simp only [Act.put,la,lz,ls]
    refine tk 6 ?_;refine wpAnyH_done (by kernel_rfl) ?_ _;go_wp2;exact ⟨⟨1,by omega,rfl,hbw.trans ((hbx.drew.trans (hb5.mono hbx.drew.size)).mono hbw.size)⟩,by simp [intOf]⟩
  · obtain rfl:k=1:=by omega
    go_wp2;go_ret;exact ⟨rfl,hbw⟩
def UR (k:Nat):Value:=FY (corners.getD k ⟨0,0⟩)
def Hr (n:Nat):Array MapEntry:=((List.range n).map fun i=>{key:=UR i,val:= .bool true,born:=i }).toArray
theorem Qe (n:Nat):(Hr n).push {key:=UR n,val:= .bool true,born:=n }=Hr (n+1):=by
 simp [Hr,List.range_succ]
theorem Vo (k:Nat) (hk:k<4) (b:Bool) (W:World):(Instr.checkKey b 10000 151 (UR k)).run Tryz.prog W= .ok () W:=by
 obtain rfl | rfl | rfl | rfl:k=0∨k=1∨k=2∨k=3:=by omega
 all_goals (cases b <;> kernel_rfl)
theorem JJ (k:Nat) (hk:k<4) (W:World):(Instr.findKey 151 (UR k) (Hr k).toList).run Tryz.prog W= .ok none W:=by
 obtain rfl | rfl | rfl | rfl:k=0∨k=1∨k=2∨k=3:=by omega
 all_goals kernel_rfl
theorem UG (k:Nat) (hk:k<4) {W:World} {G:Nat} (hb:W.heap[G]? =some (.map (Hr k) k)):(Instr.lookup 235 (.map (some G)) (UR k) false).run Tryz.prog W= .ok (.bool false) W:=by
 have hck:=fun b=>Vo k hk b W;have hf:=JJ k hk W
 have hz:(zeroValue 4).run Tryz.prog W= .ok (.bool false) W:=by kernel_rfl
 simp [Instr.lookup,run_underlying Tryz.underlying235,ni hb,hck,hf,hz]
theorem XA (k:Nat) (hk:k<4) {W:World} {G:Nat} (hb:W.heap[G]? =some (.map (Hr k) k)):(Instr.mapUpdate 235 (.map (some G)) (UR k) (.bool true)).run Tryz.prog W= .ok () {W with heap:=W.heap.setIfInBounds G (.map (Hr (k+1)) (k+1)) }:=by
 have hck:=fun b=>Vo k hk b W;have hf:=JJ k hk W;have h2:=Ae (P:=Tryz.prog) (.map (Hr (k+1)) (k+1)) hb;rw [← Qe k] at h2 ⊢
 simp [Instr.mapUpdate,run_underlying Tryz.underlying235,ni hb,hck,hf,h2]
theorem NC {w W:World} {G:Nat} {L:List (List Value × TypeId)} (k:Nat) (hk:k<4) (hb:W.heap[G]? =some (.map (Hr k) k)) (hB:aS w W L) (hG:w.heap.size+L.length≤G):
 ∃ W2,(Instr.mapUpdate 235 (.map (some G)) (UR k) (.bool true)).run Tryz.prog W= .ok () W2∧aS w W2 L∧W2.heap[G]? =some (.map (Hr (k+1)) (k+1)):=by
 have hlt:G<W.heap.size:=(Array.getElem?_eq_some_iff.1 hb).1;refine ⟨_,XA k hk hb,⟨fun i e he=>?_,⟨hB.bw.os,hB.bw.tape,hB.bw.output,?_,fun b h=>?_⟩⟩,?_⟩
 · have h1:=(List.getElem?_eq_some_iff.1 he).1
   show (W.heap.setIfInBounds G _)[w.heap.size+i]? =_
   rw [Array.getElem?_setIfInBounds_ne (by omega)];exact hB.at_ i e he
 · show w.heap.size≤(W.heap.setIfInBounds G _).size
   rw [Array.size_setIfInBounds];exact hB.bw.size
 · show (W.heap.setIfInBounds G _)[b]? =_
   rw [Array.getElem?_setIfInBounds_ne (by omega)];exact hB.bw.block b h
 · show (W.heap.setIfInBounds G _)[G]? =_
   rw [Array.getElem?_setIfInBounds_self_of_lt hlt]
theorem WZ (k:Nat) (hk:k<4):UR k= .agg #[.int .i64 (corners[k]'hk).aT,.int .i64 (corners[k]'hk).aX]:=by
 obtain rfl | rfl | rfl | rfl:k=0∨k=1∨k=2∨k=3:=by omega
 all_goals rfl
theorem Dl {W:World} {S:Nat→Prop} {A:Option Addr} {c:Nat} (h:fA W S A c corners):∃ b o,A=some ⟨b,o,none⟩∧b<W.heap.size∧(∀ k (hk:k<4),W.cell? ⟨b,o+k*2,none⟩=some (.int .i64 (corners[k]'hk).aT)∧W.cell? ⟨b,o+k*2+1,none⟩=some (.int .i64 (corners[k]'hk).aX)):=by
 obtain ⟨b,o,e,_,hb,hc⟩:=h.at_ 0 (by decide);exact ⟨b,o,e,hb,fun k hk=>hc k hk⟩
theorem Zf (k:Nat) (hk:k<4) {x y:Int} (he:UR k= .agg #[.int .i64 x,.int .i64 y]) {W:World} {G:Nat} (hb:W.heap[G]? =some (.map (Hr k) k)):(Instr.lookup 235 (.map (some G)) (.agg #[.int .i64 x,.int .i64 y]) false).run Tryz.prog W= .ok (.bool false) W:=by
 rw [← he];exact UG k hk hb
theorem Ig (S:Nat→Prop) (A B:Option Addr) (c d:Nat) (w:World) (hL:fA w S A c corners):
 Calls Tryz.prog 110 #[vI A c B d] w fun e w'=>e= .returned (.bool true)∧Below w.heap.size w w':=by
 obtain ⟨b,o,rfl,hbl,hcc⟩:=Dl hL;have TD:=hide hcc;have hmm:∀ W,(Instr.makeMap 235 none).run Tryz.prog W= .ok (.map (some W.heap.size)) (W.alloc (.map (Hr 0) 0)):=fun _=>rfl;clear hcc
 go_enter Tryz.func110,Tryz.ntmps110
 go_upto_region 0 with (fail)
 go_cut [1] (fun v1 wx=>v1=ptr w.heap.size∧aS w wx [(dF (some ⟨b,o,none⟩) c B d,87)])
 case first=>
  go_wp2;go_meet;exact ⟨rfl,((aS.nil w).new (by simp) (dF (some ⟨b,o,none⟩) c B d) _)⟩
 case rest=>
  obtain ⟨rfl,hB⟩:=hcut;have uQ:=(hB.ah rfl).cell (j:=0) rfl;have jZ:=(hB.ah rfl).frozen 0;have ka1:=(hB.ah rfl).cell (j:=1) rfl;have ku:=(hB.ah rfl).frozen 1;have NP:=(hB.ah rfl).cell (j:=2) rfl;have yt:=(hB.ah rfl).frozen 2;have NQ:=(hB.ah rfl).cell (j:=3) rfl;have yu:=(hB.ah rfl).frozen 3;obtain ⟨G,hG⟩:∃ G,wc.heap.size=G:=⟨_,rfl⟩;have hmm:=hmm wc;rw [hG] at hmm;have hB0:=hB.alloc (by simp) (.map (Hr 0) 0)
  have hM0:(wc.alloc (.map (Hr 0) 0)).heap[G]? =some (.map (Hr 0) 0):=by rw [← hG];exact heap_alloc_new wc _
  have ab6:w.heap.size+1≤G:=by have:=hB.size (by simp);rw [← hG];simpa using this
  have zI:=(hB0.ah rfl).cell (j:=0) rfl;have ou:=(hB0.ah rfl).frozen 0;have zJ:=(hB0.ah rfl).cell (j:=1) rfl;have oz:=(hB0.ah rfl).frozen 1;have Aw:=(hB0.ah rfl).cell (j:=2) rfl;have oL:=(hB0.ah rfl).frozen 2;have Az:=(hB0.ah rfl).cell (j:=3) rfl;have oM:=(hB0.ah rfl).frozen 3;go_wp2
  go_loopw [16] (fun i wr=>∃ k:Nat,k≤4∧i= .int .i64 k∧aS w wr [(dF (some ⟨b,o,none⟩) c B d,87)]∧wr.heap[G]? =some (.map (Hr k) k)) (fun i _=>4 - (intOf i).toNat)
  case atStart=>exact ⟨0,by omega,rfl,hB0,hM0⟩
  case round=>
   obtain ⟨k,hk,rfl,hBr,hM⟩:=hrel;clear zI ou zJ oz Aw oL Az oM hB0 hM0
   by_cases hlt:k<4
   · have hx:=TD.out k hlt
     have he:=WZ k hlt;obtain ⟨x,hx0⟩:∃ x,(corners[k]'hlt).aT=x:=⟨_,rfl⟩;obtain ⟨y,hy0⟩:∃ x,(corners[k]'hlt).aX=x:=⟨_,rfl⟩;rw [hx0,hy0] at hx he;clear hx0 hy0;have x0:wr.cell? ⟨b,o+k*2,none⟩=some (.int .i64 x):=(hBr.bw.cell (p:=⟨b,o+k*2,none⟩) hbl).trans hx.1;have x1:wr.cell? ⟨b,o+k*2+1,none⟩=some (.int .i64 y):=(hBr.bw.cell (p:=⟨b,o+k*2+1,none⟩) hbl).trans hx.2;have hBa:=hBr.alloc (by simp) (.cells #[.int .i64 x,.int .i64 y] 151);have hMa:=(heap_alloc_old wr (.cells #[.int .i64 x,.int .i64 y] 151) (Array.getElem?_eq_some_iff.1 hM).1).trans hM;have hlk:=Zf k hlt he hMa;obtain ⟨W2,hup,hB2,hM2⟩:=NC k hlt hMa hBa ab6;rw [he] at hup;have Po:decide ((k:Int)<4)=true:=decide_eq_true (by omega)
     have hk':(k:Int)<4:=by omega
     clear hx he hM hMa hBa;go_wp2
     go_roundw
     case rel=>exact ⟨k+1,by omega,by go_num,hB2,hM2⟩
     case measure=>simp [intOf];omega
   · obtain rfl:k=4:=by omega
     have hbr:=hBr.bw
     simp only [show ((4:Nat):Int)=4 from rfl]
     have y0:w.cell? ⟨b,o,none⟩=some (.int .i64 0):=(TD.out 0 (by decide)).1;have y1:w.cell? ⟨b,o+1,none⟩=some (.int .i64 0):=(TD.out 0 (by decide)).2;have y2:w.cell? ⟨b,o+2,none⟩=some (.int .i64 2000):=(TD.out 1 (by decide)).1;have y3:w.cell? ⟨b,o+3,none⟩=some (.int .i64 0):=(TD.out 1 (by decide)).2;have y4:w.cell? ⟨b,o+4,none⟩=some (.int .i64 2000):=(TD.out 2 (by decide)).1;have y5:w.cell? ⟨b,o+5,none⟩=some (.int .i64 1000):=(TD.out 2 (by decide)).2;have y6:w.cell? ⟨b,o+6,none⟩=some (.int .i64 0):=(TD.out 3 (by decide)).1;have y7:w.cell? ⟨b,o+7,none⟩=some (.int .i64 1000):=(TD.out 3 (by decide)).2;have zI:=(hBr.ah rfl).cell (j:=0) rfl;have ou:=(hBr.ah rfl).frozen 0;have zJ:=(hBr.ah rfl).cell (j:=1) rfl;have oz:=(hBr.ah rfl).frozen 1;have Aw:=(hBr.ah rfl).cell (j:=2) rfl;have oL:=(hBr.ah rfl).frozen 2;have Az:=(hBr.ah rfl).cell (j:=3) rfl;have oM:=(hBr.ah rfl).frozen 3;go_wp2
     go_loopw [32] (fun i wr=>∃ k:Nat,k≤4∧i= .int .i64 k∧aS w wr [(dF (some ⟨b,o,none⟩) c B d,87)]) (fun i _=>4 - (intOf i).toNat)
     case atStart=>exact ⟨0,by omega,rfl,hBr⟩
     case round=>
      clear zI ou zJ oz Aw oL Az oM hM hBr hbr;obtain ⟨i,hi,rfl,hB2⟩:=hrel;have zI:=(hB2.ah rfl).cell (j:=0) rfl;have ou:=(hB2.ah rfl).frozen 0;have zJ:=(hB2.ah rfl).cell (j:=1) rfl;have oz:=(hB2.ah rfl).frozen 1;have Aw:=(hB2.ah rfl).cell (j:=2) rfl;have oL:=(hB2.ah rfl).frozen 2;have Az:=(hB2.ah rfl).cell (j:=3) rfl;have oM:=(hB2.ah rfl).frozen 3;have x0:=(hB2.bw.cell (p:=⟨b,o,none⟩) hbl).trans y0;have x1:=(hB2.bw.cell (p:=⟨b,o+1,none⟩) hbl).trans y1;have x2:=(hB2.bw.cell (p:=⟨b,o+2,none⟩) hbl).trans y2;have x3:=(hB2.bw.cell (p:=⟨b,o+3,none⟩) hbl).trans y3;have x4:=(hB2.bw.cell (p:=⟨b,o+4,none⟩) hbl).trans y4;have x5:=(hB2.bw.cell (p:=⟨b,o+5,none⟩) hbl).trans y5;have x6:=(hB2.bw.cell (p:=⟨b,o+6,none⟩) hbl).trans y6;have x7:=(hB2.bw.cell (p:=⟨b,o+7,none⟩) hbl).trans y7
      have Ut:i=0∨i=1∨i=2∨i=3∨i=4:=by omega
      clear hi
      rcases Ut with rfl | rfl | rfl | rfl | rfl
      · have hA3:=Held.new wr [.int .i64 0,.int .i64 0] 151
        have hB3:=hB2.alloc (by simp) (.cells #[.int .i64 0,.int .i64 0] 151)
        have hwr:IntKind.i64.wrap 1=1:=by decide
        have hmr:(1:Int).tmod 4=1:=by decide
        go_upto_region 13 with (fail)
        refine wp_region_held_drew (S:=(fun w':World=>w'.cell? ⟨w.heap.size,0,none⟩=some (.slice (some ⟨b,o,none⟩) 4 c)∧w'.cell? ⟨w.heap.size,1,none⟩=some (.int .i64 30)∧w'.cell? ⟨w.heap.size,2,none⟩=some (.slice none 0 0)∧w'.cell? ⟨w.heap.size,3,none⟩=some (.slice B 1 d)∧w'.cell? ⟨b,o+2,none⟩=some (.int .i64 2000)∧w'.cell? ⟨b,o+3,none⟩=some (.int .i64 0))) (by kernel_rfl) ?jv (fun hHeld=>?_)
        case jv=>exact ⟨((hB3.drew).ah rfl).cell (j:=0) rfl,((hB3.drew).ah rfl).cell (j:=1) rfl,((hB3.drew).ah rfl).cell (j:=2) rfl,((hB3.drew).ah rfl).cell (j:=3) rfl,((hB3.drew).bw.cell (p:=⟨b,o+2,none⟩) hbl).trans y2,((hB3.drew).bw.cell (p:=⟨b,o+3,none⟩) hbl).trans y3⟩
        refine tk 0 ?_;refine tk 1 ?_;refine tk 2 ?_;refine tk 3 ?_;refine tk 4 ?_;refine tk 5 ?_;refine tk 6 ?_;refine tk 7 ?_;refine tr 8 fun K hK=>?_;go_simp;refine hK.out _ _ ?Rf (fun hHeld=>?_)
        case Rf=>(exact ⟨(((hB3.drew.alloc (by simp) _)).ah rfl).cell (j:=0) rfl,(((hB3.drew.alloc (by simp) _)).ah rfl).cell (j:=1) rfl,(((hB3.drew.alloc (by simp) _)).ah rfl).cell (j:=2) rfl,(((hB3.drew.alloc (by simp) _)).ah rfl).cell (j:=3) rfl,(((hB3.drew.alloc (by simp) _)).bw.cell (p:=⟨b,o+2,none⟩) hbl).trans y2,(((hB3.drew.alloc (by simp) _)).bw.cell (p:=⟨b,o+3,none⟩) hbl).trans y3⟩)
        clear hK K
        try simp only [Act.put,la,lz,ls]
        refine tr 9 fun K hK=>?_;go_simp;refine hK.out _ _ ?Rh (fun hHeld=>?_)
        case Rh=>(exact ⟨(((hB3.drew.alloc (by simp) _)).ah rfl).cell (j:=0) rfl,(((hB3.drew.alloc (by simp) _)).ah rfl).cell (j:=1) rfl,(((hB3.drew.alloc (by simp) _)).ah rfl).cell (j:=2) rfl,(((hB3.drew.alloc (by simp) _)).ah rfl).cell (j:=3) rfl,(((hB3.drew.alloc (by simp) _)).bw.cell (p:=⟨b,o+2,none⟩) hbl).trans y2,(((hB3.drew.alloc (by simp) _)).bw.cell (p:=⟨b,o+3,none⟩) hbl).trans y3⟩)
        clear hK K
        try simp only [Act.put,la,lz,ls]
        refine wpAnyH_done (by kernel_rfl) ?_ _;have hB4:=(hB3.drew).alloc (by simp) (.cells #[.int .i64 2000,.int .i64 0] 151);have O4:=(hA3.drew).alloc (.cells #[.int .i64 2000,.int .i64 0] 151);have xZ:=Held.newAt ((wr.alloc (.cells #[.int .i64 0,.int .i64 0] 151)).drew) [.int .i64 2000,.int .i64 0] 151 (g:=wr.heap.size+1) (by simp);go_wp2
        go_loopw [48] (fun v wr3=>∃ m:Nat,m≤4∧v= .int .i64 m∧aS w wr3 [(dF (some ⟨b,o,none⟩) c B d,87)]∧Held wr3 wr.heap.size [.int .i64 0,.int .i64 0] 151∧Held wr3 (wr.heap.size+1) [.int .i64 2000,.int .i64 0] 151) (fun v _=>4 - (intOf v).toNat)
        case atStart=>exact ⟨0,by omega,rfl,hB4,O4,xZ⟩
        case round=>
         clear hB4 O4 xZ hA3 hB3 hB2 zI ou zJ oz Aw oL Az oM x0 x1 x2 x3 x4 x5 x6 x7;obtain ⟨m,hm,rfl,eP,qp,qw⟩:=hrel;have V7:=qp.lt;have V9:=qw.lt;have uQ:=(qp).cell (j:=0) rfl;have jZ:=(qp).frozen 0;have ka1:=(qp).cell (j:=1) rfl;have ku:=(qp).frozen 1;have JZ:=(qw).cell (j:=0) rfl;have Ba:=(qw).frozen 0;have Tt:=(qw).cell (j:=1) rfl;have Bd:=(qw).frozen 1;have x0:=(eP.bw.cell (p:=⟨b,o,none⟩) hbl).trans y0;have x1:=(eP.bw.cell (p:=⟨b,o+1,none⟩) hbl).trans y1;have x2:=(eP.bw.cell (p:=⟨b,o+2,none⟩) hbl).trans y2;have x3:=(eP.bw.cell (p:=⟨b,o+3,none⟩) hbl).trans y3;have x4:=(eP.bw.cell (p:=⟨b,o+4,none⟩) hbl).trans y4;have x5:=(eP.bw.cell (p:=⟨b,o+5,none⟩) hbl).trans y5;have x6:=(eP.bw.cell (p:=⟨b,o+6,none⟩) hbl).trans y6;have x7:=(eP.bw.cell (p:=⟨b,o+7,none⟩) hbl).trans y7
         have qA:m=0∨m=1∨m=2∨m=3∨m=4:=by omega
         clear hm
         rcases qA with rfl | rfl | rfl | rfl | rfl
         · have n1:∀ W,(binOp .neq 151 (.agg #[.int .i64 0,.int .i64 0]) (.agg #[.int .i64 0,.int .i64 0])).run Tryz.prog W= .ok (.bool false) W:=fun _=>by kernel_rfl
           have n2:∀ W,(binOp .neq 151 (.agg #[.int .i64 0,.int .i64 0]) (.agg #[.int .i64 2000,.int .i64 0])).run Tryz.prog W= .ok (.bool true) W:=fun _=>by kernel_rfl
           go_wp2
           go_roundw
           case rel=>exact ⟨1,by omega,rfl,eP.alloc (by simp) _,qp.alloc _,qw.alloc _⟩
           case measure=>simp [intOf]
         · have n1:∀ W,(binOp .neq 151 (.agg #[.int .i64 2000,.int .i64 0]) (.agg #[.int .i64 0,.int .i64 0])).run Tryz.prog W= .ok (.bool true) W:=fun _=>by kernel_rfl
           have n2:∀ W,(binOp .neq 151 (.agg #[.int .i64 2000,.int .i64 0]) (.agg #[.int .i64 2000,.int .i64 0])).run Tryz.prog W= .ok (.bool false) W:=fun _=>by kernel_rfl
           go_wp2
           go_roundw
           case rel=>exact ⟨2,by omega,rfl,eP.alloc (by simp) _,qp.alloc _,qw.alloc _⟩
           case measure=>simp [intOf]
         · have n1:∀ W,(binOp .neq 151 (.agg #[.int .i64 2000,.int .i64 1000]) (.agg #[.int .i64 0,.int .i64 0])).run Tryz.prog W= .ok (.bool true) W:=fun _=>by kernel_rfl
           have n2:∀ W,(binOp .neq 151 (.agg #[.int .i64 2000,.int .i64 1000]) (.agg #[.int .i64 2000,.int .i64 0])).run Tryz.prog W= .ok (.bool true) W:=fun _=>by kernel_rfl
           go_wp2
           go_roundw
           case rel=>exact ⟨3,by omega,rfl,eP.alloc (by simp) _,qp.alloc _,qw.alloc _⟩
           case measure=>simp [intOf]
         · have n1:∀ W,(binOp .neq 151 (.agg #[.int .i64 0,.int .i64 1000]) (.agg #[.int .i64 0,.int .i64 0])).run Tryz.prog W= .ok (.bool true) W:=fun _=>by kernel_rfl
           have n2:∀ W,(binOp .neq 151 (.agg #[.int .i64 0,.int .i64 1000]) (.agg #[.int .i64 2000,.int .i64 0])).run Tryz.prog W= .ok (.bool true) W:=fun _=>by kernel_rfl
           go_wp2
           go_roundw
           case rel=>exact ⟨4,by omega,rfl,eP.alloc (by simp) _,qp.alloc _,qw.alloc _⟩
           case measure=>simp [intOf]
         · go_wp2
           go_roundw
           case rel=>exact ⟨1,by omega,rfl,eP⟩
           case measure=>simp [intOf]
      · have hA3:=Held.new wr [.int .i64 2000,.int .i64 0] 151
        have hB3:=hB2.alloc (by simp) (.cells #[.int .i64 2000,.int .i64 0] 151)
        have hwr:IntKind.i64.wrap 2=2:=by decide
        have hmr:(2:Int).tmod 4=2:=by decide
        go_upto_region 13 with (fail)
        refine wp_region_held_drew (S:=(fun w':World=>w'.cell? ⟨w.heap.size,0,none⟩=some (.slice (some ⟨b,o,none⟩) 4 c)∧w'.cell? ⟨w.heap.size,1,none⟩=some (.int .i64 30)∧w'.cell? ⟨w.heap.size,2,none⟩=some (.slice none 0 0)∧w'.cell? ⟨w.heap.size,3,none⟩=some (.slice B 1 d)∧w'.cell? ⟨b,o+4,none⟩=some (.int .i64 2000)∧w'.cell? ⟨b,o+5,none⟩=some (.int .i64 1000))) (by kernel_rfl) ?iM (fun hHeld=>?_)
        case iM=>exact ⟨((hB3.drew).ah rfl).cell (j:=0) rfl,((hB3.drew).ah rfl).cell (j:=1) rfl,((hB3.drew).ah rfl).cell (j:=2) rfl,((hB3.drew).ah rfl).cell (j:=3) rfl,((hB3.drew).bw.cell (p:=⟨b,o+4,none⟩) hbl).trans y4,((hB3.drew).bw.cell (p:=⟨b,o+5,none⟩) hbl).trans y5⟩
        refine tk 0 ?_;refine tk 1 ?_;refine tk 2 ?_;refine tk 3 ?_;refine tk 4 ?_;refine tk 5 ?_;refine tk 6 ?_;refine tk 7 ?_;refine tr 8 fun K hK=>?_;go_simp;refine hK.out _ _ ?RX (fun hHeld=>?_)
        case RX=>(exact ⟨(((hB3.drew.alloc (by simp) _)).ah rfl).cell (j:=0) rfl,(((hB3.drew.alloc (by simp) _)).ah rfl).cell (j:=1) rfl,(((hB3.drew.alloc (by simp) _)).ah rfl).cell (j:=2) rfl,(((hB3.drew.alloc (by simp) _)).ah rfl).cell (j:=3) rfl,(((hB3.drew.alloc (by simp) _)).bw.cell (p:=⟨b,o+4,none⟩) hbl).trans y4,(((hB3.drew.alloc (by simp) _)).bw.cell (p:=⟨b,o+5,none⟩) hbl).trans y5⟩)
        clear hK K
        try simp only [Act.put,la,lz,ls]
        refine tr 9 fun K hK=>?_;go_simp;refine hK.out _ _ ?Sj (fun hHeld=>?_)
        case Sj=>(exact ⟨(((hB3.drew.alloc (by simp) _)).ah rfl).cell (j:=0) rfl,(((hB3.drew.alloc (by simp) _)).ah rfl).cell (j:=1) rfl,(((hB3.drew.alloc (by simp) _)).ah rfl).cell (j:=2) rfl,(((hB3.drew.alloc (by simp) _)).ah rfl).cell (j:=3) rfl,(((hB3.drew.alloc (by simp) _)).bw.cell (p:=⟨b,o+4,none⟩) hbl).trans y4,(((hB3.drew.alloc (by simp) _)).bw.cell (p:=⟨b,o+5,none⟩) hbl).trans y5⟩)
        clear hK K
        try simp only [Act.put,la,lz,ls]
        refine wpAnyH_done (by kernel_rfl) ?_ _;have hB4:=(hB3.drew).alloc (by simp) (.cells #[.int .i64 2000,.int .i64 1000] 151);have O4:=(hA3.drew).alloc (.cells #[.int .i64 2000,.int .i64 1000] 151);have xZ:=Held.newAt ((wr.alloc (.cells #[.int .i64 2000,.int .i64 0] 151)).drew) [.int .i64 2000,.int .i64 1000] 151 (g:=wr.heap.size+1) (by simp);go_wp2
        go_loopw [48] (fun v wr3=>∃ m:Nat,m≤4∧v= .int .i64 m∧aS w wr3 [(dF (some ⟨b,o,none⟩) c B d,87)]∧Held wr3 wr.heap.size [.int .i64 2000,.int .i64 0] 151∧Held wr3 (wr.heap.size+1) [.int .i64 2000,.int .i64 1000] 151) (fun v _=>4 - (intOf v).toNat)
        case atStart=>exact ⟨0,by omega,rfl,hB4,O4,xZ⟩
        case round=>
         clear hB4 O4 xZ hA3 hB3 hB2 zI ou zJ oz Aw oL Az oM x0 x1 x2 x3 x4 x5 x6 x7;obtain ⟨m,hm,rfl,eP,qp,qw⟩:=hrel;have V7:=qp.lt;have V9:=qw.lt;have uQ:=(qp).cell (j:=0) rfl;have jZ:=(qp).frozen 0;have ka1:=(qp).cell (j:=1) rfl;have ku:=(qp).frozen 1;have JZ:=(qw).cell (j:=0) rfl;have Ba:=(qw).frozen 0;have Tt:=(qw).cell (j:=1) rfl;have Bd:=(qw).frozen 1;have x0:=(eP.bw.cell (p:=⟨b,o,none⟩) hbl).trans y0;have x1:=(eP.bw.cell (p:=⟨b,o+1,none⟩) hbl).trans y1;have x2:=(eP.bw.cell (p:=⟨b,o+2,none⟩) hbl).trans y2;have x3:=(eP.bw.cell (p:=⟨b,o+3,none⟩) hbl).trans y3;have x4:=(eP.bw.cell (p:=⟨b,o+4,none⟩) hbl).trans y4;have x5:=(eP.bw.cell (p:=⟨b,o+5,none⟩) hbl).trans y5;have x6:=(eP.bw.cell (p:=⟨b,o+6,none⟩) hbl).trans y6;have x7:=(eP.bw.cell (p:=⟨b,o+7,none⟩) hbl).trans y7
         have qA:m=0∨m=1∨m=2∨m=3∨m=4:=by omega
         clear hm
         rcases qA with rfl | rfl | rfl | rfl | rfl
         · have n1:∀ W,(binOp .neq 151 (.agg #[.int .i64 0,.int .i64 0]) (.agg #[.int .i64 2000,.int .i64 0])).run Tryz.prog W= .ok (.bool true) W:=fun _=>by kernel_rfl
           have n2:∀ W,(binOp .neq 151 (.agg #[.int .i64 0,.int .i64 0]) (.agg #[.int .i64 2000,.int .i64 1000])).run Tryz.prog W= .ok (.bool true) W:=fun _=>by kernel_rfl
           go_wp2
           go_roundw
           case rel=>exact ⟨1,by omega,rfl,eP.alloc (by simp) _,qp.alloc _,qw.alloc _⟩
           case measure=>simp [intOf]
         · have n1:∀ W,(binOp .neq 151 (.agg #[.int .i64 2000,.int .i64 0]) (.agg #[.int .i64 2000,.int .i64 0])).run Tryz.prog W= .ok (.bool false) W:=fun _=>by kernel_rfl
           have n2:∀ W,(binOp .neq 151 (.agg #[.int .i64 2000,.int .i64 0]) (.agg #[.int .i64 2000,.int .i64 1000])).run Tryz.prog W= .ok (.bool true) W:=fun _=>by kernel_rfl
           go_wp2
           go_roundw
           case rel=>exact ⟨2,by omega,rfl,eP.alloc (by simp) _,qp.alloc _,qw.alloc _⟩
           case measure=>simp [intOf]
         · have n1:∀ W,(binOp .neq 151 (.agg #[.int .i64 2000,.int .i64 1000]) (.agg #[.int .i64 2000,.int .i64 0])).run Tryz.prog W= .ok (.bool true) W:=fun _=>by kernel_rfl
           have n2:∀ W,(binOp .neq 151 (.agg #[.int .i64 2000,.int .i64 1000]) (.agg #[.int .i64 2000,.int .i64 1000])).run Tryz.prog W= .ok (.bool false) W:=fun _=>by kernel_rfl
           go_wp2
           go_roundw
           case rel=>exact ⟨3,by omega,rfl,eP.alloc (by simp) _,qp.alloc _,qw.alloc _⟩
           case measure=>simp [intOf]
         · have n1:∀ W,(binOp .neq 151 (.agg #[.int .i64 0,.int .i64 1000]) (.agg #[.int .i64 2000,.int .i64 0])).run Tryz.prog W= .ok (.bool true) W:=fun _=>by kernel_rfl
           have n2:∀ W,(binOp .neq 151 (.agg #[.int .i64 0,.int .i64 1000]) (.agg #[.int .i64 2000,.int .i64 1000])).run Tryz.prog W= .ok (.bool true) W:=fun _=>by kernel_rfl
           go_wp2
           go_roundw
           case rel=>exact ⟨4,by omega,rfl,eP.alloc (by simp) _,qp.alloc _,qw.alloc _⟩
           case measure=>simp [intOf]
         · go_wp2
           go_roundw
           case rel=>exact ⟨2,by omega,rfl,eP⟩
           case measure=>simp [intOf]
      · have hA3:=Held.new wr [.int .i64 2000,.int .i64 1000] 151
        have hB3:=hB2.alloc (by simp) (.cells #[.int .i64 2000,.int .i64 1000] 151)
        have hwr:IntKind.i64.wrap 3=3:=by decide
        have hmr:(3:Int).tmod 4=3:=by decide
        go_upto_region 13 with (fail)
        refine wp_region_held_drew (S:=(fun w':World=>w'.cell? ⟨w.heap.size,0,none⟩=some (.slice (some ⟨b,o,none⟩) 4 c)∧w'.cell? ⟨w.heap.size,1,none⟩=some (.int .i64 30)∧w'.cell? ⟨w.heap.size,2,none⟩=some (.slice none 0 0)∧w'.cell? ⟨w.heap.size,3,none⟩=some (.slice B 1 d)∧w'.cell? ⟨b,o+6,none⟩=some (.int .i64 0)∧w'.cell? ⟨b,o+7,none⟩=some (.int .i64 1000))) (by kernel_rfl) ?rF (fun hHeld=>?_)
        case rF=>exact ⟨((hB3.drew).ah rfl).cell (j:=0) rfl,((hB3.drew).ah rfl).cell (j:=1) rfl,((hB3.drew).ah rfl).cell (j:=2) rfl,((hB3.drew).ah rfl).cell (j:=3) rfl,((hB3.drew).bw.cell (p:=⟨b,o+6,none⟩) hbl).trans y6,((hB3.drew).bw.cell (p:=⟨b,o+7,none⟩) hbl).trans y7⟩
        refine tk 0 ?_;refine tk 1 ?_;refine tk 2 ?_;refine tk 3 ?_;refine tk 4 ?_;refine tk 5 ?_;refine tk 6 ?_;refine tk 7 ?_;refine tr 8 fun K hK=>?_;go_simp;refine hK.out _ _ ?ZP (fun hHeld=>?_)
        case ZP=>(exact ⟨(((hB3.drew.alloc (by simp) _)).ah rfl).cell (j:=0) rfl,(((hB3.drew.alloc (by simp) _)).ah rfl).cell (j:=1) rfl,(((hB3.drew.alloc (by simp) _)).ah rfl).cell (j:=2) rfl,(((hB3.drew.alloc (by simp) _)).ah rfl).cell (j:=3) rfl,(((hB3.drew.alloc (by simp) _)).bw.cell (p:=⟨b,o+6,none⟩) hbl).trans y6,(((hB3.drew.alloc (by simp) _)).bw.cell (p:=⟨b,o+7,none⟩) hbl).trans y7⟩)
        clear hK K
        try simp only [Act.put,la,lz,ls]
        refine tr 9 fun K hK=>?_;go_simp;refine hK.out _ _ ?ZQ (fun hHeld=>?_)
        case ZQ=>(exact ⟨(((hB3.drew.alloc (by simp) _)).ah rfl).cell (j:=0) rfl,(((hB3.drew.alloc (by simp) _)).ah rfl).cell (j:=1) rfl,(((hB3.drew.alloc (by simp) _)).ah rfl).cell (j:=2) rfl,(((hB3.drew.alloc (by simp) _)).ah rfl).cell (j:=3) rfl,(((hB3.drew.alloc (by simp) _)).bw.cell (p:=⟨b,o+6,none⟩) hbl).trans y6,(((hB3.drew.alloc (by simp) _)).bw.cell (p:=⟨b,o+7,none⟩) hbl).trans y7⟩)
        clear hK K
        try simp only [Act.put,la,lz,ls]
        refine wpAnyH_done (by kernel_rfl) ?_ _;have hB4:=(hB3.drew).alloc (by simp) (.cells #[.int .i64 0,.int .i64 1000] 151);have O4:=(hA3.drew).alloc (.cells #[.int .i64 0,.int .i64 1000] 151);have xZ:=Held.newAt ((wr.alloc (.cells #[.int .i64 2000,.int .i64 1000] 151)).drew) [.int .i64 0,.int .i64 1000] 151 (g:=wr.heap.size+1) (by simp);go_wp2
        go_loopw [48] (fun v wr3=>∃ m:Nat,m≤4∧v= .int .i64 m∧aS w wr3 [(dF (some ⟨b,o,none⟩) c B d,87)]∧Held wr3 wr.heap.size [.int .i64 2000,.int .i64 1000] 151∧Held wr3 (wr.heap.size+1) [.int .i64 0,.int .i64 1000] 151) (fun v _=>4 - (intOf v).toNat)
        case atStart=>exact ⟨0,by omega,rfl,hB4,O4,xZ⟩
        case round=>
         clear hB4 O4 xZ hA3 hB3 hB2 zI ou zJ oz Aw oL Az oM x0 x1 x2 x3 x4 x5 x6 x7;obtain ⟨m,hm,rfl,eP,qp,qw⟩:=hrel;have V7:=qp.lt;have V9:=qw.lt;have uQ:=(qp).cell (j:=0) rfl;have jZ:=(qp).frozen 0;have ka1:=(qp).cell (j:=1) rfl;have ku:=(qp).frozen 1;have JZ:=(qw).cell (j:=0) rfl;have Ba:=(qw).frozen 0;have Tt:=(qw).cell (j:=1) rfl;have Bd:=(qw).frozen 1;have x0:=(eP.bw.cell (p:=⟨b,o,none⟩) hbl).trans y0;have x1:=(eP.bw.cell (p:=⟨b,o+1,none⟩) hbl).trans y1;have x2:=(eP.bw.cell (p:=⟨b,o+2,none⟩) hbl).trans y2;have x3:=(eP.bw.cell (p:=⟨b,o+3,none⟩) hbl).trans y3;have x4:=(eP.bw.cell (p:=⟨b,o+4,none⟩) hbl).trans y4;have x5:=(eP.bw.cell (p:=⟨b,o+5,none⟩) hbl).trans y5;have x6:=(eP.bw.cell (p:=⟨b,o+6,none⟩) hbl).trans y6;have x7:=(eP.bw.cell (p:=⟨b,o+7,none⟩) hbl).trans y7
         have qA:m=0∨m=1∨m=2∨m=3∨m=4:=by omega
         clear hm
         rcases qA with rfl | rfl | rfl | rfl | rfl
         · have n1:∀ W,(binOp .neq 151 (.agg #[.int .i64 0,.int .i64 0]) (.agg #[.int .i64 2000,.int .i64 1000])).run Tryz.prog W= .ok (.bool true) W:=fun _=>by kernel_rfl
           have n2:∀ W,(binOp .neq 151 (.agg #[.int .i64 0,.int .i64 0]) (.agg #[.int .i64 0,.int .i64 1000])).run Tryz.prog W= .ok (.bool true) W:=fun _=>by kernel_rfl
           go_wp2
           go_roundw
           case rel=>exact ⟨1,by omega,rfl,eP.alloc (by simp) _,qp.alloc _,qw.alloc _⟩
           case measure=>simp [intOf]
         · have n1:∀ W,(binOp .neq 151 (.agg #[.int .i64 2000,.int .i64 0]) (.agg #[.int .i64 2000,.int .i64 1000])).run Tryz.prog W= .ok (.bool true) W:=fun _=>by kernel_rfl
           have n2:∀ W,(binOp .neq 151 (.agg #[.int .i64 2000,.int .i64 0]) (.agg #[.int .i64 0,.int .i64 1000])).run Tryz.prog W= .ok (.bool true) W:=fun _=>by kernel_rfl
           go_wp2
           go_roundw
           case rel=>exact ⟨2,by omega,rfl,eP.alloc (by simp) _,qp.alloc _,qw.alloc _⟩
           case measure=>simp [intOf]
         · have n1:∀ W,(binOp .neq 151 (.agg #[.int .i64 2000,.int .i64 1000]) (.agg #[.int .i64 2000,.int .i64 1000])).run Tryz.prog W= .ok (.bool false) W:=fun _=>by kernel_rfl
           have n2:∀ W,(binOp .neq 151 (.agg #[.int .i64 2000,.int .i64 1000]) (.agg #[.int .i64 0,.int .i64 1000])).run Tryz.prog W= .ok (.bool true) W:=fun _=>by kernel_rfl
           go_wp2
           go_roundw
           case rel=>exact ⟨3,by omega,rfl,eP.alloc (by simp) _,qp.alloc _,qw.alloc _⟩
           case measure=>simp [intOf]
         · have n1:∀ W,(binOp .neq 151 (.agg #[.int .i64 0,.int .i64 1000]) (.agg #[.int .i64 2000,.int .i64 1000])).run Tryz.prog W= .ok (.bool true) W:=fun _=>by kernel_rfl
           have n2:∀ W,(binOp .neq 151 (.agg #[.int .i64 0,.int .i64 1000]) (.agg #[.int .i64 0,.int .i64 1000])).run Tryz.prog W= .ok (.bool false) W:=fun _=>by kernel_rfl
           go_wp2
           go_roundw
           case rel=>exact ⟨4,by omega,rfl,eP.alloc (by simp) _,qp.alloc _,qw.alloc _⟩
           case measure=>simp [intOf]
         · go_wp2
           go_roundw
           case rel=>exact ⟨3,by omega,rfl,eP⟩
           case measure=>simp [intOf]
      · have hA3:=Held.new wr [.int .i64 0,.int .i64 1000] 151
        have hB3:=hB2.alloc (by simp) (.cells #[.int .i64 0,.int .i64 1000] 151)
        have hwr:IntKind.i64.wrap 4=4:=by decide
        have hmr:(4:Int).tmod 4=0:=by decide
        go_upto_region 13 with (fail)
        refine wp_region_held_drew (S:=(fun w':World=>w'.cell? ⟨w.heap.size,0,none⟩=some (.slice (some ⟨b,o,none⟩) 4 c)∧w'.cell? ⟨w.heap.size,1,none⟩=some (.int .i64 30)∧w'.cell? ⟨w.heap.size,2,none⟩=some (.slice none 0 0)∧w'.cell? ⟨w.heap.size,3,none⟩=some (.slice B 1 d)∧w'.cell? ⟨b,o,none⟩=some (.int .i64 0)∧w'.cell? ⟨b,o+1,none⟩=some (.int .i64 0))) (by kernel_rfl) ?pV (fun hHeld=>?_)
        case pV=>exact ⟨((hB3.drew).ah rfl).cell (j:=0) rfl,((hB3.drew).ah rfl).cell (j:=1) rfl,((hB3.drew).ah rfl).cell (j:=2) rfl,((hB3.drew).ah rfl).cell (j:=3) rfl,((hB3.drew).bw.cell (p:=⟨b,o,none⟩) hbl).trans y0,((hB3.drew).bw.cell (p:=⟨b,o+1,none⟩) hbl).trans y1⟩
        refine tk 0 ?_;refine tk 1 ?_;refine tk 2 ?_;refine tk 3 ?_;refine tk 4 ?_;refine tk 5 ?_;refine tk 6 ?_;refine tk 7 ?_;refine tr 8 fun K hK=>?_;go_simp;refine hK.out _ _ ?Xb (fun hHeld=>?_)
        case Xb=>(exact ⟨(((hB3.drew.alloc (by simp) _)).ah rfl).cell (j:=0) rfl,(((hB3.drew.alloc (by simp) _)).ah rfl).cell (j:=1) rfl,(((hB3.drew.alloc (by simp) _)).ah rfl).cell (j:=2) rfl,(((hB3.drew.alloc (by simp) _)).ah rfl).cell (j:=3) rfl,(((hB3.drew.alloc (by simp) _)).bw.cell (p:=⟨b,o,none⟩) hbl).trans y0,(((hB3.drew.alloc (by simp) _)).bw.cell (p:=⟨b,o+1,none⟩) hbl).trans y1⟩)
        clear hK K
        try simp only [Act.put,la,lz,ls]
        refine tr 9 fun K hK=>?_;go_simp;refine hK.out _ _ ?Xc (fun hHeld=>?_)
        case Xc=>(exact ⟨(((hB3.drew.alloc (by simp) _)).ah rfl).cell (j:=0) rfl,(((hB3.drew.alloc (by simp) _)).ah rfl).cell (j:=1) rfl,(((hB3.drew.alloc (by simp) _)).ah rfl).cell (j:=2) rfl,(((hB3.drew.alloc (by simp) _)).ah rfl).cell (j:=3) rfl,(((hB3.drew.alloc (by simp) _)).bw.cell (p:=⟨b,o,none⟩) hbl).trans y0,(((hB3.drew.alloc (by simp) _)).bw.cell (p:=⟨b,o+1,none⟩) hbl).trans y1⟩)
        clear hK K
        try simp only [Act.put,la,lz,ls]
        refine wpAnyH_done (by kernel_rfl) ?_ _;have hB4:=(hB3.drew).alloc (by simp) (.cells #[.int .i64 0,.int .i64 0] 151);have O4:=(hA3.drew).alloc (.cells #[.int .i64 0,.int .i64 0] 151);have xZ:=Held.newAt ((wr.alloc (.cells #[.int .i64 0,.int .i64 1000] 151)).drew) [.int .i64 0,.int .i64 0] 151 (g:=wr.heap.size+1) (by simp);go_wp2
        go_loopw [48] (fun v wr3=>∃ m:Nat,m≤4∧v= .int .i64 m∧aS w wr3 [(dF (some ⟨b,o,none⟩) c B d,87)]∧Held wr3 wr.heap.size [.int .i64 0,.int .i64 1000] 151∧Held wr3 (wr.heap.size+1) [.int .i64 0,.int .i64 0] 151) (fun v _=>4 - (intOf v).toNat)
        case atStart=>exact ⟨0,by omega,rfl,hB4,O4,xZ⟩
        case round=>
         clear hB4 O4 xZ hA3 hB3 hB2 zI ou zJ oz Aw oL Az oM x0 x1 x2 x3 x4 x5 x6 x7;obtain ⟨m,hm,rfl,eP,qp,qw⟩:=hrel;have V7:=qp.lt;have V9:=qw.lt;have uQ:=(qp).cell (j:=0) rfl;have jZ:=(qp).frozen 0;have ka1:=(qp).cell (j:=1) rfl;have ku:=(qp).frozen 1;have JZ:=(qw).cell (j:=0) rfl;have Ba:=(qw).frozen 0;have Tt:=(qw).cell (j:=1) rfl;have Bd:=(qw).frozen 1;have x0:=(eP.bw.cell (p:=⟨b,o,none⟩) hbl).trans y0;have x1:=(eP.bw.cell (p:=⟨b,o+1,none⟩) hbl).trans y1;have x2:=(eP.bw.cell (p:=⟨b,o+2,none⟩) hbl).trans y2;have x3:=(eP.bw.cell (p:=⟨b,o+3,none⟩) hbl).trans y3;have x4:=(eP.bw.cell (p:=⟨b,o+4,none⟩) hbl).trans y4;have x5:=(eP.bw.cell (p:=⟨b,o+5,none⟩) hbl).trans y5;have x6:=(eP.bw.cell (p:=⟨b,o+6,none⟩) hbl).trans y6;have x7:=(eP.bw.cell (p:=⟨b,o+7,none⟩) hbl).trans y7
         have qA:m=0∨m=1∨m=2∨m=3∨m=4:=by omega
         clear hm
         rcases qA with rfl | rfl | rfl | rfl | rfl
         · have n1:∀ W,(binOp .neq 151 (.agg #[.int .i64 0,.int .i64 0]) (.agg #[.int .i64 0,.int .i64 1000])).run Tryz.prog W= .ok (.bool true) W:=fun _=>by kernel_rfl
           have n2:∀ W,(binOp .neq 151 (.agg #[.int .i64 0,.int .i64 0]) (.agg #[.int .i64 0,.int .i64 0])).run Tryz.prog W= .ok (.bool false) W:=fun _=>by kernel_rfl
           go_wp2
           go_roundw
           case rel=>exact ⟨1,by omega,rfl,eP.alloc (by simp) _,qp.alloc _,qw.alloc _⟩
           case measure=>simp [intOf]
         · have n1:∀ W,(binOp .neq 151 (.agg #[.int .i64 2000,.int .i64 0]) (.agg #[.int .i64 0,.int .i64 1000])).run Tryz.prog W= .ok (.bool true) W:=fun _=>by kernel_rfl
           have n2:∀ W,(binOp .neq 151 (.agg #[.int .i64 2000,.int .i64 0]) (.agg #[.int .i64 0,.int .i64 0])).run Tryz.prog W= .ok (.bool true) W:=fun _=>by kernel_rfl
           go_wp2
           go_roundw
           case rel=>exact ⟨2,by omega,rfl,eP.alloc (by simp) _,qp.alloc _,qw.alloc _⟩
           case measure=>simp [intOf]
         · have n1:∀ W,(binOp .neq 151 (.agg #[.int .i64 2000,.int .i64 1000]) (.agg #[.int .i64 0,.int .i64 1000])).run Tryz.prog W= .ok (.bool true) W:=fun _=>by kernel_rfl
           have n2:∀ W,(binOp .neq 151 (.agg #[.int .i64 2000,.int .i64 1000]) (.agg #[.int .i64 0,.int .i64 0])).run Tryz.prog W= .ok (.bool true) W:=fun _=>by kernel_rfl
           go_wp2
           go_roundw
           case rel=>exact ⟨3,by omega,rfl,eP.alloc (by simp) _,qp.alloc _,qw.alloc _⟩
           case measure=>simp [intOf]
         · have n1:∀ W,(binOp .neq 151 (.agg #[.int .i64 0,.int .i64 1000]) (.agg #[.int .i64 0,.int .i64 1000])).run Tryz.prog W= .ok (.bool false) W:=fun _=>by kernel_rfl
           have n2:∀ W,(binOp .neq 151 (.agg #[.int .i64 0,.int .i64 1000]) (.agg #[.int .i64 0,.int .i64 0])).run Tryz.prog W= .ok (.bool true) W:=fun _=>by kernel_rfl
           go_wp2
           go_roundw
           case rel=>exact ⟨4,by omega,rfl,eP.alloc (by simp) _,qp.alloc _,qw.alloc _⟩
           case measure=>simp [intOf]
         · go_wp2
           go_roundw
           case rel=>exact ⟨4,by omega,rfl,eP⟩
           case measure=>simp [intOf]
      · go_wp2
        go_ret;exact ⟨rfl,hB2.bw⟩
theorem OU (S:Nat→Prop) (A:Option Addr) (c:Nat) (w:World) (hL:fA w S A c corners):
 Calls Tryz.prog 108 #[.slice A 4 c,.func (.func 109) #[] #[]] w fun e w'=>e= .returned (.bool false)∧Below w.heap.size w w':=by
 have:=OI S A c corners 109 #[] _ w hL (KX w)
 rwa [show (corners.any fun p=>decide (10000<max p.aT p.aX) || decide (min p.aT p.aX< -10000))=false by decide] at this
theorem yQ (S:Nat→Prop) (A B:Option Addr) (c d:Nat) (w:World) (hg:Glob w) (hL:fA w S A c corners) (hS:Reads w S 3 B 1 d [.string gK,.string iy,.string kJ]):
 Calls Tryz.prog 52 #[vI A c B d] w fun e w'=>e= .returned (.int .i64 0)∧Below w.heap.size w w':=by
 go_enter Tryz.func52,Tryz.ntmps52
 go_upto_region 0 with (fail)
 go_cut [1] (fun v1 wx=>v1=ptr w.heap.size∧aS w wx [(dF A c B d,87)])
 case first=>
  go_wp2;go_meet;exact ⟨rfl,((aS.nil w).new (by simp) (dF A c B d) _)⟩
 case rest=>
  obtain ⟨rfl,hB⟩:=hcut;have hB0:=hB
  go_upto_region 1 with (fail)
  refine wp_region_held_drew (S:=(fun w':World=>w'.cell? ⟨w.heap.size,0,none⟩=some (.slice A 4 c)∧w'.cell? ⟨w.heap.size,1,none⟩=some (.int .i64 30)∧w'.cell? ⟨w.heap.size,2,none⟩=some (.slice none 0 0)∧w'.cell? ⟨w.heap.size,3,none⟩=some (.slice B 1 d))) (by kernel_rfl) ?MP (fun hHeld=>?_)
  case MP=>exact ⟨((hB0.drew).ah rfl).cell (j:=0) rfl,((hB0.drew).ah rfl).cell (j:=1) rfl,((hB0.drew).ah rfl).cell (j:=2) rfl,((hB0.drew).ah rfl).cell (j:=3) rfl⟩
  refine tk 0 ?_;refine tk 1 ?_;refine tk 2 ?_;refine tk 3 ?_;refine tk 5 ?_;refine tk 6 ?_;refine tk 7 ?_;refine tk 8 ?_;refine tk 10 ?_;refine tk 11 ?_;refine tr 4 fun K hK=>?_;go_simp
  (go_at_call 56;refine (jg _ _).mono ?_;rintro e nH ⟨rfl,jY⟩;rw [← jY];clear jY)
  refine hK.out _ _ ?Xd (fun hHeld=>?_)
  case Xd=>(exact ⟨((hB0.drew).ah rfl).cell (j:=0) rfl,((hB0.drew).ah rfl).cell (j:=1) rfl,((hB0.drew).ah rfl).cell (j:=2) rfl,((hB0.drew).ah rfl).cell (j:=3) rfl⟩)
  clear hK K
  try simp only [Act.put,la,lz,ls]
  refine tr 9 fun K hK=>?_;go_simp
  (go_at_call 56;refine (jg _ _).mono ?_;rintro e nH ⟨rfl,jY⟩;rw [← jY];clear jY)
  refine hK.out _ _ ?Xe (fun hHeld=>?_)
  case Xe=>(exact ⟨((hB0.drew).ah rfl).cell (j:=0) rfl,((hB0.drew).ah rfl).cell (j:=1) rfl,((hB0.drew).ah rfl).cell (j:=2) rfl,((hB0.drew).ah rfl).cell (j:=3) rfl⟩)
  clear hK K
  try simp only [Act.put,la,lz,ls]
  refine tr 12 fun K hK=>?_;go_simp
  (go_at_call 108;refine (OU S A c _ (Reads.below hL hB0.drew.bw)).mono ?_;rintro e w1 ⟨rfl,hb1⟩)
  have hB1:=hB0.drew.call (by simp) hb1;refine hK.out _ _ ?U1 (fun hHeld=>?_)
  case U1=>(exact ⟨((hB1).ah rfl).cell (j:=0) rfl,((hB1).ah rfl).cell (j:=1) rfl,((hB1).ah rfl).cell (j:=2) rfl,((hB1).ah rfl).cell (j:=3) rfl⟩)
  clear hK K
  try simp only [Act.put,la,lz,ls]
  refine tr 13 fun K hK=>?_;go_simp
  (go_at_call 56;refine (jg _ _).mono ?_;rintro e nH ⟨rfl,jY⟩;rw [← jY];clear jY)
  have hB2:=hB1.alloc (by simp) (.cells #[.int .i64 0,.int .i64 0,.int .i64 0] 39);refine hK.out _ _ ?U2 (fun hHeld=>?_)
  case U2=>(exact ⟨((hB1).ah rfl).cell (j:=0) rfl,((hB1).ah rfl).cell (j:=1) rfl,((hB1).ah rfl).cell (j:=2) rfl,((hB1).ah rfl).cell (j:=3) rfl⟩)
  clear hK K
  try simp only [Act.put,la,lz,ls]
  refine tr 14 fun K hK=>?_;go_simp;refine hK.out _ _ ?U3 (fun hHeld=>?_)
  case U3=>(exact ⟨((hB2).ah rfl).cell (j:=0) rfl,((hB2).ah rfl).cell (j:=1) rfl,((hB2).ah rfl).cell (j:=2) rfl,((hB2).ah rfl).cell (j:=3) rfl⟩)
  clear hK K
  try simp only [Act.put,la,lz,ls]
  refine tr 15 fun K hK=>?_;go_simp
  (go_at_call 55;refine (Eo _ _ rfl).mono ?_;rintro e w5 ⟨rfl,hw5⟩;rw [hw5];clear hw5)
  refine hK.out _ _ ?U4 (fun hHeld=>?_)
  case U4=>(exact ⟨((hB2).ah rfl).cell (j:=0) rfl,((hB2).ah rfl).cell (j:=1) rfl,((hB2).ah rfl).cell (j:=2) rfl,((hB2).ah rfl).cell (j:=3) rfl⟩)
  clear hK K
  try simp only [Act.put,la,lz,ls]
  refine tk 16 ?_;refine wpAnyH_done (by kernel_rfl) ?_ _
  go_upto_region 4 with (fail)
  refine wp_region_held_drew (S:=(fun w':World=>w'.cell? ⟨w.heap.size,0,none⟩=some (.slice A 4 c)∧w'.cell? ⟨w.heap.size,1,none⟩=some (.int .i64 30)∧w'.cell? ⟨w.heap.size,2,none⟩=some (.slice none 0 0)∧w'.cell? ⟨w.heap.size,3,none⟩=some (.slice B 1 d))) (by kernel_rfl) ?pV (fun hHeld=>?_)
  case pV=>exact ⟨((hB2.drew).ah rfl).cell (j:=0) rfl,((hB2.drew).ah rfl).cell (j:=1) rfl,((hB2.drew).ah rfl).cell (j:=2) rfl,((hB2.drew).ah rfl).cell (j:=3) rfl⟩
  refine tk 0 ?_;refine tk 4 ?_;refine tk 5 ?_;refine tk 6 ?_;refine tk 13 ?_;refine tk 14 ?_;refine tk 15 ?_;refine tk 16 ?_;refine tr 1 fun K hK=>?_;go_simp
  (go_at_call 110;refine (Ig S A B c d _ (Reads.below hL hB2.drew.bw)).mono ?_;rintro e w3 ⟨rfl,hb3⟩)
  have hB3:=hB2.drew.call (by simp) hb3;refine hK.out _ _ ?W9 (fun hHeld=>?_)
  case W9=>(exact ⟨((hB3).ah rfl).cell (j:=0) rfl,((hB3).ah rfl).cell (j:=1) rfl,((hB3).ah rfl).cell (j:=2) rfl,((hB3).ah rfl).cell (j:=3) rfl⟩)
  clear hK K
  try simp only [Act.put,la,lz,ls]
  refine tk 2 ?_;refine tr 3 fun K hK=>?_;go_simp
  (go_at_call 56;refine (jg _ _).mono ?_;rintro e nH ⟨rfl,jY⟩;rw [← jY];clear jY)
  refine hK.out _ _ ?Xa (fun hHeld=>?_)
  case Xa=>(exact ⟨((hB3).ah rfl).cell (j:=0) rfl,((hB3).ah rfl).cell (j:=1) rfl,((hB3).ah rfl).cell (j:=2) rfl,((hB3).ah rfl).cell (j:=3) rfl⟩)
  clear hK K
  try simp only [Act.put,la,lz,ls]
  refine tk 7 ?_;refine tk 8 ?_;refine tk 9 ?_;refine tk 10 ?_;refine tk 11 ?_;refine tr 12 fun K hK=>?_;go_simp
  (go_at_call 56;refine (jg _ _).mono ?_;rintro e nH ⟨rfl,jY⟩;rw [← jY];clear jY)
  refine hK.out _ _ ?UU (fun hHeld=>?_)
  case UU=>(exact ⟨((hB3).ah rfl).cell (j:=0) rfl,((hB3).ah rfl).cell (j:=1) rfl,((hB3).ah rfl).cell (j:=2) rfl,((hB3).ah rfl).cell (j:=3) rfl⟩)
  clear hK K
  try simp only [Act.put,la,lz,ls]
  refine tr 17 fun K hK=>?_;go_simp
  (go_at_call 111;refine (xY _ _).mono ?_;rintro e w6 ⟨rfl,hw6⟩;rw [hw6];clear hw6)
  have hB4:=hB3.alloc (by simp) (.cells #[.int .i64 0,.int .i64 0,.int .i64 0] 39);refine hK.out _ _ ?UW (fun hHeld=>?_)
  case UW=>(exact ⟨((hB3).ah rfl).cell (j:=0) rfl,((hB3).ah rfl).cell (j:=1) rfl,((hB3).ah rfl).cell (j:=2) rfl,((hB3).ah rfl).cell (j:=3) rfl⟩)
  clear hK K
  try simp only [Act.put,la,lz,ls]
  refine tr 18 fun K hK=>?_;go_simp;refine hK.out _ _ ?UY (fun hHeld=>?_)
  case UY=>(exact ⟨((hB4).ah rfl).cell (j:=0) rfl,((hB4).ah rfl).cell (j:=1) rfl,((hB4).ah rfl).cell (j:=2) rfl,((hB4).ah rfl).cell (j:=3) rfl⟩)
  clear hK K
  try simp only [Act.put,la,lz,ls]
  refine tr 19 fun K hK=>?_;go_simp
  (go_at_call 55;refine (Eo _ _ rfl).mono ?_;rintro e w5 ⟨rfl,hw5⟩;rw [hw5];clear hw5)
  refine hK.out _ _ ?UZ (fun hHeld=>?_)
  case UZ=>(exact ⟨((hB4).ah rfl).cell (j:=0) rfl,((hB4).ah rfl).cell (j:=1) rfl,((hB4).ah rfl).cell (j:=2) rfl,((hB4).ah rfl).cell (j:=3) rfl⟩)
  clear hK K
  try simp only [Act.put,la,lz,ls]
  refine tk 20 ?_;refine wpAnyH_done (by kernel_rfl) ?_ _;have hg4:=hg.below hB4.bw;have hL4:=Reads.below hL hB4.bw;have hS4:=hS.below hB4.bw;have zI:=(hB4.ah rfl).cell (j:=0) rfl;have ou:=(hB4.ah rfl).frozen 0;have zJ:=(hB4.ah rfl).cell (j:=1) rfl;have oz:=(hB4.ah rfl).frozen 1;have Aw:=(hB4.ah rfl).cell (j:=2) rfl;have oL:=(hB4.ah rfl).frozen 2;have Az:=(hB4.ah rfl).cell (j:=3) rfl;have oM:=(hB4.ah rfl).frozen 3
  go_wp2_with (go_at_call 113;refine (Dp S A B c d _ hg4 hL4 hS4).mono ?_;rintro e w7 ⟨rfl,hb7⟩;have V8:=hB4.call (by simp) hb7)
  go_ret;exact ⟨rfl,V8.bw⟩
abbrev ZV:ByteArray:=⟨#[116,114,105,97,110,103,108,101]⟩
def ZU (i j:Nat):Nm.Vec:=(Nm.div ⟨7*i*30,1⟩ ⟨4,1⟩,⟨(2*j - (i+1)+1)*30,1⟩)
def XR (i j:Nat):Nm.Vec:=Nm.Kv (⟨1500,1⟩,⟨500,1⟩) (ZU i j)
def ZT (i j:Nat):Bool:=Nm.ok ⟨7*i*30,1⟩ && Nm.ok (Nm.inv ⟨4,1⟩) && Nm.NG (ZU i j) && Nm.NG (XR i j) && UL (XR i j) && decide (0≤zU (XR i j) 4)
theorem SC:∀ i,i<5→∀ j,j<i+1→ZT i j=true:=by decide+kernel
theorem newAt {w W:World} (_:Below w.heap.size w W) (us:List Value) (t:TypeId):Held (W.alloc (.cells us.toArray t)) W.heap.size us t:=Held.new W us t
theorem nS (x:Int) (h: -9223372036854775808≤x) (h':x<9223372036854775808):IntKind.i64.wrap x=x:=by rw [IntKind.wrap_i64];omega
def tri:Nat→Nat
 | 0=>0
 | k+1=>tri k+(k+1)
structure VZ (w:World) (A B:Option Addr) (c d g gk n:Nat) (v:Value) (xs:List Value) (W:World):Prop where
 b:aS w W [(dF A c B d,87),([.int .i64 5,.int .i64 0],51)]
 vc:Held W g (aK (⟨1500,1⟩,⟨500,1⟩)) 130
 kd:Held W gk [.func (.func 118) #[] #[],.func (.func 119) #[] #[]] 136
 own:W.ownsRow (gk+2) 147 2 v n xs
 sz:gk+2≤W.heap.size
theorem GR:(Tryz.prog.info? 147).map (fun i=>(i.zero,i.size,i.bytes))=some (some (.agg #[.string ⟨#[]⟩,.string ⟨#[]⟩]),2,32):=by kernel_rfl
theorem Xy (k:Nat) (h:k<5):tri k≤10:=by
 obtain rfl | rfl | rfl | rfl | rfl:k=0∨k=1∨k=2∨k=3∨k=4:=by omega
 all_goals decide
theorem VZ.below {w W W':World} {A B:Option Addr} {c d g gk n:Nat} {v:Value} {xs:List Value} (h:VZ w A B c d g gk n v xs W) (hb:Below W.heap.size W W'):VZ w A B c d g gk n v xs W':=
 ⟨h.b.call (by simp) hb,h.vc.below hb,h.kd.below hb,vk h.own hb,Nat.le_trans h.sz hb.size⟩
theorem Ny (S:Nat→Prop) (A B:Option Addr) (c d:Nat) (w:World) (hg:Glob w) (hL:fA w S A c corners) (hS:Reads w S 3 B 1 d [.string gK,.string iy,.string kJ]):
 Calls Tryz.prog 26 #[vI A c B d,.string gK,.string ZV,.agg #[.int .i64 5,.int .i64 0]] w fun e w'=>(∃ P q,e= .returned (.tuple #[.slice P 15 q,.int .i64 0]))∧Below w.heap.size w w':=by
 have eg2:∀ args w,(callFunc 119 args).run Tryz.prog w= .ok (.enter 119 args) w:=enters_of Tryz.func119 (by kernel_rfl) rfl;have eg1:∀ args w,(callFunc 118 args).run Tryz.prog w= .ok (.enter 118 args) w:=enters_of Tryz.func118 (by kernel_rfl) rfl
 go_enter Tryz.func26,Tryz.ntmps26
 go_upto_region 0 with (fail)
 go_cut [4,7] (fun v4 v7 wx=>v4=ptr w.heap.size∧v7=ptr (w.heap.size+1)∧aS w wx [(dF A c B d,87),([.int .i64 5,.int .i64 0],51)])
 case first=>
  go_wp2;go_meet;exact ⟨rfl,rfl,(((aS.nil w).new (by simp) (dF A c B d) _).new (by simp) ([.int .i64 5,.int .i64 0]) _)⟩
 case rest=>
  obtain ⟨rfl,rfl,hB⟩:=hcut
  go_upto_region 4 with (first | (go_at_call 52;refine (yQ S A B c d _ (hg.below hB.bw) (Reads.below hL hB.bw) (hS.below hB.bw)).mono ?_;rintro e w1 ⟨rfl,hb1⟩;have hB1:=hB.call (by simp) hb1) | (refine aC 87 (.tmp 4) rfl ?_;refine au (hB.ah rfl) Tryz.underlying87 rfl qc rfl (.tmp 4) rfl rfl ?_))
  go_cut [11,12] (fun v11 v12 wx=>∃ g,v11=ptr g∧v12= .bool true∧aS w wx [(dF A c B d,87),([.int .i64 5,.int .i64 0],51)]∧w.heap.size+2≤g∧Held wx g (aK (⟨1500,1⟩,⟨500,1⟩)) 130)
  case first=>
   go_wp2_with (first | (go_at_call 53;refine (SI S A B c d _ (hg.below hB1.bw) (hS.below hB1.bw)).mono ?_;rintro e w2 ⟨rfl,hb2⟩;have hB2:=hB1.call (by simp) hb2;have hX:=Held.new w2 (aK (⟨0,0⟩,⟨0,0⟩)) 130) | (refine aC 87 (.tmp 4) rfl ?_;refine au (hB1.ah rfl) Tryz.underlying87 rfl qc rfl (.tmp 4) rfl rfl ?_) | (refine aQ 130 (.tmp 11) (.tmp 37) rfl ?_;refine aI (hX) (aK (⟨1500,1⟩,⟨500,1⟩)) rfl dU (iC _) rfl (.tmp 11) (.tmp 37) rfl rfl rfl ?_))
   go_meet;have hs2:=hB2.size (by simp)
   simp only [List.length_cons,List.length_nil] at hs2
   exact ⟨w2.heap.size,rfl,rfl,(hB2.alloc (by simp) _).Lc (by simpa using hs2) _ _,by simpa using hs2,hX.whole _ rfl⟩
  case rest=>
   obtain ⟨g,rfl,rfl,hB3,hg1,hV⟩:=hcut
   rename World=>W3
   have hlk:=Bg (heap_alloc_new W3 (.map (G9 2) 2));have hK0:=Held.newAt (W3.alloc (.map (G9 2) 2)) [.func (.func 118) #[] #[],.func (.func 119) #[] #[]] 136 (g:=W3.heap.size+1) (by simp);have hB4:=(hB3.alloc (by simp) (.map (G9 2) 2)).alloc (by simp) (.cells ([.func (.func 118) #[] #[],.func (.func 119) #[] #[]]).toArray 136);have tJ:=(hV.alloc (.map (G9 2) 2)).alloc (.cells ([.func (.func 118) #[] #[],.func (.func 119) #[] #[]]).toArray 136)
   go_upto_region 9 with (first | (go_at_call 54;refine (JB _).mono ?_;rintro e w4 ⟨rfl,hw4⟩;rw [← hw4];clear hw4) | (go_at_call 56;refine (jg _ _).mono ?_;rintro e nH ⟨rfl,jY⟩;rw [← jY];clear jY) | (go_at_call 55;refine (En _ _ (by simp)).mono ?_;rintro e w5 ⟨rfl,hw5⟩;rw [hw5];clear hw5))
   have eP:=hB4.alloc (by simp) (.cells #[.int .i64 0,.int .i64 0] 39);have Ug:=tJ.alloc (.cells #[.int .i64 0,.int .i64 0] 39);have hK5:=hK0.alloc (.cells #[.int .i64 0,.int .i64 0] 39);have ks0:=(eP.get 1 rfl).cell (j:=0) rfl;have aeQ:=(eP.get 1 rfl).frozen 0;have ks1:=(eP.get 1 rfl).cell (j:=1) rfl;have aeX:=(eP.get 1 rfl).frozen 1;have kk0:=(hK5).cell (j:=0) rfl;have UD:=(hK5).frozen 0;have kk1:=(hK5).cell (j:=1) rfl;have UE:=(hK5).frozen 1;have hs3:=hB3.size (by simp)
   simp only [List.length_cons,List.length_nil] at hs3
   obtain ⟨gk,hgk⟩:∃ gk,W3.heap.size+1=gk:=⟨_,rfl⟩;rw [hgk] at hK5 kk0 UD kk1 UE
   have amV:w.heap.size+2≤gk:=by omega
   have hgl:=hV.lt
   have hD:((W3.alloc (.map (G9 2) 2)).alloc (.cells ([.func (.func 118) #[] #[],.func (.func 119) #[] #[]]).toArray 136)).heap.size+1=gk+2:=by simp;omega
   simp only [hgk]
   clear hlk hK0 hB4 tJ hV hB3
   go_quiet (fail)
   have hI0:VZ w A B c d g gk 0 (.slice none 0 0) [] ((((W3.alloc (.map (G9 2) 2)).alloc (.cells ([.func (.func 118) #[] #[],.func (.func 119) #[] #[]]).toArray 136)).alloc (.cells #[.int .i64 0,.int .i64 0] 39)).drewN nq):=⟨eP.drewN nq,Ug.drewN nq,hK5.drewN nq,World.ownsRow_nil _ _ _ _,by show gk+2≤(Array.push _ _).size;rw [Array.size_push];omega⟩;clear eP Ug hK5 hD hs3
   go_wp2_with (go_at_fn 119;refine (fits_any _ _).mono ?_;rintro e w5 ⟨rfl,hw5⟩;rw [hw5];clear hw5)
   go_loopw [18,19,20,82] (fun v18 v19 v20 i wr=>∃ (k:Nat) (P:Option Addr) (q:Nat) (xs:List Value),k≤5∧i= .int .i64 k∧v18= .slice P (tri k) q∧v19= .bool false∧v20= .int .i64 0∧VZ w A B c d g gk (tri k) (.slice P (tri k) q) xs wr) (fun _ _ _ i _=>5 - (intOf i).toNat)
   case atStart=>exact ⟨0,none,0,[],by omega,rfl,rfl,rfl,rfl,hI0⟩
   case round=>
    clear hI0 ks0 aeQ ks1 aeX kk0 UD kk1 UE;obtain ⟨k,P,q,xs,hk,rfl,rfl,rfl,rfl,hI⟩:=hrel
    by_cases hlt:k<5
    · have Po:decide ((k:Int)<5)=true:=decide_eq_true (by omega)
      have kk0:=(hI.kd).cell (j:=0) rfl;have UD:=(hI.kd).frozen 0;have kk1:=(hI.kd).cell (j:=1) rfl;have UE:=(hI.kd).frozen 1
      go_wp2_with (go_at_fn 118;refine (Va 5 k _ (by omega) (by omega)).mono ?_;rintro e w5 ⟨rfl,hw5⟩;rw [hw5];clear hw5)
      go_loopw [18,19,20,91] (fun v18 v19 v20 i wr2=>∃ (j:Nat) (P:Option Addr) (q:Nat) (xs:List Value),j≤k+1∧i= .int .i64 j∧v18= .slice P (tri k+j) q∧v19= .bool false∧v20= .int .i64 0∧VZ w A B c d g gk (tri k+j) (.slice P (tri k+j) q) xs wr2) (fun _ _ _ i _=>(k+1) - (intOf i).toNat)
      case atStart=>exact ⟨0,P,q,xs,by omega,rfl,rfl,rfl,rfl,hI⟩
      case round=>
       clear hI kk0 UD kk1 UE;obtain ⟨j,P,q,xs,hj,rfl,rfl,rfl,rfl,hI⟩:=hrel
       by_cases hjl:j<k+1
       · have hok:=SC k hlt j hjl
         unfold ZT at hok
         simp only [Bool.and_eq_true] at hok
         obtain ⟨⟨⟨⟨⟨o1,o2⟩,o3⟩,o4⟩,o5⟩,o6⟩:=hok;have HD:=fun W=>OV ⟨7*(k:Int)*30,1⟩ ⟨4,1⟩ W o1 (by decide) (by decide) o2;have rZ:=fun W=>NH (⟨1500,1⟩,⟨500,1⟩) (ZU k j) W (by decide) o3;have NK:=fun W=>He (ZU k j) W;have Tj:=fun W h=>Ku S A B c d (XR k j) W h o5;have Ar:=fun W h=>Jv (XR k j) W h o4
         unfold XR at Tj Ar o6
         unfold ZU at Tj Ar o6 rZ NK
         obtain ⟨a1,ha1⟩:∃ a,7*(k:Int)*30=a:=⟨_,rfl⟩;obtain ⟨b1,hb1'⟩:∃ b,(2*(j:Int) - ((k:Int)+1)+1)*30=b:=⟨_,rfl⟩
         have hwa:IntKind.i64.wrap (IntKind.i64.wrap (7*(k:Int))*30)=a1:=by rw [nS (7*(k:Int)) (by omega) (by omega),nS _ (by omega) (by omega),ha1]
         have hwb:IntKind.i64.wrap (IntKind.i64.wrap (IntKind.i64.wrap (IntKind.i64.wrap (2*(j:Int)) - ((k:Int)+1))+1)*30)=b1:=by rw [nS (2*(j:Int)) (by omega) (by omega),nS (2*(j:Int) - ((k:Int)+1)) (by omega) (by omega),nS (2*(j:Int) - ((k:Int)+1)+1) (by omega) (by omega),nS _ (by omega) (by omega),hb1']
         simp only [ha1,hb1'] at HD rZ NK Tj Ar o6
         obtain ⟨r,hr⟩:∃ r,Nm.div ⟨a1,1⟩ ⟨4,1⟩=r:=⟨_,rfl⟩
         simp only [hr] at HD rZ NK Tj Ar o6
         obtain ⟨p,hp⟩:∃ p,Nm.Kv (⟨1500,1⟩,⟨500,1⟩) (r,⟨b1,1⟩)=p:=⟨_,rfl⟩
         simp only [hp] at rZ Tj Ar o6
         obtain ⟨m,hm⟩:∃ m,zU p 4=m:=⟨_,rfl⟩
         simp only [hm] at Tj o6
         have hm0:decide (m<0)=false:=decide_eq_false (by have:=of_decide_eq_true o6;omega);have hjb:decide ((j:Int)<(k:Int)+1)=true:=decide_eq_true (by omega);clear hr hp hm o1 o2 o3 o4 o5 o6;have HD:=hide HD;have rZ:=hide rZ;have NK:=hide NK;have Tj:=hide Tj;have Ar:=hide Ar;have hT:=hI.b;have nO:=hI.vc
         go_upto_region 21 with (fail)
         go_cut [24] from 94 to 116 (fun v24 wx=>∃ G,v24=ptr G∧wr.heap.size≤G∧Held wx G (aK p) 130∧Below wr.heap.size wr wx)
         case first=>
          have hcur:Below wr.heap.size wr wr.drew:=(Below.refl _ _).drew;refine wp_region_held_drew (S:=(fun w':World=>w'.cell? ⟨w.heap.size,1,none⟩=some (.int .i64 30)∧Held w' g (aK (⟨1500,1⟩,⟨500,1⟩)) 130)) (by kernel_rfl) ?pV (fun hHeld=>?_)
          case pV=>exact ⟨(hT.drew.ah rfl).cell (j:=1) rfl,nO.drew⟩
          refine wpAnyH_take (i:=0) (oi:=_) (v:=_) (ga rfl) (by kernel_rfl) (by kernel_rfl) (by kernel_rfl) (fun _ _ _ h=>h) (yieldsIf_load_mid (by rfl) _ _ (by rfl) _ _ (by rfl) _ _ (fun _ h=>(h.2:Held _ _ _ _).range) Tryz.underlying130 rfl (by kernel_rfl)) (by assumption) ?_
          try simp only [Act.put,la,lz,ls]
          refine tk 1 ?_;refine tk 2 ?_;refine tk 3 ?_;refine tk 4 ?_;refine tk 5 ?_;refine tk 9 ?_;refine tk 10 ?_;refine tk 11 ?_;refine tk 12 ?_;refine tk 13 ?_;refine tk 14 ?_;refine tk 15 ?_;refine tk 16 ?_;refine tk 19 ?_;refine wpAnyH_ready (rs:=[6,22]) (by kernel_rfl) (by simp) ?_;refine AllReadyH.cons (o:=_) (ga rfl) (fun K hK=>?_) (AllReadyH.cons (o:=_) (ga rfl) (fun K hK=>?_) AllReadyH.nil)
          · go_simp
            (go_at_call 58;refine (f_any a1 _).mono ?_;rintro e w10 ⟨rfl,qx⟩)
            first
            | (have aG:=bD.trans (qx.mono bD.size);have dO:=hp2.below qx;clear bD hp2 hcur;have hcur:=aG;have hpp:=dO;clear aG dO)
            | (have aG:=hcur.trans (qx.mono hcur.size);have dO:=hpp.below qx;clear hcur hpp;have hcur:=aG;have hpp:=dO;clear aG dO)
            | (have aG:=hcur.trans (qx.mono hcur.size);clear hcur;have hcur:=aG;clear aG)
            refine hK.out _ _ ?ML (fun hHeld=>?_)
            case ML=>(exact ⟨((hT.call (by simp) hcur).ah rfl).cell (j:=1) rfl,nO.below hcur⟩)
            clear hK K
            try simp only [Act.put,la,lz,ls]
            refine wpAnyH_ready (rs:=[7,22]) (by kernel_rfl) (by simp) ?_;refine AllReadyH.cons (o:=_) (ga rfl) (fun K hK=>?_) (AllReadyH.cons (o:=_) (ga rfl) (fun K hK=>?_) AllReadyH.nil)
            · go_simp
              (go_at_call 58;refine (f_any 4 _).mono ?_;rintro e Tz ⟨rfl,mW⟩)
              first
              | (have aG:=bD.trans (mW.mono bD.size);have dO:=hp2.below mW;clear bD hp2 hcur;have hcur:=aG;have hpp:=dO;clear aG dO)
              | (have aG:=hcur.trans (mW.mono hcur.size);have dO:=hpp.below mW;clear hcur hpp;have hcur:=aG;have hpp:=dO;clear aG dO)
              | (have aG:=hcur.trans (mW.mono hcur.size);clear hcur;have hcur:=aG;clear aG)
              refine hK.out _ _ ?MN (fun hHeld=>?_)
              case MN=>(exact ⟨((hT.call (by simp) hcur).ah rfl).cell (j:=1) rfl,nO.below hcur⟩)
              clear hK K
              try simp only [Act.put,la,lz,ls]
              refine wpAnyH_ready (rs:=[8,22]) (by kernel_rfl) (by simp) ?_;refine AllReadyH.cons (o:=_) (ga rfl) (fun K hK=>?_) (AllReadyH.cons (o:=_) (ga rfl) (fun K hK=>?_) AllReadyH.nil)
              · go_simp
                (go_at_call 59;refine (HD.out _).mono ?_;rintro e w12 ⟨rfl,mO⟩)
                first
                | (have aG:=bD.trans (mO.mono bD.size);have dO:=hp2.below mO;clear bD hp2 hcur;have hcur:=aG;have hpp:=dO;clear aG dO)
                | (have aG:=hcur.trans (mO.mono hcur.size);have dO:=hpp.below mO;clear hcur hpp;have hcur:=aG;have hpp:=dO;clear aG dO)
                | (have aG:=hcur.trans (mO.mono hcur.size);clear hcur;have hcur:=aG;clear aG)
                refine hK.out _ _ ?MO (fun hHeld=>?_)
                case MO=>(exact ⟨((hT.call (by simp) hcur).ah rfl).cell (j:=1) rfl,nO.below hcur⟩)
                clear hK K
                try simp only [Act.put,la,lz,ls]
                refine wpAnyH_ready (rs:=[17,22]) (by kernel_rfl) (by simp) ?_;refine AllReadyH.cons (o:=_) (ga rfl) (fun K hK=>?_) (AllReadyH.cons (o:=_) (ga rfl) (fun K hK=>?_) AllReadyH.nil)
                · go_simp
                  (go_at_call 58;refine (f_any b1 _).mono ?_;rintro e VI ⟨rfl,jl⟩)
                  first
                  | (have aG:=bD.trans (jl.mono bD.size);have dO:=hp2.below jl;clear bD hp2 hcur;have hcur:=aG;have hpp:=dO;clear aG dO)
                  | (have aG:=hcur.trans (jl.mono hcur.size);have dO:=hpp.below jl;clear hcur hpp;have hcur:=aG;have hpp:=dO;clear aG dO)
                  | (have aG:=hcur.trans (jl.mono hcur.size);clear hcur;have hcur:=aG;clear aG)
                  refine hK.out _ _ ?FZ (fun hHeld=>?_)
                  case FZ=>(exact ⟨((hT.call (by simp) hcur).ah rfl).cell (j:=1) rfl,nO.below hcur⟩)
                  clear hK K
                  try simp only [Act.put,la,lz,ls]
                  refine tk 18 ?_;refine wpAnyH_ready (rs:=[20,22]) (by kernel_rfl) (by simp) ?_;refine AllReadyH.cons (o:=_) (ga rfl) (fun K hK=>?_) (AllReadyH.cons (o:=_) (ga rfl) (fun K hK=>?_) AllReadyH.nil)
                  · go_simp
                    (go_at_call 60;refine (NK.out _).mono ?_;rintro e TA ⟨rfl,jo⟩)
                    first
                    | (have aG:=bD.trans (jo.mono bD.size);have dO:=hp2.below jo;clear bD hp2 hcur;have hcur:=aG;have hpp:=dO;clear aG dO)
                    | (have aG:=hcur.trans (jo.mono hcur.size);have dO:=hpp.below jo;clear hcur hpp;have hcur:=aG;have hpp:=dO;clear aG dO)
                    | (have aG:=hcur.trans (jo.mono hcur.size);clear hcur;have hcur:=aG;clear aG)
                    refine hK.out _ _ ?F9 (fun hHeld=>?_)
                    case F9=>(exact ⟨((hT.call (by simp) hcur).ah rfl).cell (j:=1) rfl,nO.below hcur⟩)
                    clear hK K
                    try simp only [Act.put,la,lz,ls]
                    refine wpAnyH_ready (rs:=[21,22]) (by kernel_rfl) (by simp) ?_;refine AllReadyH.cons (o:=_) (ga rfl) (fun K hK=>?_) (AllReadyH.cons (o:=_) (ga rfl) (fun K hK=>?_) AllReadyH.nil)
                    · go_simp
                      (go_at_call 57;refine (rZ.out _).mono ?_;rintro e XT ⟨rfl,iL⟩)
                      first
                      | (have aG:=bD.trans (iL.mono bD.size);have dO:=hp2.below iL;clear bD hp2 hcur;have hcur:=aG;have hpp:=dO;clear aG dO)
                      | (have aG:=hcur.trans (iL.mono hcur.size);have dO:=hpp.below iL;clear hcur hpp;have hcur:=aG;have hpp:=dO;clear aG dO)
                      | (have aG:=hcur.trans (iL.mono hcur.size);clear hcur;have hcur:=aG;clear aG)
                      refine hK.out _ _ ?Gl (fun hHeld=>?_)
                      case Gl=>(exact ⟨((hT.call (by simp) hcur).ah rfl).cell (j:=1) rfl,nO.below hcur⟩)
                      clear hK K
                      try simp only [Act.put,la,lz,ls]
                      refine tr 22 fun K hK=>?_;go_simp;have CV:=True.intro;have hp2:=newAt hcur (aK (⟨0,0⟩,⟨0,0⟩)) 130;have bD:=hcur.alloc hcur.size (.cells (aK (⟨0,0⟩,⟨0,0⟩)).toArray 130);have mX:=hcur.size;refine hK.out _ _ ?Gu (fun hHeld=>?_)
                      case Gu=>(exact ⟨((hT.call (by simp) bD).ah rfl).cell (j:=1) rfl,nO.below bD⟩)
                      clear hK K
                      try simp only [Act.put,la,lz,ls]
                      refine wpAnyH_ready (rs:=[23]) (by kernel_rfl) (by simp) ?_
                      first
                      | (have hF:=hp2.whole (aK p) rfl;have nY:=below_setCells _ mX (aK p) 0 _ _ bD;refine dA (o:=_) (ga rfl) (by kernel_rfl) hp2 (aK p) rfl dU (iC _) (.tmp 24) (.tmp 115) rfl rfl rfl (by exact ⟨((hT.call (by simp) nY).ah rfl).cell (j:=1) rfl,nO.below nY⟩) ?_)
                      | (have hF:=hpp.whole (aK p) rfl;have nY:=below_setCells _ mX (aK p) 0 _ _ hcur;refine dA (o:=_) (ga rfl) (by kernel_rfl) hpp (aK p) rfl dU (iC _) (.tmp 24) (.tmp 115) rfl rfl rfl (by exact ⟨((hT.call (by simp) nY).ah rfl).cell (j:=1) rfl,nO.below nY⟩) ?_)
                      try simp only [Act.put,la,lz,ls]
                      refine wpAnyH_done (by kernel_rfl) ?_ _;go_wp2;go_meet;exact ⟨_,rfl,mX,hF,nY⟩
                    · go_simp
                      have CV:=True.intro;have hp2:=newAt hcur (aK (⟨0,0⟩,⟨0,0⟩)) 130;have bD:=hcur.alloc hcur.size (.cells (aK (⟨0,0⟩,⟨0,0⟩)).toArray 130);have mX:=hcur.size;refine hK.out _ _ ?Gv (fun hHeld=>?_)
                      case Gv=>(exact ⟨((hT.call (by simp) bD).ah rfl).cell (j:=1) rfl,nO.below bD⟩)
                      clear hK K
                      try simp only [Act.put,la,lz,ls]
                      refine tr 21 fun K hK=>?_;go_simp
                      (go_at_call 57;refine (rZ.out _).mono ?_;rintro e XT ⟨rfl,iL⟩)
                      first
                      | (have aG:=bD.trans (iL.mono bD.size);have dO:=hp2.below iL;clear bD hp2 hcur;have hcur:=aG;have hpp:=dO;clear aG dO)
                      | (have aG:=hcur.trans (iL.mono hcur.size);have dO:=hpp.below iL;clear hcur hpp;have hcur:=aG;have hpp:=dO;clear aG dO)
                      | (have aG:=hcur.trans (iL.mono hcur.size);clear hcur;have hcur:=aG;clear aG)
                      refine hK.out _ _ ?Gm (fun hHeld=>?_)
                      case Gm=>(exact ⟨((hT.call (by simp) hcur).ah rfl).cell (j:=1) rfl,nO.below hcur⟩)
                      clear hK K
                      try simp only [Act.put,la,lz,ls]
                      refine wpAnyH_ready (rs:=[23]) (by kernel_rfl) (by simp) ?_
                      first
                      | (have hF:=hp2.whole (aK p) rfl;have nY:=below_setCells _ mX (aK p) 0 _ _ bD;refine dA (o:=_) (ga rfl) (by kernel_rfl) hp2 (aK p) rfl dU (iC _) (.tmp 24) (.tmp 115) rfl rfl rfl (by exact ⟨((hT.call (by simp) nY).ah rfl).cell (j:=1) rfl,nO.below nY⟩) ?_)
                      | (have hF:=hpp.whole (aK p) rfl;have nY:=below_setCells _ mX (aK p) 0 _ _ hcur;refine dA (o:=_) (ga rfl) (by kernel_rfl) hpp (aK p) rfl dU (iC _) (.tmp 24) (.tmp 115) rfl rfl rfl (by exact ⟨((hT.call (by simp) nY).ah rfl).cell (j:=1) rfl,nO.below nY⟩) ?_)
                      try simp only [Act.put,la,lz,ls]
                      refine wpAnyH_done (by kernel_rfl) ?_ _;go_wp2;go_meet;exact ⟨_,rfl,mX,hF,nY⟩
                  · go_simp
                    have CV:=True.intro;have hp2:=newAt hcur (aK (⟨0,0⟩,⟨0,0⟩)) 130;have bD:=hcur.alloc hcur.size (.cells (aK (⟨0,0⟩,⟨0,0⟩)).toArray 130);have mX:=hcur.size;refine hK.out _ _ ?Gw (fun hHeld=>?_)
                    case Gw=>(exact ⟨((hT.call (by simp) bD).ah rfl).cell (j:=1) rfl,nO.below bD⟩)
                    clear hK K
                    try simp only [Act.put,la,lz,ls]
                    refine tr 20 fun K hK=>?_;go_simp
                    (go_at_call 60;refine (NK.out _).mono ?_;rintro e TA ⟨rfl,jo⟩)
                    first
                    | (have aG:=bD.trans (jo.mono bD.size);have dO:=hp2.below jo;clear bD hp2 hcur;have hcur:=aG;have hpp:=dO;clear aG dO)
                    | (have aG:=hcur.trans (jo.mono hcur.size);have dO:=hpp.below jo;clear hcur hpp;have hcur:=aG;have hpp:=dO;clear aG dO)
                    | (have aG:=hcur.trans (jo.mono hcur.size);clear hcur;have hcur:=aG;clear aG)
                    refine hK.out _ _ ?Gf (fun hHeld=>?_)
                    case Gf=>(exact ⟨((hT.call (by simp) hcur).ah rfl).cell (j:=1) rfl,nO.below hcur⟩)
                    clear hK K
                    try simp only [Act.put,la,lz,ls]
                    refine tr 21 fun K hK=>?_;go_simp
                    (go_at_call 57;refine (rZ.out _).mono ?_;rintro e XT ⟨rfl,iL⟩)
                    first
                    | (have aG:=bD.trans (iL.mono bD.size);have dO:=hp2.below iL;clear bD hp2 hcur;have hcur:=aG;have hpp:=dO;clear aG dO)
                    | (have aG:=hcur.trans (iL.mono hcur.size);have dO:=hpp.below iL;clear hcur hpp;have hcur:=aG;have hpp:=dO;clear aG dO)
                    | (have aG:=hcur.trans (iL.mono hcur.size);clear hcur;have hcur:=aG;clear aG)
                    refine hK.out _ _ ?Gn (fun hHeld=>?_)
                    case Gn=>(exact ⟨((hT.call (by simp) hcur).ah rfl).cell (j:=1) rfl,nO.below hcur⟩)
                    clear hK K
                    try simp only [Act.put,la,lz,ls]
                    refine wpAnyH_ready (rs:=[23]) (by kernel_rfl) (by simp) ?_
                    first
                    | (have hF:=hp2.whole (aK p) rfl;have nY:=below_setCells _ mX (aK p) 0 _ _ bD;refine dA (o:=_) (ga rfl) (by kernel_rfl) hp2 (aK p) rfl dU (iC _) (.tmp 24) (.tmp 115) rfl rfl rfl (by exact ⟨((hT.call (by simp) nY).ah rfl).cell (j:=1) rfl,nO.below nY⟩) ?_)
                    | (have hF:=hpp.whole (aK p) rfl;have nY:=below_setCells _ mX (aK p) 0 _ _ hcur;refine dA (o:=_) (ga rfl) (by kernel_rfl) hpp (aK p) rfl dU (iC _) (.tmp 24) (.tmp 115) rfl rfl rfl (by exact ⟨((hT.call (by simp) nY).ah rfl).cell (j:=1) rfl,nO.below nY⟩) ?_)
                    try simp only [Act.put,la,lz,ls]
                    refine wpAnyH_done (by kernel_rfl) ?_ _;go_wp2;go_meet;exact ⟨_,rfl,mX,hF,nY⟩
                · go_simp
                  have CV:=True.intro;have hp2:=newAt hcur (aK (⟨0,0⟩,⟨0,0⟩)) 130;have bD:=hcur.alloc hcur.size (.cells (aK (⟨0,0⟩,⟨0,0⟩)).toArray 130);have mX:=hcur.size;refine hK.out _ _ ?Gx (fun hHeld=>?_)
                  case Gx=>(exact ⟨((hT.call (by simp) bD).ah rfl).cell (j:=1) rfl,nO.below bD⟩)
                  clear hK K
                  try simp only [Act.put,la,lz,ls]
                  refine tr 17 fun K hK=>?_;go_simp
                  (go_at_call 58;refine (f_any b1 _).mono ?_;rintro e VI ⟨rfl,jl⟩)
                  first
                  | (have aG:=bD.trans (jl.mono bD.size);have dO:=hp2.below jl;clear bD hp2 hcur;have hcur:=aG;have hpp:=dO;clear aG dO)
                  | (have aG:=hcur.trans (jl.mono hcur.size);have dO:=hpp.below jl;clear hcur hpp;have hcur:=aG;have hpp:=dO;clear aG dO)
                  | (have aG:=hcur.trans (jl.mono hcur.size);clear hcur;have hcur:=aG;clear aG)
                  refine hK.out _ _ ?F5 (fun hHeld=>?_)
                  case F5=>(exact ⟨((hT.call (by simp) hcur).ah rfl).cell (j:=1) rfl,nO.below hcur⟩)
                  clear hK K
                  try simp only [Act.put,la,lz,ls]
                  refine tk 18 ?_;refine tr 20 fun K hK=>?_;go_simp
                  (go_at_call 60;refine (NK.out _).mono ?_;rintro e TA ⟨rfl,jo⟩)
                  first
                  | (have aG:=bD.trans (jo.mono bD.size);have dO:=hp2.below jo;clear bD hp2 hcur;have hcur:=aG;have hpp:=dO;clear aG dO)
                  | (have aG:=hcur.trans (jo.mono hcur.size);have dO:=hpp.below jo;clear hcur hpp;have hcur:=aG;have hpp:=dO;clear aG dO)
                  | (have aG:=hcur.trans (jo.mono hcur.size);clear hcur;have hcur:=aG;clear aG)
                  refine hK.out _ _ ?Gg (fun hHeld=>?_)
                  case Gg=>(exact ⟨((hT.call (by simp) hcur).ah rfl).cell (j:=1) rfl,nO.below hcur⟩)
                  clear hK K
                  try simp only [Act.put,la,lz,ls]
                  refine tr 21 fun K hK=>?_;go_simp
                  (go_at_call 57;refine (rZ.out _).mono ?_;rintro e XT ⟨rfl,iL⟩)
                  first
                  | (have aG:=bD.trans (iL.mono bD.size);have dO:=hp2.below iL;clear bD hp2 hcur;have hcur:=aG;have hpp:=dO;clear aG dO)
                  | (have aG:=hcur.trans (iL.mono hcur.size);have dO:=hpp.below iL;clear hcur hpp;have hcur:=aG;have hpp:=dO;clear aG dO)
                  | (have aG:=hcur.trans (iL.mono hcur.size);clear hcur;have hcur:=aG;clear aG)
                  refine hK.out _ _ ?Gp (fun hHeld=>?_)
                  case Gp=>(exact ⟨((hT.call (by simp) hcur).ah rfl).cell (j:=1) rfl,nO.below hcur⟩)
                  clear hK K
                  try simp only [Act.put,la,lz,ls]
                  refine wpAnyH_ready (rs:=[23]) (by kernel_rfl) (by simp) ?_
                  first
                  | (have hF:=hp2.whole (aK p) rfl;have nY:=below_setCells _ mX (aK p) 0 _ _ bD;refine dA (o:=_) (ga rfl) (by kernel_rfl) hp2 (aK p) rfl dU (iC _) (.tmp 24) (.tmp 115) rfl rfl rfl (by exact ⟨((hT.call (by simp) nY).ah rfl).cell (j:=1) rfl,nO.below nY⟩) ?_)
                  | (have hF:=hpp.whole (aK p) rfl;have nY:=below_setCells _ mX (aK p) 0 _ _ hcur;refine dA (o:=_) (ga rfl) (by kernel_rfl) hpp (aK p) rfl dU (iC _) (.tmp 24) (.tmp 115) rfl rfl rfl (by exact ⟨((hT.call (by simp) nY).ah rfl).cell (j:=1) rfl,nO.below nY⟩) ?_)
                  try simp only [Act.put,la,lz,ls]
                  refine wpAnyH_done (by kernel_rfl) ?_ _;go_wp2;go_meet;exact ⟨_,rfl,mX,hF,nY⟩
              · go_simp
                have CV:=True.intro;have hp2:=newAt hcur (aK (⟨0,0⟩,⟨0,0⟩)) 130;have bD:=hcur.alloc hcur.size (.cells (aK (⟨0,0⟩,⟨0,0⟩)).toArray 130);have mX:=hcur.size;refine hK.out _ _ ?Gy (fun hHeld=>?_)
                case Gy=>(exact ⟨((hT.call (by simp) bD).ah rfl).cell (j:=1) rfl,nO.below bD⟩)
                clear hK K
                try simp only [Act.put,la,lz,ls]
                refine tr 8 fun K hK=>?_;go_simp
                (go_at_call 59;refine (HD.out _).mono ?_;rintro e w12 ⟨rfl,mO⟩)
                first
                | (have aG:=bD.trans (mO.mono bD.size);have dO:=hp2.below mO;clear bD hp2 hcur;have hcur:=aG;have hpp:=dO;clear aG dO)
                | (have aG:=hcur.trans (mO.mono hcur.size);have dO:=hpp.below mO;clear hcur hpp;have hcur:=aG;have hpp:=dO;clear aG dO)
                | (have aG:=hcur.trans (mO.mono hcur.size);clear hcur;have hcur:=aG;clear aG)
                refine hK.out _ _ ?Jh (fun hHeld=>?_)
                case Jh=>(exact ⟨((hT.call (by simp) hcur).ah rfl).cell (j:=1) rfl,nO.below hcur⟩)
                clear hK K
                try simp only [Act.put,la,lz,ls]
                refine tr 17 fun K hK=>?_;go_simp
                (go_at_call 58;refine (f_any b1 _).mono ?_;rintro e VI ⟨rfl,jl⟩)
                first
                | (have aG:=bD.trans (jl.mono bD.size);have dO:=hp2.below jl;clear bD hp2 hcur;have hcur:=aG;have hpp:=dO;clear aG dO)
                | (have aG:=hcur.trans (jl.mono hcur.size);have dO:=hpp.below jl;clear hcur hpp;have hcur:=aG;have hpp:=dO;clear aG dO)
                | (have aG:=hcur.trans (jl.mono hcur.size);clear hcur;have hcur:=aG;clear aG)
                refine hK.out _ _ ?F6 (fun hHeld=>?_)
                case F6=>(exact ⟨((hT.call (by simp) hcur).ah rfl).cell (j:=1) rfl,nO.below hcur⟩)
                clear hK K
                try simp only [Act.put,la,lz,ls]
                refine tk 18 ?_;refine tr 20 fun K hK=>?_;go_simp
                (go_at_call 60;refine (NK.out _).mono ?_;rintro e TA ⟨rfl,jo⟩)
                first
                | (have aG:=bD.trans (jo.mono bD.size);have dO:=hp2.below jo;clear bD hp2 hcur;have hcur:=aG;have hpp:=dO;clear aG dO)
                | (have aG:=hcur.trans (jo.mono hcur.size);have dO:=hpp.below jo;clear hcur hpp;have hcur:=aG;have hpp:=dO;clear aG dO)
                | (have aG:=hcur.trans (jo.mono hcur.size);clear hcur;have hcur:=aG;clear aG)
                refine hK.out _ _ ?Gh (fun hHeld=>?_)
                case Gh=>(exact ⟨((hT.call (by simp) hcur).ah rfl).cell (j:=1) rfl,nO.below hcur⟩)
                clear hK K
                try simp only [Act.put,la,lz,ls]
                refine tr 21 fun K hK=>?_;go_simp
                (go_at_call 57;refine (rZ.out _).mono ?_;rintro e XT ⟨rfl,iL⟩)
                first
                | (have aG:=bD.trans (iL.mono bD.size);have dO:=hp2.below iL;clear bD hp2 hcur;have hcur:=aG;have hpp:=dO;clear aG dO)
                | (have aG:=hcur.trans (iL.mono hcur.size);have dO:=hpp.below iL;clear hcur hpp;have hcur:=aG;have hpp:=dO;clear aG dO)
                | (have aG:=hcur.trans (iL.mono hcur.size);clear hcur;have hcur:=aG;clear aG)
                refine hK.out _ _ ?Gq (fun hHeld=>?_)
                case Gq=>(exact ⟨((hT.call (by simp) hcur).ah rfl).cell (j:=1) rfl,nO.below hcur⟩)
                clear hK K
                try simp only [Act.put,la,lz,ls]
                refine wpAnyH_ready (rs:=[23]) (by kernel_rfl) (by simp) ?_
                first
                | (have hF:=hp2.whole (aK p) rfl;have nY:=below_setCells _ mX (aK p) 0 _ _ bD;refine dA (o:=_) (ga rfl) (by kernel_rfl) hp2 (aK p) rfl dU (iC _) (.tmp 24) (.tmp 115) rfl rfl rfl (by exact ⟨((hT.call (by simp) nY).ah rfl).cell (j:=1) rfl,nO.below nY⟩) ?_)
                | (have hF:=hpp.whole (aK p) rfl;have nY:=below_setCells _ mX (aK p) 0 _ _ hcur;refine dA (o:=_) (ga rfl) (by kernel_rfl) hpp (aK p) rfl dU (iC _) (.tmp 24) (.tmp 115) rfl rfl rfl (by exact ⟨((hT.call (by simp) nY).ah rfl).cell (j:=1) rfl,nO.below nY⟩) ?_)
                try simp only [Act.put,la,lz,ls]
                refine wpAnyH_done (by kernel_rfl) ?_ _;go_wp2;go_meet;exact ⟨_,rfl,mX,hF,nY⟩
            · go_simp
              have CV:=True.intro;have hp2:=newAt hcur (aK (⟨0,0⟩,⟨0,0⟩)) 130;have bD:=hcur.alloc hcur.size (.cells (aK (⟨0,0⟩,⟨0,0⟩)).toArray 130);have mX:=hcur.size;refine hK.out _ _ ?Gz (fun hHeld=>?_)
              case Gz=>(exact ⟨((hT.call (by simp) bD).ah rfl).cell (j:=1) rfl,nO.below bD⟩)
              clear hK K
              try simp only [Act.put,la,lz,ls]
              refine tr 7 fun K hK=>?_;go_simp
              (go_at_call 58;refine (f_any 4 _).mono ?_;rintro e Tz ⟨rfl,mW⟩)
              first
              | (have aG:=bD.trans (mW.mono bD.size);have dO:=hp2.below mW;clear bD hp2 hcur;have hcur:=aG;have hpp:=dO;clear aG dO)
              | (have aG:=hcur.trans (mW.mono hcur.size);have dO:=hpp.below mW;clear hcur hpp;have hcur:=aG;have hpp:=dO;clear aG dO)
              | (have aG:=hcur.trans (mW.mono hcur.size);clear hcur;have hcur:=aG;clear aG)
              refine hK.out _ _ ?Jf (fun hHeld=>?_)
              case Jf=>(exact ⟨((hT.call (by simp) hcur).ah rfl).cell (j:=1) rfl,nO.below hcur⟩)
              clear hK K
              try simp only [Act.put,la,lz,ls]
              refine tr 8 fun K hK=>?_;go_simp
              (go_at_call 59;refine (HD.out _).mono ?_;rintro e w12 ⟨rfl,mO⟩)
              first
              | (have aG:=bD.trans (mO.mono bD.size);have dO:=hp2.below mO;clear bD hp2 hcur;have hcur:=aG;have hpp:=dO;clear aG dO)
              | (have aG:=hcur.trans (mO.mono hcur.size);have dO:=hpp.below mO;clear hcur hpp;have hcur:=aG;have hpp:=dO;clear aG dO)
              | (have aG:=hcur.trans (mO.mono hcur.size);clear hcur;have hcur:=aG;clear aG)
              refine hK.out _ _ ?Ji (fun hHeld=>?_)
              case Ji=>(exact ⟨((hT.call (by simp) hcur).ah rfl).cell (j:=1) rfl,nO.below hcur⟩)
              clear hK K
              try simp only [Act.put,la,lz,ls]
              refine tr 17 fun K hK=>?_;go_simp
              (go_at_call 58;refine (f_any b1 _).mono ?_;rintro e VI ⟨rfl,jl⟩)
              first
              | (have aG:=bD.trans (jl.mono bD.size);have dO:=hp2.below jl;clear bD hp2 hcur;have hcur:=aG;have hpp:=dO;clear aG dO)
              | (have aG:=hcur.trans (jl.mono hcur.size);have dO:=hpp.below jl;clear hcur hpp;have hcur:=aG;have hpp:=dO;clear aG dO)
              | (have aG:=hcur.trans (jl.mono hcur.size);clear hcur;have hcur:=aG;clear aG)
              refine hK.out _ _ ?F7 (fun hHeld=>?_)
              case F7=>(exact ⟨((hT.call (by simp) hcur).ah rfl).cell (j:=1) rfl,nO.below hcur⟩)
              clear hK K
              try simp only [Act.put,la,lz,ls]
              refine tk 18 ?_;refine tr 20 fun K hK=>?_;go_simp
              (go_at_call 60;refine (NK.out _).mono ?_;rintro e TA ⟨rfl,jo⟩)
              first
              | (have aG:=bD.trans (jo.mono bD.size);have dO:=hp2.below jo;clear bD hp2 hcur;have hcur:=aG;have hpp:=dO;clear aG dO)
              | (have aG:=hcur.trans (jo.mono hcur.size);have dO:=hpp.below jo;clear hcur hpp;have hcur:=aG;have hpp:=dO;clear aG dO)
              | (have aG:=hcur.trans (jo.mono hcur.size);clear hcur;have hcur:=aG;clear aG)
              refine hK.out _ _ ?Gi (fun hHeld=>?_)
              case Gi=>(exact ⟨((hT.call (by simp) hcur).ah rfl).cell (j:=1) rfl,nO.below hcur⟩)
              clear hK K
              try simp only [Act.put,la,lz,ls]
              refine tr 21 fun K hK=>?_;go_simp
              (go_at_call 57;refine (rZ.out _).mono ?_;rintro e XT ⟨rfl,iL⟩)
              first
              | (have aG:=bD.trans (iL.mono bD.size);have dO:=hp2.below iL;clear bD hp2 hcur;have hcur:=aG;have hpp:=dO;clear aG dO)
              | (have aG:=hcur.trans (iL.mono hcur.size);have dO:=hpp.below iL;clear hcur hpp;have hcur:=aG;have hpp:=dO;clear aG dO)
              | (have aG:=hcur.trans (iL.mono hcur.size);clear hcur;have hcur:=aG;clear aG)
              refine hK.out _ _ ?Gs (fun hHeld=>?_)
              case Gs=>(exact ⟨((hT.call (by simp) hcur).ah rfl).cell (j:=1) rfl,nO.below hcur⟩)
              clear hK K
              try simp only [Act.put,la,lz,ls]
              refine wpAnyH_ready (rs:=[23]) (by kernel_rfl) (by simp) ?_
              first
              | (have hF:=hp2.whole (aK p) rfl;have nY:=below_setCells _ mX (aK p) 0 _ _ bD;refine dA (o:=_) (ga rfl) (by kernel_rfl) hp2 (aK p) rfl dU (iC _) (.tmp 24) (.tmp 115) rfl rfl rfl (by exact ⟨((hT.call (by simp) nY).ah rfl).cell (j:=1) rfl,nO.below nY⟩) ?_)
              | (have hF:=hpp.whole (aK p) rfl;have nY:=below_setCells _ mX (aK p) 0 _ _ hcur;refine dA (o:=_) (ga rfl) (by kernel_rfl) hpp (aK p) rfl dU (iC _) (.tmp 24) (.tmp 115) rfl rfl rfl (by exact ⟨((hT.call (by simp) nY).ah rfl).cell (j:=1) rfl,nO.below nY⟩) ?_)
              try simp only [Act.put,la,lz,ls]
              refine wpAnyH_done (by kernel_rfl) ?_ _;go_wp2;go_meet;exact ⟨_,rfl,mX,hF,nY⟩
          · go_simp
            have CV:=True.intro;have hp2:=newAt hcur (aK (⟨0,0⟩,⟨0,0⟩)) 130;have bD:=hcur.alloc hcur.size (.cells (aK (⟨0,0⟩,⟨0,0⟩)).toArray 130);have mX:=hcur.size;refine hK.out _ _ ?GH (fun hHeld=>?_)
            case GH=>(exact ⟨((hT.call (by simp) bD).ah rfl).cell (j:=1) rfl,nO.below bD⟩)
            clear hK K
            try simp only [Act.put,la,lz,ls]
            refine tr 6 fun K hK=>?_;go_simp
            (go_at_call 58;refine (f_any a1 _).mono ?_;rintro e w10 ⟨rfl,qx⟩)
            first
            | (have aG:=bD.trans (qx.mono bD.size);have dO:=hp2.below qx;clear bD hp2 hcur;have hcur:=aG;have hpp:=dO;clear aG dO)
            | (have aG:=hcur.trans (qx.mono hcur.size);have dO:=hpp.below qx;clear hcur hpp;have hcur:=aG;have hpp:=dO;clear aG dO)
            | (have aG:=hcur.trans (qx.mono hcur.size);clear hcur;have hcur:=aG;clear aG)
            refine hK.out _ _ ?Je (fun hHeld=>?_)
            case Je=>(exact ⟨((hT.call (by simp) hcur).ah rfl).cell (j:=1) rfl,nO.below hcur⟩)
            clear hK K
            try simp only [Act.put,la,lz,ls]
            refine tr 7 fun K hK=>?_;go_simp
            (go_at_call 58;refine (f_any 4 _).mono ?_;rintro e Tz ⟨rfl,mW⟩)
            first
            | (have aG:=bD.trans (mW.mono bD.size);have dO:=hp2.below mW;clear bD hp2 hcur;have hcur:=aG;have hpp:=dO;clear aG dO)
            | (have aG:=hcur.trans (mW.mono hcur.size);have dO:=hpp.below mW;clear hcur hpp;have hcur:=aG;have hpp:=dO;clear aG dO)
            | (have aG:=hcur.trans (mW.mono hcur.size);clear hcur;have hcur:=aG;clear aG)
            refine hK.out _ _ ?Jg (fun hHeld=>?_)
            case Jg=>(exact ⟨((hT.call (by simp) hcur).ah rfl).cell (j:=1) rfl,nO.below hcur⟩)
            clear hK K
            try simp only [Act.put,la,lz,ls]
            refine tr 8 fun K hK=>?_;go_simp
            (go_at_call 59;refine (HD.out _).mono ?_;rintro e w12 ⟨rfl,mO⟩)
            first
            | (have aG:=bD.trans (mO.mono bD.size);have dO:=hp2.below mO;clear bD hp2 hcur;have hcur:=aG;have hpp:=dO;clear aG dO)
            | (have aG:=hcur.trans (mO.mono hcur.size);have dO:=hpp.below mO;clear hcur hpp;have hcur:=aG;have hpp:=dO;clear aG dO)
            | (have aG:=hcur.trans (mO.mono hcur.size);clear hcur;have hcur:=aG;clear aG)
            refine hK.out _ _ ?Jj (fun hHeld=>?_)
            case Jj=>(exact ⟨((hT.call (by simp) hcur).ah rfl).cell (j:=1) rfl,nO.below hcur⟩)
            clear hK K
            try simp only [Act.put,la,lz,ls]
            refine tr 17 fun K hK=>?_;go_simp
            (go_at_call 58;refine (f_any b1 _).mono ?_;rintro e VI ⟨rfl,jl⟩)
            first
            | (have aG:=bD.trans (jl.mono bD.size);have dO:=hp2.below jl;clear bD hp2 hcur;have hcur:=aG;have hpp:=dO;clear aG dO)
            | (have aG:=hcur.trans (jl.mono hcur.size);have dO:=hpp.below jl;clear hcur hpp;have hcur:=aG;have hpp:=dO;clear aG dO)
            | (have aG:=hcur.trans (jl.mono hcur.size);clear hcur;have hcur:=aG;clear aG)
            refine hK.out _ _ ?F8 (fun hHeld=>?_)
            case F8=>(exact ⟨((hT.call (by simp) hcur).ah rfl).cell (j:=1) rfl,nO.below hcur⟩)
            clear hK K
            try simp only [Act.put,la,lz,ls]
            refine tk 18 ?_;refine tr 20 fun K hK=>?_;go_simp
            (go_at_call 60;refine (NK.out _).mono ?_;rintro e TA ⟨rfl,jo⟩)
            first
            | (have aG:=bD.trans (jo.mono bD.size);have dO:=hp2.below jo;clear bD hp2 hcur;have hcur:=aG;have hpp:=dO;clear aG dO)
            | (have aG:=hcur.trans (jo.mono hcur.size);have dO:=hpp.below jo;clear hcur hpp;have hcur:=aG;have hpp:=dO;clear aG dO)
            | (have aG:=hcur.trans (jo.mono hcur.size);clear hcur;have hcur:=aG;clear aG)
            refine hK.out _ _ ?Gj (fun hHeld=>?_)
            case Gj=>(exact ⟨((hT.call (by simp) hcur).ah rfl).cell (j:=1) rfl,nO.below hcur⟩)
            clear hK K
            try simp only [Act.put,la,lz,ls]
            refine tr 21 fun K hK=>?_;go_simp
            (go_at_call 57;refine (rZ.out _).mono ?_;rintro e XT ⟨rfl,iL⟩)
            first
            | (have aG:=bD.trans (iL.mono bD.size);have dO:=hp2.below iL;clear bD hp2 hcur;have hcur:=aG;have hpp:=dO;clear aG dO)
            | (have aG:=hcur.trans (iL.mono hcur.size);have dO:=hpp.below iL;clear hcur hpp;have hcur:=aG;have hpp:=dO;clear aG dO)
            | (have aG:=hcur.trans (iL.mono hcur.size);clear hcur;have hcur:=aG;clear aG)
            refine hK.out _ _ ?Gt (fun hHeld=>?_)
            case Gt=>(exact ⟨((hT.call (by simp) hcur).ah rfl).cell (j:=1) rfl,nO.below hcur⟩)
            clear hK K
            try simp only [Act.put,la,lz,ls]
            refine wpAnyH_ready (rs:=[23]) (by kernel_rfl) (by simp) ?_
            first
            | (have hF:=hp2.whole (aK p) rfl;have nY:=below_setCells _ mX (aK p) 0 _ _ bD;refine dA (o:=_) (ga rfl) (by kernel_rfl) hp2 (aK p) rfl dU (iC _) (.tmp 24) (.tmp 115) rfl rfl rfl (by exact ⟨((hT.call (by simp) nY).ah rfl).cell (j:=1) rfl,nO.below nY⟩) ?_)
            | (have hF:=hpp.whole (aK p) rfl;have nY:=below_setCells _ mX (aK p) 0 _ _ hcur;refine dA (o:=_) (ga rfl) (by kernel_rfl) hpp (aK p) rfl dU (iC _) (.tmp 24) (.tmp 115) rfl rfl rfl (by exact ⟨((hT.call (by simp) nY).ah rfl).cell (j:=1) rfl,nO.below nY⟩) ?_)
            try simp only [Act.put,la,lz,ls]
            refine wpAnyH_done (by kernel_rfl) ?_ _;go_wp2;go_meet;exact ⟨_,rfl,mX,hF,nY⟩
         case rest=>
          obtain ⟨G,rfl,hG,hP,hbx⟩:=hcut
          rename World=>Wx
          have hgx:Glob Wx:=(hg.below hI.b.bw).below hbx;have hIx:=hI.below hbx;have hLx:=Reads.below hL hIx.b.bw;clear hI hT nO HD rZ NK;have kt0:=(hIx.b.ah rfl).cell (j:=0) rfl;have ae4:=(hIx.b.ah rfl).frozen 0;have kt1:=(hIx.b.ah rfl).cell (j:=1) rfl;have afb:=(hIx.b.ah rfl).frozen 1;have kt2:=(hIx.b.ah rfl).cell (j:=2) rfl;have afi:=(hIx.b.ah rfl).frozen 2;have kt3:=(hIx.b.ah rfl).cell (j:=3) rfl;have afp:=(hIx.b.ah rfl).frozen 3;have kp0:=(hP).cell (j:=0) rfl;have adT:=(hP).frozen 0;have kp1:=(hP).cell (j:=1) rfl;have ad1:=(hP).frozen 1;have kp2:=(hP).cell (j:=2) rfl;have ad8:=(hP).frozen 2;have kp3:=(hP).cell (j:=3) rfl;have aef:=(hP).frozen 3;have kp4:=(hP).cell (j:=4) rfl;have aem:=(hP).frozen 4;have kp5:=(hP).cell (j:=5) rfl;have aev:=(hP).frozen 5;have kp6:=(hP).cell (j:=6) rfl;have aeC:=(hP).frozen 6;have kp7:=(hP).cell (j:=7) rfl;have aeJ:=(hP).frozen 7
          go_upto_region 23 with (first | (go_at_call 61;refine (Tj.out _ hLx).mono ?_;rintro e w10 ⟨rfl,qx⟩))
          have hIx:=hIx.below qx;have hP:=hP.below qx;have hgx:=hgx.below qx;clear kt0 ae4 kt1 afb kt2 afi kt3 afp kp0 adT kp1 ad1 kp2 ad8 kp3 aef kp4 aem kp5 aev kp6 aeC kp7 aeJ Tj
          go_cut [25,26] from 123 to 127 (fun v25 v26 wx=>∃ H s1 s2,v25=ptr H∧v26= .int .i64 0∧Held wx H [.string s1,.string s2] 147∧Below w10.heap.size w10 wx)
          case first=>
           go_wp2_with (first | (go_at_call 62;refine (Ar.out _ hgx).mono ?_;rintro e Tz ⟨s1,s2,rfl,mW⟩;have hZ:=Held.new Tz [.string ⟨#[]⟩,.string ⟨#[]⟩] 147) | (refine aC 130 (.tmp 24) rfl ?_;refine au (hP) Tryz.underlying130 rfl dU rfl (.tmp 24) rfl rfl ?_) | (refine aQ 147 (.tmp 25) (.tmp 126) rfl ?_;refine aI hZ [.string s1,.string s2] rfl uh (by simp [Value.oneCell']) rfl (.tmp 25) (.tmp 126) rfl rfl rfl ?_))
           go_meet;exact ⟨Tz.heap.size,s1,s2,rfl,rfl,hZ.whole _ rfl,below_setCells _ mW.size _ _ _ _ (mW.alloc mW.size _)⟩
          case rest=>
           obtain ⟨H,s1,s2,rfl,rfl,hR,hby⟩:=hcut
           rename World=>Wy
           have hIy:=hIx.below hby;clear hIx hP hgx Ar
           go_upto_region 25 with (go_at_call 55;refine (En _ _ (by simp)).mono ?_;rintro e w12 ⟨rfl,YK⟩;rw [YK];clear YK)
           have Vq:=hIy.below ((Below.refl _ _).alloc (Nat.le_refl _) (.cells #[.int .i64 0,.int .i64 0] 39));have hRz:=hR.alloc (.cells #[.int .i64 0,.int .i64 0] 39);obtain ⟨Wz,Yr⟩:∃ W,Wy.alloc (.cells #[.int .i64 0,.int .i64 0] 39)=W:=⟨_,rfl⟩
           simp only [Yr] at Vq hRz ⊢
           clear hIy hR Yr;have hsz:=Vq.sz;have hj4:=Xy k hlt;obtain ⟨i0,hi0,hz0,hz1,hz2⟩:=info_parts GR
           go_wp2_with (first | (refine aC 147 (.tmp 25) rfl ?_;refine au (hRz) Tryz.underlying147 rfl uh rfl (.tmp 25) rfl rfl ?_) | (at_builtin;refine wpList_append_lies _ rfl _ _ _ rfl (gk+2) 147 i0 (.agg #[.string ⟨#[]⟩,.string ⟨#[]⟩]) 2 32 Tryz.underlying80 hi0 hz0 hz1 hz2 rfl (by omega) _ _ _ rfl (Vq.own.alloc _) ⟨Wz.heap.size,0,none⟩ 1 1 [.string s1,.string s2] rfl rfl (dV _ _ _ _ rfl) ?c1 (by omega) ?c2 ?c3 ?c4 (Wz.heap.size+1) (by simp) ?_))
           case c1=>simp [Value.oneCell']
           case c2=>simp only [maxLen];omega
           case c3=>omega
           case c4=>simp;omega
           intro g1 cap w4 hown4 hgrow _ _;have hbd:=dZ (B:=gk+2) (Vq.own.alloc _) hgrow (Nat.le_refl _) (by simp;omega);have hI4:VZ w A B c d g gk (tri k+(j+1)) (.slice (some ⟨g1,0,none⟩) (tri k+(j+1)) cap) _ w4:=⟨(Vq.b.alloc (by simp) _).upto hbd (by simp;omega),(Vq.vc.alloc _).upto hbd (by omega),(Vq.kd.alloc _).upto hbd (by omega),hown4,Nat.le_trans (by simp;omega) hbd.size⟩;clear Vq hown4 hgrow hbd hRz hi0 hz0 hz1 hz2
           have hwj:IntKind.i64.wrap ((j:Int)+1)=(((j+1:Nat)):Int):=by rw [nS _ (by omega) (by omega)];rfl
           go_wp2
           go_roundw
           case rel=>exact ⟨j+1,_,cap,_,by omega,by go_num,by go_num,rfl,rfl,hI4⟩
           case measure=>simp [intOf];omega
       · obtain rfl:j=k+1:=by omega
         have hjb:decide (((k+1:Nat):Int)<(k:Int)+1)=false:=decide_eq_false (by omega);go_wp2
         go_roundw
         case rel=>exact ⟨k+1,P,q,xs,by omega,by go_num,rfl,rfl,rfl,hI⟩
         case measure=>simp [intOf];omega
    · obtain rfl:k=5:=by omega
      go_wp2_with (first | (go_at_call 56;refine (jg _ _).mono ?_;rintro e nH ⟨rfl,jY⟩;rw [← jY];clear jY) | (go_at_call 55;refine (En _ _ (by simp)).mono ?_;rintro e w5 ⟨rfl,hw5⟩;rw [hw5];clear hw5))
      go_ret2;exact ⟨⟨P,q,rfl⟩,hI.b.bw.alloc hI.b.bw.size _⟩
theorem sJ (W:World) (t:TypeId) (n size:Nat) (cs:List Value) (hl:cs.length=n*size) (hn:n≤1000) (S:Nat→Prop) (hS:S W.heap.size):Reads (W.alloc (.cells cs.toArray t)) S size (some ⟨W.heap.size,0,none⟩) n n cs:=
 ⟨Nat.le_refl _,by omega,by omega,hl,fun _=>⟨W.heap.size,0,rfl,hS,by simp,fun j u hu=>by
  have:=dV W t cs W.heap.size rfl j u hu
  rwa [jP] at this⟩⟩
theorem DJ (w:World):Calls Tryz.prog 27 #[] w fun e w'=>∃ A c B d,e= .returned (vI A c B d)∧fA w' (fun _=>True) A c corners∧Reads w' (fun _=>True) 3 B 1 d [.string gK,.string iy,.string kJ]∧Below w.heap.size w w':=by
 have hB0:=(aS.nil w).new (by simp) ([.slice none 0 0,.int .i64 0,.slice none 0 0,.slice none 0 0]) 87;have hB1:=hB0.new (by simp) ([.int .i64 0,.int .i64 0,.int .i64 2000,.int .i64 0,.int .i64 2000,.int .i64 1000,.int .i64 0,.int .i64 1000]) 151;have hB:=hB1.new (by simp) ([.string gK,.string iy,.string kJ]) 153;have hr1:=sJ (w.alloc (.cells ([.slice none 0 0,.int .i64 0,.slice none 0 0,.slice none 0 0]:List Value).toArray 87)) 151 4 2 ([.int .i64 0,.int .i64 0,.int .i64 2000,.int .i64 0,.int .i64 2000,.int .i64 1000,.int .i64 0,.int .i64 1000]) rfl (by omega) (fun b=>b≠w.heap.size) (by simp);rw [World.size_alloc] at hr1;have hr1:=Reads.alloc hr1 (.cells ([.string gK,.string iy,.string kJ]:List Value).toArray 153);have hr2:=sJ ((w.alloc (.cells ([.slice none 0 0,.int .i64 0,.slice none 0 0,.slice none 0 0]:List Value).toArray 87)).alloc (.cells ([.int .i64 0,.int .i64 0,.int .i64 2000,.int .i64 0,.int .i64 2000,.int .i64 1000,.int .i64 0,.int .i64 1000]:List Value).toArray 151)) 153 1 3 ([.string gK,.string iy,.string kJ]) rfl (by omega) (fun b=>b≠w.heap.size) (by simp;omega);rw [World.size_alloc,World.size_alloc] at hr2
 go_enter Tryz.func27,Tryz.ntmps27
 go_wp2_with (refine aQ 87 (.tmp 0) (.tmp 9) rfl ?_;refine aI (hB.ah rfl) (dF _ 4 _ 1) rfl qc (Ve _ _ _ _) rfl (.tmp 0) (.tmp 9) rfl rfl rfl ?_)
 have hF:=(hB.ah rfl).whole (dF (some ⟨w.heap.size+1,0,none⟩) 4 (some ⟨w.heap.size+1+1,0,none⟩) 1) rfl;refine bodyPost_ret (aY (p:=0) hF Tryz.underlying87 rfl qc rfl _ rfl) rfl ⟨_,_,_,_,rfl,?_,?_,below_setCells _ (Nat.le_refl _) _ _ _ _ hB.bw⟩
 · refine Reads.more (Reads.keep hr1 (by rw [setCells_size];exact Nat.le_refl _) (fun b o hb _=>World.cell?_of_block (Held.jK hb _ _ _))) (fun _ _ _=>trivial)
 · refine Reads.more (Reads.keep hr2 (by rw [setCells_size];exact Nat.le_refl _) (fun b o hb _=>World.cell?_of_block (Held.jK hb _ _ _))) (fun _ _ _=>trivial)
namespace M
def jbT:List (List UInt8):=[[97,32,98,114,101,97,107,32,102,51,32,43,32,112,57,47,50],[97,32,112,108,97,121,32,99,49,48,47,49,32,102,49,48,32,112,49,48,47,49]]
def WE:List (List UInt8):=[[97,32,112,108,97,121,32,99,50,47,49,32,102,50,32,112,50,47,49]]
def PE:List aV:=[⟨0,dR,0,0,3,true,[⟨9,2⟩]⟩,⟨0,nP,10,1,10,false,[⟨10,1⟩]⟩]
def Tq:aV:=⟨0,nP,2,1,2,false,[⟨2,1⟩]⟩
theorem acr:nG jbT=PE:=by rfl
theorem acA:nG WE=[Tq]:=by rfl
def Eu:Rules:=⟨bC,0,0⟩
def Uu:List aV:=[⟨0,dR,0,0,3,true,[⟨9,2⟩]⟩,Tq]
def YM:State:=final Eu (start Eu) PE
def PG:State:=final Eu (start Eu) Uu
theorem YO:(YM.group == 2)=true:=by decide+kernel
theorem YP:(PG.group == 1)=true:=by decide+kernel
theorem YN:changed Eu PE Uu=2:=by decide+kernel
theorem Fa:bP Eu=0:=by decide+kernel
theorem JW:dB PE=0:=by decide+kernel
theorem JX:dB Uu=0:=by decide+kernel
end M
theorem PI (ts:List (List UInt8)) (ls:List M.aV) (n:Nat) (cs:List Value) (hts:M.nG ts=ls) (hcs:cs=ts.map BF) (hn:ts.length=n) (h1:n≤1000) (h2:∀ s∈ts,s.length≤1000) (W:World) (G:Nat) (hG:W.heap.size=G) (t:TypeId):
 Calls Tryz.prog 25 #[.slice (some ⟨G,0,none⟩) n n] (W.alloc (.cells cs.toArray t)) fun e w'=>∃ l A c,(plain l=ls∧l.length=n)∧e= .returned (.slice A n c)∧jF w' (fun _=>True) A c l∧Below W.heap.size W w':=by
 subst hcs hn hG;refine (DI (fun _=>True) ts _ _ _ (sJ W t ts.length 1 _ (by simp) h1 _ trivial) h1 h2).mono ?_
 rintro e w' ⟨l,A,c,hp,rfl,hr,hb⟩
 have hlen:l.length=ts.length:=by
  have:=congrArg List.length hp
  rw [aU] at this;rw [this];simp [M.nG]
 rw [World.size_alloc] at hr hb;exact ⟨l,A,c,⟨hp.trans hts,hlen⟩,by rw [hlen],(hr.read (by omega)).more (fun _ _ _=>trivial),((Below.refl W.heap.size W).alloc (Nat.le_refl _) _).trans (hb.mono (by omega))⟩
theorem WG (cs:List Value) (hcs:cs=M.WE.map BF) (W:World) (G:Nat) (hG:W.heap.size=G) (t:TypeId):
 Calls Tryz.prog 25 #[.slice (some ⟨G,0,none⟩) 1 1] (W.alloc (.cells cs.toArray t)) fun e w'=>∃ b o c P d,e= .returned (.slice (some ⟨b,o,none⟩) 1 c)∧(b<w'.heap.size∧w'.rangeAt b o (aB ⟨M.Tq,P,d⟩))∧fA w' (fun _=>True) P d M.Tq.aF∧Below W.heap.size W w':=by
 refine (PI M.WE [M.Tq] 1 cs M.acA hcs rfl (by omega) (by decide) W G hG t).mono ?_
 rintro e w' ⟨l,A,c,⟨hp,hl⟩,rfl,hr,hb⟩
 obtain ⟨y,rfl⟩:∃ y,l=[y]:=List.length_eq_one_iff.1 hl;obtain ⟨y,P,d⟩:=y
 obtain rfl:y=M.Tq:=by simpa [plain] using hp
 obtain ⟨b,o,rfl,_,hbl,hcs⟩:=Reads.at_ hr.1 (by simp);exact ⟨b,o,c,P,d,rfl,⟨hbl,fun j v hj=>hcs j v (by simpa [bM] using hj)⟩,hr.aF 0 (by simp),hb⟩
theorem IE (l:List Sh) (A:Option Addr) (c:Nat) (P:Option Addr) (d:Nat) (w:World) (hl:plain l=M.PE∧l.length=2) (hp:jF w (fun _=>True) A c l) (hx:fA w (fun _=>True) P d M.Tq.aF):
 Calls Tryz.prog 10 #[.slice A 2 c,.int .i64 2,iG M.Tq P d] w fun e w'=>∃ L A' c',e= .returned (.tuple #[.slice A' 2 c',.int .i64 0])∧(plain L=M.Uu∧L.length=2)∧jF w' (fun _=>True) A' c' L∧Below w.heap.size w w':=by
 have h:=vC _ _ l A c 2 M.Tq P d w hp hx
 have hE:P7 M.PE 2 M.Tq=0:=by decide+kernel
 rw [hl.2,hl.1,hE] at h;refine h.mono ?_
 rintro e w' ⟨L,A',c',rfl,hL,hr,hb⟩
 have hM:plain L=M.Uu:=hL.trans (by unfold VB;rw [if_pos hE];rfl)
 have hn:L.length=2:=by have:=congrArg List.length hM;rwa [aU] at this
 exact ⟨L,A',c',by rw [hn],⟨hM,hn⟩,hr,hb⟩
theorem BX (ls:List M.aV) (hck:M.dB ls=0) (l:List Sh) (A:Option Addr) (c:Nat) (w:World) (hl:plain l=ls∧l.length=2) (hp:jF w (fun _=>True) A c l):
 Calls Tryz.prog 14 #[iY M.Eu,.slice A 2 c] w fun e w'=>∃ A' c' A2 n2 c2,e= .returned (.tuple #[qM (M.final M.Eu (M.start M.Eu) ls) A' c',.slice A2 n2 c2,.int .i64 0])∧Below w.heap.size w w':=by
 have h:=Ad _ M.Eu l A c w hp
 have hE:wG M.Eu l=0:=by unfold wG;rw [hl.1,hck,M.Fa];rfl
 have hS:oN M.Eu l=M.final M.Eu (M.start M.Eu) ls:=by unfold oN;rw [if_pos hE,hl.1]
 rw [hl.2,hE,hS] at h;refine h.mono ?_
 rintro e w' ⟨A',c',A2,c2,rfl,_,_,hb⟩
 exact ⟨A',c',A2,_,c2,rfl,hb⟩
theorem IC (l m:List Sh) (A B:Option Addr) (c d:Nat) (w:World) (hl:plain l=M.PE∧l.length=2) (hm:plain m=M.Uu∧m.length=2) (hp:jF w (fun _=>True) A c l) (hq:jF w (fun _=>True) B d m):
 Calls Tryz.prog 11 #[iY M.Eu,.slice A 2 c,.slice B 2 d] w fun e w'=>e= .returned (.tuple #[.int .i64 2,.int .i64 0])∧Below w.heap.size w w':=by
 have h:=vw M.Eu l m A B c d w hp hq
 have hE:FX M.Eu M.PE M.Uu=0:=by unfold FX;rw [M.Fa,M.JW,M.JX];rfl
 have hV:I9 M.Eu M.PE M.Uu=2:=by unfold I9;rw [if_pos hE,M.YN]
 rw [hl.2,hm.2,hl.1,hm.1,hE,hV] at h;exact h
theorem Uw (A B:Option Addr) (c d:Nat) (w:World) (hg:Glob w) (hL:fA w (fun _=>True) A c corners) (hS:Reads w (fun _=>True) 3 B 1 d [.string gK,.string iy,.string kJ]):
 Calls Tryz.prog 26 #[vI A c B d,.string gK,.string ZV,.agg #[.int .i64 5,.int .i64 0]] w fun e w'=>∃ P q,e= .returned (.tuple #[.slice P 15 q,.int .i64 0])∧Below w.heap.size w w':=
 (Ny _ A B c d w hg hL hS).mono fun e w' ⟨⟨P,q,h⟩,hb⟩=>⟨P,q,h,hb⟩
theorem iR (w:World) (hg:Glob w):Calls Tryz.prog 9 #[] w fun e w'=>e= .returned (.bool true)∧Below w.heap.size w w':=by
 have hB:=(aS.nil w).new (by simp) [.string ⟨#[]⟩,.int .i64 0,.int .i64 0] 23
 go_enter Tryz.func9,Tryz.ntmps9
 go_upto_region 2 with (refine aQ 23 (.tmp 1) (.tmp 15) rfl ?_;refine aI (hB.ah rfl) [.string M.bC,.int .i64 0,.int .i64 0] rfl bU (Np _ _ _) rfl (.tmp 1) (.tmp 15) rfl rfl rfl ?_)
 obtain ⟨W1,hW1⟩:∃ W,(w.alloc (.cells #[.string ⟨#[]⟩,.int .i64 0,.int .i64 0] 23)).setCells w.heap.size 0 [.string M.bC,.int .i64 0,.int .i64 0]=W:=⟨_,rfl⟩
 have hR:Held W1 w.heap.size [.string M.bC,.int .i64 0,.int .i64 0] 23:=by rw [← hW1];exact (hB.ah rfl).whole _ rfl
 have hb0:Below w.heap.size w W1:=by rw [← hW1];exact below_setCells _ (Nat.le_refl _) _ _ _ _ hB.bw
 rw [hW1];clear hW1 hB
 try dsimp only [Act.put]
 go_upto_region 3 with (go_at_call 25;refine (PI M.jbT M.PE 2 _ M.acr rfl rfl (by omega) (by decide) W1 _ rfl _).mono ?_;rintro e w2 ⟨l,A,c,hl,rfl,hrl,hb2⟩)
 go_upto_region 4 with (first | (go_at_call 25;refine (WG _ rfl w2 _ rfl _).mono ?_;rintro e w3 ⟨b,o,c3,P,d,rfl,⟨hbl,h00⟩,hrx,hb3⟩;have i1:(0:Int)<1:=by decide) | (refine aC 27 (.tmp 22) rfl ?_;refine dw (g:=b) (o:=o) h00 Tryz.underlying27 rfl bY rfl (.tmp 22) rfl rfl ?_) | (go_at_call 10;refine (IE l A c P d w3 hl (hrl.below hb3) hrx).mono ?_;rintro e w4 ⟨m,A4,c4,rfl,hm,hrm,hb4⟩))
 have hrl:=(hrl.below hb3).below hb4;have hR:=((hR.below hb2).below hb3).below hb4
 go_upto_region 5 with (first | (refine aC 23 (.tmp 1) rfl ?_;refine au (hR) Tryz.underlying23 rfl bU rfl (.tmp 1) rfl rfl ?_) | (go_at_call 14;refine (BX M.PE M.JW l A c w4 hl hrl).mono ?_;rintro e w5 ⟨A5,c5,A6,n6,c6,rfl,hb5⟩;have hbx:=Held.new w5 aZ 53) | (refine aQ 53 (.tmp 5) (.tmp 31) rfl ?_;refine aI hbx (aO M.YM A5 c5) rfl bF (fD _ _ _) rfl (.tmp 5) (.tmp 31) rfl rfl rfl ?_))
 try dsimp only [Act.put]
 obtain ⟨W5,hW5⟩:∃ W,(w5.alloc (.cells #[.int .i64 0,.bool false,.bool false,.bool false,.bool false,.int .i64 0,.slice none 0 0,.int .i64 0,.int .i64 0,.int .i64 0,.int .i64 0,.int .i64 0,.int .i64 0,.bool false,.int .i64 0] 53)).setCells w5.heap.size 0 (aO M.YM A5 c5)=W:=⟨_,rfl⟩
 have hS5:Held W5 w5.heap.size (aO M.YM A5 c5) 53:=by rw [← hW5];exact hbx.whole _ rfl
 have hb5:Below w4.heap.size w4 W5:=by rw [← hW5];exact hb5.trans (below_setCells _ hb5.size _ _ _ _ ((Below.refl _ _).alloc hb5.size _))
 rw [hW5];clear hW5 hbx;have hrl:=hrl.below hb5;have hrm:=hrm.below hb5;have hR:=hR.below hb5
 go_upto_region 6 with (first | (refine aC 23 (.tmp 1) rfl ?_;refine au (hR) Tryz.underlying23 rfl bU rfl (.tmp 1) rfl rfl ?_) | (go_at_call 14;refine (BX M.Uu M.JX m A4 c4 W5 hm hrm).mono ?_;rintro e w6 ⟨A8,c8,A9,n9,c9,rfl,hb6⟩;have hbx:=Held.new w6 aZ 53) | (refine aQ 53 (.tmp 8) (.tmp 38) rfl ?_;refine aI hbx (aO M.PG A8 c8) rfl bF (fD _ _ _) rfl (.tmp 8) (.tmp 38) rfl rfl rfl ?_))
 try dsimp only [Act.put]
 obtain ⟨W6,Uh⟩:∃ W,(w6.alloc (.cells #[.int .i64 0,.bool false,.bool false,.bool false,.bool false,.int .i64 0,.slice none 0 0,.int .i64 0,.int .i64 0,.int .i64 0,.int .i64 0,.int .i64 0,.int .i64 0,.bool false,.int .i64 0] 53)).setCells w6.heap.size 0 (aO M.PG A8 c8)=W:=⟨_,rfl⟩
 have hS6:Held W6 w6.heap.size (aO M.PG A8 c8) 53:=by rw [← Uh];exact hbx.whole _ rfl
 have hb6:Below W5.heap.size W5 W6:=by rw [← Uh];exact hb6.trans (below_setCells _ hb6.size _ _ _ _ ((Below.refl _ _).alloc hb6.size _))
 rw [Uh];clear Uh hbx;have hrl:=hrl.below hb6;have hrm:=hrm.below hb6;have hR:=hR.below hb6;have hS5:=hS5.below hb6;have hb1:=dD (dD (dD (dD (dD hb0 hb2) hb3) hb4) hb5) hb6;clear hb0 hb2 hb3 hb4 hb5 hb6 h00 hrx hbl i1
 go_upto_region 7 with (first | (refine aC 23 (.tmp 1) rfl ?_;refine au (hR) Tryz.underlying23 rfl bU rfl (.tmp 1) rfl rfl ?_) | (go_at_call 11;refine (IC l m A A4 c c4 W6 hl hm hrl hrm).mono ?_;rintro e w7 ⟨rfl,hb7⟩))
 have hb8:=dD hb1 hb7
 go_upto_region 8 with (first | (go_at_call 27;refine (DJ w7).mono ?_;rintro e w9 ⟨Ta,tc,Tb,td,rfl,ht1,ht2,Au⟩) | (go_at_call 26;refine (Uw Ta Tb tc td w9 (hg.below (dD hb8 Au)) ht1 ht2).mono ?_;rintro e w10 ⟨Pp,pq,rfl,qx⟩))
 have hS5:=((hS5.below hb7).below Au).below qx;have hS6:=((hS6.below hb7).below Au).below qx;have k5:=hS5.cell (j:=5) rfl;have k6:=hS6.cell (j:=5) rfl;have e5:(M.YM.group == 2)=true:=M.YO;have e6:(M.PG.group == 1)=true:=M.YP;go_wp2;go_ret;exact ⟨rfl,dD (dD hb8 Au) qx⟩
structure CZ (r:M.Rules) (l:List Sh) (n:Nat):Prop where
 len:l.length≤n
 rules:M.bP r=0
 log:M.dB (plain l)=0
def WI (r:M.Rules) (l:List Sh) (n:Nat):Bool:=decide (r.game.size≤60) && (decide (l.length≤n) && (qL (plain l) n && (decide (M.bP r=0) && decide (M.dB (plain l)=0))))
theorem CZ.of {r:M.Rules} {l:List Sh} {n:Nat} (h:WI r l n=true):CZ r l n:=by
 unfold WI at h
 simp only [Bool.and_eq_true,decide_eq_true_eq] at h
 exact ⟨h.2.1,h.2.2.2.1,h.2.2.2.2⟩
theorem IB (r:M.Rules) (l:List Sh) (A:Option Addr) (c:Nat) (n:Nat) (w:World) (hp:jF w (fun _=>True) A c l) (hl:l.length*80≤140737488355328) (hpl:∀ e∈l,e.x.aF.length*16≤140737488355328):
 Calls Tryz.prog 6 #[iY r,.slice A l.length c,.int .i64 n] w fun e w'=>e= .returned (.bool (WI r l n))∧Below w.heap.size w w':=by
 obtain ⟨B,hB'⟩:∃ B,WI r l n=B:=⟨_,rfl⟩;rw [hB'];have hB:=(aS.nil w).new (by simp) ([.string r.game,.int .i64 r.target,.int .i64 r.bG]) 23
 go_enter Tryz.func6,Tryz.ntmps6
 go_upto_region 2 with (go_at_call 5;refine (qy _ l A c _ (hp.below hB.bw) hl hpl).mono ?_;rintro e w1 ⟨m,A1,c1,hm,rfl,hr1,hb1⟩)
 have hR:=(hB.ah rfl).below hb1;have k0:=hR.cell (j:=0) rfl;have hbw:=hB.bw.trans (hb1.mono hB.bw.size);obtain ⟨sb,hsb⟩:∃ b,qL (plain m) n=b:=⟨_,rfl⟩;obtain ⟨E4,h4⟩:∃ e,M.bP r=e:=⟨_,rfl⟩;obtain ⟨E5,h5⟩:∃ e,M.dB (plain m)=e:=⟨_,rfl⟩;have hsl:=Eh _ m A1 c1 n w1 hr1;have hcr:=fun W=>zZ r W;have hcl:=fun W h=>D8 _ m A1 c1 W (hr1.below h);rw [hsb] at hsl;rw [h4] at hcr;rw [h5] at hcl;have HSL:=hide hsl;have Z4:=hide hcr;have Ky:=hide hcl
 have HJ:WI r l n=(decide (r.game.size≤60) && (decide (l.length≤n) && (sb && (decide (E4=0) && decide (E5=0))))):=by unfold WI;rw [← hm,hsb,h4,h5]
 rw [hB'] at HJ;clear hB';have HR:=hide hR;clear hsl hcr hcl h4 h5 hsb hm hr1 hl hpl hp hB hR
 by_cases g1:r.game.size≤60
 · have g1':(r.game.size:Int)≤60:=by omega
   by_cases g2:l.length≤n
   · have g2':(l.length:Int)≤(n:Int):=by omega
     cases sb with
     | true=>
       by_cases g4:E4=0
       · have q4:(E4 == 0)=true:=by simpa using g4
         by_cases g5:E5=0
         · have q5:(E5 == 0)=true:=by simpa using g5
           obtain rfl:B=true:=by rw [HJ];simp [g1,g2,g4,g5]
           clear HJ g1 g2 g4 g5
           go_wp2_with (first | (go_at_call 20;refine (HSL.out).mono ?_;rintro e w2 ⟨rfl,hb2⟩;dsimp only) | (go_at_call 21;refine (Z4.out _).mono ?_;rintro e w3 ⟨rfl,hb3⟩;dsimp only) | (go_at_call 22;refine (Ky.out _ (hb2.trans (hb3.mono hb2.size))).mono ?_;rintro e w4 ⟨rfl,hb4⟩;dsimp only) | (refine aC 23 (.tmp 3) rfl ?_;refine au ((HR.out.below hb2)) Tryz.underlying23 rfl bU rfl (.tmp 3) rfl rfl ?_) | (refine aC 23 (.tmp 3) rfl ?_;refine gB ((HR.out.below hb2)) Tryz.underlying23 rfl bU rfl (.tmp 3) rfl rfl ?_) | (refine je 23 (.tmp 3) rfl ?_;refine gG ((HR.out.below hb2)) Tryz.underlying23 rfl bU (.tmp 3) rfl rfl ?_))
           go_ret;exact ⟨rfl,dD (dD (dD hbw hb2) hb3) hb4⟩
         · have q5:(E5 == 0)=false:=by simpa using g5
           obtain rfl:B=false:=by rw [HJ];simp [g5]
           clear HJ g1 g2 g4 g5
           go_wp2_with (first | (go_at_call 20;refine (HSL.out).mono ?_;rintro e w2 ⟨rfl,hb2⟩;dsimp only) | (go_at_call 21;refine (Z4.out _).mono ?_;rintro e w3 ⟨rfl,hb3⟩;dsimp only) | (go_at_call 22;refine (Ky.out _ (hb2.trans (hb3.mono hb2.size))).mono ?_;rintro e w4 ⟨rfl,hb4⟩;dsimp only) | (refine aC 23 (.tmp 3) rfl ?_;refine au ((HR.out.below hb2)) Tryz.underlying23 rfl bU rfl (.tmp 3) rfl rfl ?_) | (refine aC 23 (.tmp 3) rfl ?_;refine gB ((HR.out.below hb2)) Tryz.underlying23 rfl bU rfl (.tmp 3) rfl rfl ?_) | (refine je 23 (.tmp 3) rfl ?_;refine gG ((HR.out.below hb2)) Tryz.underlying23 rfl bU (.tmp 3) rfl rfl ?_))
           go_ret;exact ⟨rfl,dD (dD (dD hbw hb2) hb3) hb4⟩
       · have q4:(E4 == 0)=false:=by simpa using g4
         obtain rfl:B=false:=by rw [HJ];simp [g4]
         clear HJ g1 g2 g4
         go_wp2_with (first | (go_at_call 20;refine (HSL.out).mono ?_;rintro e w2 ⟨rfl,hb2⟩;dsimp only) | (go_at_call 21;refine (Z4.out _).mono ?_;rintro e w3 ⟨rfl,hb3⟩;dsimp only) | (go_at_call 22;refine (Ky.out _ (hb2.trans (hb3.mono hb2.size))).mono ?_;rintro e w4 ⟨rfl,hb4⟩;dsimp only) | (refine aC 23 (.tmp 3) rfl ?_;refine au ((HR.out.below hb2)) Tryz.underlying23 rfl bU rfl (.tmp 3) rfl rfl ?_) | (refine aC 23 (.tmp 3) rfl ?_;refine gB ((HR.out.below hb2)) Tryz.underlying23 rfl bU rfl (.tmp 3) rfl rfl ?_) | (refine je 23 (.tmp 3) rfl ?_;refine gG ((HR.out.below hb2)) Tryz.underlying23 rfl bU (.tmp 3) rfl rfl ?_))
         go_ret;exact ⟨rfl,dD (dD hbw hb2) hb3⟩
     | false=>
       obtain rfl:B=false:=by rw [HJ];simp
       clear HJ g1 g2
       go_wp2_with (first | (go_at_call 20;refine (HSL.out).mono ?_;rintro e w2 ⟨rfl,hb2⟩;dsimp only) | (go_at_call 21;refine (Z4.out _).mono ?_;rintro e w3 ⟨rfl,hb3⟩;dsimp only) | (go_at_call 22;refine (Ky.out _ (hb2.trans (hb3.mono hb2.size))).mono ?_;rintro e w4 ⟨rfl,hb4⟩;dsimp only) | (refine aC 23 (.tmp 3) rfl ?_;refine au ((HR.out.below hb2)) Tryz.underlying23 rfl bU rfl (.tmp 3) rfl rfl ?_) | (refine aC 23 (.tmp 3) rfl ?_;refine gB ((HR.out.below hb2)) Tryz.underlying23 rfl bU rfl (.tmp 3) rfl rfl ?_) | (refine je 23 (.tmp 3) rfl ?_;refine gG ((HR.out.below hb2)) Tryz.underlying23 rfl bU (.tmp 3) rfl rfl ?_))
       go_ret;exact ⟨rfl,dD hbw hb2⟩
   · have g2':¬ (l.length:Int)≤(n:Int):=by omega
     obtain rfl:B=false:=by rw [HJ];simp [g2]
     clear HJ g1 g2;go_wp2;go_ret;exact ⟨rfl,hbw⟩
 · have g1':¬ (r.game.size:Int)≤60:=by omega
   obtain rfl:B=false:=by rw [HJ];simp [g1]
   clear HJ g1;go_wp2;go_ret;exact ⟨rfl,hbw⟩
namespace M
theorem BI {l:List aV} {x:aV} {k:Nat} (h:dB l=0) (hx:cZ x=0):dB (l.set k x)=0:=by
 rw [jB] at h ⊢;refine ⟨by rw [List.length_set];exact h.1,fun y hy=>?_⟩
 rcases List.mem_or_eq_of_mem_set hy with hy | rfl
 · exact h.2 y hy
 · exact hx
theorem BJ {l m:List aV} (h:dB l=0) (hm:∀ x∈m,x∈l) (hl:m.length≤l.length):dB m=0:=by
 rw [jB] at h ⊢;exact ⟨Nat.le_trans hl h.1,fun y hy=>h.2 y (hm y hy)⟩
theorem Ic {l:List aV} (h:dB l=0) (k:Nat):dB (l.take k)=0:=BJ h (fun _ h=>List.mem_of_mem_take h) (by rw [List.length_take];omega)
theorem KO {l:List aV} (h:dB l=0) (k:Nat):dB (l.take k++l.drop (k+1))=0:=
 BJ h (fun x hx=>(List.mem_append.1 hx).elim List.mem_of_mem_take List.mem_of_mem_drop) (by rw [List.length_append,List.length_take,List.length_drop];omega)
end M
theorem qG (l:List Sh) (k:Nat):plain (l.take k)=(plain l).take k:=by simp [plain]
theorem Ja (l:List Sh) (k:Nat):plain (l.drop k)=(plain l).drop k:=by simp [plain]
theorem MH (l m:List Sh):plain (l++m)=plain l++plain m:=by simp [plain]
theorem uY {l m:List Sh} (h:plain l=plain m):l.length=m.length:=by have:=congrArg List.length h;rwa [aU,aU] at this
def oJ (ls:List M.aV) (v:Value) (W:World):Prop:=∃ L A c,v= .slice A (L:List Sh).length c∧plain L=ls∧jF W (fun _=>True) A c L
theorem oJ.below {ls:List M.aV} {v:Value} {W W':World} (h:oJ ls v W) (hb:Below W.heap.size W W'):oJ ls v W':=by
 obtain ⟨L,A,c,h1,h2,h3⟩:=h;exact ⟨L,A,c,h1,h2,h3.below hb⟩
def C9 (ns:List M.Note) (v:Value) (W:World):Prop:=∃ A c,v= .slice A ns.length c∧Reads W (fun _=>True) 6 A ns.length c (noteCells ns)
theorem C9.below {ns:List M.Note} {v:Value} {W W':World} (h:C9 ns v W) (hb:Below W.heap.size W W'):C9 ns v W':=by
 obtain ⟨A,c,h1,h2⟩:=h;exact ⟨A,c,h1,Reads.below h2 hb⟩
def Om (x:M.aV) (v:Value) (W:World):Prop:=∃ b o c P d,v= .slice (some ⟨b,o,none⟩) 1 c∧W.rangeAt b o (aB ⟨x,P,d⟩)∧b<W.heap.size∧fA W (fun _=>True) P d x.aF
theorem eG {W W':World} {b o:Nat} {cs:List Value} (h:W.rangeAt b o cs) (hlt:b<W.heap.size) (hb:Below W.heap.size W W'):W'.rangeAt b o cs:=fun j v hj=>(hb.cell (p:=⟨b,o+j,none⟩) hlt).trans (h j v hj)
theorem Om.below {x:M.aV} {v:Value} {W W':World} (h:Om x v W) (hb:Below W.heap.size W W'):Om x v W':=by
 obtain ⟨b,o,c,P,d,h1,h2,h3,h4⟩:=h;exact ⟨b,o,c,P,d,h1,eG h2 h3 hb,Nat.lt_of_lt_of_le h3 hb.size,Reads.below h4 hb⟩
theorem U8 (x:Sh) (W:World) (t:TypeId) (hx:fA W (fun _=>True) x.a x.c x.x.aF):jF (W.alloc (.cells (aB x).toArray t)) (fun _=>True) (some ⟨W.heap.size,0,none⟩) 1 [x]:=by
 refine ⟨?_,fun e he=>?_⟩
 · have:bM [x]=aB x:=by simp [bM]
   rw [this];exact sJ W t 1 7 (aB x) rfl (by omega) _ trivial
 · obtain rfl:=List.mem_singleton.1 he
   exact Reads.alloc hx _
theorem UO (x:Sh) (W:World) (G:Nat) (hG:W.heap.size=G) (t:TypeId) (hx:fA W (fun _=>True) x.a x.c x.x.aF) (hpx:x.x.aF.length*16≤140737488355328):
 Calls Tryz.prog 5 #[.slice (some ⟨G,0,none⟩) 1 1] (W.alloc (.cells (aB x).toArray t)) fun e w'=>∃ v,e= .returned v∧Om x.x v w'∧Below W.heap.size W w':=by
 subst hG;have hb0:=(Below.refl W.heap.size W).alloc (Nat.le_refl _) (.cells (aB x).toArray t);refine (qy (fun _=>True) [x] _ _ _ (U8 x W t hx) (by simp) (fun e he=>by obtain rfl:=List.mem_singleton.1 he;exact hpx)).mono ?_
 rintro e w' ⟨m,A,c,hp,rfl,hr,hb⟩
 obtain ⟨y,rfl⟩:∃ y,m=[y]:=List.length_eq_one_iff.1 (uY hp);obtain ⟨y,P,d⟩:=y
 obtain rfl:y=x.x:=by simpa [plain] using hp
 obtain ⟨b,o,rfl,_,hbl,hcs⟩:=Reads.at_ hr.1 (by simp);exact ⟨_,rfl,⟨b,o,c,P,d,rfl,fun j v hj=>hcs j v (by simpa [bM] using hj),hbl,Reads.more (hr.2 _ List.mem_cons_self) (fun _ _ _=>trivial)⟩,hb0.trans (hb.mono hb0.size)⟩
section
variable {r:M.Rules} {L K:List Sh} {A B:Option Addr} {c d:Nat} {W:World}
theorem J6 (hr:M.bP r=0) (hl:M.dB (plain L)=0):wG r L=0:=by unfold wG;rw [hr,hl];rfl
theorem wE (hr:M.bP r=0) (hl:M.dB (plain L)=0) (s:M.State) (hs:M.final r (M.start r) (plain L)=s) (hp:jF W (fun _=>True) A c L):
 Calls Tryz.prog 14 #[iY r,.slice A L.length c] W fun e w'=>∃ A' c' v2,e= .returned (.tuple #[qM s A' c',v2,.int .i64 0])∧(∃ A2 c2,v2= .slice A2 (M.iP r (M.start r) 1 (plain L)).length c2)∧bT w' (fun b=>W.heap.size≤b) A' c' s.aA∧Below W.heap.size W w':=by
 have h0:=J6 hr hl;have h:=Ad _ r L A c W hp
 have e1:oN r L=s:=by unfold oN;rw [if_pos h0,hs]
 have e2:wK r L=M.iP r (M.start r) 1 (plain L):=by unfold wK;rw [if_pos h0]
 rw [h0,e1,e2] at h;refine h.mono ?_
 rintro e w' ⟨A',c',A2,c2,rfl,h1,_,h3⟩
 exact ⟨A',c',_,rfl,⟨A2,c2,rfl⟩,h1,h3⟩
theorem Fb (hr:M.bP r=0) (hl:M.dB (plain L)=0) (hp:jF W (fun _=>True) A c L):
 Calls Tryz.prog 12 #[iY r,.slice A L.length c] W fun e w'=>∃ v,e= .returned (.tuple #[v,.int .i64 0])∧C9 (M.notes r (M.start r) 1 (plain L)) v w'∧Below W.heap.size W w':=by
 have h0:=J6 hr hl;have h:=LZ _ r L A c W hp
 have e1:kD r L=M.notes r (M.start r) 1 (plain L):=by unfold kD;rw [if_pos h0]
 rw [h0,e1] at h;refine h.mono ?_
 rintro e w' ⟨A2,c2,rfl,h1,h2⟩
 exact ⟨_,rfl,⟨A2,c2,rfl,Reads.more h1 (fun _ _ _=>trivial)⟩,h2⟩
theorem II (hr:M.bP r=0) (hl:M.dB (plain L)=0) (hk:M.dB (plain K)=0) (hp:jF W (fun _=>True) A c L) (hq:jF W (fun _=>True) B d K):
 Calls Tryz.prog 11 #[iY r,.slice A L.length c,.slice B K.length d] W fun e w'=>e= .returned (.tuple #[.int .i64 (M.changed r (plain L) (plain K)),.int .i64 0])∧Below W.heap.size W w':=by
 have h:=vw r L K A B c d W hp hq
 have hE:FX r (plain L) (plain K)=0:=by unfold FX;rw [hr,hl,hk];rfl
 have hV:I9 r (plain L) (plain K)=M.changed r (plain L) (plain K):=by unfold I9;rw [if_pos hE]
 rwa [hE,hV] at h
theorem tN (k:Nat) (x:M.aV) (P:Option Addr) (q:Nat) (hl:M.dB (plain L)=0) (hx:M.cZ x=0) (hk:k<L.length) (hp:jF W (fun _=>True) A c L) (hpp:fA W (fun _=>True) P q x.aF):
 Calls Tryz.prog 10 #[.slice A L.length c,.int .i64 ((k:Int)+1),iG x P q] W fun e w'=>∃ v,e= .returned (.tuple #[v,.int .i64 0])∧oJ ((plain L).set k x) v w'∧Below W.heap.size W w':=by
 have h:=vC _ _ L A c ((k:Int)+1) x P q W hp hpp;have hlen:(plain L).length=L.length:=aU L
 have hE:P7 (plain L) ((k:Int)+1) x=0:=by
  unfold P7
  rw [hl,hx,hlen,decide_eq_false (by omega:¬ ((k:Int)+1<1)),decide_eq_false (by omega:¬ ((L.length:Int)<(k:Int)+1))]
  rfl
 have hM:VB (plain L) ((k:Int)+1) x=(plain L).set k x:=by
  unfold VB
  rw [if_pos hE,show ((k:Int)+1 - 1).toNat=k by omega]
 rw [hE,hM] at h;refine h.mono ?_
 rintro e w' ⟨L',A',c',rfl,h1,h2,h3⟩
 exact ⟨_,rfl,⟨L',A',c',rfl,h1,h2⟩,h3⟩
end
theorem LW {W:World} {S:Nat→Prop} {l:List Sh} {b o c:Nat} (h:jF W S (some ⟨b,o,none⟩) c l) (hl:0<l.length) (k:Nat):∀ j u,(bM (l.take k))[j]? =some u→W.cell? ((⟨b,o,none⟩:Addr).add j)=some u:=by
 obtain ⟨b',o',e,_,_,hc⟩:=Reads.at_ h.1 hl
 cases e
 intro j u hj;rw [jP];refine hc j u ?_;rw [← List.take_append_drop k l,fQ,List.getElem?_append_left (List.getElem?_eq_some_iff.1 hj).1];exact hj
theorem LV {W:World} {S:Nat→Prop} {l:List Sh} {b o c:Nat} (h:jF W S (some ⟨b,o,none⟩) c l) (hl:0<l.length) (n:Nat) (hn:n≤l.length):∀ j u,(bM (l.drop n))[j]? =some u→W.cell? ((⟨b,if c=n then o else o+n*7,none⟩:Addr).add j)=some u:=by
 obtain ⟨b',o',e,_,_,hc⟩:=Reads.at_ h.1 hl
 cases e
 intro j u hj
 by_cases hcn:c=n
 · have hbd:=h.1.bd.1
   rw [List.drop_eq_nil_of_le (by omega)] at hj
   simp [bM] at hj
 · rw [if_neg hcn,jP,Nat.add_assoc]
   refine hc _ u ?_;rw [← List.take_append_drop n l,fQ,List.getElem?_append_right (by rw [dh,List.length_take];omega),dh,List.length_take,Nat.min_eq_left hn,Nat.add_sub_cancel_left];exact hj
theorem rO {P:Program} {w:World} {ops:Array Oper} {o:Oper} {a:Act} {K:Act→World→Prop} {Q:Exit→Act→World→Prop} {E:Prop} (hgd:o.guard=none) (s x:Operand) (t:TypeId)
 (ho:o.op= .call {callee:= .builtin .append,args:= #[s,x],argTypes:= #[t,t] })
 (base:Nat) (e:TypeId) (i:TypeInfo) (z:Value) (size bytes:Nat) (ht:P.underlying t=some (.slice e)) (hi:P.info? e=some i) (hz:i.zero=some z)
 (hsize:i.size=size) (hby:i.bytes=bytes) (hzs:z.cells.size=size) (hsz:0<size)
 (v:Value) (n:Nat) (xs:List Value) (hs:a.eval s=v) (hown:w.ownsRow base e size v n xs)
 (ad:Addr) (m c:Nat) (news:List Value) (hx:a.eval x= .slice (some ad) m c) (hl:news.length=m*size) (hnews:∀ j u,news[j]? =some u→w.cell? (ad.add j)=some u) (h1:∀ u∈news,u.oneCell'=true)
 (h63:n+m≤maxLen) (hbytes:(n+m)*bytes≤140737488355328) (hbase:base≤w.heap.size)
 (h:∀ v' w',w'.ownsRow base e size v' (n+m) (xs++news)→w.grownBy w' v.ownBlock→K (a.put o.dst v') w'):
 if Region.wanted o (yielded ops a.tmps)=true then Oper.wp P o a w K Q else E:=by
 have hw:Region.wanted o (yielded ops a.tmps)=true:=by simp [Region.wanted,hgd]
 rw [if_pos hw];obtain ⟨v',w',hr,h2,h3,_,_⟩:=run_append_own_at (P:=P) w base t o.type e i z size bytes ht hi hz hsize hby hzs hsz v n xs hown ad m c news hl hnews h1 h63 hbytes hbase
 unfold Oper.wp execOp
 simp only [ho,resolve,invoke,builtin,Sem.run_bind,Sem.run_pure,Result.andThen_ok,List.map_toArray,List.map_cons,List.map_nil,hs,hx,hr]
 exact h v' w' h2 h3
theorem Bh {w:World} {base:Nat} {e:TypeId} {size:Nat} {v:Value} {n:Nat} {xs:List Value} (h:w.ownsRow base e size v n xs):∃ A c,v= .slice A n c:=by
 obtain ⟨_,⟨rfl,rfl⟩ | ⟨g,cap,_,rfl,_⟩⟩:=h
 · exact ⟨_,_,rfl⟩
 · exact ⟨_,_,rfl⟩
end Go.Proofs.YtcjglfbpjkdgiaaGreatDoor
