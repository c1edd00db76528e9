/- Parts of a proof. -/
import Derived.Test.YtcbmedfongiojaaGreatDoorKt29
import Derived.Test.YtcbmedfongiojaaGreatDoorKt32
import Derived.Test.YtcbmedfongiojaaGreatDoorKt35
set_option maxHeartbeats 8000000
set_option maxRecDepth 100000
set_option linter.unusedVariables false
set_option linter.unusedSimpArgs false
namespace Go.Proofs.YtcbmedfongiojaaGreatDoor
open Go.RowKit
theorem sF {P:Program} {w w':World} {n:String} {cs:Array Value} (h:w.var? P n=some cs) (hb:∀ b,b<w.heap.size→w'.heap[b]? =w.heap[b]?):w'.var? P n=some cs:=by
 unfold World.var? at h ⊢
 cases hg:P.globalNamed n with
 | none=>rw [hg] at h;cases h
 | some g=>
   rw [hg] at h
   simp only [Option.bind_some] at h ⊢
   cases ho:w.heap[g]? with
   | none=>rw [ho] at h;cases h
   | some o=>
     have hlt:g<w.heap.size:=(Array.getElem?_eq_some_iff.1 ho).1;rw [hb g hlt];exact h
theorem Glob.LM {w w':World} (h:Glob w) (hb:∀ b,b<w.heap.size→w'.heap[b]? =w.heap[b]?):Glob w':=by
 obtain ⟨m,hm⟩:=h.n;obtain ⟨t1,p1,h1⟩:=h.es;obtain ⟨t2,p2,h2⟩:=h.er;have hlt:0<w.heap.size:=Lib.lt_of_cell hm;exact ⟨⟨m,(World.cell?_of_block (hb _ hlt)).trans hm⟩,⟨t1,p1,sF h1 hb⟩,⟨t2,p2,sF h2 hb⟩,sF h.tab hb⟩
def Valid (s:ByteArray):Prop:=∀ W,Glob W→Calls Tryz.prog 88 #[.string s] W fun e w'=>e= .returned (.int .i64 0)∧Below W.heap.size W w'
def Je (_:Nat):Array Value:= #[.int .i64 0]
theorem KP (S:Nat→Prop) (A:Option Addr) (c:Nat) (xs:List ByteArray) (Bt n:Nat) (w:World) (hn:1≤n) (hg:Glob w) (hBt:Held w Bt [.slice A xs.length c] 250) (hL:Reads w S 1 A xs.length c (xs.map Value.string)) (hV:∀ s∈xs,Valid s):
 Du (jO none) n Tryz.prog 236 #[ptr Bt] Je (fun b=>b<w.heap.size) (fun _ _ pre x _=>x=pre.length∧x<xs.length) (fun ys=>ys=List.range xs.length) (fun _=>True) xs.length w:=by
 intro l0 J Jx W hW hJ hJx hY h0;refine kG ?_;have hBW:=hBt.below hW;have hL':Reads w (fun b=>b<w.heap.size) 1 A xs.length c (xs.map Value.string):=hL.more (fun b h _=>h);have hKb:∀ b,b<w.heap.size→W.heap[b]? =w.heap[b]? :=fun b h=>hW.block b h;have HY:=hide hY;have hbt:=hBt.lt;clear hY;have k0:=hBW.cell (j:=0) rfl;have XL:=hBW.frozen 0
 go_enter Tryz.func236,Tryz.ntmps236
 go_wp2
 go_loopw [7] (fun i wr=>∃ k:Nat,k≤xs.length∧i= .int .i64 k∧J (fun _=>False) (fun _=>False) (List.range k) wr∧W.heap.size≤wr.heap.size∧∀ b,b<w.heap.size→wr.heap[b]? =w.heap[b]?) (fun i _=>xs.length - (intOf i).toNat)
 case atStart=>exact ⟨0,by omega,rfl,h0,Nat.le_refl _,hKb⟩
 case round=>
  obtain ⟨k,hk,rfl,hj,hsz,hkp⟩:=hrel
  by_cases hlt:k<xs.length
  · have hgr:Glob wr:=hg.LM hkp
    have hLr:=hL'.keep (Nat.le_trans hW.size hsz) (fun b o hb _=>World.cell?_of_block (hkp b hb));obtain ⟨b1,b2,b3⟩:=hLr.bd;obtain ⟨b,o,rfl,_,hbl,hc⟩:=hLr.at_ (by omega);have hck:=hc k (.string xs[k]) (by rw [List.getElem?_map,List.getElem?_eq_getElem hlt];rfl);have hv:=hV _ (List.getElem_mem hlt);obtain ⟨s,hs⟩:∃ s,xs[k]=s:=⟨_,rfl⟩;rw [hs] at hck hv;have HV:=hide (hv wr hgr);clear hc hs hv k0 XL hL hL' hLr hBt;have Zy:decide ((k:Int)<(xs.length:Int))=true:=decide_eq_true (by omega)
    go_upto_region 3 with (fail)
    go_cut [15] from 10 to 15 (fun v wx=>(v= .bool false∧J (fun _=>False) (fun _=>False) (List.range (k+1)) wx∧wr.heap.size≤wx.heap.size∧∀ b,b<w.heap.size→wx.heap[b]? =w.heap[b]?)∨(v= .bool true∧Jx (fun _=>False) (fun _=>False) (List.range (k+1)) wx))
    case first=>
     refine (wpIn_wide (n:=n)).1 ?_;have aks:(jO none).round=none:=rfl;have ajh:(jO none).depth=none:=rfl;have ajv:∀ f,(jO none).fn f=True:=fun _=>rfl;have aul:Fence.wide.round=none:=rfl;have atp:Fence.wide.depth=none:=rfl;have atx:∀ f,Fence.wide.fn f=True:=fun _=>rfl;refine wpIn_region_lit ?_
     gi_wp2_with (gi_at_call 88;refine (kG HV.out).mono ?_;rintro e w2 ⟨rfl,hb2⟩;obtain ⟨fn',afY,assign',body',hy,hR⟩:=HY.out (fun _=>False) (fun _=>False) (List.range k) k w2 (hJ _ _ _ _ _ _ _ hj (Turn.of_below hb2) (fun b h=>h.elim) (fun b h=>h.elim)) (fun b h=>h.elim (fun h=>h.elim) (fun h=>h.elim)) (by rw [List.length_range];exact hlt) ⟨List.length_range.symm,hlt⟩;rw [show Je k= #[.int .i64 0] from rfl] at hy)
     refine hR.mono ?_
     rintro e4 W4 (⟨rfl,WW,hk4⟩ | ⟨rfl,DT⟩)
     · gi_wp2
       go_meet;exact .inl ⟨rfl,by rw [List.range_succ];exact WW,Nat.le_trans hb2.size hk4.size,fun b hb=>(hk4.keep b hb).trans ((hb2.block b (Nat.lt_of_lt_of_le hb (Nat.le_trans hW.size hsz))).trans (hkp b hb))⟩
     · gi_wp2
       go_meet;exact .inr ⟨rfl,by rw [List.range_succ];exact DT⟩
    case rest=>
     rcases hcut with ⟨rfl,WW,hs4,hk4⟩ | ⟨rfl,DT⟩
     · go_wp2
       go_roundw
       case rel=>exact ⟨k+1,by omega,by go_num,WW,Nat.le_trans hsz hs4,hk4⟩
       case measure=>simp [intOf];omega
     · go_wp2
       refine bodyPost_ret (results_none rfl _ _ _) rfl ?_
       first | exact ⟨⟨_,rfl⟩,.inr ⟨_,_,_,trivial,DT⟩⟩ | exact ⟨⟨_,rfl⟩,.inr ⟨_,_,_,DT⟩⟩
  · obtain rfl:k=xs.length:=by omega
    go_wp2
    go_end0
    first | exact ⟨⟨_,rfl⟩,.inl ⟨_,_,hj⟩⟩ | exact ⟨⟨_,rfl⟩,.inl ⟨_,_,_,rfl,hj⟩⟩
theorem Ij (A:Option Addr) (n c:Nat) (w:World):
 Calls Tryz.prog 201 #[.slice A n c] w fun e w'=>e= .returned (.func (.func 236) #[] #[ptr w.heap.size])∧aC w w' [([.slice A n c],250)]:=by
 go_enter Tryz.func201,Tryz.ntmps201
 go_wp2;go_ret;exact ⟨rfl,(aC.nil w).new (by simp) ([.slice A n c]) _⟩
structure VG (w:World) (D:Nat) (X Y:Nat→Prop) (pre:List Nat) (W:World):Prop where
 b:aC w W [([.int .i64 0],31)]
 sz:D≤W.heap.size
 sep:∀ b,X b∨Y b→D≤b
theorem VG.abides (w:World) (D:Nat) (hD:w.heap.size+1≤D):sH (VG w D):=by
 intro X Y pre W X' Y' W' h ht hX hY;refine ⟨h.b.turn ht (fun b hb=>by have:=h.sep b (.inl hb);simp;omega) (by have:=h.sz;omega),Nat.le_trans h.sz ht.size,?_⟩
 rintro b (hb | hb)
 · rcases hX b hb with h2 | h2
   · exact h.sep b (.inl h2)
   · exact Nat.le_trans h.sz h2
 · rcases hY b hb with h2 | h2
   · exact h.sep b (.inr h2)
   · exact Nat.le_trans h.sz h2
theorem VG.putObj {w:World} {D:Nat} {X Y:Nat→Prop} {pre:List Nat} {W:World} {lp:Nat} {o:Obj} (h:VG w D X Y pre W) (hD:w.heap.size≤D) (hlp:D≤lp) (hl:W.heap[lp]? =some o) (ho:o.isCells=false) (o':Obj):VG w D X Y pre (W.putObj lp o'):=
 ⟨h.b.putObj (by omega) hl ho o',by simpa using h.sz,h.sep⟩
theorem NZ {W:World} {g:Nat} {u:Value} {t1 t3:TypeId} {d1:TypeDesc} {fn:Func} {p:Tmp} (hg:Held W g [u] t1) (hu:Tryz.prog.underlying t3=some d1) (h1:d1.isRow=false)
 (hr:fn.results= #[.cell p t3]) (tmps:Array Value) (hp:tmps.getD p undef=ptr g):(results fn tmps).run Tryz.prog W= .ok u W:=by
 have e:(results fn tmps).run Tryz.prog W=((asAddr (tmps.getD p undef)).run Tryz.prog W).andThen fun a w₁=>(loadVar t3 a).run Tryz.prog w₁:=by
  simp only [results,hr]
  simp [Sem.run_bind,Result.andThen]
 rw [e,hp]
 simp only [ptr,asAddr,Sem.run_pure,Result.andThen_ok,yT hg hu h1]
theorem DC (S:Nat→Prop) (A:Option Addr) (c:Nat) (xs:List ByteArray) (w:World) (hg:Glob w) (hL:Reads w S 1 A xs.length c (xs.map Value.string)) (hV:∀ s∈xs,Valid s):
 Calls Tryz.prog 147 #[.slice A xs.length c] w fun e w'=>e= .returned (.int .i64 0)∧Below w.heap.size w w':=by
 refine callsIn_wide.1 (callsIn_of_wp_marks (F:=Fence.wide) (n:=5) Tryz.func147 rfl trivial ?_ rfl)
 simp only [Tryz.ntmps147,List.size_toArray,List.length_cons,List.length_nil,Nat.reduceAdd,Nat.reduceSub,Array.replicate_succ,
  Array.replicate_zero,List.push_toArray,List.append_toArray,List.nil_append,List.cons_append]
 refine wpIn_wide.2 ?_
 generalize hQ':bodyPostM Fence.wide 5 Tryz.prog _ _=Q'
 have HQ:=hide hQ';clear hQ';obtain ⟨n0,hn0⟩:∃ n,xs.length=n:=⟨_,rfl⟩;have HN:=hide hn0;rw [hn0];clear hn0
 go_upto_region 0 with (fail)
 go_cut [2] from 2 to 3 (fun v2 w1=>v2=ptr w.heap.size∧aC w w1 [([.int .i64 0],31)])
 case first=>
  go_wp2;go_meet;exact ⟨rfl,((aC.nil w).new (by simp) ([.int .i64 0]) _)⟩
 case rest=>
  obtain ⟨rfl,hB⟩:=hcut
  rename World=>w1
  have hs1:=hB.size (by simp)
  simp only [List.length_cons,List.length_nil] at hs1
  go_wp2_with (go_at_call 201;refine (Ij A n0 c _).mono ?_;rintro e w3 ⟨rfl,hC⟩)
  have hs3:=hC.size (by simp)
  simp only [List.length_cons,List.length_nil] at hs3
  have hB3:=hB.upto hC.bw (by simpa using hs1);have hb3:Below w.heap.size w w3:=hB3.bw;have hg3:=hg.below hb3;have Ul:Reads w3 S 1 A xs.length c (xs.map Value.string):=hL.below hb3
  have hC0:Held w3 w1.heap.size [.slice A xs.length c] 250:=by rw [HN.out];exact hC.aj rfl
  rename_i KQ hKQ;refine (wpIn_wide (n:=5)).1 ?_
  refine nV (F:=Fence.wide) rfl (by decide) rfl trivial (enters_of Tryz.func236 (by kernel_rfl) rfl) (KP S A c xs w1.heap.size 4 w3 (by decide) hg3 hC0 Ul hV) (fun b h=>h) (Below.refl _ _) (fun _=>rfl) (VG w w3.heap.size) (fun _ _ _ _=>False) (VG.abides w w3.heap.size (by omega)) (fun _ _ _ _ _ _ _ h _ _ _=>h)
   (fun X Y pre W lp o o' h hlp hl ho=>h.putObj (by omega) hlp hl ho o') (fun _ _ _ _ _ _ _ h _ _ _=>h) (fun X Y pre x W lp o o' h hlp hl ho=>h) ?h0 (fun x a W=>∃ v0 v1 v4 v5 v6 v7 v8 v9,a= {tmps:= #[v0,v1,ptr w.heap.size,.int .i64 0,v4,v5,v6,v7,v8,v9],defers:=[] }) ?assign ?ap ?body ?done ?stop
  case h0=>
   intro W hW;exact ⟨hB3.upto hW (by simp;omega),hW.size,fun b h=>h.elim (fun h=>h.elim) (fun h=>h.elim)⟩
  case ap=>
   rintro x a' W lp o o' ⟨v0,v1,v4,v5,v6,v7,v8,v9,e2⟩ hlp hl ho
   exact ⟨v0,v1,v4,v5,v6,v7,v8,v9,e2⟩
  case stop=>exact fun _ _ _ _ _ _ _ h _=>h.elim
  case assign=>
   intro lp X Y pre x W K' hi ht hk SV
   have fin:∀ v0 v1 v4 v5 v6 v7 v8 v9:Value,K' {tmps:= #[v0,v1,ptr w.heap.size,.int .i64 0,v4,v5,v6,v7,v8,v9],defers:=[] } W:=fun _ _ _ _ _ _ _ _=>
    hk _ _ ⟨Nat.le_refl _,fun k o hk hl _=>hl⟩ ⟨Nat.le_refl _,fun b h=>rfl,fun b h=>rfl⟩ hi ht ⟨_,_,_,_,_,_,_,_,rfl⟩
   have FIN:=hide fin;clear hk fin hi ht SV
   simp [Je]
   refine lD (by kernel_rfl) (by rintro ⟨_,_,h⟩;exact h) ?_;go_wp2;exact FIN.out _ _ _ _ _ _ _ _
  case body=>
   rintro lp X Y pre x a' W hi ht ⟨v0,v1,v4,v5,v6,v7,v8,v9,rfl⟩ hlt SV hWs
   have FIN:Hid (∀ a:Act,AX (fun b=>b<w3.heap.size) w3.heap.size X Y (VG w w3.heap.size) (fun _ _ _ _=>False) (pre++[x]) W .normal a W):=hide (fun a=>⟨⟨Nat.le_refl _,fun k o hk hl _=>hl⟩,⟨Nat.le_refl _,fun b h=>rfl,fun b h=>rfl⟩,⟨hi.b,hi.sz,hi.sep⟩⟩);clear hi ht SV;apply wpIn_block;apply wpIn_seq_k;intro K1 hK1;refine lD (by kernel_rfl) (by rintro ⟨_,_,h⟩;exact h) ?_;go_wp2;refine wpIn_cond_split rfl (fun h=>?_) (fun h=>?_)
   · cases h
   · refine wpIn_skip ?_;exact FIN.out {tmps:= #[],defers:=[] }
  case done=>
   intro D X Y xs' W hD hS hi hdef;have jP:=hi.b;have hc9:=(jP.aj rfl).cell (j:=0) rfl;have hf9:=(jP.aj rfl).frozen 0
   have hD':w.heap.size≤D:=by omega
   have hne:D≠w.heap.size:=by omega
   have WB:=hide hdef;clear hi hS hdef;refine hKQ _ _ ?_
   dsimp only
   refine yK ?_;go_wp2;have hZ:=jP.set 0 rfl 0 (.int .i64 0);have hdz:=(Below.heap_setCell W ⟨w.heap.size,0,none⟩ (.int .i64 0) D hne).trans WB.out
   show Q' .ret _ _
   rw [← HQ.out];exact vN rfl hdz (NZ (p:=2) ((hZ.aj rfl).putObj hdz rfl _) Tryz.underlying31 rfl rfl _ rfl) ⟨rfl,qE hZ.bw hD' _⟩
theorem Reads.lit (W:World) (t:TypeId) (S:Nat→Prop) (size n:Nat) (vs:List Value) (hn:n≤1000) (hl:vs.length=n*size) (hS:S W.heap.size):Reads (W.alloc (.cells vs.toArray t)) S size (some ⟨W.heap.size,0,none⟩) n n vs:=
 ⟨Nat.le_refl _,by omega,by omega,hl,fun _=>⟨W.heap.size,0,rfl,hS,by simp,fun j u hu=>by
  have:=jU W t vs W.heap.size rfl j u hu
  rwa [qB] at this⟩⟩
theorem yO (S:Nat→Prop) (A:Option Addr) (c:Nat) (x y:ByteArray) (w:World) (hg:Glob w) (hL:Reads w S 2 A 1 c [.string x,.string y]) (hx:Valid x) (hy:Valid y):
 Calls Tryz.prog 79 #[.slice A 1 c] w fun e w'=>e= .returned (.int .i64 0)∧Below w.heap.size w w':=by
 obtain ⟨b,o,rfl,_,hb,hc⟩:=hL.at_ (by omega);have c0:=hc 0 _ rfl;have c1:=hc 1 _ rfl;rw [Nat.add_zero] at c0;clear hc
 have HC:∀ (W:World) (G:Nat),Glob W→W.heap.size=G→Calls Tryz.prog 147 #[.slice (some ⟨G,0,none⟩) 2 2] (W.alloc (.cells #[.string x,.string y] 64)) fun e w'=>e= .returned (.int .i64 0)∧Below W.heap.size W w':=fun W G h hG=>by
  subst hG;have h2:Below W.heap.size W (W.alloc (.cells #[.string x,.string y] 64)):=(Below.refl _ _).alloc (Nat.le_refl _) _;refine (DC (fun _=>True) _ 2 [x,y] _ (h.below h2) (Reads.lit W _ _ 1 2 [.string x,.string y] (by omega) rfl trivial) (fun s hs=>by simp at hs;rcases hs with rfl | rfl <;> assumption)).mono ?_
  rintro e w' ⟨rfl,hb⟩
  exact ⟨rfl,h2.trans (hb.mono h2.size)⟩
 have HC:=hide HC;have HV:=hide (fun s (hs:s∈[x,y])=>show Valid s by simp at hs;rcases hs with rfl | rfl <;> assumption);clear hx hy hL
 go_enter Tryz.func79,Tryz.ntmps79
 go_wp2
 go_loopw [8] (fun i wr=>∃ k:Nat,k≤1∧i= .int .i64 k∧Below w.heap.size w wr) (fun i _=>1 - (intOf i).toNat)
 case atStart=>exact ⟨0,by omega,rfl,Below.refl _ _⟩
 case round=>
  obtain ⟨k,hk,rfl,hbw⟩:=hrel;have hgr:=hg.below hbw;have d0:wr.cell? ⟨b,o,none⟩=some (.string x):=(hbw.cell (p:=⟨b,o,none⟩) hb).trans c0;have d1:wr.cell? ⟨b,o+1,none⟩=some (.string y):=(hbw.cell (p:=⟨b,o+1,none⟩) hb).trans c1;clear c0 c1
  by_cases h0:k=0
  · subst h0
    go_wp2
    go_quiet (fail)
    have hbq:=below_drewN ((Below.refl wr.heap.size wr).alloc (Nat.le_refl _) (.cells #[.string x,.string y] 66)) nq
    go_wp2_with (go_at_call 147;refine (HC.out _ (wr.heap.size+1) (hgr.below hbq) (by simp)).mono ?_;rintro e w5 ⟨rfl,hb5⟩)
    have hb6:=hbw.trans ((hbq.trans (hb5.mono hbq.size)).mono hbw.size)
    go_roundw
    case rel=>exact ⟨1,by omega,by go_num,hb6⟩
    case measure=>simp [intOf]
  · obtain rfl:k=1:=by omega
    go_wp2;go_ret;exact ⟨rfl,hbw⟩
theorem kH (x y:ByteArray) (w:World) (hg:Glob w) (hx:Valid x) (hy:Valid y):
 Calls Tryz.prog 42 #[.agg #[.string x,.string y]] w fun e w'=>e= .returned (.int .i64 0)∧Below w.heap.size w w':=by
 have hb0:=(Below.refl w.heap.size w).alloc (Nat.le_refl _) (.cells #[.string x,.string y] 66)
 have HC:∀ (W:World) (G:Nat),Glob W→W.heap.size=G→Calls Tryz.prog 79 #[.slice (some ⟨G,0,none⟩) 1 1] (W.alloc (.cells #[.string x,.string y] 66)) fun e w'=>e= .returned (.int .i64 0)∧Below W.heap.size W w':=fun W G h hG=>by
  subst hG;have h2:Below W.heap.size W (W.alloc (.cells #[.string x,.string y] 66)):=(Below.refl _ _).alloc (Nat.le_refl _) _;refine (yO (fun _=>True) _ 1 x y _ (h.below h2) (Reads.lit W _ _ 2 1 [.string x,.string y] (by omega) rfl trivial) hx hy).mono ?_
  rintro e w' ⟨rfl,hb⟩
  exact ⟨rfl,h2.trans (hb.mono h2.size)⟩
 have HC:=hide HC;clear hx hy
 go_enter Tryz.func42,Tryz.ntmps42
 go_wp2_with (go_at_call 79;refine (HC.out _ (w.heap.size+1) (hg.below hb0) (by simp)).mono ?_;rintro e w5 ⟨rfl,hb5⟩)
 go_ret;exact ⟨rfl,hb0.trans (hb5.mono hb0.size)⟩
theorem tq:Valid bM:=fun W h=>vP [53,48] 53 [48] W h rfl (by decide) (by decide) (by rfl) (by decide) (by decide) (by decide)
theorem wz:Valid dn:=fun W h=>vP [50,53] 50 [53] W h rfl (by decide) (by decide) (by rfl) (by decide) (by decide) (by decide)
theorem D8 (c:Int) (w:World) (h0:97≤c) (h1:c≤122):Calls Tryz.prog 146 #[.int .i32 c] w fun e w'=>e= .returned (.bool true)∧w'=w:=by
 have e0:decide (97≤c)=true:=decide_eq_true h0;have e1:decide (c≤122)=true:=decide_eq_true h1
 go_enter Tryz.func146,Tryz.ntmps146
 go_wp2;go_ret;exact ⟨rfl,rfl⟩
theorem FU (s:ByteArray) (w:World) (h1:1≤s.size) (h2:s.size≤24) (hat:∀ (k:Nat) (h:k<s.size),97≤(s[k]).toNat∧(s[k]).toNat≤122) (hne:(s.toList == [])=false):Calls Tryz.prog 76 #[.string s] w fun e w'=>e= .returned (.bool true)∧Below w.heap.size w w':=by
 obtain ⟨n,hsz⟩:∃ n,s.size=n:=⟨_,rfl⟩;have HAT:=hide hat;rw [hsz] at h1 h2;clear hat
 go_enter Tryz.func76,Tryz.ntmps76
 go_wp2
 go_loopw [] (fun wr=>∃ k:Nat,k≤n∧wr=w.iter s k) (fun w'=>n - w'.iterPos w.heap.size)
 case atStart=>exact ⟨0,Nat.zero_le _,rfl⟩
 case round=>
  obtain ⟨k,hk,rfl⟩:=hrel
  by_cases hlt:k<n
  · have hkz:k<s.size:=by rw [hsz];exact hlt
    have hlk:=HAT.out k hkz;have hnx:∀ ty,(Instr.next (.pointer (some ⟨w.heap.size,0,none⟩)) true ty).run Tryz.prog (w.iter s k)= .ok (.tuple #[.bool true,.int .i64 k,.int .i32 (s[k]).toNat]) (w.iter s (k+1)):=fun ty=>run_next_ascii w s k ty hkz (by omega);obtain ⟨ch,hch⟩:∃ q,((s[k]).toNat:Int)=q:=⟨_,rfl⟩
    have hq0:97≤ch:=by omega
    have hq1:ch≤122:=by omega
    rw [hch] at hnx;clear hch hlk
    go_wp2_with (go_at_call 146;refine (D8 ch _ hq0 hq1).mono ?_;rintro e w5 ⟨rfl,hw5⟩;rw [hw5])
    go_roundw
    case rel=>exact ⟨k+1,by omega,rfl⟩
    case measure=>simp;omega
  · have hke:k=n:=by omega
    subst hke;have hnx:∀ ty,(Instr.next (.pointer (some ⟨w.heap.size,0,none⟩)) true ty).run Tryz.prog (w.iter s k)= .ok (.tuple #[.bool false]) (w.iter s k):=fun ty=>run_next_end w s k ty (by omega);have HIT:=hide (H7 w s k);have hle:decide ((k:Int)≤24)=true:=decide_eq_true (by omega);go_wp2;go_ret;exact ⟨rfl,HIT.out⟩
theorem LJ (w:World):Calls Tryz.prog 76 #[.string iL] w fun e w'=>e= .returned (.bool true)∧Below w.heap.size w w':=FU iL w (by decide) (by decide) (fun k h=>by
 have h4:k<4:=h
 match k,h4 with
 | 0,_=>exact (by decide:97≤(102:UInt8).toNat∧(102:UInt8).toNat≤122)
 | 1,_=>exact (by decide:97≤(111:UInt8).toNat∧(111:UInt8).toNat≤122)
 | 2,_=>exact (by decide:97≤(111:UInt8).toNat∧(111:UInt8).toNat≤122)
 | 3,_=>exact (by decide:97≤(116:UInt8).toNat∧(116:UInt8).toNat≤122)) (by rw [ByteArray.toList_eq];rfl)
theorem zU (w:World):
 Calls Tryz.prog 157 #[.string ⟨#[48]⟩] w fun e w'=>e= .returned (.bool true)∧Below w.heap.size w w':=by
 have HT:∀ W,Calls Tryz.prog 212 #[.string ⟨#[48]⟩,.string ⟨#[48,49,50,51,52,53,54,55,56,57]⟩] W fun e w'=>e= .returned (.string ⟨#[]⟩)∧Below W.heap.size W w':=fun W=>by
  have:=Any.strings_Trim_laid Tryz.lays160 (by kernel_rfl) ⟨#[48]⟩ ⟨#[48,49,50,51,52,53,54,55,56,57]⟩ W (by decide) (by decide) (ascii_of_all (by decide))
  rwa [show Lib.trimS (ByteArray.mk #[48]).data.toList (ByteArray.mk #[48,49,50,51,52,53,54,55,56,57]).data.toList=[] from by decide] at this
 have HT:=hide HT
 go_enter Tryz.func157,Tryz.ntmps157
 go_wp2_with (go_at_call 212;refine (HT.out _).mono ?_;rintro e w1 ⟨rfl,hb1⟩)
 go_ret;exact ⟨rfl,hb1⟩
theorem xu (l:List UInt8) (w:World) (hg:Glob w) (hlen:l.length≤18) (HD:∀ W,Calls Tryz.prog 157 #[.string ⟨l.toArray⟩] W fun e w'=>e= .returned (.bool true)∧Below W.heap.size W w') (hp:Lib.hasPrefix l [45]=false) (hq:Lib.trimPrefix l [45]=l) (hcut:Lib.cut l [47]=(l,[],false)):
 Calls Tryz.prog 88 #[.string ⟨l.toArray⟩] w fun e w'=>e= .returned (.int .i64 0)∧Below w.heap.size w w':=by
 have HC:∀ W,Glob W→Calls Tryz.prog 89 #[.string ⟨l.toArray⟩,.string ⟨#[47]⟩] W fun e w'=>e= .returned (.tuple #[.string ⟨l.toArray⟩,.string ⟨#[]⟩,.bool false])∧∃ n,w'=W.drewN n:=fun W hG=>by
  obtain ⟨m,hm⟩:=hG.n
  have:=Tryz.strings_Cut ⟨l.toArray⟩ ⟨#[47]⟩ m W (by rw [lM];omega) hm
  rwa [show Lib.cut (ByteArray.mk l.toArray).data.toList (ByteArray.mk #[47]).data.toList=(l,[],false) from hcut] at this
 have HP:∀ W,Calls Tryz.prog 156 #[.string ⟨l.toArray⟩,.string ⟨#[45]⟩] W fun e w'=>e= .returned (.tuple #[.string ⟨l.toArray⟩,.bool false])∧w'=W:=fun W=>by
  have:=Tryz.strings_CutPrefix ⟨l.toArray⟩ ⟨#[45]⟩ W
  rwa [show Lib.trimPrefix (ByteArray.mk l.toArray).data.toList (ByteArray.mk #[45]).data.toList=l from hq,show Lib.hasPrefix (ByteArray.mk l.toArray).data.toList (ByteArray.mk #[45]).data.toList=false from hp] at this
 have hsz:=lM l;obtain ⟨s,hs⟩:∃ s:ByteArray,⟨l.toArray⟩=s:=⟨_,rfl⟩
 simp only [hs] at HC HP HD hsz ⊢
 obtain ⟨n,hn⟩:∃ n,l.length=n:=⟨_,rfl⟩;rw [hn] at hsz hlen;have hgt:decide (600<(n:Int))=false:=decide_eq_false (by omega);clear hs hn hp hq hcut;have HC:=hide HC;have HP:=hide HP;have HD:=hide HD
 go_enter Tryz.func88,Tryz.ntmps88
 go_upto_region 6 with (first | (go_at_call 156;refine (HP.out _).mono ?_;rintro e w1 ⟨rfl,rfl⟩) | (go_at_call 89;refine (HC.out _ hg).mono ?_;rintro e w2 ⟨rfl,k,rfl⟩;have hb2:=below_drewN (Below.refl w1.heap.size w1) k) | (go_at_call 157;refine (HD.out _).mono ?_;rintro e w3 ⟨rfl,hb3⟩;have OU:=hb2.trans (hb3.mono (by exact hb2.size))))
 go_wp2_with (first | (go_at_call 159;refine (CY _ _).mono ?_;rintro e oh ⟨rfl,rfl⟩) | (go_at_call 158;refine (zY (fun _=>True) _ _ _ (kX.lit _ _ [0,0] (by simp) _ trivial)).mono ?_;rintro e oh ⟨rfl,rfl⟩))
 go_ret;exact ⟨rfl,OU.alloc (by exact OU.size) _⟩
abbrev s0:ByteArray:=⟨#[48]⟩
abbrev s1:ByteArray:=⟨#[49]⟩
abbrev s2:ByteArray:=⟨#[50]⟩
abbrev s4:ByteArray:=⟨#[52]⟩
theorem SC:Valid s0:=fun W h=>xu [48] W h (by decide) (fun W=>zU W) (by decide) (by decide) (by decide)
theorem SE:Valid s1:=fun W h=>xu [49] W h (by decide) (fun W=>pJ [49] 49 [] W rfl (by decide) (by decide) (by rfl)) (by decide) (by decide) (by decide)
theorem Yw:Valid s2:=fun W h=>xu [50] W h (by decide) (fun W=>pJ [50] 50 [] W rfl (by decide) (by decide) (by rfl)) (by decide) (by decide) (by decide)
def Y1 (s:ByteArray) (a:Nm.Fr):Prop:=∀ W,Glob W→Calls Tryz.prog 49 #[.string s] W fun e w'=>e= .returned (fD a)∧Below W.heap.size W w'
theorem WM:Y1 s0 ⟨0,1⟩:=fun W h=>oL [48] 0 W h (by decide) (by decide) (by decide) (by decide) (by rfl) (by decide) (by decide) (by decide)
theorem WO:Y1 s1 ⟨1,1⟩:=fun W h=>oL [49] 1 W h (by decide) (by decide) (by decide) (by decide) (by rfl) (by decide) (by decide) (by decide)
theorem Y9:Y1 s2 ⟨2,1⟩:=fun W h=>oL [50] 2 W h (by decide) (by decide) (by decide) (by decide) (by rfl) (by decide) (by decide) (by decide)
theorem TV (g:Sk.Game):∀ v∈dN g,v.oneCell'=true:=by simp [dN,Value.oneCell']
def KL (p:Nm.Pl) (v:Nm.iq):Prop:=Y1 p.1 v.1∧Y1 p.2 v.2
def Nm.TJ (b p:Nm.iq) (d:Nm.Fr):Bool:=Nm.EC b && Nm.EC p && Nm.MN (Nm.oV b p) (Nm.oV b p) && Nm.ok d && Nm.ok (Nm.iW (Nm.oV b p) (Nm.oV b p)) && Nm.ok (Nm.mul d d)
def Nm.near (b p:Nm.iq) (d:Nm.Fr):Bool:=decide (Nm.cmp (Nm.iW (Nm.oV b p) (Nm.oV b p)) (Nm.mul d d)<0)
theorem KU (b p:Nm.Pl) (vb vp:Nm.iq) (d:Nm.Fr) (Bp Bd:Nat) (w:World) (hg:Glob w) (hb:KL b vb) (hp:KL p vp) (hP:Held w Bp (jl p) 66) (hD:Held w Bd (ah d) 109) (h:Nm.TJ vb vp d=true):
 Calls Tryz.prog 93 #[plV b,ptr Bp,ptr Bd] w fun e w'=>e= .returned (.bool (Nm.near vb vp d))∧Below w.heap.size w w':=by
 unfold Nm.TJ at h
 simp only [Bool.and_eq_true] at h
 obtain ⟨⟨⟨⟨⟨h1,h2⟩,h3⟩,h4⟩,h5⟩,h6⟩:=h;have HL:=fun W=>AP vb vp W h1 h2;have H2:=fun W=>sZ _ _ W h3;have H3:=fun W=>gG d d W h4 h4;have H4:=fun W=>zG _ _ W h5 h6
 unfold Nm.near
 obtain ⟨u,hu⟩:∃ q,Nm.oV vb vp=q:=⟨_,rfl⟩
 simp only [hu] at HL H2 H4 ⊢
 obtain ⟨n,hn⟩:∃ q,Nm.iW u u=q:=⟨_,rfl⟩
 simp only [hn] at H2 H4 ⊢
 obtain ⟨m,hm⟩:∃ q,Nm.mul d d=q:=⟨_,rfl⟩
 simp only [hm] at H3 H4 ⊢
 obtain ⟨k,hk⟩:∃ q,Nm.cmp n m=q:=⟨_,rfl⟩
 simp only [hk] at H4 ⊢
 clear hu hn hm hk h1 h2 h3 h4 h5 h6;have HO:=hide (fun W (h:Glob W)=>GX b.1 b.2 vb.1 vb.2 W h hb.1 hb.2);have HQ:=hide (fun W (h:Glob W)=>GX p.1 p.2 vp.1 vp.2 W h hp.1 hp.2);have HL:=hide HL;have H2:=hide H2;have H3:=hide H3;have H4:=hide H4;clear hb hp
 go_enter Tryz.func93,Tryz.ntmps93
 go_upto_region 0 with (fail)
 go_cut [3,4] (fun v3 v4 wx=>v3=ptr (w.heap.size)∧v4= .bool false∧Bx w wx [(w.heap.size,jl b,66)])
 case first=>
  go_wp2;go_meet;exact ⟨rfl,rfl,Bx.of ((aC.nil w).new (by simp) (jl b) 66) _ rfl⟩
 case rest=>
  obtain ⟨rfl,rfl,hL⟩:=hcut
  go_upto_region 1 with (fail)
  go_cut [5] from 6 to 11 (fun v5 wx=>∃ B5,v5=ptr B5∧Bx w wx [(B5,bD (u),125),(w.heap.size,jl b,66)])
  case first=>
   have Uw:∀ W:World,Bx w W [(w.heap.size,jl b,66)]→W.rangeAt (w.heap.size) 0 (jl b):=fun W h=>h.rng 0 rfl 0 _ rfl;have ZE:∀ W:World,Bx w W [(w.heap.size,jl b,66)]→W.rangeAt (Bp) 0 (jl p):=fun W h=>(hP.below h.bw).range;have hL:=hL.drew;refine wp_region_held_drew (S:=(fun w':World=>Bx w w' [(w.heap.size,jl b,66)])) (by kernel_rfl) ?bU (fun hHeld=>?_)
   case bU=>exact hL
   refine bP 0 Uw Tryz.underlying66 ?_;refine bP 2 ZE Tryz.underlying66 ?_;refine iF 1 5 (fun K hK=>?_) fun K hK=>?_
   · go_simp
     (go_at_call 52;refine (HO.out _ (hg.below hL.bw)).mono ?_;rintro e YW ⟨rfl,Iw⟩)
     have hL:=hL.call Iw;refine au hK (by first | exact hL | exact hL.tail) fun hHeld=>?_;clear hK K;refine iF 3 5 (fun K hK=>?_) fun K hK=>?_
     · go_simp
       (go_at_call 52;refine (HQ.out _ (hg.below hL.bw)).mono ?_;rintro e YA ⟨rfl,Iy⟩)
       have hL:=hL.call Iy;refine au hK (by first | exact hL | exact hL.tail) fun hHeld=>?_;clear hK K;refine iF 4 5 (fun K hK=>?_) fun K hK=>?_
       · go_simp
         (go_at_call 94;refine (HL.out _).mono ?_;rintro e w1c ⟨rfl,DV⟩)
         have hL:=hL.call DV;refine au hK (by first | exact hL | exact hL.tail) fun hHeld=>?_;clear hK K;refine aB 5 fun K hK=>?_;go_simp;have hL:=hL.add (bD (⟨0,0⟩,⟨0,0⟩)) 125;refine au hK (hL.tail) fun hHeld=>?_;clear hK K;refine aB 6 fun K hK=>?_;refine aG hL.head (bD (u)) rfl lq (uM _) (.tmp 5) (.tmp 10) rfl rfl rfl ?_;have hL:=hL.put (bD (u)) rfl;refine au hK (hL.tail) fun hHeld=>?_;clear hK K;refine wpAnyH_done (by kernel_rfl) ?_ _;go_wp2;go_meet;exact ⟨_,rfl,hL⟩
       · go_simp
         have hL:=hL.add (bD (⟨0,0⟩,⟨0,0⟩)) 125;refine au hK (hL.tail) fun hHeld=>?_;clear hK K;refine aB 4 fun K hK=>?_;go_simp
         (go_at_call 94;refine (HL.out _).mono ?_;rintro e w1c ⟨rfl,DV⟩)
         have hL:=hL.call DV;refine au hK (by first | exact hL | exact hL.tail) fun hHeld=>?_;clear hK K;refine aB 6 fun K hK=>?_;refine aG hL.head (bD (u)) rfl lq (uM _) (.tmp 5) (.tmp 10) rfl rfl rfl ?_;have hL:=hL.put (bD (u)) rfl;refine au hK (hL.tail) fun hHeld=>?_;clear hK K;refine wpAnyH_done (by kernel_rfl) ?_ _;go_wp2;go_meet;exact ⟨_,rfl,hL⟩
     · go_simp
       have hL:=hL.add (bD (⟨0,0⟩,⟨0,0⟩)) 125;refine au hK (hL.tail) fun hHeld=>?_;clear hK K;refine aB 3 fun K hK=>?_;go_simp
       (go_at_call 52;refine (HQ.out _ (hg.below hL.bw)).mono ?_;rintro e YA ⟨rfl,Iy⟩)
       have hL:=hL.call Iy;refine au hK (by first | exact hL | exact hL.tail) fun hHeld=>?_;clear hK K;refine aB 4 fun K hK=>?_;go_simp
       (go_at_call 94;refine (HL.out _).mono ?_;rintro e w1c ⟨rfl,DV⟩)
       have hL:=hL.call DV;refine au hK (by first | exact hL | exact hL.tail) fun hHeld=>?_;clear hK K;refine aB 6 fun K hK=>?_;refine aG hL.head (bD (u)) rfl lq (uM _) (.tmp 5) (.tmp 10) rfl rfl rfl ?_;have hL:=hL.put (bD (u)) rfl;refine au hK (hL.tail) fun hHeld=>?_;clear hK K;refine wpAnyH_done (by kernel_rfl) ?_ _;go_wp2;go_meet;exact ⟨_,rfl,hL⟩
   · go_simp
     have hL:=hL.add (bD (⟨0,0⟩,⟨0,0⟩)) 125;refine au hK (hL.tail) fun hHeld=>?_;clear hK K;refine aB 1 fun K hK=>?_;go_simp
     (go_at_call 52;refine (HO.out _ (hg.below hL.bw)).mono ?_;rintro e YW ⟨rfl,Iw⟩)
     have hL:=hL.call Iw;refine au hK (by first | exact hL | exact hL.tail) fun hHeld=>?_;clear hK K;refine aB 3 fun K hK=>?_;go_simp
     (go_at_call 52;refine (HQ.out _ (hg.below hL.bw)).mono ?_;rintro e YA ⟨rfl,Iy⟩)
     have hL:=hL.call Iy;refine au hK (by first | exact hL | exact hL.tail) fun hHeld=>?_;clear hK K;refine aB 4 fun K hK=>?_;go_simp
     (go_at_call 94;refine (HL.out _).mono ?_;rintro e w1c ⟨rfl,DV⟩)
     have hL:=hL.call DV;refine au hK (by first | exact hL | exact hL.tail) fun hHeld=>?_;clear hK K;refine aB 6 fun K hK=>?_;refine aG hL.head (bD (u)) rfl lq (uM _) (.tmp 5) (.tmp 10) rfl rfl rfl ?_;have hL:=hL.put (bD (u)) rfl;refine au hK (hL.tail) fun hHeld=>?_;clear hK K;refine wpAnyH_done (by kernel_rfl) ?_ _;go_wp2;go_meet;exact ⟨_,rfl,hL⟩
  case rest=>
   obtain ⟨B5,rfl,hL⟩:=hcut
   go_upto_region 2 with (fail)
   have zi:∀ W:World,Bx w W [(B5,bD (u),125),(w.heap.size,jl b,66)]→W.rangeAt (B5) 0 (bD (u)):=fun W h=>h.rng 0 rfl 0 _ rfl;have VX:∀ W:World,Bx w W [(B5,bD (u),125),(w.heap.size,jl b,66)]→W.rangeAt (Bd) 0 (ah d):=fun W h=>(hD.below h.bw).range;have hL:=hL.drew;refine wp_region_held_drew (S:=(fun w':World=>Bx w w' [(B5,bD (u),125),(w.heap.size,jl b,66)])) (by kernel_rfl) ?cu (fun hHeld=>?_)
   case cu=>exact hL
   refine bP 0 zi Tryz.underlying125 ?_;refine bP 1 zi Tryz.underlying125 ?_;refine bP 3 VX Tryz.underlying109 ?_;refine bP 4 VX Tryz.underlying109 ?_;refine aB 2 fun K hK=>?_;go_simp
   (go_at_call 95;refine (H2.out _).mono ?_;rintro e w2a ⟨rfl,Iz⟩)
   have hL:=hL.call Iz;refine au hK (hL) fun hHeld=>?_;clear hK K;refine aB 5 fun K hK=>?_;go_simp
   (go_at_call 97;refine (H3.out _).mono ?_;rintro e w2b ⟨rfl,OQ⟩)
   have hL:=hL.call OQ;refine au hK (hL) fun hHeld=>?_;clear hK K;refine aB 6 fun K hK=>?_;go_simp
   (go_at_call 96;refine (H4.out _).mono ?_;rintro e w2c ⟨rfl,OT⟩)
   have hL:=hL.call OT;refine au hK (hL) fun hHeld=>?_;clear hK K;refine aA 7 ?_;refine aA 8 ?_;refine wpAnyH_done (by kernel_rfl) ?_ _;go_wp2;go_ret;exact ⟨rfl,hL.bw⟩
def Hw (l:List Nm.Pl) (vec:Nm.Pl→Nm.iq):Prop:=∀ p∈l,KL p (vec p)
theorem Oq (S:Nat→Prop) (A:Option Addr) (c:Nat) (l:List Nm.Pl) (vec:Nm.Pl→Nm.iq) (p:Nm.Pl) (d:Nm.Fr) (w:World) (hg:Glob w) (hr:Reads w S 2 A l.length c (l.flatMap jl)) (hl:Hw l vec) (hp:KL p (vec p)) (hk:∀ b∈l,Nm.TJ (vec b) (vec p) d=true):
 Calls Tryz.prog 50 #[plV p,.slice A l.length c,fD d] w fun e w'=>e= .returned (.bool (!(l.any fun b=>Nm.near (vec b) (vec p) d)))∧Below w.heap.size w w':=by
 obtain ⟨z,hz⟩:∃ q,(l.any fun b=>Nm.near (vec b) (vec p) d)=q:=⟨_,rfl⟩;have hcon:=fun (g:Nat) (lb:Array Value) (W:World) (hr:Reads W S 2 A l.length c (l.flatMap jl)) (hs:xO jl g lb l (fun b=>Nm.near (vec b) (vec p) d) W)=>yS S A c l g lb _ W hr hs
 simp only [hz] at hcon ⊢
 clear hz;have HC:=hide hcon;clear hcon
 go_enter Tryz.func50,Tryz.ntmps50
 go_upto_region 0 with (fail)
 go_cut [3,5,6] (fun v3 v5 v6 wx=>v3=ptr (w.heap.size)∧v5=ptr (w.heap.size+1)∧v6= .bool false∧Bx w wx [(w.heap.size,jl p,66),(w.heap.size+1,ah d,109)])
 case first=>
  go_wp2;go_meet;exact ⟨rfl,rfl,rfl,Bx.of (((aC.nil w).new (by simp) (jl p) 66).new (by simp) (ah d) 109) _ rfl⟩
 case rest=>
  obtain ⟨rfl,rfl,rfl,hL⟩:=hcut;have hrd:=Reads.below hr hL.bw;have hgc:=hg.below hL.bw;have HS:=hide (show xO jl 93 #[ptr w.heap.size,ptr (w.heap.size+1)] l (fun b=>Nm.near (vec b) (vec p) d) wc from ⟨fun _ _=>rfl,fun W b hm hb=>(KU b p (vec b) (vec p) d w.heap.size (w.heap.size+1) W (hgc.below hb) (hl b hm) hp ((hL.get 0 rfl).below hb) ((hL.get 1 rfl).below hb) (hk b hm)).mono (fun e w' ⟨e1,e2⟩=>⟨e1,hb.trans (e2.mono hb.size)⟩)⟩);clear hk hl hp hgc
  go_wp2_with (go_at_call 92;refine (HC.out _ _ _ hrd HS.out).mono ?_;rintro e w1 ⟨rfl,hb1⟩;have hL:=hL.call hb1)
  go_ret;exact ⟨rfl,hL.bw⟩
theorem uU (S:Nat→Prop) (A:Option Addr) (c:Nat) (l:List Nm.Pl) (w:World) (hg:Glob w) (hr:Reads w S 2 A l.length c (l.flatMap jl)) (hl:∀ p∈l,Valid p.1∧Valid p.2):
 Calls Tryz.prog 87 #[.slice A l.length c] w fun e w'=>e= .returned (.int .i64 0)∧Below w.heap.size w w':=by
 obtain ⟨b1,b2,b3⟩:=hr.bd
 go_enter Tryz.func87,Tryz.ntmps87
 go_wp2
 go_loopw [8] (fun i wr=>∃ k:Nat,k≤l.length∧i= .int .i64 k∧Aside (Below w.heap.size w wr)) (fun i _=>l.length - (intOf i).toNat)
 case atStart=>exact ⟨0,Nat.zero_le _,rfl,Below.refl _ _⟩
 case round=>
  obtain ⟨k,hk,rfl,hbw⟩:=hrel
  by_cases hlt:k<l.length
  · obtain ⟨b,o,rfl,_,hbl,hc⟩:=Reads.at_ hr (by omega)
    have hrg:wr.rangeAt b (o+k*2) (jl l[k]):=fun j v hj=>by
     have h2:=hc _ _ (xw (f:=jl) (n:=2) (fun _=>rfl) k hlt (j:=j) (v:=v) hj);rw [← Nat.add_assoc] at h2;exact (hbw.out.cell (p:=⟨b,o+k*2+j,none⟩) hbl).trans h2
    have hgr:=hg.below hbw.out;obtain ⟨hv1,hv2⟩:=hl _ (List.getElem_mem hlt);obtain ⟨p,hp⟩:∃ q,l[k]=q:=⟨_,rfl⟩;rw [hp] at hrg hv1 hv2;have HC:=hide (fun W (h:Glob W)=>kH p.1 p.2 W h hv1 hv2);clear hc hl hp hv1 hv2;have hA:=(Bx.nil wr).add [.string ⟨#[]⟩,.string ⟨#[]⟩] 66
    go_upto_region 4 with (first | ((with_reducible (refine dA 66 (.tmp 10) ?lx ?_));(case lx=>rfl);refine iJ hrg Tryz.underlying66 rfl nD rfl (.tmp 10) rfl rfl ?_) | ((with_reducible refine isS 66 4 11 ?_);refine iZ (hA.head) (jl p) nD (Ac p.1 p.2) ?_))
    have hL:=hA.put (jl p) rfl
    go_wp2_with (first | ((with_reducible refine dh 66 4 ?_);refine dO (hL.head) Tryz.underlying66 nD ?_) | (go_at_call 42;refine (HC.out _ (hgr.below hL.bw)).mono ?_;rintro e w1 ⟨rfl,hb1⟩;have hL:=hL.call hb1))
    go_roundw
    case rel=>exact ⟨k+1,by omega,by go_num,hbw.out.trans (hL.bw.mono hbw.out.size)⟩
    case measure=>simp [intOf];omega
  · go_wp2
    go_ret;exact ⟨rfl,hbw.out⟩
def Nm.ET (spot b:Nm.iq):Nm.iq:=Nm.oV b spot
def Nm.F7 (spot along b:Nm.iq):Nm.Fr:=Nm.iW (Nm.ET spot b) along
def Nm.YR (spot:Nm.iq) (d:Nm.Fr) (b:Nm.iq):Nm.Fr:=Nm.sub (Nm.iW (Nm.ET spot b) (Nm.ET spot b)) (Nm.mul d d)
def Nm.YS (spot along:Nm.iq) (d:Nm.Fr) (b:Nm.iq):Nm.Fr:=Nm.mul (Nm.iW along along) (Nm.YR spot d b)
def Nm.YQ (spot along:Nm.iq) (d:Nm.Fr) (b:Nm.iq):Nm.Fr:=Nm.sub (Nm.mul (Nm.F7 spot along b) (Nm.F7 spot along b)) (Nm.YS spot along d b)
def Nm.PK (spot along:Nm.iq) (d:Nm.Fr) (b:Nm.iq):Nm.nM:=(Nm.div (Nm.F7 spot along b) (Nm.iW along along),Nm.div ⟨1,1⟩ (Nm.iW along along),Nm.YQ spot along d b)
def Nm.Wi (spot along:Nm.iq) (d:Nm.Fr) (b:Nm.iq):Nm.JL:=(((Nm.PK spot along d b).1,Nm.neg (Nm.PK spot along d b).2.1,(Nm.PK spot along d b).2.2),Nm.PK spot along d b)
def Nm.XO (spot along:Nm.iq) (d:Nm.Fr) (b:Nm.iq):Bool:=
 Nm.EC b && Nm.EC spot && Nm.MN (Nm.ET spot b) along && Nm.ok (Nm.F7 spot along b) && Nm.MN (Nm.ET spot b) (Nm.ET spot b) && Nm.ok (Nm.iW (Nm.ET spot b) (Nm.ET spot b)) && Nm.ok d && Nm.ok (Nm.mul d d) && Nm.ok (Nm.YR spot d b) &&
 Nm.ok (Nm.YS spot along d b) && Nm.ok (Nm.mul (Nm.F7 spot along b) (Nm.F7 spot along b)) && decide (0<Nm.nC (Nm.YQ spot along d b).n) && Nm.ok (Nm.PK spot along d b).2.1
theorem KW:(Tryz.prog.info? 130).map (fun i=>(i.zero,i.size,i.bytes))=some (some (.agg #[.int .i64 0,.slice none 0 0,.int .i64 0,.slice none 0 0,.int .i64 0,.slice none 0 0,.int .i64 0,.slice none 0 0,.int .i64 0,.slice none 0 0,.int .i64 0,.slice none 0 0,.int .i64 0,.slice none 0 0,.int .i64 0,.slice none 0 0,.int .i64 0,.slice none 0 0,.int .i64 0,.slice none 0 0,.int .i64 0,.slice none 0 0,.int .i64 0,.slice none 0 0,.bool false]),25,392):=by kernel_rfl
theorem PI (S:Nat→Prop) (A:Option Addr) (c:Nat) (l:List Nm.Pl) (vec:Nm.Pl→Nm.iq) (spot along:Nm.iq) (d:Nm.Fr) (w:World) (hg:Glob w) (hr:Reads w S 2 A l.length c (l.flatMap jl)) (hl:Hw l vec) (hlen:l.length≤100)
 (haa:Nm.MN along along=true) (hao:Nm.ok (Nm.iW along along)=true) (hap:0<(Nm.iW along along).n) (hai:Nm.ok (Nm.inv (Nm.iW along along))=true) (hk:∀ b∈l,Nm.XO spot along d (vec b)=true):
 Calls Tryz.prog 51 #[Wj spot,.slice A l.length c,Wj along,fD d] w fun e w'=>∃ A2 c2,e= .returned (.slice A2 l.length c2)∧Reads w' (fun b=>w.heap.size≤b) 25 A2 l.length c2 ((l.map fun b=>Nm.Wi spot along d (vec b)).flatMap dV)∧Below w.heap.size w w':=by
 obtain ⟨b1,b2,b3⟩:=hr.bd;obtain ⟨i0,hi0,hz0,hz1,hz2⟩:=info_parts KW;have HAA:=hide (fun W=>sZ along along W haa);have HK:=hide hk;have HL:=hide hl;clear hk hl
 go_enter Tryz.func51,Tryz.ntmps51
 go_upto_region 0 with (fail)
 go_cut [4,6,7,8] (fun v4 v6 v7 v8 wx=>v4=ptr (w.heap.size)∧v6=ptr (w.heap.size+1)∧v7=ptr (w.heap.size+2)∧v8= .slice none 0 0∧Bx w wx [(w.heap.size,bD spot,125),(w.heap.size+1,bD along,125),(w.heap.size+2,ah d,109)])
 case first=>
  go_wp2;go_meet;exact ⟨rfl,rfl,rfl,rfl,Bx.of ((((aC.nil w).new (by simp) (bD spot) 125).new (by simp) (bD along) 125).new (by simp) (ah d) 109) _ rfl⟩
 case rest=>
  obtain ⟨rfl,rfl,rfl,rfl,hL⟩:=hcut
  go_upto_region 2 with (fail)
  go_cut [10] (fun v10 wx=>∃ B10,v10=ptr B10∧Bx w wx [(B10,ah (Nm.iW along along),109),(w.heap.size,bD spot,125),(w.heap.size+1,bD along,125),(w.heap.size+2,ah d,109)])
  case first=>
   go_wp2_with (first | ((with_reducible refine dh 125 6 ?_);refine dO (hL.get 1 rfl) Tryz.underlying125 lq ?_) | (go_at_call 95;refine (HAA.out _).mono ?_;rintro e w1 ⟨rfl,hb1⟩;have hL:=hL.call hb1) | ((with_reducible refine isS 109 10 19 ?_);refine iZ ((hL.add (ah ⟨0,0⟩) 109).head) (ah (Nm.iW along along)) aU (fE _) ?_))
   go_meet;exact ⟨_,rfl,(hL.add (ah ⟨0,0⟩) 109).put (ah (Nm.iW along along)) rfl⟩
  case rest=>
   obtain ⟨B10,rfl,hL⟩:=hcut
   rename World=>w1
   have hrd:=Reads.below hr hL.bw;have hg1:=hg.below hL.bw;have hDw:=hL.bw.size;have hOD:=hL.lt;have as3:Below w1.heap.size w1 w1:=Below.refl _ _;obtain ⟨Dq,hDq⟩:∃ q,w1.heap.size=q:=⟨_,rfl⟩;rw [hDq] at hDw hOD;obtain ⟨LL,hLL⟩:∃ q,q=[(B10,ah (Nm.iW along along),109),(w.heap.size,bD spot,125),(w.heap.size+1,bD along,125),(w.heap.size+2,ah d,109)]:=⟨_,rfl⟩;go_wp2
   go_loopw [9,22] (fun v9 i wr=>∃ (k:Nat) (v:Value),k≤l.length∧i= .int .i64 k∧v9=v∧wr.ownsRow Dq 130 25 v k (((l.take k).map fun b=>Nm.Wi spot along d (vec b)).flatMap dV)∧Dq≤wr.heap.size∧Bx w wr [(B10,ah (Nm.iW along along),109),(w.heap.size,bD spot,125),(w.heap.size+1,bD along,125),(w.heap.size+2,ah d,109)]) (fun _ i _=>l.length - (intOf i).toNat)
   case atStart=>exact ⟨0,_,Nat.zero_le _,rfl,rfl,by simpa using World.ownsRow_nil _ _ _ _,by omega,hL⟩
   case round=>
    obtain ⟨k,rv,hk,rfl,e9,hown,zT,hO⟩:=hrel;rw [e9];clear e9;clear hL
    by_cases hlt:k<l.length
    · obtain ⟨b',o,rfl,_,hbl,hc⟩:=Reads.at_ hr (by omega)
      have hrg:wr.rangeAt b' (o+k*2) (jl l[k]):=fun j v hj=>by
       have h2:=hc _ _ (xw (f:=jl) (n:=2) (fun _=>rfl) k hlt (j:=j) (v:=v) hj);rw [← Nat.add_assoc] at h2;exact (hO.bw.cell (p:=⟨b',o+k*2+j,none⟩) hbl).trans h2
      have hg:=hg.below hO.bw;have hpi:=HL.out _ (List.getElem_mem hlt);have hok:=HK.out _ (List.getElem_mem hlt)
      unfold Nm.XO at hok
      simp only [Bool.and_eq_true,decide_eq_true_eq] at hok
      obtain ⟨⟨⟨⟨⟨⟨⟨⟨⟨⟨⟨⟨o1,o2⟩,o3⟩,o4⟩,o5⟩,o6⟩,o7⟩,o8⟩,o9⟩,oA⟩,oB⟩,oC⟩,oD⟩:=hok;have Zk:∀ b,rv.ownBlock=some b→b<wr.heap.size:=fun b h=>(Array.getElem?_eq_some_iff.1 (Aa hown h).2.choose_spec.1).1;have ahK:∀ b,rv.ownBlock=some b→Dq≤b:=fun b h=>(Aa hown h).1;have hOw:Hid (∀ {W:World},Below wr.heap.size wr W→W.ownsRow Dq 130 25 rv k (((l.take k).map fun b=>Nm.Wi spot along d (vec b)).flatMap dV)):=hide (fun hb=>yC hown (fun g hg=>hb.block g (Zk g hg)))
      have hnx:((l.take (k+1)).map fun b=>Nm.Wi spot along d (vec b)).flatMap dV=((l.take k).map fun b=>Nm.Wi spot along d (vec b)).flatMap dV++dV (Nm.Wi spot along d (vec l[k])):=by
       rw [List.take_succ_eq_append_getElem hlt,List.map_append,List.flatMap_append,List.map_cons,List.map_nil,List.flatMap_cons,List.flatMap_nil,List.append_nil]
      obtain ⟨b,hbe⟩:∃ q,l[k]=q:=⟨_,rfl⟩
      simp only [hbe] at hrg hpi o1 o2 o3 o4 o5 o6 o7 o8 o9 oA oB oC oD hnx
      have HO:=fun W (h:Glob W)=>GX b.1 b.2 (vec b).1 (vec b).2 W h hpi.1 hpi.2;have HV:=fun W=>AP (vec b) spot W o1 o2;have HA:=fun W=>sZ (Nm.ET spot (vec b)) along W o3;have M1:=fun W=>gG (Nm.F7 spot along (vec b)) (Nm.F7 spot along (vec b)) W o4 o4;have M2:=fun W=>sZ (Nm.ET spot (vec b)) (Nm.ET spot (vec b)) W o5;have M3:=fun W=>gG d d W o7 o7;have M4:=fun W=>lQ (Nm.iW (Nm.ET spot (vec b)) (Nm.ET spot (vec b))) (Nm.mul d d) W o6 o8;have M5:=fun W=>gG (Nm.iW along along) (Nm.YR spot d (vec b)) W hao o9;have M6:=fun W=>lQ (Nm.mul (Nm.F7 spot along (vec b)) (Nm.F7 spot along (vec b))) (Nm.YS spot along d (vec b)) W oB oA;have MS:=fun W=>jE (Nm.YQ spot along d (vec b)) W;have M7:=fun W=>Fh (Nm.F7 spot along (vec b)) (Nm.iW along along) W o4 hao hap hai;have M8:=fun W=>Fh ⟨1,1⟩ (Nm.iW along along) W rfl hao hap hai;have oD':=(kL.1 oD).1;have M9:=fun W=>Fj (Nm.PK spot along d (vec b)).2.1 W (by omega) (by omega);have VU:Nm.Wi spot along d (vec b)=(((Nm.PK spot along d (vec b)).1,Nm.neg (Nm.PK spot along d (vec b)).2.1,(Nm.PK spot along d (vec b)).2.2),Nm.PK spot along d (vec b)):=rfl;have e1:Nm.oV (vec b) spot=Nm.ET spot (vec b):=rfl;have e2:Nm.iW (Nm.ET spot (vec b)) along=Nm.F7 spot along (vec b):=rfl;have e3:Nm.sub (Nm.iW (Nm.ET spot (vec b)) (Nm.ET spot (vec b))) (Nm.mul d d)=Nm.YR spot d (vec b):=rfl;have e4:Nm.mul (Nm.iW along along) (Nm.YR spot d (vec b))=Nm.YS spot along d (vec b):=rfl;have e5:Nm.sub (Nm.mul (Nm.F7 spot along (vec b)) (Nm.F7 spot along (vec b))) (Nm.YS spot along d (vec b))=Nm.YQ spot along d (vec b):=rfl;have e6:Nm.PK spot along d (vec b)=(Nm.div (Nm.F7 spot along (vec b)) (Nm.iW along along),Nm.div ⟨1,1⟩ (Nm.iW along along),Nm.YQ spot along d (vec b)):=rfl
      simp only [e1] at HV
      simp only [e2] at HA
      simp only [e3] at M4
      simp only [e4] at M5
      simp only [e5] at M6
      simp only [e6] at M9 VU
      clear e1 e2 e3 e4 e5 e6 o1 o2 o3 o4 o5 o6 o7 o8 o9 oA oB oD oD' hc hbe hpi;obtain ⟨v,hv⟩:∃ q,Nm.ET spot (vec b)=q:=⟨_,rfl⟩
      simp only [hv] at HV HA M2 M4
      obtain ⟨va,hva⟩:∃ q,Nm.F7 spot along (vec b)=q:=⟨_,rfl⟩
      simp only [hva] at HA M1 M6 M7 M9 VU
      obtain ⟨vv,hvv⟩:∃ q,Nm.iW v v=q:=⟨_,rfl⟩
      simp only [hvv] at M2 M4
      obtain ⟨dd,hdd⟩:∃ q,Nm.mul d d=q:=⟨_,rfl⟩
      simp only [hdd] at M3 M4
      obtain ⟨E,hE⟩:∃ q,Nm.YR spot d (vec b)=q:=⟨_,rfl⟩
      simp only [hE] at M4 M5
      obtain ⟨Fq,hFq⟩:∃ q,Nm.YS spot along d (vec b)=q:=⟨_,rfl⟩
      simp only [hFq] at M5 M6
      obtain ⟨m,hm⟩:∃ q,Nm.mul va va=q:=⟨_,rfl⟩
      simp only [hm] at M1 M6
      obtain ⟨D,hD⟩:∃ q,Nm.YQ spot along d (vec b)=q:=⟨_,rfl⟩
      simp only [hD] at M6 MS oC M9 VU
      obtain ⟨xa,hxa⟩:∃ q,Nm.div va (Nm.iW along along)=q:=⟨_,rfl⟩
      simp only [hxa] at M7 M9 VU
      obtain ⟨xb,hxb⟩:∃ q,Nm.div ⟨1,1⟩ (Nm.iW along along)=q:=⟨_,rfl⟩
      simp only [hxb] at M8 M9 VU
      obtain ⟨nb,hnb⟩:∃ q,Nm.neg xb=q:=⟨_,rfl⟩
      simp only [hnb] at M9 VU
      rw [VU] at hnx;have HNX:=hide hnx;have hsg:decide (Nm.nC D.n≤0)=false:=decide_eq_false (by omega);clear hv hva hvv hdd hE hFq hm hD hxa hxb hnb VU hnx oC;have HO:=hide HO;have HV:=hide HV;have HA:=hide HA;have M1:=hide M1;have M2:=hide M2;have M3:=hide M3;have M4:=hide M4;have M5:=hide M5;have M6:=hide M6;have MS:=hide MS;have M7:=hide M7;have M8:=hide M8;have M9:=hide M9
      go_upto_region 5 with (fail)
      go_cut [12] from 23 to 26 (fun v12 wx=>∃ yL,v12=ptr yL∧Bx wr wx [(yL,jl b,66)])
      case first=>
       go_wp2_with (first | ((with_reducible (refine dA 66 (.tmp 24) ?lx ?_));(case lx=>rfl);refine iJ hrg Tryz.underlying66 rfl nD rfl (.tmp 24) rfl rfl ?_) | ((with_reducible refine isS 66 12 25 ?_);refine iZ (((Bx.nil wr).add [.string ⟨#[]⟩,.string ⟨#[]⟩] 66).head) (jl b) nD (Ac b.1 b.2) ?_))
       go_meet;exact ⟨_,rfl,((Bx.nil wr).add [.string ⟨#[]⟩,.string ⟨#[]⟩] 66).put (jl b) rfl⟩
      case rest=>
       obtain ⟨yL,rfl,hL⟩:=hcut;clear hrg
       go_upto_region 6 with (fail)
       go_cut [13] from 26 to 30 (fun v13 wx=>∃ yM,v13=ptr yM∧Bx wr wx [(yM,bD (v),125),(yL,jl b,66)])
       case first=>
        have Lj:∀ W:World,Bx wr W [(yL,jl b,66)]→W.rangeAt (yL) 0 (jl b):=fun W h=>h.rng 0 rfl 0 _ rfl;have ZI:∀ W:World,Bx wr W [(yL,jl b,66)]→W.rangeAt (w.heap.size) 0 (bD spot):=fun W h=>((hO.get 1 rfl).below h.bw).range;have hL:=hL.drew;refine wp_region_held_drew (S:=(fun w':World=>Bx wr w' [(yL,jl b,66)])) (by kernel_rfl) ?bU (fun hHeld=>?_)
        case bU=>exact hL
        refine bP 0 Lj Tryz.underlying66 ?_;refine bP 2 ZI Tryz.underlying125 ?_;refine iF 1 4 (fun K hK=>?_) fun K hK=>?_
        · go_simp
          (go_at_call 52;refine (HO.out _ (hg.below hL.bw)).mono ?_;rintro e YZ ⟨rfl,wQ⟩)
          have hL:=hL.call wQ;refine au hK (by first | exact hL | exact hL.tail) fun hHeld=>?_;clear hK K;refine iF 3 4 (fun K hK=>?_) fun K hK=>?_
          · go_simp
            (go_at_call 94;refine (HV.out _).mono ?_;rintro e w6b ⟨rfl,DX⟩)
            have hL:=hL.call DX;refine au hK (by first | exact hL | exact hL.tail) fun hHeld=>?_;clear hK K;refine aB 4 fun K hK=>?_;go_simp;have hL:=hL.add (bD (⟨0,0⟩,⟨0,0⟩)) 125;refine au hK (hL.tail) fun hHeld=>?_;clear hK K;refine aB 5 fun K hK=>?_;refine aG hL.head (bD (v)) rfl lq (uM _) (.tmp 13) (.tmp 29) rfl rfl rfl ?_;have hL:=hL.put (bD (v)) rfl;refine au hK (hL.tail) fun hHeld=>?_;clear hK K;refine wpAnyH_done (by kernel_rfl) ?_ _;go_wp2;go_meet;exact ⟨_,rfl,hL⟩
          · go_simp
            have hL:=hL.add (bD (⟨0,0⟩,⟨0,0⟩)) 125;refine au hK (hL.tail) fun hHeld=>?_;clear hK K;refine aB 3 fun K hK=>?_;go_simp
            (go_at_call 94;refine (HV.out _).mono ?_;rintro e w6b ⟨rfl,DX⟩)
            have hL:=hL.call DX;refine au hK (by first | exact hL | exact hL.tail) fun hHeld=>?_;clear hK K;refine aB 5 fun K hK=>?_;refine aG hL.head (bD (v)) rfl lq (uM _) (.tmp 13) (.tmp 29) rfl rfl rfl ?_;have hL:=hL.put (bD (v)) rfl;refine au hK (hL.tail) fun hHeld=>?_;clear hK K;refine wpAnyH_done (by kernel_rfl) ?_ _;go_wp2;go_meet;exact ⟨_,rfl,hL⟩
        · go_simp
          have hL:=hL.add (bD (⟨0,0⟩,⟨0,0⟩)) 125;refine au hK (hL.tail) fun hHeld=>?_;clear hK K;refine aB 1 fun K hK=>?_;go_simp
          (go_at_call 52;refine (HO.out _ (hg.below hL.bw)).mono ?_;rintro e YZ ⟨rfl,wQ⟩)
          have hL:=hL.call wQ;refine au hK (by first | exact hL | exact hL.tail) fun hHeld=>?_;clear hK K;refine aB 3 fun K hK=>?_;go_simp
          (go_at_call 94;refine (HV.out _).mono ?_;rintro e w6b ⟨rfl,DX⟩)
          have hL:=hL.call DX;refine au hK (by first | exact hL | exact hL.tail) fun hHeld=>?_;clear hK K;refine aB 5 fun K hK=>?_;refine aG hL.head (bD (v)) rfl lq (uM _) (.tmp 13) (.tmp 29) rfl rfl rfl ?_;have hL:=hL.put (bD (v)) rfl;refine au hK (hL.tail) fun hHeld=>?_;clear hK K;refine wpAnyH_done (by kernel_rfl) ?_ _;go_wp2;go_meet;exact ⟨_,rfl,hL⟩
       case rest=>
        obtain ⟨yM,rfl,hL⟩:=hcut
        go_upto_region 7 with (fail)
        go_cut [14] from 30 to 33 (fun v14 wx=>∃ nR,v14=ptr nR∧Bx wr wx [(nR,ah (va),109),(yM,bD (v),125),(yL,jl b,66)])
        case first=>
         go_wp2_with (first | ((with_reducible refine dh 125 13 ?_);refine dO (hL.get 0 rfl) Tryz.underlying125 lq ?_) | ((with_reducible refine dh 125 6 ?_);refine dO ((hO.get 2 rfl).below hL.bw) Tryz.underlying125 lq ?_) | (go_at_call 95;refine (HA.out _).mono ?_;rintro e w7 ⟨rfl,hb7⟩;have hL:=hL.call hb7) | ((with_reducible refine isS 109 14 32 ?_);refine iZ ((hL.add (ah ⟨0,0⟩) 109).head) (ah (va)) aU (fE _) ?_))
         go_meet;exact ⟨_,rfl,(hL.add (ah ⟨0,0⟩) 109).put (ah (va)) rfl⟩
        case rest=>
         obtain ⟨nR,rfl,hL⟩:=hcut
         go_upto_region 8 with (fail)
         go_cut [15] from 33 to 46 (fun v15 wx=>∃ tH,v15=ptr tH∧Bx wr wx [(tH,ah (D),109),(nR,ah (va),109),(yM,bD (v),125),(yL,jl b,66)])
         case first=>
          have CQ:∀ W:World,Bx wr W [(nR,ah (va),109),(yM,bD (v),125),(yL,jl b,66)]→W.rangeAt (nR) 0 (ah (va)):=fun W h=>h.rng 0 rfl 0 _ rfl;have ZL:∀ W:World,Bx wr W [(nR,ah (va),109),(yM,bD (v),125),(yL,jl b,66)]→W.rangeAt (B10) 0 (ah (Nm.iW along along)):=fun W h=>((hO.get 0 rfl).below h.bw).range;have CS:∀ W:World,Bx wr W [(nR,ah (va),109),(yM,bD (v),125),(yL,jl b,66)]→W.rangeAt (yM) 0 (bD (v)):=fun W h=>h.rng 1 rfl 0 _ rfl;have VZ:∀ W:World,Bx wr W [(nR,ah (va),109),(yM,bD (v),125),(yL,jl b,66)]→W.rangeAt (w.heap.size+2) 0 (ah d):=fun W h=>((hO.get 3 rfl).below h.bw).range;have hL:=hL.drew;refine wp_region_held_drew (S:=(fun w':World=>Bx wr w' [(nR,ah (va),109),(yM,bD (v),125),(yL,jl b,66)])) (by kernel_rfl) ?cu (fun hHeld=>?_)
          case cu=>exact hL
          refine bP 0 CQ Tryz.underlying109 ?_;refine bP 1 CQ Tryz.underlying109 ?_;refine bP 3 ZL Tryz.underlying109 ?_;refine bP 4 CS Tryz.underlying125 ?_;refine bP 5 CS Tryz.underlying125 ?_;refine bP 7 VZ Tryz.underlying109 ?_;refine bP 8 VZ Tryz.underlying109 ?_;refine iF 2 13 (fun K hK=>?_) fun K hK=>?_
          · go_simp
            (go_at_call 97;refine (M1.out _).mono ?_;rintro e w8a ⟨rfl,IE⟩)
            have hL:=hL.call IE;refine au hK (by first | exact hL | exact hL.tail) fun hHeld=>?_;clear hK K;refine iF 6 13 (fun K hK=>?_) fun K hK=>?_
            · go_simp
              (go_at_call 95;refine (M2.out _).mono ?_;rintro e w8b ⟨rfl,OV⟩)
              have hL:=hL.call OV;refine au hK (by first | exact hL | exact hL.tail) fun hHeld=>?_;clear hK K;refine iF 9 13 (fun K hK=>?_) fun K hK=>?_
              · go_simp
                (go_at_call 97;refine (M3.out _).mono ?_;rintro e w8c ⟨rfl,IG⟩)
                have hL:=hL.call IG;refine au hK (by first | exact hL | exact hL.tail) fun hHeld=>?_;clear hK K;refine iF 10 13 (fun K hK=>?_) fun K hK=>?_
                · go_simp
                  (go_at_call 98;refine (M4.out _).mono ?_;rintro e w8d ⟨rfl,DY⟩)
                  have hL:=hL.call DY;refine au hK (by first | exact hL | exact hL.tail) fun hHeld=>?_;clear hK K;refine iF 11 13 (fun K hK=>?_) fun K hK=>?_
                  · go_simp
                    (go_at_call 97;refine (M5.out _).mono ?_;rintro e w8e ⟨rfl,zM⟩)
                    have hL:=hL.call zM;refine au hK (by first | exact hL | exact hL.tail) fun hHeld=>?_;clear hK K;refine iF 12 13 (fun K hK=>?_) fun K hK=>?_
                    · go_simp
                      (go_at_call 98;refine (M6.out _).mono ?_;rintro e Y0 ⟨rfl,wR⟩)
                      have hL:=hL.call wR;refine au hK (by first | exact hL | exact hL.tail) fun hHeld=>?_;clear hK K;refine aB 13 fun K hK=>?_;go_simp;have hL:=hL.add (ah ⟨0,0⟩) 109;refine au hK (hL.tail) fun hHeld=>?_;clear hK K;refine aB 14 fun K hK=>?_;refine aG hL.head (ah (D)) rfl aU (fE _) (.tmp 15) (.tmp 45) rfl rfl rfl ?_;have hL:=hL.put (ah (D)) rfl;refine au hK (hL.tail) fun hHeld=>?_;clear hK K;refine wpAnyH_done (by kernel_rfl) ?_ _;go_wp2;go_meet;exact ⟨_,rfl,hL⟩
                    · go_simp
                      have hL:=hL.add (ah ⟨0,0⟩) 109;refine au hK (hL.tail) fun hHeld=>?_;clear hK K;refine aB 12 fun K hK=>?_;go_simp
                      (go_at_call 98;refine (M6.out _).mono ?_;rintro e Y0 ⟨rfl,wR⟩)
                      have hL:=hL.call wR;refine au hK (by first | exact hL | exact hL.tail) fun hHeld=>?_;clear hK K;refine aB 14 fun K hK=>?_;refine aG hL.head (ah (D)) rfl aU (fE _) (.tmp 15) (.tmp 45) rfl rfl rfl ?_;have hL:=hL.put (ah (D)) rfl;refine au hK (hL.tail) fun hHeld=>?_;clear hK K;refine wpAnyH_done (by kernel_rfl) ?_ _;go_wp2;go_meet;exact ⟨_,rfl,hL⟩
                  · go_simp
                    have hL:=hL.add (ah ⟨0,0⟩) 109;refine au hK (hL.tail) fun hHeld=>?_;clear hK K;refine aB 11 fun K hK=>?_;go_simp
                    (go_at_call 97;refine (M5.out _).mono ?_;rintro e w8e ⟨rfl,zM⟩)
                    have hL:=hL.call zM;refine au hK (by first | exact hL | exact hL.tail) fun hHeld=>?_;clear hK K;refine aB 12 fun K hK=>?_;go_simp
                    (go_at_call 98;refine (M6.out _).mono ?_;rintro e Y0 ⟨rfl,wR⟩)
                    have hL:=hL.call wR;refine au hK (by first | exact hL | exact hL.tail) fun hHeld=>?_;clear hK K;refine aB 14 fun K hK=>?_;refine aG hL.head (ah (D)) rfl aU (fE _) (.tmp 15) (.tmp 45) rfl rfl rfl ?_;have hL:=hL.put (ah (D)) rfl;refine au hK (hL.tail) fun hHeld=>?_;clear hK K;refine wpAnyH_done (by kernel_rfl) ?_ _;go_wp2;go_meet;exact ⟨_,rfl,hL⟩
                · go_simp
                  have hL:=hL.add (ah ⟨0,0⟩) 109;refine au hK (hL.tail) fun hHeld=>?_;clear hK K;refine aB 10 fun K hK=>?_;go_simp
                  (go_at_call 98;refine (M4.out _).mono ?_;rintro e w8d ⟨rfl,DY⟩)
                  have hL:=hL.call DY;refine au hK (by first | exact hL | exact hL.tail) fun hHeld=>?_;clear hK K;refine aB 11 fun K hK=>?_;go_simp
                  (go_at_call 97;refine (M5.out _).mono ?_;rintro e w8e ⟨rfl,zM⟩)
                  have hL:=hL.call zM;refine au hK (by first | exact hL | exact hL.tail) fun hHeld=>?_;clear hK K;refine aB 12 fun K hK=>?_;go_simp
                  (go_at_call 98;refine (M6.out _).mono ?_;rintro e Y0 ⟨rfl,wR⟩)
                  have hL:=hL.call wR;refine au hK (by first | exact hL | exact hL.tail) fun hHeld=>?_;clear hK K;refine aB 14 fun K hK=>?_;refine aG hL.head (ah (D)) rfl aU (fE _) (.tmp 15) (.tmp 45) rfl rfl rfl ?_;have hL:=hL.put (ah (D)) rfl;refine au hK (hL.tail) fun hHeld=>?_;clear hK K;refine wpAnyH_done (by kernel_rfl) ?_ _;go_wp2;go_meet;exact ⟨_,rfl,hL⟩
              · go_simp
                have hL:=hL.add (ah ⟨0,0⟩) 109;refine au hK (hL.tail) fun hHeld=>?_;clear hK K;refine aB 9 fun K hK=>?_;go_simp
                (go_at_call 97;refine (M3.out _).mono ?_;rintro e w8c ⟨rfl,IG⟩)
                have hL:=hL.call IG;refine au hK (by first | exact hL | exact hL.tail) fun hHeld=>?_;clear hK K;refine aB 10 fun K hK=>?_;go_simp
                (go_at_call 98;refine (M4.out _).mono ?_;rintro e w8d ⟨rfl,DY⟩)
                have hL:=hL.call DY;refine au hK (by first | exact hL | exact hL.tail) fun hHeld=>?_;clear hK K;refine aB 11 fun K hK=>?_;go_simp
                (go_at_call 97;refine (M5.out _).mono ?_;rintro e w8e ⟨rfl,zM⟩)
                have hL:=hL.call zM;refine au hK (by first | exact hL | exact hL.tail) fun hHeld=>?_;clear hK K;refine aB 12 fun K hK=>?_;go_simp
                (go_at_call 98;refine (M6.out _).mono ?_;rintro e Y0 ⟨rfl,wR⟩)
                have hL:=hL.call wR;refine au hK (by first | exact hL | exact hL.tail) fun hHeld=>?_;clear hK K;refine aB 14 fun K hK=>?_;refine aG hL.head (ah (D)) rfl aU (fE _) (.tmp 15) (.tmp 45) rfl rfl rfl ?_;have hL:=hL.put (ah (D)) rfl;refine au hK (hL.tail) fun hHeld=>?_;clear hK K;refine wpAnyH_done (by kernel_rfl) ?_ _;go_wp2;go_meet;exact ⟨_,rfl,hL⟩
            · go_simp
              have hL:=hL.add (ah ⟨0,0⟩) 109;refine au hK (hL.tail) fun hHeld=>?_;clear hK K;refine aB 6 fun K hK=>?_;go_simp
              (go_at_call 95;refine (M2.out _).mono ?_;rintro e w8b ⟨rfl,OV⟩)
              have hL:=hL.call OV;refine au hK (by first | exact hL | exact hL.tail) fun hHeld=>?_;clear hK K;refine aB 9 fun K hK=>?_;go_simp
              (go_at_call 97;refine (M3.out _).mono ?_;rintro e w8c ⟨rfl,IG⟩)
              have hL:=hL.call IG;refine au hK (by first | exact hL | exact hL.tail) fun hHeld=>?_;clear hK K;refine aB 10 fun K hK=>?_;go_simp
              (go_at_call 98;refine (M4.out _).mono ?_;rintro e w8d ⟨rfl,DY⟩)
              have hL:=hL.call DY;refine au hK (by first | exact hL | exact hL.tail) fun hHeld=>?_;clear hK K;refine aB 11 fun K hK=>?_;go_simp
              (go_at_call 97;refine (M5.out _).mono ?_;rintro e w8e ⟨rfl,zM⟩)
              have hL:=hL.call zM;refine au hK (by first | exact hL | exact hL.tail) fun hHeld=>?_;clear hK K;refine aB 12 fun K hK=>?_;go_simp
              (go_at_call 98;refine (M6.out _).mono ?_;rintro e Y0 ⟨rfl,wR⟩)
              have hL:=hL.call wR;refine au hK (by first | exact hL | exact hL.tail) fun hHeld=>?_;clear hK K;refine aB 14 fun K hK=>?_;refine aG hL.head (ah (D)) rfl aU (fE _) (.tmp 15) (.tmp 45) rfl rfl rfl ?_;have hL:=hL.put (ah (D)) rfl;refine au hK (hL.tail) fun hHeld=>?_;clear hK K;refine wpAnyH_done (by kernel_rfl) ?_ _;go_wp2;go_meet;exact ⟨_,rfl,hL⟩
          · go_simp
            have hL:=hL.add (ah ⟨0,0⟩) 109;refine au hK (hL.tail) fun hHeld=>?_;clear hK K;refine aB 2 fun K hK=>?_;go_simp
            (go_at_call 97;refine (M1.out _).mono ?_;rintro e w8a ⟨rfl,IE⟩)
            have hL:=hL.call IE;refine au hK (by first | exact hL | exact hL.tail) fun hHeld=>?_;clear hK K;refine aB 6 fun K hK=>?_;go_simp
            (go_at_call 95;refine (M2.out _).mono ?_;rintro e w8b ⟨rfl,OV⟩)
            have hL:=hL.call OV;refine au hK (by first | exact hL | exact hL.tail) fun hHeld=>?_;clear hK K;refine aB 9 fun K hK=>?_;go_simp
            (go_at_call 97;refine (M3.out _).mono ?_;rintro e w8c ⟨rfl,IG⟩)
            have hL:=hL.call IG;refine au hK (by first | exact hL | exact hL.tail) fun hHeld=>?_;clear hK K;refine aB 10 fun K hK=>?_;go_simp
            (go_at_call 98;refine (M4.out _).mono ?_;rintro e w8d ⟨rfl,DY⟩)
            have hL:=hL.call DY;refine au hK (by first | exact hL | exact hL.tail) fun hHeld=>?_;clear hK K;refine aB 11 fun K hK=>?_;go_simp
            (go_at_call 97;refine (M5.out _).mono ?_;rintro e w8e ⟨rfl,zM⟩)
            have hL:=hL.call zM;refine au hK (by first | exact hL | exact hL.tail) fun hHeld=>?_;clear hK K;refine aB 12 fun K hK=>?_;go_simp
            (go_at_call 98;refine (M6.out _).mono ?_;rintro e Y0 ⟨rfl,wR⟩)
            have hL:=hL.call wR;refine au hK (by first | exact hL | exact hL.tail) fun hHeld=>?_;clear hK K;refine aB 14 fun K hK=>?_;refine aG hL.head (ah (D)) rfl aU (fE _) (.tmp 15) (.tmp 45) rfl rfl rfl ?_;have hL:=hL.put (ah (D)) rfl;refine au hK (hL.tail) fun hHeld=>?_;clear hK K;refine wpAnyH_done (by kernel_rfl) ?_ _;go_wp2;go_meet;exact ⟨_,rfl,hL⟩
         case rest=>
          obtain ⟨tH,rfl,hL⟩:=hcut
          go_upto_region 11 with (first | ((with_reducible refine dh 109 15 ?_);refine dO (hL.head) Tryz.underlying109 aU ?_) | (go_at_call 83;refine (MS.out _).mono ?_;rintro e w9 ⟨rfl,xU⟩;have hL:=hL.call xU))
          go_cut [16] from 46 to 61 (fun v16 wx=>∃ Nz,v16=ptr Nz∧Bx wr wx [(Nz,aT (xa,xb,D),128),(tH,ah (D),109),(nR,ah (va),109),(yM,bD (v),125),(yL,jl b,66)])
          case first=>
           have IY:∀ W:World,Bx wr W [(tH,ah (D),109),(nR,ah (va),109),(yM,bD (v),125),(yL,jl b,66)]→W.rangeAt (nR) 0 (ah (va)):=fun W h=>h.rng 1 rfl 0 _ rfl;have O4:∀ W:World,Bx wr W [(tH,ah (D),109),(nR,ah (va),109),(yM,bD (v),125),(yL,jl b,66)]→W.rangeAt (B10) 0 (ah (Nm.iW along along)):=fun W h=>((hO.get 0 rfl).below h.bw).range;have IX:∀ W:World,Bx wr W [(tH,ah (D),109),(nR,ah (va),109),(yM,bD (v),125),(yL,jl b,66)]→W.rangeAt (tH) 0 ([.int .i64 (D).n,.slice none 0 0,.int .i64 (D).d,.slice none 0 0]):=fun W h=>h.rng 0 rfl 0 _ rfl;have hL:=hL.drew;refine wp_region_held_drew (S:=(fun w':World=>Bx wr w' [(tH,ah (D),109),(nR,ah (va),109),(yM,bD (v),125),(yL,jl b,66)])) (by kernel_rfl) ?dF (fun hHeld=>?_)
           case dF=>exact hL
           refine bP 0 IY Tryz.underlying109 ?_;refine bP 1 O4 Tryz.underlying109 ?_;refine bP 4 O4 Tryz.underlying109 ?_;refine bP 6 IX Tryz.underlying109 ?_;refine iF 2 8 (fun K hK=>?_) fun K hK=>?_
           · go_simp
             (go_at_call 99;refine (M7.out _).mono ?_;rintro e amr ⟨rfl,OM⟩)
             have hL:=hL.call OM;refine au hK (by first | exact hL | exact hL.tail) fun hHeld=>?_;clear hK K;refine iF 3 8 (fun K hK=>?_) fun K hK=>?_
             · go_simp
               (go_at_call 100;refine (f_any 1 _).mono ?_;rintro e af7 ⟨rfl,FI⟩)
               have hL:=hL.call FI;refine au hK (by first | exact hL | exact hL.tail) fun hHeld=>?_;clear hK K;refine iF 5 8 (fun K hK=>?_) fun K hK=>?_
               · go_simp
                 (go_at_call 99;refine (M8.out _).mono ?_;rintro e Yy ⟨rfl,zK⟩)
                 have hL:=hL.call zK;refine au hK (by first | exact hL | exact hL.tail) fun hHeld=>?_;clear hK K;refine aA 7 ?_;refine aB 8 fun K hK=>?_;go_simp;have hL:=hL.add (aT (⟨0,0⟩,⟨0,0⟩,⟨0,0⟩)) 128;refine au hK (hL.tail) fun hHeld=>?_;clear hK K;refine aB 9 fun K hK=>?_;refine aG hL.head (aT (xa,xb,D)) rfl gQ (Au _) (.tmp 16) (.tmp 60) rfl rfl rfl ?_;have hL:=hL.put (aT (xa,xb,D)) rfl;refine au hK (hL.tail) fun hHeld=>?_;clear hK K;refine wpAnyH_done (by kernel_rfl) ?_ _;go_wp2;go_meet;exact ⟨_,rfl,hL⟩
               · go_simp
                 have hL:=hL.add (aT (⟨0,0⟩,⟨0,0⟩,⟨0,0⟩)) 128;refine au hK (hL.tail) fun hHeld=>?_;clear hK K;refine aB 5 fun K hK=>?_;go_simp
                 (go_at_call 99;refine (M8.out _).mono ?_;rintro e Yy ⟨rfl,zK⟩)
                 have hL:=hL.call zK;refine au hK (by first | exact hL | exact hL.tail) fun hHeld=>?_;clear hK K;refine aA 7 ?_;refine aB 9 fun K hK=>?_;refine aG hL.head (aT (xa,xb,D)) rfl gQ (Au _) (.tmp 16) (.tmp 60) rfl rfl rfl ?_;have hL:=hL.put (aT (xa,xb,D)) rfl;refine au hK (hL.tail) fun hHeld=>?_;clear hK K;refine wpAnyH_done (by kernel_rfl) ?_ _;go_wp2;go_meet;exact ⟨_,rfl,hL⟩
             · go_simp
               have hL:=hL.add (aT (⟨0,0⟩,⟨0,0⟩,⟨0,0⟩)) 128;refine au hK (hL.tail) fun hHeld=>?_;clear hK K;refine aB 3 fun K hK=>?_;go_simp
               (go_at_call 100;refine (f_any 1 _).mono ?_;rintro e af7 ⟨rfl,FI⟩)
               have hL:=hL.call FI;refine au hK (by first | exact hL | exact hL.tail) fun hHeld=>?_;clear hK K;refine aB 5 fun K hK=>?_;go_simp
               (go_at_call 99;refine (M8.out _).mono ?_;rintro e Yy ⟨rfl,zK⟩)
               have hL:=hL.call zK;refine au hK (by first | exact hL | exact hL.tail) fun hHeld=>?_;clear hK K;refine aA 7 ?_;refine aB 9 fun K hK=>?_;refine aG hL.head (aT (xa,xb,D)) rfl gQ (Au _) (.tmp 16) (.tmp 60) rfl rfl rfl ?_;have hL:=hL.put (aT (xa,xb,D)) rfl;refine au hK (hL.tail) fun hHeld=>?_;clear hK K;refine wpAnyH_done (by kernel_rfl) ?_ _;go_wp2;go_meet;exact ⟨_,rfl,hL⟩
           · go_simp
             have hL:=hL.add (aT (⟨0,0⟩,⟨0,0⟩,⟨0,0⟩)) 128;refine au hK (hL.tail) fun hHeld=>?_;clear hK K;refine aB 2 fun K hK=>?_;go_simp
             (go_at_call 99;refine (M7.out _).mono ?_;rintro e amr ⟨rfl,OM⟩)
             have hL:=hL.call OM;refine au hK (by first | exact hL | exact hL.tail) fun hHeld=>?_;clear hK K;refine aB 3 fun K hK=>?_;go_simp
             (go_at_call 100;refine (f_any 1 _).mono ?_;rintro e af7 ⟨rfl,FI⟩)
             have hL:=hL.call FI;refine au hK (by first | exact hL | exact hL.tail) fun hHeld=>?_;clear hK K;refine aB 5 fun K hK=>?_;go_simp
             (go_at_call 99;refine (M8.out _).mono ?_;rintro e Yy ⟨rfl,zK⟩)
             have hL:=hL.call zK;refine au hK (by first | exact hL | exact hL.tail) fun hHeld=>?_;clear hK K;refine aA 7 ?_;refine aB 9 fun K hK=>?_;refine aG hL.head (aT (xa,xb,D)) rfl gQ (Au _) (.tmp 16) (.tmp 60) rfl rfl rfl ?_;have hL:=hL.put (aT (xa,xb,D)) rfl;refine au hK (hL.tail) fun hHeld=>?_;clear hK K;refine wpAnyH_done (by kernel_rfl) ?_ _;go_wp2;go_meet;exact ⟨_,rfl,hL⟩
          case rest=>
           obtain ⟨Nz,rfl,hL⟩:=hcut
           go_upto_region 12 with (fail)
           have IZ:∀ W:World,Hs W [(Nz,aT (xa,xb,D),128),(tH,ah (D),109),(nR,ah (va),109),(yM,bD (v),125),(yL,jl b,66)]→W.rangeAt (Nz) 0 ([.int .i64 (xa).n,.slice none 0 0,.int .i64 (xa).d,.slice none 0 0]):=fun W h=>h.rng 0 rfl 0 _ rfl;have I5:∀ W:World,Hs W [(Nz,aT (xa,xb,D),128),(tH,ah (D),109),(nR,ah (va),109),(yM,bD (v),125),(yL,jl b,66)]→W.rangeAt (Nz) 4 (ah (xb)):=fun W h=>h.rng 0 rfl 4 _ rfl;have I7:∀ W:World,Hs W [(Nz,aT (xa,xb,D),128),(tH,ah (D),109),(nR,ah (va),109),(yM,bD (v),125),(yL,jl b,66)]→W.rangeAt (tH) 0 ([.int .i64 (D).n,.slice none 0 0,.int .i64 (D).d,.slice none 0 0]):=fun W h=>h.rng 1 rfl 0 _ rfl;have I4:∀ W:World,Hs W [(Nz,aT (xa,xb,D),128),(tH,ah (D),109),(nR,ah (va),109),(yM,bD (v),125),(yL,jl b,66)]→W.rangeAt (Nz) 0 ([.int .i64 (xa).n,.slice none 0 0,.int .i64 (xa).d,.slice none 0 0,.int .i64 (xb).n,.slice none 0 0,.int .i64 (xb).d,.slice none 0 0,.int .i64 (D).n,.slice none 0 0,.int .i64 (D).d,.slice none 0 0]):=fun W h=>h.rng 0 rfl 0 _ rfl;have hL:=hL.drew;refine wp_region_held_drew (S:=(fun w':World=>Hs w' [(Nz,aT (xa,xb,D),128),(tH,ah (D),109),(nR,ah (va),109),(yM,bD (v),125),(yL,jl b,66)])) (by kernel_rfl) ?iK (fun hHeld=>?_)
           case iK=>exact hL.hs
           refine aA 0 ?_;refine aA 1 ?_;refine bP 2 IZ Tryz.underlying109 ?_;refine aA 3 ?_;refine bP 4 I5 Tryz.underlying109 ?_;refine bP 6 I7 Tryz.underlying109 ?_;refine bP 8 I4 Tryz.underlying128 ?_;refine aB 5 fun K hK=>?_;go_simp
           (go_at_call 101;refine (M9.out _).mono ?_;rintro e Yz ⟨rfl,OO⟩)
           have hL:=hL.call OO;refine au hK (hL.hs) fun hHeld=>?_;clear hK K;refine aA 7 ?_;refine aA 9 ?_;refine aB 10 fun K hK=>?_;go_simp;refine au hK ((hL.alloc _).hs) fun hHeld=>?_;clear hK K;refine aB 11 fun K hK=>?_;refine step_append_lies _ (by rfl) _ _ _ (by rfl) Dq 130 i0 (.agg #[.int .i64 0,.slice none 0 0,.int .i64 0,.slice none 0 0,.int .i64 0,.slice none 0 0,.int .i64 0,.slice none 0 0,.int .i64 0,.slice none 0 0,.int .i64 0,.slice none 0 0,.int .i64 0,.slice none 0 0,.int .i64 0,.slice none 0 0,.int .i64 0,.slice none 0 0,.int .i64 0,.slice none 0 0,.int .i64 0,.slice none 0 0,.int .i64 0,.slice none 0 0,.bool false]) 25 392 Tryz.underlying123 hi0 hz0 hz1 hz2 rfl (by omega) _ _ _ (by rfl) ((hOw.out hL.bw).alloc _) ⟨Yz.heap.size,0,none⟩ 1 1 (dV ((xa,nb,D),(xa,xb,D))) (by rfl) (by rfl) (jU _ _ _ _ rfl) (Ir _) (by omega) (by simp only [maxLen];omega) (by omega) (by have:=hL.bw.size;simp;omega) (Yz.heap.size+1) (by simp) ?_;intro g1 cap w7 ZB IW ata atL;have hs7:=(hL.alloc (.cells (dV ((xa,nb,D),(xa,xb,D))).toArray 130)).hs.grown IW (fun p hp e=>by have h1:=(hL.bx p hp).1;have h2:=Zk _ e;omega);refine au hK (hs7) fun hHeld=>?_;clear hK K;refine aA 12 ?_;refine wpAnyH_done (by kernel_rfl) ?_ _;go_wp2
           go_roundw
           case rel=>
            refine ⟨k+1,_,by omega,by go_num,rfl,?_,by have:=IW.size;have:=hL.bw.size;simp at*;omega,?_⟩
            · rw [HNX.out]
              exact ZB
            · exact ((hO.call (hL.alloc _).bw).grown hDw hOD IW (fun b e=>ahK _ e))
           case measure=>simp [intOf];omega
    · obtain rfl:k=l.length:=by omega
      rw [List.take_length] at hown;have hown2:=hown;have HW:=hide hown;clear hown hown2;obtain ⟨A2,c2,rfl⟩:=sU HW.out;go_wp2;go_ret;exact ⟨A2,c2,rfl,Reads.Jd HW.out (fun g hg=>by omega) (by omega),hO.bw⟩
theorem wF.lt {W:World} {S:Nat→Prop} {b o c:Nat} {l:List En} (h:wF W S (some ⟨b,o,none⟩) c l) (hl:0<l.length):b<W.heap.size:=by
 obtain ⟨b',o',e,_,hlt,_⟩:=Reads.at_ h.1 hl
 injection e with e
 injection e with e1 e2
 subst e1;exact hlt
section
variable {w W W':World} {L:List (Nat × List Value × TypeId)} {B e size k g:Nat} {v:Value} {xs:List Value} {cs:List Value} {t:TypeId}
theorem Bx.grow {row:Option Nat} (h:Bx w W L) (hg:W.grownBy W' row) (hr:∀ b,row=some b→w.heap.size≤b) (hL:∀ p∈L,row≠some p.1):Bx w W' L:=
 ⟨h.bw.grown hg h.bw.size hr,fun p hp=>⟨(h.bx p hp).1,(h.bx p hp).2.blk (hg.block p.1 (h.bx p hp).2.lt (fun e=>hL p hp e.symm))⟩,h.nd⟩
end
section
variable {w W W':World} {L L':List (Nat × List Value × TypeId)} {B e size k:Nat} {v:Value} {xs:List Value}
end
theorem N8 {g:Sk.Game} {s:Sk.State} {e:Sk.Entry} (h:Sk.Ok g s) (he:Sk.jc g e=0):iQ g s e=0:=by
 unfold iQ;rw [Sk.kL.2 h,he];rfl
theorem PG {g:Sk.Game} {s:Sk.State} {e:Sk.Entry} (h:Sk.Ok g s) (he:Sk.jc g e=0):Kw g s e=Sk.legal g s e∧PN g s e=(if Sk.legal g s e=0 then 0 else 18)∧(Sk.legal g s e=0→XP g s e=Sk.next g s e):=by
 have h1:=N8 h he
 have h2:Kw g s e=Sk.legal g s e:=by unfold Kw;rw [if_pos h1]
 have h3:PN g s e=(if Sk.legal g s e=0 then 0 else 18):=by
  unfold PN
  rw [qK,h1,h2]
  by_cases hl:Sk.legal g s e=0 <;> simp [hl,jA]
 exact ⟨h2,h3,fun hl=>by unfold XP;rw [h3,if_pos hl];rfl⟩
theorem Ph {g:Sk.Game} {s:Sk.State} {e:Sk.Entry} (h:Sk.Ok g s) (he:Sk.jc g e=0) (hl:Sk.legal g s e=0) (hk:e.kind=Sk.dW):Kr g s e=0∧UM g s e=Sk.judge g s e:=by
 have h1:Ll g s e=0:=by unfold Ll;rw [qK,N8 h he];simp [hk,jA]
 have h2:Kr g s e=0:=by unfold Kr;rw [h1];simp [hl]
 exact ⟨h2,by unfold UM;rw [if_pos h2]⟩
theorem gJ (S:Nat→Prop) (c b:ByteArray) (r:List ByteArray) (A:Option Addr) (n:Nat) (w:World) (h:kF w S A n (b::r)):Calls Tryz.prog 61 #[.string c,.slice A (r.length+1) n] w fun e w'=>e= .returned (wC ⟨Sk.dG c b r,A,n,A,n⟩)∧Below w.heap.size w w':=by
 obtain ⟨p1,p2,p3⟩:=h.bd
 simp only [List.length_cons] at p1 p3
 obtain ⟨bb,oo,rfl,_,_,_⟩:=h.at_ 0 (by simp)
 have q1:(1:Int)≤(n:Int):=by omega
 go_enter Tryz.func61,Tryz.ntmps61
 have hL:=(Bx.nil w).add [.string ⟨#[]⟩,.string ⟨#[]⟩,.slice none 0 0,.slice none 0 0,.int .i64 0] 41
 go_wp2_with (((with_reducible refine isS 41 4 9 ?_);refine iZ (hL.head) (fC ⟨Sk.dG c b r,some ⟨bb,oo,none⟩,n,some ⟨bb,oo,none⟩,n⟩) bY (TG _) ?_))
 have hZ:=hL.put (fC ⟨Sk.dG c b r,some ⟨bb,oo,none⟩,n,some ⟨bb,oo,none⟩,n⟩) rfl;exact bodyPost_ret (aP (p:=4) hZ.head Tryz.underlying41 rfl bY rfl _ rfl) rfl ⟨rfl,hZ.bw⟩
theorem Vr (W:World) (G:Nat) (hG:W.heap.size=G):Calls Tryz.prog 40 #[.slice (some ⟨G,0,none⟩) 2 2] (W.alloc (.cells #[.int .i64 0,.int .i64 0] 31)) fun e w'=>e= .returned (.int .i64 0)∧w'=W.alloc (.cells #[.int .i64 0,.int .i64 0] 31):=by
 subst hG;refine (yI (fun _=>True) _ 2 2 _ (kX.lit W _ [0,0] (by simp) _ trivial)).mono ?_
 rintro e w' ⟨rfl,rfl⟩
 exact ⟨rfl,rfl⟩
theorem wo (W:World) (G:Nat) (hG:W.heap.size=G):Calls Tryz.prog 40 #[.slice (some ⟨G,0,none⟩) 3 3] (W.alloc (.cells #[.int .i64 0,.int .i64 0,.int .i64 0] 31)) fun e w'=>e= .returned (.int .i64 0)∧w'=W.alloc (.cells #[.int .i64 0,.int .i64 0,.int .i64 0] 31):=by
 subst hG;refine (yI (fun _=>True) _ 3 3 _ (kX.lit W _ [0,0,0] (by simp) _ trivial)).mono ?_
 rintro e w' ⟨rfl,rfl⟩
 exact ⟨rfl,rfl⟩
theorem D7 (A:Option Addr) (c:Nat) (v:Value) (w:World):Calls Tryz.prog 77 #[.slice A 0 c,v] w fun e w'=>e= .returned (.int .i64 (-1))∧w'=w:=by
 go_enter Tryz.func77,Tryz.ntmps77
 go_wp2
 go_loopw [8] (fun i wr=>i= .int .i64 0∧wr=w) (fun _ _=>0)
 case atStart=>exact ⟨rfl,rfl⟩
 case round=>
  obtain ⟨rfl,rfl⟩:=hrel;go_wp2;go_ret;exact ⟨rfl,rfl⟩
theorem DU (A:Option Addr) (c:Nat) (v:Value) (w:World):Calls Tryz.prog 199 #[.slice A 0 c,v] w fun e w'=>e= .returned (.bool false)∧w'=w:=by
 go_enter Tryz.func199,Tryz.ntmps199
 go_wp2_with (go_at_call 77;refine (D7 A c v _).mono ?_;rintro e w1 ⟨rfl,hw1⟩;rw [hw1])
 go_ret;exact ⟨rfl,rfl⟩
theorem yP (v:Value) (w:World):Calls Tryz.prog 141 #[.slice none 0 0,.int .i64 12,v] w fun e w'=>e= .returned (.int .i64 0)∧w'=w:=by
 go_enter Tryz.func141,Tryz.ntmps141
 go_wp2
 go_loopw [16] (fun i wr=>i= .int .i64 0∧wr=w) (fun _ _=>0)
 case atStart=>exact ⟨rfl,rfl⟩
 case round=>
  obtain ⟨rfl,rfl⟩:=hrel;go_wp2;go_ret;exact ⟨rfl,rfl⟩
theorem KC (S:Nat→Prop) (A B:Option Addr) (c d:Nat) (w:World) (hL:oG w S A c corners):
 Calls Tryz.prog 44 #[rZ A c B d,pO (⟨50,1⟩,⟨25,1⟩)] w fun e w'=>e= .returned (.int .i64 1)∧Below w.heap.size w w':=by
 have:=KJ S A B c d (⟨50,1⟩,⟨25,1⟩) w hL (by decide)
 rwa [show yR (⟨50,1⟩,⟨25,1⟩) 4=1 by decide] at this
theorem Bz (S:Nat→Prop) (A B P:Option Addr) (c d c':Nat) (w:World) (hg:Glob w) (hL:oG w S A c corners):
 Calls Tryz.prog 144 #[rZ A c B d,.agg #[.string iL,.string bM,.string dn],.slice P 0 c'] w fun e w'=>e= .returned (.int .i64 0)∧Below w.heap.size w w':=by
 go_enter Tryz.func144,Tryz.ntmps144
 go_upto_region 0 with (fail)
 go_cut [3,4] (fun v3 v4 wx=>v3=ptr w.heap.size∧v4=ptr (w.heap.size+1)∧aC w wx [(aZ A c B d,72),([.string iL,.string bM,.string dn],68)])
 case first=>
  go_wp2;go_meet;exact ⟨rfl,rfl,(((aC.nil w).new (by simp) (aZ A c B d) _).new (by simp) ([.string iL,.string bM,.string dn]) _)⟩
 case rest=>
  obtain ⟨rfl,rfl,hB⟩:=hcut;have hB0:=hB
  go_upto_region 2 with (go_at_call 199;refine (DU _ _ _ _).mono ?_;rintro e w1 ⟨rfl,hw1⟩;rw [hw1];clear hw1)
  refine wp_region_held_drew (S:=(fun w':World=>w'.cell? ⟨w.heap.size+1,0,none⟩=some (.string iL)∧w'.cell? ⟨w.heap.size+1,1,none⟩=some (.string bM)∧w'.cell? ⟨w.heap.size+1,2,none⟩=some (.string dn))) (by kernel_rfl) ?jF (fun hHeld=>?_)
  case jF=>exact ⟨((hB0.drew).get 1 rfl).cell (j:=0) rfl,((hB0.drew).get 1 rfl).cell (j:=1) rfl,((hB0.drew).get 1 rfl).cell (j:=2) rfl⟩
  refine tk 0 ?_;refine tk 1 ?_;refine tk 5 ?_;refine tk 7 ?_;refine tk 8 ?_;refine tr 2 fun K hK=>?_;go_simp
  (go_at_call 76;refine (LJ _).mono ?_;rintro e w1 ⟨rfl,hb1⟩)
  have hB1:=hB0.drew.call (by simp) hb1;refine hK.out _ _ ?aef (fun hHeld=>?_)
  case aef=>(exact ⟨((hB1).get 1 rfl).cell (j:=0) rfl,((hB1).get 1 rfl).cell (j:=1) rfl,((hB1).get 1 rfl).cell (j:=2) rfl⟩)
  clear hK K
  try simp only [Act.put,la,lz,ls]
  refine tk 3 ?_;refine tr 4 fun K hK=>?_;go_simp
  (go_at_call 41;refine (iT _ _).mono ?_;rintro e oh ⟨rfl,oN⟩;rw [← oN];clear oN)
  refine hK.out _ _ ?aem (fun hHeld=>?_)
  case aem=>(exact ⟨((hB1).get 1 rfl).cell (j:=0) rfl,((hB1).get 1 rfl).cell (j:=1) rfl,((hB1).get 1 rfl).cell (j:=2) rfl⟩)
  clear hK K
  try simp only [Act.put,la,lz,ls]
  refine tr 6 fun K hK=>?_;go_simp
  (go_at_call 41;refine (iT _ _).mono ?_;rintro e oh ⟨rfl,oN⟩;rw [← oN];clear oN)
  refine hK.out _ _ ?QY (fun hHeld=>?_)
  case QY=>(exact ⟨((hB1).get 1 rfl).cell (j:=0) rfl,((hB1).get 1 rfl).cell (j:=1) rfl,((hB1).get 1 rfl).cell (j:=2) rfl⟩)
  clear hK K
  try simp only [Act.put,la,lz,ls]
  refine tr 9 fun K hK=>?_;go_simp
  (go_at_call 42;refine (kH bM dn _ (hg.below hB1.bw) tq wz).mono ?_;rintro e w2 ⟨rfl,hb2⟩)
  have hB2:=hB1.call (by simp) hb2;have hB3:=hB2.alloc (by simp) (.cells #[.int .i64 0,.int .i64 0,.int .i64 0] 31);refine hK.out _ _ ?Rk (fun hHeld=>?_)
  case Rk=>(exact ⟨((hB2).get 1 rfl).cell (j:=0) rfl,((hB2).get 1 rfl).cell (j:=1) rfl,((hB2).get 1 rfl).cell (j:=2) rfl⟩)
  clear hK K
  try simp only [Act.put,la,lz,ls]
  refine tr 10 fun K hK=>?_;go_simp;refine hK.out _ _ ?Yg (fun hHeld=>?_)
  case Yg=>(exact ⟨((hB3).get 1 rfl).cell (j:=0) rfl,((hB3).get 1 rfl).cell (j:=1) rfl,((hB3).get 1 rfl).cell (j:=2) rfl⟩)
  clear hK K
  try simp only [Act.put,la,lz,ls]
  refine tr 11 fun K hK=>?_;go_simp
  (go_at_call 40;refine (wo _ _ rfl).mono ?_;rintro e w5 ⟨rfl,hw5⟩;rw [hw5];clear hw5)
  refine hK.out _ _ ?Yh (fun hHeld=>?_)
  case Yh=>(exact ⟨((hB3).get 1 rfl).cell (j:=0) rfl,((hB3).get 1 rfl).cell (j:=1) rfl,((hB3).get 1 rfl).cell (j:=2) rfl⟩)
  clear hK K
  try simp only [Act.put,la,lz,ls]
  refine tk 12 ?_;refine wpAnyH_done (by kernel_rfl) ?_ _
  go_upto_region 5 with (fail)
  refine wp_region_held_drew (S:=(fun w':World=>w'.cell? ⟨w.heap.size,0,none⟩=some (.slice A 4 c)∧w'.cell? ⟨w.heap.size,1,none⟩=some (.int .i64 1)∧w'.cell? ⟨w.heap.size,2,none⟩=some (.slice none 0 0)∧w'.cell? ⟨w.heap.size,3,none⟩=some (.slice B 1 d)∧w'.cell? ⟨w.heap.size+1,0,none⟩=some (.string iL)∧w'.cell? ⟨w.heap.size+1,1,none⟩=some (.string bM)∧w'.cell? ⟨w.heap.size+1,2,none⟩=some (.string dn))) (by kernel_rfl) ?kP (fun hHeld=>?_)
  case kP=>exact ⟨((hB3.drew).aj rfl).cell (j:=0) rfl,((hB3.drew).aj rfl).cell (j:=1) rfl,((hB3.drew).aj rfl).cell (j:=2) rfl,((hB3.drew).aj rfl).cell (j:=3) rfl,((hB3.drew).get 1 rfl).cell (j:=0) rfl,((hB3.drew).get 1 rfl).cell (j:=1) rfl,((hB3.drew).get 1 rfl).cell (j:=2) rfl⟩
  refine tk 0 ?_;refine tk 1 ?_;refine tk 2 ?_;refine tr 3 fun K hK=>?_;go_simp
  (go_at_call 43;refine (zk _ (hg.below hB3.drew.bw)).mono ?_;rintro e w4 ⟨rfl,hb4⟩)
  have hB4:=hB3.drew.call (by simp) hb4;refine hK.out _ _ ?QD (fun hHeld=>?_)
  case QD=>(exact ⟨((hB4).aj rfl).cell (j:=0) rfl,((hB4).aj rfl).cell (j:=1) rfl,((hB4).aj rfl).cell (j:=2) rfl,((hB4).aj rfl).cell (j:=3) rfl,((hB4).get 1 rfl).cell (j:=0) rfl,((hB4).get 1 rfl).cell (j:=1) rfl,((hB4).get 1 rfl).cell (j:=2) rfl⟩)
  clear hK K
  try simp only [Act.put,la,lz,ls]
  refine tr 4 fun K hK=>?_;go_simp
  (go_at_call 44;refine (KC S A B c d _ (Reads.below hL hB4.bw)).mono ?_;rintro e w5 ⟨rfl,hb5⟩)
  have eH:=hB4.call (by simp) hb5;refine hK.out _ _ ?QE (fun hHeld=>?_)
  case QE=>(exact ⟨((eH).aj rfl).cell (j:=0) rfl,((eH).aj rfl).cell (j:=1) rfl,((eH).aj rfl).cell (j:=2) rfl,((eH).aj rfl).cell (j:=3) rfl,((eH).get 1 rfl).cell (j:=0) rfl,((eH).get 1 rfl).cell (j:=1) rfl,((eH).get 1 rfl).cell (j:=2) rfl⟩)
  clear hK K
  try simp only [Act.put,la,lz,ls]
  refine tk 5 ?_;refine tr 6 fun K hK=>?_;go_simp
  (go_at_call 41;refine (iT _ _).mono ?_;rintro e oh ⟨rfl,oN⟩;rw [← oN];clear oN)
  refine hK.out _ _ ?adT (fun hHeld=>?_)
  case adT=>(exact ⟨((eH).aj rfl).cell (j:=0) rfl,((eH).aj rfl).cell (j:=1) rfl,((eH).aj rfl).cell (j:=2) rfl,((eH).aj rfl).cell (j:=3) rfl,((eH).get 1 rfl).cell (j:=0) rfl,((eH).get 1 rfl).cell (j:=1) rfl,((eH).get 1 rfl).cell (j:=2) rfl⟩)
  clear hK K
  try simp only [Act.put,la,lz,ls]
  refine tk 7 ?_;refine wpAnyH_done (by kernel_rfl) ?_ _;go_wp2;go_ret;exact ⟨rfl,eH.bw⟩
theorem DK (S:Nat→Prop) (A B:Option Addr) (c d:Nat) (w:World) (hg:Glob w) (hL:oG w S A c corners) (hS:Reads w S 3 B 1 d [.string iL,.string bM,.string dn]):
 Calls Tryz.prog 143 #[.slice B 1 d,.int .i64 256,.func (.func 144) #[rZ A c B d] #[]] w fun e w'=>e= .returned (.int .i64 0)∧Below w.heap.size w w':=by
 have eg:∀ args w,(callFunc 144 args).run Tryz.prog w= .ok (.enter 144 args) w:=enters_of Tryz.func144 (by kernel_rfl) rfl;obtain ⟨bd1,bd2,_⟩:=hS.bd;obtain ⟨b,o,rfl,hb,c0,c1,c2⟩:=uK hS;have HC:∀ (_:Nat) (W:World),Glob W→oG W S A c corners→Calls Tryz.prog 144 #[rZ A c (some ⟨b,o,none⟩) d,.agg #[.string iL,.string bM,.string dn],.slice (some ⟨b,o,none⟩) 0 d] W fun e w'=>e= .returned (.int .i64 0)∧Below W.heap.size W w':=fun _ W h h'=>Bz S A _ _ c d d W h h';have HC:=hide HC;clear hS
 go_enter Tryz.func143,Tryz.ntmps143
 go_wp2
 go_loopw [16] (fun i wr=>∃ k:Nat,k≤1∧i= .int .i64 k∧Below w.heap.size w wr) (fun i _=>1 - (intOf i).toNat)
 case atStart=>exact ⟨0,by omega,rfl,Below.refl _ _⟩
 case round=>
  obtain ⟨k,hk,rfl,hbw⟩:=hrel;have hgr:=hg.below hbw;have d0:wr.cell? ⟨b,o,none⟩=some (.string iL):=(hbw.cell (p:=⟨b,o,none⟩) hb).trans c0;have d1:wr.cell? ⟨b,o+1,none⟩=some (.string bM):=(hbw.cell (p:=⟨b,o+1,none⟩) hb).trans c1;have d2:wr.cell? ⟨b,o+2,none⟩=some (.string dn):=(hbw.cell (p:=⟨b,o+2,none⟩) hb).trans c2;clear c0 c1 c2
  by_cases h0:k=0
  · subst h0
    have hX:=Held.new wr [.string iL,.string bM,.string dn] 68;have hbx:=(Below.refl wr.heap.size wr).alloc (Nat.le_refl _) (.cells #[.string iL,.string bM,.string dn] 68)
    go_upto_region 6 with (fail)
    refine wp_region_held_drew (S:=(fun w':World=>w'.cell? ⟨wr.heap.size,0,none⟩=some (.string iL)∧w'.cell? ⟨wr.heap.size,1,none⟩=some (.string bM)∧w'.cell? ⟨wr.heap.size,2,none⟩=some (.string dn))) (by kernel_rfl) ?kQ (fun hHeld=>?_)
    case kQ=>exact ⟨(hX.drew).cell (j:=0) rfl,(hX.drew).cell (j:=1) rfl,(hX.drew).cell (j:=2) rfl⟩
    refine tk 0 ?_;refine tk 1 ?_;refine tk 2 ?_;refine tk 3 ?_;refine tk 4 ?_;refine tr 5 fun K hK=>?_;go_simp
    (go_at_fn 144;refine (HC.out wr.heap.size _ (hgr.below hbx.drew) (Reads.below hL (hbw.trans (hbx.drew.mono hbw.size)))).mono ?_;rintro e w5 ⟨rfl,hb5⟩)
    have hX2:=hX.drew.below hb5;refine hK.out _ _ ?aeQ (fun hHeld=>?_)
    case aeQ=>(exact ⟨(hX2).cell (j:=0) rfl,(hX2).cell (j:=1) rfl,(hX2).cell (j:=2) rfl⟩)
    clear hK K
    try simp only [Act.put,la,lz,ls]
    refine tk 6 ?_;refine wpAnyH_done (by kernel_rfl) ?_ _;go_wp2;exact ⟨⟨1,by omega,rfl,hbw.trans ((hbx.drew.trans (hb5.mono hbx.drew.size)).mono hbw.size)⟩,by simp [intOf]⟩
  · obtain rfl:k=1:=by omega
    go_wp2;go_ret;exact ⟨rfl,hbw⟩
def U4 (k:Nat):Value:=U3 (corners.getD k ⟨0,0⟩)
def Hq (n:Nat):Array MapEntry:=((List.range n).map fun i=>{key:=U4 i,val:= .bool true,born:=i }).toArray
theorem PW (n:Nat):(Hq n).push {key:=U4 n,val:= .bool true,born:=n }=Hq (n+1):=by
 simp [Hq,List.range_succ]
theorem VK (k:Nat) (hk:k<4) (b:Bool) (W:World):(Instr.checkKey b 10000 62 (U4 k)).run Tryz.prog W= .ok () W:=by
 obtain rfl | rfl | rfl | rfl:k=0∨k=1∨k=2∨k=3:=by omega
 all_goals (cases b <;> kernel_rfl)
theorem JW (k:Nat) (hk:k<4) (W:World):(Instr.findKey 62 (U4 k) (Hq k).toList).run Tryz.prog W= .ok none W:=by
 obtain rfl | rfl | rfl | rfl:k=0∨k=1∨k=2∨k=3:=by omega
 all_goals kernel_rfl
theorem UU (k:Nat) (hk:k<4) {W:World} {G:Nat} (hb:W.heap[G]? =some (.map (Hq k) k)):(Instr.lookup 246 (.map (some G)) (U4 k) false).run Tryz.prog W= .ok (.bool false) W:=by
 have hck:=fun b=>VK k hk b W;have hf:=JW k hk W
 have hz:(zeroValue 4).run Tryz.prog W= .ok (.bool false) W:=by kernel_rfl
 simp [Instr.lookup,run_underlying Tryz.underlying246,oU hb,hck,hf,hz]
theorem Yv (k:Nat) (hk:k<4) {W:World} {G:Nat} (hb:W.heap[G]? =some (.map (Hq k) k)):(Instr.mapUpdate 246 (.map (some G)) (U4 k) (.bool true)).run Tryz.prog W= .ok () {W with heap:=W.heap.setIfInBounds G (.map (Hq (k+1)) (k+1)) }:=by
 have hck:=fun b=>VK k hk b W;have hf:=JW k hk W;have h2:=Am (P:=Tryz.prog) (.map (Hq (k+1)) (k+1)) hb;rw [← PW k] at h2 ⊢
 simp [Instr.mapUpdate,run_underlying Tryz.underlying246,oU hb,hck,hf,h2]
theorem Nk {w W:World} {G:Nat} {L:List (List Value × TypeId)} (k:Nat) (hk:k<4) (hb:W.heap[G]? =some (.map (Hq k) k)) (hB:aC w W L) (hG:w.heap.size+L.length≤G):
 ∃ W2,(Instr.mapUpdate 246 (.map (some G)) (U4 k) (.bool true)).run Tryz.prog W= .ok () W2∧aC w W2 L∧W2.heap[G]? =some (.map (Hq (k+1)) (k+1)):=by
 have hlt:G<W.heap.size:=(Array.getElem?_eq_some_iff.1 hb).1;refine ⟨_,Yv k hk hb,⟨fun i e he=>?_,⟨hB.bw.os,hB.bw.tape,hB.bw.output,?_,fun b h=>?_⟩⟩,?_⟩
 · have h1:=(List.getElem?_eq_some_iff.1 he).1
   show (W.heap.setIfInBounds G _)[w.heap.size+i]? =_
   rw [Array.getElem?_setIfInBounds_ne (by omega)];exact hB.at_ i e he
 · show w.heap.size≤(W.heap.setIfInBounds G _).size
   rw [Array.size_setIfInBounds];exact hB.bw.size
 · show (W.heap.setIfInBounds G _)[b]? =_
   rw [Array.getElem?_setIfInBounds_ne (by omega)];exact hB.bw.block b h
 · show (W.heap.setIfInBounds G _)[G]? =_
   rw [Array.getElem?_setIfInBounds_self_of_lt hlt]
theorem XQ (k:Nat) (hk:k<4):U4 k= .agg #[.int .i64 (corners[k]'hk).bC,.int .i64 (corners[k]'hk).kC]:=by
 obtain rfl | rfl | rfl | rfl:k=0∨k=1∨k=2∨k=3:=by omega
 all_goals rfl
theorem DI {W:World} {S:Nat→Prop} {A:Option Addr} {c:Nat} (h:oG W S A c corners):∃ b o,A=some ⟨b,o,none⟩∧b<W.heap.size∧(∀ k (hk:k<4),W.cell? ⟨b,o+k*2,none⟩=some (.int .i64 (corners[k]'hk).bC)∧W.cell? ⟨b,o+k*2+1,none⟩=some (.int .i64 (corners[k]'hk).kC)):=by
 obtain ⟨b,o,e,_,hb,hc⟩:=h.at_ 0 (by decide);exact ⟨b,o,e,hb,fun k hk=>hc k hk⟩
theorem aaS (k:Nat) (hk:k<4) {x y:Int} (he:U4 k= .agg #[.int .i64 x,.int .i64 y]) {W:World} {G:Nat} (hb:W.heap[G]? =some (.map (Hq k) k)):(Instr.lookup 246 (.map (some G)) (.agg #[.int .i64 x,.int .i64 y]) false).run Tryz.prog W= .ok (.bool false) W:=by
 rw [← he];exact UU k hk hb
theorem Ie (S:Nat→Prop) (A B:Option Addr) (c d:Nat) (w:World) (hL:oG w S A c corners):
 Calls Tryz.prog 140 #[rZ A c B d] w fun e w'=>e= .returned (.bool true)∧Below w.heap.size w w':=by
 obtain ⟨b,o,rfl,hbl,hcc⟩:=DI hL;have Ti:=hide hcc;have hmm:∀ W,(Instr.makeMap 246 none).run Tryz.prog W= .ok (.map (some W.heap.size)) (W.alloc (.map (Hq 0) 0)):=fun _=>rfl;clear hcc
 go_enter Tryz.func140,Tryz.ntmps140
 go_upto_region 0 with (fail)
 go_cut [1] (fun v1 wx=>v1=ptr w.heap.size∧aC w wx [(aZ (some ⟨b,o,none⟩) c B d,72)])
 case first=>
  go_wp2;go_meet;exact ⟨rfl,((aC.nil w).new (by simp) (aZ (some ⟨b,o,none⟩) c B d) _)⟩
 case rest=>
  obtain ⟨rfl,hB⟩:=hcut;have wE:=(hB.aj rfl).cell (j:=0) rfl;have lX:=(hB.aj rfl).frozen 0;have ka1:=(hB.aj rfl).cell (j:=1) rfl;have lY:=(hB.aj rfl).frozen 1;have Pq:=(hB.aj rfl).cell (j:=2) rfl;have zV:=(hB.aj rfl).frozen 2;have Pv:=(hB.aj rfl).cell (j:=3) rfl;have zW:=(hB.aj rfl).frozen 3;obtain ⟨G,hG⟩:∃ G,wc.heap.size=G:=⟨_,rfl⟩;have hmm:=hmm wc;rw [hG] at hmm;have hB0:=hB.alloc (by simp) (.map (Hq 0) 0)
  have hM0:(wc.alloc (.map (Hq 0) 0)).heap[G]? =some (.map (Hq 0) 0):=by rw [← hG];exact heap_alloc_new wc _
  have akz:w.heap.size+1≤G:=by have:=hB.size (by simp);rw [← hG];simpa using this
  have yj:=(hB0.aj rfl).cell (j:=0) rfl;have mW:=(hB0.aj rfl).frozen 0;have yu:=(hB0.aj rfl).cell (j:=1) rfl;have mX:=(hB0.aj rfl).frozen 1;have yx:=(hB0.aj rfl).cell (j:=2) rfl;have mY:=(hB0.aj rfl).frozen 2;have yA:=(hB0.aj rfl).cell (j:=3) rfl;have mZ:=(hB0.aj rfl).frozen 3;go_wp2
  go_loopw [16] (fun i wr=>∃ k:Nat,k≤4∧i= .int .i64 k∧aC w wr [(aZ (some ⟨b,o,none⟩) c B d,72)]∧wr.heap[G]? =some (.map (Hq k) k)) (fun i _=>4 - (intOf i).toNat)
  case atStart=>exact ⟨0,by omega,rfl,hB0,hM0⟩
  case round=>
   obtain ⟨k,hk,rfl,hBr,hM⟩:=hrel;clear yj mW yu mX yx mY yA mZ hB0 hM0
   by_cases hlt:k<4
   · have hx:=Ti.out k hlt
     have he:=XQ k hlt;obtain ⟨x,hx0⟩:∃ x,(corners[k]'hlt).bC=x:=⟨_,rfl⟩;obtain ⟨y,hy0⟩:∃ x,(corners[k]'hlt).kC=x:=⟨_,rfl⟩;rw [hx0,hy0] at hx he;clear hx0 hy0;have x0:wr.cell? ⟨b,o+k*2,none⟩=some (.int .i64 x):=(hBr.bw.cell (p:=⟨b,o+k*2,none⟩) hbl).trans hx.1;have x1:wr.cell? ⟨b,o+k*2+1,none⟩=some (.int .i64 y):=(hBr.bw.cell (p:=⟨b,o+k*2+1,none⟩) hbl).trans hx.2;have hBa:=hBr.alloc (by simp) (.cells #[.int .i64 x,.int .i64 y] 62);have hMa:=(heap_alloc_old wr (.cells #[.int .i64 x,.int .i64 y] 62) (Array.getElem?_eq_some_iff.1 hM).1).trans hM;have hlk:=aaS k hlt he hMa;obtain ⟨W2,hup,hB2,hM2⟩:=Nk k hlt hMa hBa akz;rw [he] at hup;have Zy:decide ((k:Int)<4)=true:=decide_eq_true (by omega)
     have hk':(k:Int)<4:=by omega
     clear hx he hM hMa hBa;go_wp2
     go_roundw
     case rel=>exact ⟨k+1,by omega,by go_num,hB2,hM2⟩
     case measure=>simp [intOf];omega
   · obtain rfl:k=4:=by omega
     have hbr:=hBr.bw
     simp only [show ((4:Nat):Int)=4 from rfl]
     have y0:w.cell? ⟨b,o,none⟩=some (.int .i64 0):=(Ti.out 0 (by decide)).1;have y1:w.cell? ⟨b,o+1,none⟩=some (.int .i64 0):=(Ti.out 0 (by decide)).2;have y2:w.cell? ⟨b,o+2,none⟩=some (.int .i64 100):=(Ti.out 1 (by decide)).1;have y3:w.cell? ⟨b,o+3,none⟩=some (.int .i64 0):=(Ti.out 1 (by decide)).2;have y4:w.cell? ⟨b,o+4,none⟩=some (.int .i64 100):=(Ti.out 2 (by decide)).1;have y5:w.cell? ⟨b,o+5,none⟩=some (.int .i64 50):=(Ti.out 2 (by decide)).2;have y6:w.cell? ⟨b,o+6,none⟩=some (.int .i64 0):=(Ti.out 3 (by decide)).1;have y7:w.cell? ⟨b,o+7,none⟩=some (.int .i64 50):=(Ti.out 3 (by decide)).2;have yj:=(hBr.aj rfl).cell (j:=0) rfl;have mW:=(hBr.aj rfl).frozen 0;have yu:=(hBr.aj rfl).cell (j:=1) rfl;have mX:=(hBr.aj rfl).frozen 1;have yx:=(hBr.aj rfl).cell (j:=2) rfl;have mY:=(hBr.aj rfl).frozen 2;have yA:=(hBr.aj rfl).cell (j:=3) rfl;have mZ:=(hBr.aj rfl).frozen 3;go_wp2
     go_loopw [32] (fun i wr=>∃ k:Nat,k≤4∧i= .int .i64 k∧aC w wr [(aZ (some ⟨b,o,none⟩) c B d,72)]) (fun i _=>4 - (intOf i).toNat)
     case atStart=>exact ⟨0,by omega,rfl,hBr⟩
     case round=>
      clear yj mW yu mX yx mY yA mZ hM hBr hbr;obtain ⟨i,hi,rfl,hB2⟩:=hrel;have yj:=(hB2.aj rfl).cell (j:=0) rfl;have mW:=(hB2.aj rfl).frozen 0;have yu:=(hB2.aj rfl).cell (j:=1) rfl;have mX:=(hB2.aj rfl).frozen 1;have yx:=(hB2.aj rfl).cell (j:=2) rfl;have mY:=(hB2.aj rfl).frozen 2;have yA:=(hB2.aj rfl).cell (j:=3) rfl;have mZ:=(hB2.aj rfl).frozen 3;have x0:=(hB2.bw.cell (p:=⟨b,o,none⟩) hbl).trans y0;have x1:=(hB2.bw.cell (p:=⟨b,o+1,none⟩) hbl).trans y1;have x2:=(hB2.bw.cell (p:=⟨b,o+2,none⟩) hbl).trans y2;have x3:=(hB2.bw.cell (p:=⟨b,o+3,none⟩) hbl).trans y3;have x4:=(hB2.bw.cell (p:=⟨b,o+4,none⟩) hbl).trans y4;have x5:=(hB2.bw.cell (p:=⟨b,o+5,none⟩) hbl).trans y5;have x6:=(hB2.bw.cell (p:=⟨b,o+6,none⟩) hbl).trans y6;have x7:=(hB2.bw.cell (p:=⟨b,o+7,none⟩) hbl).trans y7
      have UK:i=0∨i=1∨i=2∨i=3∨i=4:=by omega
      clear hi
      rcases UK with rfl | rfl | rfl | rfl | rfl
      · have hA3:=Held.new wr [.int .i64 0,.int .i64 0] 62
        have hB3:=hB2.alloc (by simp) (.cells #[.int .i64 0,.int .i64 0] 62)
        have hwr:IntKind.i64.wrap 1=1:=by decide
        have hmr:(1:Int).tmod 4=1:=by decide
        go_upto_region 13 with (fail)
        refine wp_region_held_drew (S:=(fun w':World=>w'.cell? ⟨w.heap.size,0,none⟩=some (.slice (some ⟨b,o,none⟩) 4 c)∧w'.cell? ⟨w.heap.size,1,none⟩=some (.int .i64 1)∧w'.cell? ⟨w.heap.size,2,none⟩=some (.slice none 0 0)∧w'.cell? ⟨w.heap.size,3,none⟩=some (.slice B 1 d)∧w'.cell? ⟨b,o+2,none⟩=some (.int .i64 100)∧w'.cell? ⟨b,o+3,none⟩=some (.int .i64 0))) (by kernel_rfl) ?kP (fun hHeld=>?_)
        case kP=>exact ⟨((hB3.drew).aj rfl).cell (j:=0) rfl,((hB3.drew).aj rfl).cell (j:=1) rfl,((hB3.drew).aj rfl).cell (j:=2) rfl,((hB3.drew).aj rfl).cell (j:=3) rfl,((hB3.drew).bw.cell (p:=⟨b,o+2,none⟩) hbl).trans y2,((hB3.drew).bw.cell (p:=⟨b,o+3,none⟩) hbl).trans y3⟩
        refine tk 0 ?_;refine tk 1 ?_;refine tk 2 ?_;refine tk 3 ?_;refine tk 4 ?_;refine tk 5 ?_;refine tk 6 ?_;refine tk 7 ?_;refine tr 8 fun K hK=>?_;go_simp;refine hK.out _ _ ?ad1 (fun hHeld=>?_)
        case ad1=>(exact ⟨(((hB3.drew.alloc (by simp) _)).aj rfl).cell (j:=0) rfl,(((hB3.drew.alloc (by simp) _)).aj rfl).cell (j:=1) rfl,(((hB3.drew.alloc (by simp) _)).aj rfl).cell (j:=2) rfl,(((hB3.drew.alloc (by simp) _)).aj rfl).cell (j:=3) rfl,(((hB3.drew.alloc (by simp) _)).bw.cell (p:=⟨b,o+2,none⟩) hbl).trans y2,(((hB3.drew.alloc (by simp) _)).bw.cell (p:=⟨b,o+3,none⟩) hbl).trans y3⟩)
        clear hK K
        try simp only [Act.put,la,lz,ls]
        refine tr 9 fun K hK=>?_;go_simp;refine hK.out _ _ ?ad8 (fun hHeld=>?_)
        case ad8=>(exact ⟨(((hB3.drew.alloc (by simp) _)).aj rfl).cell (j:=0) rfl,(((hB3.drew.alloc (by simp) _)).aj rfl).cell (j:=1) rfl,(((hB3.drew.alloc (by simp) _)).aj rfl).cell (j:=2) rfl,(((hB3.drew.alloc (by simp) _)).aj rfl).cell (j:=3) rfl,(((hB3.drew.alloc (by simp) _)).bw.cell (p:=⟨b,o+2,none⟩) hbl).trans y2,(((hB3.drew.alloc (by simp) _)).bw.cell (p:=⟨b,o+3,none⟩) hbl).trans y3⟩)
        clear hK K
        try simp only [Act.put,la,lz,ls]
        refine wpAnyH_done (by kernel_rfl) ?_ _;have hB4:=(hB3.drew).alloc (by simp) (.cells #[.int .i64 100,.int .i64 0] 62);have OD:=(hA3.drew).alloc (.cells #[.int .i64 100,.int .i64 0] 62);have OE:=Held.newAt ((wr.alloc (.cells #[.int .i64 0,.int .i64 0] 62)).drew) [.int .i64 100,.int .i64 0] 62 (g:=wr.heap.size+1) (by simp);go_wp2
        go_loopw [48] (fun v wr3=>∃ m:Nat,m≤4∧v= .int .i64 m∧aC w wr3 [(aZ (some ⟨b,o,none⟩) c B d,72)]∧Held wr3 wr.heap.size [.int .i64 0,.int .i64 0] 62∧Held wr3 (wr.heap.size+1) [.int .i64 100,.int .i64 0] 62) (fun v _=>4 - (intOf v).toNat)
        case atStart=>exact ⟨0,by omega,rfl,hB4,OD,OE⟩
        case round=>
         clear hB4 OD OE hA3 hB3 hB2 yj mW yu mX yx mY yA mZ x0 x1 x2 x3 x4 x5 x6 x7;obtain ⟨m,hm,rfl,eH,qL,qM⟩:=hrel;have WT:=qL.lt;have WU:=qM.lt;have wE:=(qL).cell (j:=0) rfl;have lX:=(qL).frozen 0;have ka1:=(qL).cell (j:=1) rfl;have lY:=(qL).frozen 1;have SX:=(qM).cell (j:=0) rfl;have BJ:=(qM).frozen 0;have SY:=(qM).cell (j:=1) rfl;have BK:=(qM).frozen 1;have x0:=(eH.bw.cell (p:=⟨b,o,none⟩) hbl).trans y0;have x1:=(eH.bw.cell (p:=⟨b,o+1,none⟩) hbl).trans y1;have x2:=(eH.bw.cell (p:=⟨b,o+2,none⟩) hbl).trans y2;have x3:=(eH.bw.cell (p:=⟨b,o+3,none⟩) hbl).trans y3;have x4:=(eH.bw.cell (p:=⟨b,o+4,none⟩) hbl).trans y4;have x5:=(eH.bw.cell (p:=⟨b,o+5,none⟩) hbl).trans y5;have x6:=(eH.bw.cell (p:=⟨b,o+6,none⟩) hbl).trans y6;have x7:=(eH.bw.cell (p:=⟨b,o+7,none⟩) hbl).trans y7
         have qN:m=0∨m=1∨m=2∨m=3∨m=4:=by omega
         clear hm
         rcases qN with rfl | rfl | rfl | rfl | rfl
         · have n1:∀ W,(binOp .neq 62 (.agg #[.int .i64 0,.int .i64 0]) (.agg #[.int .i64 0,.int .i64 0])).run Tryz.prog W= .ok (.bool false) W:=fun _=>by kernel_rfl
           have n2:∀ W,(binOp .neq 62 (.agg #[.int .i64 0,.int .i64 0]) (.agg #[.int .i64 100,.int .i64 0])).run Tryz.prog W= .ok (.bool true) W:=fun _=>by kernel_rfl
           go_wp2
           go_roundw
           case rel=>exact ⟨1,by omega,rfl,eH.alloc (by simp) _,qL.alloc _,qM.alloc _⟩
           case measure=>simp [intOf]
         · have n1:∀ W,(binOp .neq 62 (.agg #[.int .i64 100,.int .i64 0]) (.agg #[.int .i64 0,.int .i64 0])).run Tryz.prog W= .ok (.bool true) W:=fun _=>by kernel_rfl
           have n2:∀ W,(binOp .neq 62 (.agg #[.int .i64 100,.int .i64 0]) (.agg #[.int .i64 100,.int .i64 0])).run Tryz.prog W= .ok (.bool false) W:=fun _=>by kernel_rfl
           go_wp2
           go_roundw
           case rel=>exact ⟨2,by omega,rfl,eH.alloc (by simp) _,qL.alloc _,qM.alloc _⟩
           case measure=>simp [intOf]
         · have n1:∀ W,(binOp .neq 62 (.agg #[.int .i64 100,.int .i64 50]) (.agg #[.int .i64 0,.int .i64 0])).run Tryz.prog W= .ok (.bool true) W:=fun _=>by kernel_rfl
           have n2:∀ W,(binOp .neq 62 (.agg #[.int .i64 100,.int .i64 50]) (.agg #[.int .i64 100,.int .i64 0])).run Tryz.prog W= .ok (.bool true) W:=fun _=>by kernel_rfl
           go_wp2
           go_roundw
           case rel=>exact ⟨3,by omega,rfl,eH.alloc (by simp) _,qL.alloc _,qM.alloc _⟩
           case measure=>simp [intOf]
         · have n1:∀ W,(binOp .neq 62 (.agg #[.int .i64 0,.int .i64 50]) (.agg #[.int .i64 0,.int .i64 0])).run Tryz.prog W= .ok (.bool true) W:=fun _=>by kernel_rfl
           have n2:∀ W,(binOp .neq 62 (.agg #[.int .i64 0,.int .i64 50]) (.agg #[.int .i64 100,.int .i64 0])).run Tryz.prog W= .ok (.bool true) W:=fun _=>by kernel_rfl
           go_wp2
           go_roundw
           case rel=>exact ⟨4,by omega,rfl,eH.alloc (by simp) _,qL.alloc _,qM.alloc _⟩
           case measure=>simp [intOf]
         · go_wp2
           go_roundw
           case rel=>exact ⟨1,by omega,rfl,eH⟩
           case measure=>simp [intOf]
      · have hA3:=Held.new wr [.int .i64 100,.int .i64 0] 62
        have hB3:=hB2.alloc (by simp) (.cells #[.int .i64 100,.int .i64 0] 62)
        have hwr:IntKind.i64.wrap 2=2:=by decide
        have hmr:(2:Int).tmod 4=2:=by decide
        go_upto_region 13 with (fail)
        refine wp_region_held_drew (S:=(fun w':World=>w'.cell? ⟨w.heap.size,0,none⟩=some (.slice (some ⟨b,o,none⟩) 4 c)∧w'.cell? ⟨w.heap.size,1,none⟩=some (.int .i64 1)∧w'.cell? ⟨w.heap.size,2,none⟩=some (.slice none 0 0)∧w'.cell? ⟨w.heap.size,3,none⟩=some (.slice B 1 d)∧w'.cell? ⟨b,o+4,none⟩=some (.int .i64 100)∧w'.cell? ⟨b,o+5,none⟩=some (.int .i64 50))) (by kernel_rfl) ?jF (fun hHeld=>?_)
        case jF=>exact ⟨((hB3.drew).aj rfl).cell (j:=0) rfl,((hB3.drew).aj rfl).cell (j:=1) rfl,((hB3.drew).aj rfl).cell (j:=2) rfl,((hB3.drew).aj rfl).cell (j:=3) rfl,((hB3.drew).bw.cell (p:=⟨b,o+4,none⟩) hbl).trans y4,((hB3.drew).bw.cell (p:=⟨b,o+5,none⟩) hbl).trans y5⟩
        refine tk 0 ?_;refine tk 1 ?_;refine tk 2 ?_;refine tk 3 ?_;refine tk 4 ?_;refine tk 5 ?_;refine tk 6 ?_;refine tk 7 ?_;refine tr 8 fun K hK=>?_;go_simp;refine hK.out _ _ ?aeC (fun hHeld=>?_)
        case aeC=>(exact ⟨(((hB3.drew.alloc (by simp) _)).aj rfl).cell (j:=0) rfl,(((hB3.drew.alloc (by simp) _)).aj rfl).cell (j:=1) rfl,(((hB3.drew.alloc (by simp) _)).aj rfl).cell (j:=2) rfl,(((hB3.drew.alloc (by simp) _)).aj rfl).cell (j:=3) rfl,(((hB3.drew.alloc (by simp) _)).bw.cell (p:=⟨b,o+4,none⟩) hbl).trans y4,(((hB3.drew.alloc (by simp) _)).bw.cell (p:=⟨b,o+5,none⟩) hbl).trans y5⟩)
        clear hK K
        try simp only [Act.put,la,lz,ls]
        refine tr 9 fun K hK=>?_;go_simp;refine hK.out _ _ ?Rk (fun hHeld=>?_)
        case Rk=>(exact ⟨(((hB3.drew.alloc (by simp) _)).aj rfl).cell (j:=0) rfl,(((hB3.drew.alloc (by simp) _)).aj rfl).cell (j:=1) rfl,(((hB3.drew.alloc (by simp) _)).aj rfl).cell (j:=2) rfl,(((hB3.drew.alloc (by simp) _)).aj rfl).cell (j:=3) rfl,(((hB3.drew.alloc (by simp) _)).bw.cell (p:=⟨b,o+4,none⟩) hbl).trans y4,(((hB3.drew.alloc (by simp) _)).bw.cell (p:=⟨b,o+5,none⟩) hbl).trans y5⟩)
        clear hK K
        try simp only [Act.put,la,lz,ls]
        refine wpAnyH_done (by kernel_rfl) ?_ _;have hB4:=(hB3.drew).alloc (by simp) (.cells #[.int .i64 100,.int .i64 50] 62);have OD:=(hA3.drew).alloc (.cells #[.int .i64 100,.int .i64 50] 62);have OE:=Held.newAt ((wr.alloc (.cells #[.int .i64 100,.int .i64 0] 62)).drew) [.int .i64 100,.int .i64 50] 62 (g:=wr.heap.size+1) (by simp);go_wp2
        go_loopw [48] (fun v wr3=>∃ m:Nat,m≤4∧v= .int .i64 m∧aC w wr3 [(aZ (some ⟨b,o,none⟩) c B d,72)]∧Held wr3 wr.heap.size [.int .i64 100,.int .i64 0] 62∧Held wr3 (wr.heap.size+1) [.int .i64 100,.int .i64 50] 62) (fun v _=>4 - (intOf v).toNat)
        case atStart=>exact ⟨0,by omega,rfl,hB4,OD,OE⟩
        case round=>
         clear hB4 OD OE hA3 hB3 hB2 yj mW yu mX yx mY yA mZ x0 x1 x2 x3 x4 x5 x6 x7;obtain ⟨m,hm,rfl,eH,qL,qM⟩:=hrel;have WT:=qL.lt;have WU:=qM.lt;have wE:=(qL).cell (j:=0) rfl;have lX:=(qL).frozen 0;have ka1:=(qL).cell (j:=1) rfl;have lY:=(qL).frozen 1;have SX:=(qM).cell (j:=0) rfl;have BJ:=(qM).frozen 0;have SY:=(qM).cell (j:=1) rfl;have BK:=(qM).frozen 1;have x0:=(eH.bw.cell (p:=⟨b,o,none⟩) hbl).trans y0;have x1:=(eH.bw.cell (p:=⟨b,o+1,none⟩) hbl).trans y1;have x2:=(eH.bw.cell (p:=⟨b,o+2,none⟩) hbl).trans y2;have x3:=(eH.bw.cell (p:=⟨b,o+3,none⟩) hbl).trans y3;have x4:=(eH.bw.cell (p:=⟨b,o+4,none⟩) hbl).trans y4;have x5:=(eH.bw.cell (p:=⟨b,o+5,none⟩) hbl).trans y5;have x6:=(eH.bw.cell (p:=⟨b,o+6,none⟩) hbl).trans y6;have x7:=(eH.bw.cell (p:=⟨b,o+7,none⟩) hbl).trans y7
         have qN:m=0∨m=1∨m=2∨m=3∨m=4:=by omega
         clear hm
         rcases qN with rfl | rfl | rfl | rfl | rfl
         · have n1:∀ W,(binOp .neq 62 (.agg #[.int .i64 0,.int .i64 0]) (.agg #[.int .i64 100,.int .i64 0])).run Tryz.prog W= .ok (.bool true) W:=fun _=>by kernel_rfl
           have n2:∀ W,(binOp .neq 62 (.agg #[.int .i64 0,.int .i64 0]) (.agg #[.int .i64 100,.int .i64 50])).run Tryz.prog W= .ok (.bool true) W:=fun _=>by kernel_rfl
           go_wp2
           go_roundw
           case rel=>exact ⟨1,by omega,rfl,eH.alloc (by simp) _,qL.alloc _,qM.alloc _⟩
           case measure=>simp [intOf]
         · have n1:∀ W,(binOp .neq 62 (.agg #[.int .i64 100,.int .i64 0]) (.agg #[.int .i64 100,.int .i64 0])).run Tryz.prog W= .ok (.bool false) W:=fun _=>by kernel_rfl
           have n2:∀ W,(binOp .neq 62 (.agg #[.int .i64 100,.int .i64 0]) (.agg #[.int .i64 100,.int .i64 50])).run Tryz.prog W= .ok (.bool true) W:=fun _=>by kernel_rfl
           go_wp2
           go_roundw
           case rel=>exact ⟨2,by omega,rfl,eH.alloc (by simp) _,qL.alloc _,qM.alloc _⟩
           case measure=>simp [intOf]
         · have n1:∀ W,(binOp .neq 62 (.agg #[.int .i64 100,.int .i64 50]) (.agg #[.int .i64 100,.int .i64 0])).run Tryz.prog W= .ok (.bool true) W:=fun _=>by kernel_rfl
           have n2:∀ W,(binOp .neq 62 (.agg #[.int .i64 100,.int .i64 50]) (.agg #[.int .i64 100,.int .i64 50])).run Tryz.prog W= .ok (.bool false) W:=fun _=>by kernel_rfl
           go_wp2
           go_roundw
           case rel=>exact ⟨3,by omega,rfl,eH.alloc (by simp) _,qL.alloc _,qM.alloc _⟩
           case measure=>simp [intOf]
         · have n1:∀ W,(binOp .neq 62 (.agg #[.int .i64 0,.int .i64 50]) (.agg #[.int .i64 100,.int .i64 0])).run Tryz.prog W= .ok (.bool true) W:=fun _=>by kernel_rfl
           have n2:∀ W,(binOp .neq 62 (.agg #[.int .i64 0,.int .i64 50]) (.agg #[.int .i64 100,.int .i64 50])).run Tryz.prog W= .ok (.bool true) W:=fun _=>by kernel_rfl
           go_wp2
           go_roundw
           case rel=>exact ⟨4,by omega,rfl,eH.alloc (by simp) _,qL.alloc _,qM.alloc _⟩
           case measure=>simp [intOf]
         · go_wp2
           go_roundw
           case rel=>exact ⟨2,by omega,rfl,eH⟩
           case measure=>simp [intOf]
      · have hA3:=Held.new wr [.int .i64 100,.int .i64 50] 62
        have hB3:=hB2.alloc (by simp) (.cells #[.int .i64 100,.int .i64 50] 62)
        have hwr:IntKind.i64.wrap 3=3:=by decide
        have hmr:(3:Int).tmod 4=3:=by decide
        go_upto_region 13 with (fail)
        refine wp_region_held_drew (S:=(fun w':World=>w'.cell? ⟨w.heap.size,0,none⟩=some (.slice (some ⟨b,o,none⟩) 4 c)∧w'.cell? ⟨w.heap.size,1,none⟩=some (.int .i64 1)∧w'.cell? ⟨w.heap.size,2,none⟩=some (.slice none 0 0)∧w'.cell? ⟨w.heap.size,3,none⟩=some (.slice B 1 d)∧w'.cell? ⟨b,o+6,none⟩=some (.int .i64 0)∧w'.cell? ⟨b,o+7,none⟩=some (.int .i64 50))) (by kernel_rfl) ?kQ (fun hHeld=>?_)
        case kQ=>exact ⟨((hB3.drew).aj rfl).cell (j:=0) rfl,((hB3.drew).aj rfl).cell (j:=1) rfl,((hB3.drew).aj rfl).cell (j:=2) rfl,((hB3.drew).aj rfl).cell (j:=3) rfl,((hB3.drew).bw.cell (p:=⟨b,o+6,none⟩) hbl).trans y6,((hB3.drew).bw.cell (p:=⟨b,o+7,none⟩) hbl).trans y7⟩
        refine tk 0 ?_;refine tk 1 ?_;refine tk 2 ?_;refine tk 3 ?_;refine tk 4 ?_;refine tk 5 ?_;refine tk 6 ?_;refine tk 7 ?_;refine tr 8 fun K hK=>?_;go_simp;refine hK.out _ _ ?ae4 (fun hHeld=>?_)
        case ae4=>(exact ⟨(((hB3.drew.alloc (by simp) _)).aj rfl).cell (j:=0) rfl,(((hB3.drew.alloc (by simp) _)).aj rfl).cell (j:=1) rfl,(((hB3.drew.alloc (by simp) _)).aj rfl).cell (j:=2) rfl,(((hB3.drew.alloc (by simp) _)).aj rfl).cell (j:=3) rfl,(((hB3.drew.alloc (by simp) _)).bw.cell (p:=⟨b,o+6,none⟩) hbl).trans y6,(((hB3.drew.alloc (by simp) _)).bw.cell (p:=⟨b,o+7,none⟩) hbl).trans y7⟩)
        clear hK K
        try simp only [Act.put,la,lz,ls]
        refine tr 9 fun K hK=>?_;go_simp;refine hK.out _ _ ?afb (fun hHeld=>?_)
        case afb=>(exact ⟨(((hB3.drew.alloc (by simp) _)).aj rfl).cell (j:=0) rfl,(((hB3.drew.alloc (by simp) _)).aj rfl).cell (j:=1) rfl,(((hB3.drew.alloc (by simp) _)).aj rfl).cell (j:=2) rfl,(((hB3.drew.alloc (by simp) _)).aj rfl).cell (j:=3) rfl,(((hB3.drew.alloc (by simp) _)).bw.cell (p:=⟨b,o+6,none⟩) hbl).trans y6,(((hB3.drew.alloc (by simp) _)).bw.cell (p:=⟨b,o+7,none⟩) hbl).trans y7⟩)
        clear hK K
        try simp only [Act.put,la,lz,ls]
        refine wpAnyH_done (by kernel_rfl) ?_ _;have hB4:=(hB3.drew).alloc (by simp) (.cells #[.int .i64 0,.int .i64 50] 62);have OD:=(hA3.drew).alloc (.cells #[.int .i64 0,.int .i64 50] 62);have OE:=Held.newAt ((wr.alloc (.cells #[.int .i64 100,.int .i64 50] 62)).drew) [.int .i64 0,.int .i64 50] 62 (g:=wr.heap.size+1) (by simp);go_wp2
        go_loopw [48] (fun v wr3=>∃ m:Nat,m≤4∧v= .int .i64 m∧aC w wr3 [(aZ (some ⟨b,o,none⟩) c B d,72)]∧Held wr3 wr.heap.size [.int .i64 100,.int .i64 50] 62∧Held wr3 (wr.heap.size+1) [.int .i64 0,.int .i64 50] 62) (fun v _=>4 - (intOf v).toNat)
        case atStart=>exact ⟨0,by omega,rfl,hB4,OD,OE⟩
        case round=>
         clear hB4 OD OE hA3 hB3 hB2 yj mW yu mX yx mY yA mZ x0 x1 x2 x3 x4 x5 x6 x7;obtain ⟨m,hm,rfl,eH,qL,qM⟩:=hrel;have WT:=qL.lt;have WU:=qM.lt;have wE:=(qL).cell (j:=0) rfl;have lX:=(qL).frozen 0;have ka1:=(qL).cell (j:=1) rfl;have lY:=(qL).frozen 1;have SX:=(qM).cell (j:=0) rfl;have BJ:=(qM).frozen 0;have SY:=(qM).cell (j:=1) rfl;have BK:=(qM).frozen 1;have x0:=(eH.bw.cell (p:=⟨b,o,none⟩) hbl).trans y0;have x1:=(eH.bw.cell (p:=⟨b,o+1,none⟩) hbl).trans y1;have x2:=(eH.bw.cell (p:=⟨b,o+2,none⟩) hbl).trans y2;have x3:=(eH.bw.cell (p:=⟨b,o+3,none⟩) hbl).trans y3;have x4:=(eH.bw.cell (p:=⟨b,o+4,none⟩) hbl).trans y4;have x5:=(eH.bw.cell (p:=⟨b,o+5,none⟩) hbl).trans y5;have x6:=(eH.bw.cell (p:=⟨b,o+6,none⟩) hbl).trans y6;have x7:=(eH.bw.cell (p:=⟨b,o+7,none⟩) hbl).trans y7
         have qN:m=0∨m=1∨m=2∨m=3∨m=4:=by omega
         clear hm
         rcases qN with rfl | rfl | rfl | rfl | rfl
         · have n1:∀ W,(binOp .neq 62 (.agg #[.int .i64 0,.int .i64 0]) (.agg #[.int .i64 100,.int .i64 50])).run Tryz.prog W= .ok (.bool true) W:=fun _=>by kernel_rfl
           have n2:∀ W,(binOp .neq 62 (.agg #[.int .i64 0,.int .i64 0]) (.agg #[.int .i64 0,.int .i64 50])).run Tryz.prog W= .ok (.bool true) W:=fun _=>by kernel_rfl
           go_wp2
           go_roundw
           case rel=>exact ⟨1,by omega,rfl,eH.alloc (by simp) _,qL.alloc _,qM.alloc _⟩
           case measure=>simp [intOf]
         · have n1:∀ W,(binOp .neq 62 (.agg #[.int .i64 100,.int .i64 0]) (.agg #[.int .i64 100,.int .i64 50])).run Tryz.prog W= .ok (.bool true) W:=fun _=>by kernel_rfl
           have n2:∀ W,(binOp .neq 62 (.agg #[.int .i64 100,.int .i64 0]) (.agg #[.int .i64 0,.int .i64 50])).run Tryz.prog W= .ok (.bool true) W:=fun _=>by kernel_rfl
           go_wp2
           go_roundw
           case rel=>exact ⟨2,by omega,rfl,eH.alloc (by simp) _,qL.alloc _,qM.alloc _⟩
           case measure=>simp [intOf]
         · have n1:∀ W,(binOp .neq 62 (.agg #[.int .i64 100,.int .i64 50]) (.agg #[.int .i64 100,.int .i64 50])).run Tryz.prog W= .ok (.bool false) W:=fun _=>by kernel_rfl
           have n2:∀ W,(binOp .neq 62 (.agg #[.int .i64 100,.int .i64 50]) (.agg #[.int .i64 0,.int .i64 50])).run Tryz.prog W= .ok (.bool true) W:=fun _=>by kernel_rfl
           go_wp2
           go_roundw
           case rel=>exact ⟨3,by omega,rfl,eH.alloc (by simp) _,qL.alloc _,qM.alloc _⟩
           case measure=>simp [intOf]
         · have n1:∀ W,(binOp .neq 62 (.agg #[.int .i64 0,.int .i64 50]) (.agg #[.int .i64 100,.int .i64 50])).run Tryz.prog W= .ok (.bool true) W:=fun _=>by kernel_rfl
           have n2:∀ W,(binOp .neq 62 (.agg #[.int .i64 0,.int .i64 50]) (.agg #[.int .i64 0,.int .i64 50])).run Tryz.prog W= .ok (.bool false) W:=fun _=>by kernel_rfl
           go_wp2
           go_roundw
           case rel=>exact ⟨4,by omega,rfl,eH.alloc (by simp) _,qL.alloc _,qM.alloc _⟩
           case measure=>simp [intOf]
         · go_wp2
           go_roundw
           case rel=>exact ⟨3,by omega,rfl,eH⟩
           case measure=>simp [intOf]
      · have hA3:=Held.new wr [.int .i64 0,.int .i64 50] 62
        have hB3:=hB2.alloc (by simp) (.cells #[.int .i64 0,.int .i64 50] 62)
        have hwr:IntKind.i64.wrap 4=4:=by decide
        have hmr:(4:Int).tmod 4=0:=by decide
        go_upto_region 13 with (fail)
        refine wp_region_held_drew (S:=(fun w':World=>w'.cell? ⟨w.heap.size,0,none⟩=some (.slice (some ⟨b,o,none⟩) 4 c)∧w'.cell? ⟨w.heap.size,1,none⟩=some (.int .i64 1)∧w'.cell? ⟨w.heap.size,2,none⟩=some (.slice none 0 0)∧w'.cell? ⟨w.heap.size,3,none⟩=some (.slice B 1 d)∧w'.cell? ⟨b,o,none⟩=some (.int .i64 0)∧w'.cell? ⟨b,o+1,none⟩=some (.int .i64 0))) (by kernel_rfl) ?wZ (fun hHeld=>?_)
        case wZ=>exact ⟨((hB3.drew).aj rfl).cell (j:=0) rfl,((hB3.drew).aj rfl).cell (j:=1) rfl,((hB3.drew).aj rfl).cell (j:=2) rfl,((hB3.drew).aj rfl).cell (j:=3) rfl,((hB3.drew).bw.cell (p:=⟨b,o,none⟩) hbl).trans y0,((hB3.drew).bw.cell (p:=⟨b,o+1,none⟩) hbl).trans y1⟩
        refine tk 0 ?_;refine tk 1 ?_;refine tk 2 ?_;refine tk 3 ?_;refine tk 4 ?_;refine tk 5 ?_;refine tk 6 ?_;refine tk 7 ?_;refine tr 8 fun K hK=>?_;go_simp;refine hK.out _ _ ?XU (fun hHeld=>?_)
        case XU=>(exact ⟨(((hB3.drew.alloc (by simp) _)).aj rfl).cell (j:=0) rfl,(((hB3.drew.alloc (by simp) _)).aj rfl).cell (j:=1) rfl,(((hB3.drew.alloc (by simp) _)).aj rfl).cell (j:=2) rfl,(((hB3.drew.alloc (by simp) _)).aj rfl).cell (j:=3) rfl,(((hB3.drew.alloc (by simp) _)).bw.cell (p:=⟨b,o,none⟩) hbl).trans y0,(((hB3.drew.alloc (by simp) _)).bw.cell (p:=⟨b,o+1,none⟩) hbl).trans y1⟩)
        clear hK K
        try simp only [Act.put,la,lz,ls]
        refine tr 9 fun K hK=>?_;go_simp;refine hK.out _ _ ?XV (fun hHeld=>?_)
        case XV=>(exact ⟨(((hB3.drew.alloc (by simp) _)).aj rfl).cell (j:=0) rfl,(((hB3.drew.alloc (by simp) _)).aj rfl).cell (j:=1) rfl,(((hB3.drew.alloc (by simp) _)).aj rfl).cell (j:=2) rfl,(((hB3.drew.alloc (by simp) _)).aj rfl).cell (j:=3) rfl,(((hB3.drew.alloc (by simp) _)).bw.cell (p:=⟨b,o,none⟩) hbl).trans y0,(((hB3.drew.alloc (by simp) _)).bw.cell (p:=⟨b,o+1,none⟩) hbl).trans y1⟩)
        clear hK K
        try simp only [Act.put,la,lz,ls]
        refine wpAnyH_done (by kernel_rfl) ?_ _;have hB4:=(hB3.drew).alloc (by simp) (.cells #[.int .i64 0,.int .i64 0] 62);have OD:=(hA3.drew).alloc (.cells #[.int .i64 0,.int .i64 0] 62);have OE:=Held.newAt ((wr.alloc (.cells #[.int .i64 0,.int .i64 50] 62)).drew) [.int .i64 0,.int .i64 0] 62 (g:=wr.heap.size+1) (by simp);go_wp2
        go_loopw [48] (fun v wr3=>∃ m:Nat,m≤4∧v= .int .i64 m∧aC w wr3 [(aZ (some ⟨b,o,none⟩) c B d,72)]∧Held wr3 wr.heap.size [.int .i64 0,.int .i64 50] 62∧Held wr3 (wr.heap.size+1) [.int .i64 0,.int .i64 0] 62) (fun v _=>4 - (intOf v).toNat)
        case atStart=>exact ⟨0,by omega,rfl,hB4,OD,OE⟩
        case round=>
         clear hB4 OD OE hA3 hB3 hB2 yj mW yu mX yx mY yA mZ x0 x1 x2 x3 x4 x5 x6 x7;obtain ⟨m,hm,rfl,eH,qL,qM⟩:=hrel;have WT:=qL.lt;have WU:=qM.lt;have wE:=(qL).cell (j:=0) rfl;have lX:=(qL).frozen 0;have ka1:=(qL).cell (j:=1) rfl;have lY:=(qL).frozen 1;have SX:=(qM).cell (j:=0) rfl;have BJ:=(qM).frozen 0;have SY:=(qM).cell (j:=1) rfl;have BK:=(qM).frozen 1;have x0:=(eH.bw.cell (p:=⟨b,o,none⟩) hbl).trans y0;have x1:=(eH.bw.cell (p:=⟨b,o+1,none⟩) hbl).trans y1;have x2:=(eH.bw.cell (p:=⟨b,o+2,none⟩) hbl).trans y2;have x3:=(eH.bw.cell (p:=⟨b,o+3,none⟩) hbl).trans y3;have x4:=(eH.bw.cell (p:=⟨b,o+4,none⟩) hbl).trans y4;have x5:=(eH.bw.cell (p:=⟨b,o+5,none⟩) hbl).trans y5;have x6:=(eH.bw.cell (p:=⟨b,o+6,none⟩) hbl).trans y6;have x7:=(eH.bw.cell (p:=⟨b,o+7,none⟩) hbl).trans y7
         have qN:m=0∨m=1∨m=2∨m=3∨m=4:=by omega
         clear hm
         rcases qN with rfl | rfl | rfl | rfl | rfl
         · have n1:∀ W,(binOp .neq 62 (.agg #[.int .i64 0,.int .i64 0]) (.agg #[.int .i64 0,.int .i64 50])).run Tryz.prog W= .ok (.bool true) W:=fun _=>by kernel_rfl
           have n2:∀ W,(binOp .neq 62 (.agg #[.int .i64 0,.int .i64 0]) (.agg #[.int .i64 0,.int .i64 0])).run Tryz.prog W= .ok (.bool false) W:=fun _=>by kernel_rfl
           go_wp2
           go_roundw
           case rel=>exact ⟨1,by omega,rfl,eH.alloc (by simp) _,qL.alloc _,qM.alloc _⟩
           case measure=>simp [intOf]
         · have n1:∀ W,(binOp .neq 62 (.agg #[.int .i64 100,.int .i64 0]) (.agg #[.int .i64 0,.int .i64 50])).run Tryz.prog W= .ok (.bool true) W:=fun _=>by kernel_rfl
           have n2:∀ W,(binOp .neq 62 (.agg #[.int .i64 100,.int .i64 0]) (.agg #[.int .i64 0,.int .i64 0])).run Tryz.prog W= .ok (.bool true) W:=fun _=>by kernel_rfl
           go_wp2
           go_roundw
           case rel=>exact ⟨2,by omega,rfl,eH.alloc (by simp) _,qL.alloc _,qM.alloc _⟩
           case measure=>simp [intOf]
         · have n1:∀ W,(binOp .neq 62 (.agg #[.int .i64 100,.int .i64 50]) (.agg #[.int .i64 0,.int .i64 50])).run Tryz.prog W= .ok (.bool true) W:=fun _=>by kernel_rfl
           have n2:∀ W,(binOp .neq 62 (.agg #[.int .i64 100,.int .i64 50]) (.agg #[.int .i64 0,.int .i64 0])).run Tryz.prog W= .ok (.bool true) W:=fun _=>by kernel_rfl
           go_wp2
           go_roundw
           case rel=>exact ⟨3,by omega,rfl,eH.alloc (by simp) _,qL.alloc _,qM.alloc _⟩
           case measure=>simp [intOf]
         · have n1:∀ W,(binOp .neq 62 (.agg #[.int .i64 0,.int .i64 50]) (.agg #[.int .i64 0,.int .i64 50])).run Tryz.prog W= .ok (.bool false) W:=fun _=>by kernel_rfl
           have n2:∀ W,(binOp .neq 62 (.agg #[.int .i64 0,.int .i64 50]) (.agg #[.int .i64 0,.int .i64 0])).run Tryz.prog W= .ok (.bool true) W:=fun _=>by kernel_rfl
           go_wp2
           go_roundw
           case rel=>exact ⟨4,by omega,rfl,eH.alloc (by simp) _,qL.alloc _,qM.alloc _⟩
           case measure=>simp [intOf]
         · go_wp2
           go_roundw
           case rel=>exact ⟨4,by omega,rfl,eH⟩
           case measure=>simp [intOf]
      · go_wp2
        go_ret;exact ⟨rfl,hB2.bw⟩
theorem Ol (S:Nat→Prop) (A:Option Addr) (c:Nat) (w:World) (hL:oG w S A c corners):
 Calls Tryz.prog 138 #[.slice A 4 c,.func (.func 139) #[] #[]] w fun e w'=>e= .returned (.bool false)∧Below w.heap.size w w':=by
 have:=N7 S A c corners 139 #[] _ w hL (KR w)
 rwa [show (corners.any fun p=>decide (10000<max p.bC p.kC) || decide (min p.bC p.kC< -10000))=false by decide] at this
theorem zB (S:Nat→Prop) (A B:Option Addr) (c d:Nat) (w:World) (hg:Glob w) (hL:oG w S A c corners) (hS:Reads w S 3 B 1 d [.string iL,.string bM,.string dn]):
 Calls Tryz.prog 71 #[rZ A c B d] w fun e w'=>e= .returned (.int .i64 0)∧Below w.heap.size w w':=by
 go_enter Tryz.func71,Tryz.ntmps71
 go_upto_region 0 with (fail)
 go_cut [1] (fun v1 wx=>v1=ptr w.heap.size∧aC w wx [(aZ A c B d,72)])
 case first=>
  go_wp2;go_meet;exact ⟨rfl,((aC.nil w).new (by simp) (aZ A c B d) _)⟩
 case rest=>
  obtain ⟨rfl,hB⟩:=hcut;have hB0:=hB
  go_upto_region 1 with (fail)
  refine wp_region_held_drew (S:=(fun w':World=>w'.cell? ⟨w.heap.size,0,none⟩=some (.slice A 4 c)∧w'.cell? ⟨w.heap.size,1,none⟩=some (.int .i64 1)∧w'.cell? ⟨w.heap.size,2,none⟩=some (.slice none 0 0)∧w'.cell? ⟨w.heap.size,3,none⟩=some (.slice B 1 d))) (by kernel_rfl) ?LW (fun hHeld=>?_)
  case LW=>exact ⟨((hB0.drew).aj rfl).cell (j:=0) rfl,((hB0.drew).aj rfl).cell (j:=1) rfl,((hB0.drew).aj rfl).cell (j:=2) rfl,((hB0.drew).aj rfl).cell (j:=3) rfl⟩
  refine tk 0 ?_;refine tk 1 ?_;refine tk 2 ?_;refine tk 3 ?_;refine tk 5 ?_;refine tk 6 ?_;refine tk 7 ?_;refine tk 8 ?_;refine tk 10 ?_;refine tk 11 ?_;refine tr 4 fun K hK=>?_;go_simp
  (go_at_call 41;refine (iT _ _).mono ?_;rintro e oh ⟨rfl,oN⟩;rw [← oN];clear oN)
  refine hK.out _ _ ?XW (fun hHeld=>?_)
  case XW=>(exact ⟨((hB0.drew).aj rfl).cell (j:=0) rfl,((hB0.drew).aj rfl).cell (j:=1) rfl,((hB0.drew).aj rfl).cell (j:=2) rfl,((hB0.drew).aj rfl).cell (j:=3) rfl⟩)
  clear hK K
  try simp only [Act.put,la,lz,ls]
  refine tr 9 fun K hK=>?_;go_simp
  (go_at_call 41;refine (iT _ _).mono ?_;rintro e oh ⟨rfl,oN⟩;rw [← oN];clear oN)
  refine hK.out _ _ ?XY (fun hHeld=>?_)
  case XY=>(exact ⟨((hB0.drew).aj rfl).cell (j:=0) rfl,((hB0.drew).aj rfl).cell (j:=1) rfl,((hB0.drew).aj rfl).cell (j:=2) rfl,((hB0.drew).aj rfl).cell (j:=3) rfl⟩)
  clear hK K
  try simp only [Act.put,la,lz,ls]
  refine tr 12 fun K hK=>?_;go_simp
  (go_at_call 138;refine (Ol S A c _ (Reads.below hL hB0.drew.bw)).mono ?_;rintro e w1 ⟨rfl,hb1⟩)
  have hB1:=hB0.drew.call (by simp) hb1;refine hK.out _ _ ?U9 (fun hHeld=>?_)
  case U9=>(exact ⟨((hB1).aj rfl).cell (j:=0) rfl,((hB1).aj rfl).cell (j:=1) rfl,((hB1).aj rfl).cell (j:=2) rfl,((hB1).aj rfl).cell (j:=3) rfl⟩)
  clear hK K
  try simp only [Act.put,la,lz,ls]
  refine tr 13 fun K hK=>?_;go_simp
  (go_at_call 41;refine (iT _ _).mono ?_;rintro e oh ⟨rfl,oN⟩;rw [← oN];clear oN)
  have hB2:=hB1.alloc (by simp) (.cells #[.int .i64 0,.int .i64 0,.int .i64 0] 31);refine hK.out _ _ ?Va (fun hHeld=>?_)
  case Va=>(exact ⟨((hB1).aj rfl).cell (j:=0) rfl,((hB1).aj rfl).cell (j:=1) rfl,((hB1).aj rfl).cell (j:=2) rfl,((hB1).aj rfl).cell (j:=3) rfl⟩)
  clear hK K
  try simp only [Act.put,la,lz,ls]
  refine tr 14 fun K hK=>?_;go_simp;refine hK.out _ _ ?Vb (fun hHeld=>?_)
  case Vb=>(exact ⟨((hB2).aj rfl).cell (j:=0) rfl,((hB2).aj rfl).cell (j:=1) rfl,((hB2).aj rfl).cell (j:=2) rfl,((hB2).aj rfl).cell (j:=3) rfl⟩)
  clear hK K
  try simp only [Act.put,la,lz,ls]
  refine tr 15 fun K hK=>?_;go_simp
  (go_at_call 40;refine (wo _ _ rfl).mono ?_;rintro e w5 ⟨rfl,hw5⟩;rw [hw5];clear hw5)
  refine hK.out _ _ ?Vd (fun hHeld=>?_)
  case Vd=>(exact ⟨((hB2).aj rfl).cell (j:=0) rfl,((hB2).aj rfl).cell (j:=1) rfl,((hB2).aj rfl).cell (j:=2) rfl,((hB2).aj rfl).cell (j:=3) rfl⟩)
  clear hK K
  try simp only [Act.put,la,lz,ls]
  refine tk 16 ?_;refine wpAnyH_done (by kernel_rfl) ?_ _
  go_upto_region 4 with (fail)
  refine wp_region_held_drew (S:=(fun w':World=>w'.cell? ⟨w.heap.size,0,none⟩=some (.slice A 4 c)∧w'.cell? ⟨w.heap.size,1,none⟩=some (.int .i64 1)∧w'.cell? ⟨w.heap.size,2,none⟩=some (.slice none 0 0)∧w'.cell? ⟨w.heap.size,3,none⟩=some (.slice B 1 d))) (by kernel_rfl) ?wZ (fun hHeld=>?_)
  case wZ=>exact ⟨((hB2.drew).aj rfl).cell (j:=0) rfl,((hB2.drew).aj rfl).cell (j:=1) rfl,((hB2.drew).aj rfl).cell (j:=2) rfl,((hB2.drew).aj rfl).cell (j:=3) rfl⟩
  refine tk 0 ?_;refine tk 4 ?_;refine tk 5 ?_;refine tk 6 ?_;refine tk 13 ?_;refine tk 14 ?_;refine tk 15 ?_;refine tk 16 ?_;refine tr 1 fun K hK=>?_;go_simp
  (go_at_call 140;refine (Ie S A B c d _ (Reads.below hL hB2.drew.bw)).mono ?_;rintro e w3 ⟨rfl,hb3⟩)
  have hB3:=hB2.drew.call (by simp) hb3;refine hK.out _ _ ?XR (fun hHeld=>?_)
  case XR=>(exact ⟨((hB3).aj rfl).cell (j:=0) rfl,((hB3).aj rfl).cell (j:=1) rfl,((hB3).aj rfl).cell (j:=2) rfl,((hB3).aj rfl).cell (j:=3) rfl⟩)
  clear hK K
  try simp only [Act.put,la,lz,ls]
  refine tk 2 ?_;refine tr 3 fun K hK=>?_;go_simp
  (go_at_call 41;refine (iT _ _).mono ?_;rintro e oh ⟨rfl,oN⟩;rw [← oN];clear oN)
  refine hK.out _ _ ?XT (fun hHeld=>?_)
  case XT=>(exact ⟨((hB3).aj rfl).cell (j:=0) rfl,((hB3).aj rfl).cell (j:=1) rfl,((hB3).aj rfl).cell (j:=2) rfl,((hB3).aj rfl).cell (j:=3) rfl⟩)
  clear hK K
  try simp only [Act.put,la,lz,ls]
  refine tk 7 ?_;refine tk 8 ?_;refine tk 9 ?_;refine tk 10 ?_;refine tk 11 ?_;refine tr 12 fun K hK=>?_;go_simp
  (go_at_call 41;refine (iT _ _).mono ?_;rintro e oh ⟨rfl,oN⟩;rw [← oN];clear oN)
  refine hK.out _ _ ?U5 (fun hHeld=>?_)
  case U5=>(exact ⟨((hB3).aj rfl).cell (j:=0) rfl,((hB3).aj rfl).cell (j:=1) rfl,((hB3).aj rfl).cell (j:=2) rfl,((hB3).aj rfl).cell (j:=3) rfl⟩)
  clear hK K
  try simp only [Act.put,la,lz,ls]
  refine tr 17 fun K hK=>?_;go_simp
  (go_at_call 141;refine (yP _ _).mono ?_;rintro e w6 ⟨rfl,hw6⟩;rw [hw6];clear hw6)
  have hB4:=hB3.alloc (by simp) (.cells #[.int .i64 0,.int .i64 0,.int .i64 0] 31);refine hK.out _ _ ?U6 (fun hHeld=>?_)
  case U6=>(exact ⟨((hB3).aj rfl).cell (j:=0) rfl,((hB3).aj rfl).cell (j:=1) rfl,((hB3).aj rfl).cell (j:=2) rfl,((hB3).aj rfl).cell (j:=3) rfl⟩)
  clear hK K
  try simp only [Act.put,la,lz,ls]
  refine tr 18 fun K hK=>?_;go_simp;refine hK.out _ _ ?U7 (fun hHeld=>?_)
  case U7=>(exact ⟨((hB4).aj rfl).cell (j:=0) rfl,((hB4).aj rfl).cell (j:=1) rfl,((hB4).aj rfl).cell (j:=2) rfl,((hB4).aj rfl).cell (j:=3) rfl⟩)
  clear hK K
  try simp only [Act.put,la,lz,ls]
  refine tr 19 fun K hK=>?_;go_simp
  (go_at_call 40;refine (wo _ _ rfl).mono ?_;rintro e w5 ⟨rfl,hw5⟩;rw [hw5];clear hw5)
  refine hK.out _ _ ?U8 (fun hHeld=>?_)
  case U8=>(exact ⟨((hB4).aj rfl).cell (j:=0) rfl,((hB4).aj rfl).cell (j:=1) rfl,((hB4).aj rfl).cell (j:=2) rfl,((hB4).aj rfl).cell (j:=3) rfl⟩)
  clear hK K
  try simp only [Act.put,la,lz,ls]
  refine tk 20 ?_;refine wpAnyH_done (by kernel_rfl) ?_ _;have hg4:=hg.below hB4.bw;have hL4:=Reads.below hL hB4.bw;have hS4:=hS.below hB4.bw;have yj:=(hB4.aj rfl).cell (j:=0) rfl;have mW:=(hB4.aj rfl).frozen 0;have yu:=(hB4.aj rfl).cell (j:=1) rfl;have mX:=(hB4.aj rfl).frozen 1;have yx:=(hB4.aj rfl).cell (j:=2) rfl;have mY:=(hB4.aj rfl).frozen 2;have yA:=(hB4.aj rfl).cell (j:=3) rfl;have mZ:=(hB4.aj rfl).frozen 3
  go_wp2_with (go_at_call 143;refine (DK S A B c d _ hg4 hL4 hS4).mono ?_;rintro e w7 ⟨rfl,hb7⟩;have KX:=hB4.call (by simp) hb7)
  go_ret;exact ⟨rfl,KX.bw⟩
def Nm.Nl (v w:Nm.Vec):Nm.Fr:=Nm.add (Nm.mul v.1 w.1) (Nm.mul v.2 w.2)
def Nm.Yx (v w:Nm.Vec):Bool:=Nm.JJ v && Nm.JJ w && Nm.ok (Nm.mul v.1 w.1) && Nm.ok (Nm.mul v.2 w.2)
theorem SG (v u:Nm.Vec) (w:World) (hc:Nm.Yx v u=true):Calls Tryz.prog 151 #[pO v,pO u] w fun e w'=>e= .returned (fD (Nm.Nl v u))∧Below w.heap.size w w':=by
 obtain ⟨a1,a2⟩:=v;obtain ⟨b1,b2⟩:=u
 unfold Nm.Yx Nm.JJ at hc
 simp only [Bool.and_eq_true] at hc
 obtain ⟨⟨⟨⟨ha1,ha2⟩,hb1',hb2'⟩,hp⟩,hq⟩:=hc;have H1:=fun W=>gG a1 b1 W ha1 hb1';have H2:=fun W=>gG a2 b2 W ha2 hb2';rw [show Nm.Nl (a1,a2) (b1,b2)=Nm.add (Nm.mul a1 b1) (Nm.mul a2 b2) from rfl];have H3:=fun W=>pY (Nm.mul a1 b1) (Nm.mul a2 b2) W hp hq;obtain ⟨c1,hc1⟩:∃ c,Nm.mul a1 b1=c:=⟨_,rfl⟩;obtain ⟨c2,hc2⟩:∃ c,Nm.mul a2 b2=c:=⟨_,rfl⟩
 simp only [hc1] at H1 H3 ⊢
 simp only [hc2] at H2 H3 ⊢
 obtain ⟨c3,hc3⟩:∃ c,Nm.add c1 c2=c:=⟨_,rfl⟩
 simp only [hc3] at H3 ⊢
 clear hc1 hc2 hc3 hp hq;have H1:=hide H1;have H2:=hide H2;have H3:=hide H3
 go_enter Tryz.func151,Tryz.ntmps151
 go_upto_region 0 with (fail)
 go_cut [2,3,4] (fun v2 v3 v4 wx=>v2=ptr w.heap.size∧v3=ptr (w.heap.size+1)∧v4=ptr (w.heap.size+2)∧aC w wx [(aN (a1,a2),111),(aN (b1,b2),111),(ah ⟨0,0⟩,109)])
 case first=>
  go_wp2;go_meet;exact ⟨rfl,rfl,rfl,((((aC.nil w).new (by simp) (aN (a1,a2)) _).new (by simp) (aN (b1,b2)) _).new (by simp) (ah ⟨0,0⟩) _)⟩
 case rest=>
  obtain ⟨rfl,rfl,rfl,hB⟩:=hcut;have hB0:=hB
  go_upto_region 1 with (fail)
  refine wp_region_held_drew (S:=(fun w':World=>w'.cell? ⟨w.heap.size,0,none⟩=some (.int .i64 ((((a1,a2):Nm.Vec)).1).n)∧w'.cell? ⟨w.heap.size,1,none⟩=some (.slice none 0 0)∧w'.cell? ⟨w.heap.size,2,none⟩=some (.int .i64 ((((a1,a2):Nm.Vec)).1).d)∧w'.cell? ⟨w.heap.size,3,none⟩=some (.slice none 0 0)∧w'.cell? ⟨w.heap.size,4,none⟩=some (.int .i64 ((((a1,a2):Nm.Vec)).2).n)∧w'.cell? ⟨w.heap.size,5,none⟩=some (.slice none 0 0)∧w'.cell? ⟨w.heap.size,6,none⟩=some (.int .i64 ((((a1,a2):Nm.Vec)).2).d)∧w'.cell? ⟨w.heap.size,7,none⟩=some (.slice none 0 0)∧w'.cell? ⟨w.heap.size+1,0,none⟩=some (.int .i64 ((((b1,b2):Nm.Vec)).1).n)∧w'.cell? ⟨w.heap.size+1,1,none⟩=some (.slice none 0 0)∧w'.cell? ⟨w.heap.size+1,2,none⟩=some (.int .i64 ((((b1,b2):Nm.Vec)).1).d)∧w'.cell? ⟨w.heap.size+1,3,none⟩=some (.slice none 0 0)∧w'.cell? ⟨w.heap.size+1,4,none⟩=some (.int .i64 ((((b1,b2):Nm.Vec)).2).n)∧w'.cell? ⟨w.heap.size+1,5,none⟩=some (.slice none 0 0)∧w'.cell? ⟨w.heap.size+1,6,none⟩=some (.int .i64 ((((b1,b2):Nm.Vec)).2).d)∧w'.cell? ⟨w.heap.size+1,7,none⟩=some (.slice none 0 0))) (by kernel_rfl) ?bU (fun hHeld=>?_)
  case bU=>exact ⟨((hB0.drew).aj rfl).cell (j:=0) rfl,((hB0.drew).aj rfl).cell (j:=1) rfl,((hB0.drew).aj rfl).cell (j:=2) rfl,((hB0.drew).aj rfl).cell (j:=3) rfl,((hB0.drew).aj rfl).cell (j:=4) rfl,((hB0.drew).aj rfl).cell (j:=5) rfl,((hB0.drew).aj rfl).cell (j:=6) rfl,((hB0.drew).aj rfl).cell (j:=7) rfl,((hB0.drew).get 1 rfl).cell (j:=0) rfl,((hB0.drew).get 1 rfl).cell (j:=1) rfl,((hB0.drew).get 1 rfl).cell (j:=2) rfl,((hB0.drew).get 1 rfl).cell (j:=3) rfl,((hB0.drew).get 1 rfl).cell (j:=4) rfl,((hB0.drew).get 1 rfl).cell (j:=5) rfl,((hB0.drew).get 1 rfl).cell (j:=6) rfl,((hB0.drew).get 1 rfl).cell (j:=7) rfl⟩
  refine tk 0 ?_;refine tk 1 ?_;refine tk 2 ?_;refine tk 3 ?_;refine tk 5 ?_;refine tk 6 ?_;refine tk 7 ?_;refine tk 8 ?_;refine tr 4 fun K hK=>?_;go_simp
  (go_at_call 97;refine (H1.out _).mono ?_;rintro e w1 ⟨rfl,hb1⟩)
  have hB1:=hB0.drew.call (by simp) hb1;refine hK.out _ _ ?vW (fun hHeld=>?_)
  case vW=>(exact ⟨((hB1).aj rfl).cell (j:=0) rfl,((hB1).aj rfl).cell (j:=1) rfl,((hB1).aj rfl).cell (j:=2) rfl,((hB1).aj rfl).cell (j:=3) rfl,((hB1).aj rfl).cell (j:=4) rfl,((hB1).aj rfl).cell (j:=5) rfl,((hB1).aj rfl).cell (j:=6) rfl,((hB1).aj rfl).cell (j:=7) rfl,((hB1).get 1 rfl).cell (j:=0) rfl,((hB1).get 1 rfl).cell (j:=1) rfl,((hB1).get 1 rfl).cell (j:=2) rfl,((hB1).get 1 rfl).cell (j:=3) rfl,((hB1).get 1 rfl).cell (j:=4) rfl,((hB1).get 1 rfl).cell (j:=5) rfl,((hB1).get 1 rfl).cell (j:=6) rfl,((hB1).get 1 rfl).cell (j:=7) rfl⟩)
  clear hK K
  try simp only [Act.put,la,lz,ls]
  refine tr 9 fun K hK=>?_;go_simp
  (go_at_call 97;refine (H2.out _).mono ?_;rintro e w2 ⟨rfl,hb2⟩)
  have hB2:=hB1.call (by simp) hb2;refine hK.out _ _ ?Ad (fun hHeld=>?_)
  case Ad=>(exact ⟨((hB2).aj rfl).cell (j:=0) rfl,((hB2).aj rfl).cell (j:=1) rfl,((hB2).aj rfl).cell (j:=2) rfl,((hB2).aj rfl).cell (j:=3) rfl,((hB2).aj rfl).cell (j:=4) rfl,((hB2).aj rfl).cell (j:=5) rfl,((hB2).aj rfl).cell (j:=6) rfl,((hB2).aj rfl).cell (j:=7) rfl,((hB2).get 1 rfl).cell (j:=0) rfl,((hB2).get 1 rfl).cell (j:=1) rfl,((hB2).get 1 rfl).cell (j:=2) rfl,((hB2).get 1 rfl).cell (j:=3) rfl,((hB2).get 1 rfl).cell (j:=4) rfl,((hB2).get 1 rfl).cell (j:=5) rfl,((hB2).get 1 rfl).cell (j:=6) rfl,((hB2).get 1 rfl).cell (j:=7) rfl⟩)
  clear hK K
  try simp only [Act.put,la,lz,ls]
  refine tr 10 fun K hK=>?_;go_simp
  (go_at_call 86;refine (H3.out _).mono ?_;rintro e w3 ⟨rfl,hb3⟩)
  have hB3:=hB2.call (by simp) hb3;have yj:=(hB3.get 2 rfl).cell (j:=0) rfl;have mW:=(hB3.get 2 rfl).frozen 0;have yu:=(hB3.get 2 rfl).cell (j:=1) rfl;have mX:=(hB3.get 2 rfl).frozen 1;have yx:=(hB3.get 2 rfl).cell (j:=2) rfl;have mY:=(hB3.get 2 rfl).frozen 2;have yA:=(hB3.get 2 rfl).cell (j:=3) rfl;have mZ:=(hB3.get 2 rfl).frozen 3;have hV:=((((hB3).set 2 rfl 0 (.int .i64 (c3).n)).set 2 rfl 1 (.slice none 0 0)).set 2 rfl 2 (.int .i64 (c3).d)).set 2 rfl 3 (.slice none 0 0);refine hK.out _ _ ?Jl (fun hHeld=>?_)
  case Jl=>(exact ⟨((hB3).aj rfl).cell (j:=0) rfl,((hB3).aj rfl).cell (j:=1) rfl,((hB3).aj rfl).cell (j:=2) rfl,((hB3).aj rfl).cell (j:=3) rfl,((hB3).aj rfl).cell (j:=4) rfl,((hB3).aj rfl).cell (j:=5) rfl,((hB3).aj rfl).cell (j:=6) rfl,((hB3).aj rfl).cell (j:=7) rfl,((hB3).get 1 rfl).cell (j:=0) rfl,((hB3).get 1 rfl).cell (j:=1) rfl,((hB3).get 1 rfl).cell (j:=2) rfl,((hB3).get 1 rfl).cell (j:=3) rfl,((hB3).get 1 rfl).cell (j:=4) rfl,((hB3).get 1 rfl).cell (j:=5) rfl,((hB3).get 1 rfl).cell (j:=6) rfl,((hB3).get 1 rfl).cell (j:=7) rfl⟩)
  clear hK K
  try simp only [Act.put,la,lz,ls]
  refine tr 11 fun K hK=>?_;go_simp;refine hK.out _ _ ?uG (fun hHeld=>?_)
  case uG=>(exact ⟨((hV).aj rfl).cell (j:=0) rfl,((hV).aj rfl).cell (j:=1) rfl,((hV).aj rfl).cell (j:=2) rfl,((hV).aj rfl).cell (j:=3) rfl,((hV).aj rfl).cell (j:=4) rfl,((hV).aj rfl).cell (j:=5) rfl,((hV).aj rfl).cell (j:=6) rfl,((hV).aj rfl).cell (j:=7) rfl,((hV).get 1 rfl).cell (j:=0) rfl,((hV).get 1 rfl).cell (j:=1) rfl,((hV).get 1 rfl).cell (j:=2) rfl,((hV).get 1 rfl).cell (j:=3) rfl,((hV).get 1 rfl).cell (j:=4) rfl,((hV).get 1 rfl).cell (j:=5) rfl,((hV).get 1 rfl).cell (j:=6) rfl,((hV).get 1 rfl).cell (j:=7) rfl⟩)
  clear hK K
  try simp only [Act.put,la,lz,ls]
  refine wpAnyH_done (by kernel_rfl) ?_ _;go_wp2;exact bodyPost_ret (aP (p:=4) (hV.get 2 rfl) Tryz.underlying109 rfl aU rfl _ rfl) rfl ⟨rfl,hV.bw⟩
theorem Nj (A B:Option Addr) (c d:Nat) (w:World):Calls Tryz.prog 152 #[rZ A c B d] w fun e w'=>e= .returned (fD ⟨4,1⟩)∧Below w.heap.size w w':=by
 go_enter Tryz.func152,Tryz.ntmps152
 go_upto_region 0 with (fail)
 go_cut [1,2] (fun v1 v2 wx=>v1=ptr (w.heap.size)∧v2=ptr (w.heap.size+1)∧Bx w wx [(w.heap.size,aZ A c B d,72),(w.heap.size+1,ah ⟨0,0⟩,109)])
 case first=>
  go_wp2;go_meet;exact ⟨rfl,rfl,Bx.of (((aC.nil w).new (by simp) (aZ A c B d) 72).new (by simp) (ah ⟨0,0⟩) 109) _ rfl⟩
 case rest=>
  obtain ⟨rfl,rfl,hL⟩:=hcut;have k1:=(hL.get 0 rfl).cell (j:=1) rfl
  have hw1:IntKind.i64.wrap (4*1)=4:=by kernel_rfl
  go_wp2_with (first | (go_at_call 100;refine (f_any 4 _).mono ?_;rintro e' w1 ⟨rfl,hb1⟩;have hM:=(hL.call hb1).swap) | ((with_reducible refine isS 109 2 9 ?_);refine iZ (hM.head) (ah ⟨4,1⟩) aU (fE _) ?_))
  have hZ:=hM.put (ah ⟨4,1⟩) rfl;exact bodyPost_ret (aP (p:=2) hZ.head Tryz.underlying109 rfl aU rfl _ rfl) rfl ⟨rfl,hZ.bw⟩
def Hz (a b:Nm.Vec):Int:=Nm.cmp (Nm.Nl (Nm.jT b a) (Nm.jT b a)) ⟨4,1⟩
def qC (a b:Nm.Vec):Bool:=Nm.JJ a && Nm.JJ b && Nm.Yx (Nm.jT b a) (Nm.jT b a) && Nm.ok (Nm.Nl (Nm.jT b a) (Nm.jT b a))
theorem KN (A B:Option Addr) (c d:Nat) (a b:Nm.Vec) (w:World) (hc:qC a b=true):Calls Tryz.prog 85 #[rZ A c B d,pO a,pO b] w fun e w'=>e= .returned (.int .i64 (Hz a b))∧Below w.heap.size w w':=by
 unfold qC at hc
 simp only [Bool.and_eq_true] at hc
 obtain ⟨⟨⟨o1,o2⟩,o3⟩,o4⟩:=hc;have H1:=fun W=>xI b a W o2 o1;have H2:=fun W=>SG (Nm.jT b a) (Nm.jT b a) W o3;have H3:=fun W=>zG (Nm.Nl (Nm.jT b a) (Nm.jT b a)) ⟨4,1⟩ W o4 (by decide)
 unfold Hz
 obtain ⟨v,hv⟩:∃ q,Nm.jT b a=q:=⟨_,rfl⟩;rw [hv] at H1 H2 H3 ⊢;obtain ⟨x,hx⟩:∃ q,Nm.Nl v v=q:=⟨_,rfl⟩;rw [hx] at H2 H3 ⊢;obtain ⟨z,hz⟩:∃ q,Nm.cmp x ⟨4,1⟩=q:=⟨_,rfl⟩;rw [hz] at H3 ⊢;clear hv hx hz o1 o2 o3 o4;have H1:=hide H1;have H2:=hide H2;have H3:=hide H3
 go_enter Tryz.func85,Tryz.ntmps85
 go_upto_region 0 with (fail)
 go_cut [3,4,5,6] (fun v3 v4 v5 v6 wx=>v3=ptr (w.heap.size)∧v4=ptr (w.heap.size+1)∧v5=ptr (w.heap.size+2)∧v6= .int .i64 0∧Bx w wx [(w.heap.size,aZ A c B d,72),(w.heap.size+1,aN a,111),(w.heap.size+2,aN b,111)])
 case first=>
  go_wp2;go_meet;exact ⟨rfl,rfl,rfl,rfl,Bx.of ((((aC.nil w).new (by simp) (aZ A c B d) 72).new (by simp) (aN a) 111).new (by simp) (aN b) 111) _ rfl⟩
 case rest=>
  obtain ⟨rfl,rfl,rfl,rfl,hL⟩:=hcut
  go_upto_region 1 with (fail)
  go_cut [7] from 8 to 11 (fun v7 wx=>∃ B7,v7=ptr B7∧Bx w wx [(B7,aN v,111),(w.heap.size,aZ A c B d,72),(w.heap.size+1,aN a,111),(w.heap.size+2,aN b,111)])
  case first=>
   go_wp2_with (first | ((with_reducible refine dh 111 5 ?_);refine nI (hL.rn 2 0 ([.int .i64 b.1.n,.slice none 0 0,.int .i64 b.1.d,.slice none 0 0,.int .i64 b.2.n,.slice none 0 0,.int .i64 b.2.d,.slice none 0 0])) Tryz.underlying111 eP ?_) | ((with_reducible refine iV 111 5 ?_);refine nJ (hL.rn 2 0 ([.int .i64 b.1.n,.slice none 0 0,.int .i64 b.1.d,.slice none 0 0,.int .i64 b.2.n,.slice none 0 0,.int .i64 b.2.d,.slice none 0 0])) Tryz.underlying111 eP ?_) | ((with_reducible refine dh 111 4 ?_);refine nI (hL.rn 1 0 ([.int .i64 a.1.n,.slice none 0 0,.int .i64 a.1.d,.slice none 0 0,.int .i64 a.2.n,.slice none 0 0,.int .i64 a.2.d,.slice none 0 0])) Tryz.underlying111 eP ?_) | ((with_reducible refine iV 111 4 ?_);refine nJ (hL.rn 1 0 ([.int .i64 a.1.n,.slice none 0 0,.int .i64 a.1.d,.slice none 0 0,.int .i64 a.2.n,.slice none 0 0,.int .i64 a.2.d,.slice none 0 0])) Tryz.underlying111 eP ?_) | (go_at_call 81;refine (H1.out _).mono ?_;rintro e' w1 ⟨rfl,hb1⟩;have hL:=(hL.call hb1).add (aN (⟨0,0⟩,⟨0,0⟩)) 111) | ((with_reducible refine isS 111 7 10 ?_);refine iZ (hL.head) (aN v) eP (qZ _) ?_))
   go_meet;exact ⟨_,rfl,hL.put (aN v) rfl⟩
  case rest=>
   obtain ⟨B7,rfl,hL⟩:=hcut
   go_upto_region 2 with (fail)
   have J7:∀ W:World,Bx w W [(B7,aN v,111),(w.heap.size,aZ A c B d,72),(w.heap.size+1,aN a,111),(w.heap.size+2,aN b,111)]→W.rangeAt (B7) 0 ([.int .i64 v.1.n,.slice none 0 0,.int .i64 v.1.d,.slice none 0 0,.int .i64 v.2.n,.slice none 0 0,.int .i64 v.2.d,.slice none 0 0]):=fun W h=>h.rng 0 rfl 0 _ rfl;have ZF:∀ W:World,Bx w W [(B7,aN v,111),(w.heap.size,aZ A c B d,72),(w.heap.size+1,aN a,111),(w.heap.size+2,aN b,111)]→W.rangeAt (w.heap.size) 0 ([.slice A 4 c,.int .i64 1,.slice none 0 0,.slice B 1 d]):=fun W h=>h.rng 1 rfl 0 _ rfl;have hL:=hL.drew;refine wp_region_held_drew (S:=(fun w':World=>Bx w w' [(B7,aN v,111),(w.heap.size,aZ A c B d,72),(w.heap.size+1,aN a,111),(w.heap.size+2,aN b,111)])) (by kernel_rfl) ?cu (fun hHeld=>?_)
   case cu=>exact hL
   refine wpAnyH_take (i:=0) (oi:=_) (v:=_) (ga rfl) (by kernel_rfl) (by kernel_rfl) (by kernel_rfl) (fun _ _ _ h=>h) (yieldsIf_load_mid (by rfl) _ _ (by rfl) _ _ (by rfl) _ _ J7 Tryz.underlying111 rfl (by kernel_rfl)) (by assumption) ?_
   try simp only [Act.put,la,lz,ls]
   refine wpAnyH_take (i:=1) (oi:=_) (v:=_) (ga rfl) (by kernel_rfl) (by kernel_rfl) (by kernel_rfl) (fun _ _ _ h=>h) (yieldsIf_load_mid (by rfl) _ _ (by rfl) _ _ (by rfl) _ _ J7 Tryz.underlying111 rfl (by kernel_rfl)) (by assumption) ?_
   try simp only [Act.put,la,lz,ls]
   refine wpAnyH_take (i:=3) (oi:=_) (v:=_) (ga rfl) (by kernel_rfl) (by kernel_rfl) (by kernel_rfl) (fun _ _ _ h=>h) (yieldsIf_load_mid (by rfl) _ _ (by rfl) _ _ (by rfl) _ _ ZF Tryz.underlying72 rfl (by kernel_rfl)) (by assumption) ?_
   try simp only [Act.put,la,lz,ls]
   refine tr 2 fun K hK=>?_;go_simp
   (go_at_call 151;refine (H2.out _).mono ?_;rintro e w2a ⟨rfl,Iz⟩)
   have hL:=hL.call Iz;refine hK.out _ _ ?Ag (fun hHeld=>?_)
   case Ag=>(exact hL)
   clear hK K
   try simp only [Act.put,la,lz,ls]
   refine tr 4 fun K hK=>?_;go_simp
   (go_at_call 152;refine (Nj _ _ _ _ _).mono ?_;rintro e w2b ⟨rfl,OQ⟩)
   have hL:=hL.call OQ;refine hK.out _ _ ?vX (fun hHeld=>?_)
   case vX=>(exact hL)
   clear hK K
   try simp only [Act.put,la,lz,ls]
   refine tr 5 fun K hK=>?_;go_simp
   (go_at_call 96;refine (H3.out _).mono ?_;rintro e w2c ⟨rfl,OT⟩)
   have hL:=hL.call OT;refine hK.out _ _ ?abC (fun hHeld=>?_)
   case abC=>(exact hL)
   clear hK K
   try simp only [Act.put,la,lz,ls]
   refine tk 6 ?_;refine wpAnyH_done (by kernel_rfl) ?_ _;go_wp2;go_ret;exact ⟨rfl,hL.bw⟩
theorem AQ:(Tryz.prog.info? 73).map (·.size)=some 3:=by kernel_rfl
def tY (p:Nm.Vec):Bool:=decide (Hz (⟨50,1⟩,⟨25,1⟩) p<0)
theorem Ic (A B:Option Addr) (c d:Nat) (p:Nm.Vec) (nm:ByteArray) (t q:Nat) (w:World) (hg:Glob w) (ht:Held w t (aZ A c B d) 72) (hp:Held w q (aN p) 111) (ho:qC (⟨50,1⟩,⟨25,1⟩) p=true):
 Calls Tryz.prog 84 #[.agg #[.string nm,.string bM,.string dn],ptr t,ptr q] w fun e w'=>e= .returned (.bool (tY p))∧Below w.heap.size w w':=by
 have hG:=hide hg;clear hg
 unfold tY
 go_enter Tryz.func84,Tryz.ntmps84
 go_upto_region 0 with (fail)
 go_cut [3,4] (fun v3 v4 wx=>v3=ptr (w.heap.size)∧v4= .bool false∧Bx w wx [(w.heap.size,[.string nm,.string bM,.string dn],73)])
 case first=>
  go_wp2;go_meet;exact ⟨rfl,rfl,Bx.of ((aC.nil w).new (by simp) ([.string nm,.string bM,.string dn]) 73) _ rfl⟩
 case rest=>
  obtain ⟨rfl,rfl,hL⟩:=hcut
  go_upto_region 1 with (fail)
  have CO:∀ W:World,Bx w W [(w.heap.size,[.string nm,.string bM,.string dn],73)]→W.rangeAt (t) 0 ([.slice A 4 c,.int .i64 1,.slice none 0 0,.slice B 1 d]):=fun W h=>(ht.below h.bw).range;have O5:∀ W:World,Bx w W [(w.heap.size,[.string nm,.string bM,.string dn],73)]→W.rangeAt (w.heap.size) 1 ([.string bM,.string dn]):=fun W h=>h.rng 0 rfl 1 _ rfl;have O6:∀ W:World,Bx w W [(w.heap.size,[.string nm,.string bM,.string dn],73)]→W.rangeAt (q) 0 ([.int .i64 p.1.n,.slice none 0 0,.int .i64 p.1.d,.slice none 0 0,.int .i64 p.2.n,.slice none 0 0,.int .i64 p.2.d,.slice none 0 0]):=fun W h=>(hp.below h.bw).range;have hL:=hL.drew;refine wp_region_held_drew (S:=(fun w':World=>Bx w w' [(w.heap.size,[.string nm,.string bM,.string dn],73)])) (by kernel_rfl) ?bU (fun hHeld=>?_)
  case bU=>exact hL
  refine wpAnyH_take (i:=0) (oi:=_) (v:=_) (ga rfl) (by kernel_rfl) (by kernel_rfl) (by kernel_rfl) (fun _ _ _ h=>h) (yieldsIf_load_mid (by rfl) _ _ (by rfl) _ _ (by rfl) _ _ CO Tryz.underlying72 rfl (by kernel_rfl)) (by assumption) ?_
  try simp only [Act.put,la,lz,ls]
  refine tk 1 ?_;refine wpAnyH_take (i:=2) (oi:=_) (v:=_) (ga rfl) (by kernel_rfl) (by kernel_rfl) (by kernel_rfl) (fun _ _ _ h=>h) (yieldsIf_load_mid (by rfl) _ _ (by rfl) _ _ (by rfl) _ _ O5 Tryz.underlying66 rfl (by kernel_rfl)) (by assumption) ?_
  try simp only [Act.put,la,lz,ls]
  refine wpAnyH_take (i:=4) (oi:=_) (v:=_) (ga rfl) (by kernel_rfl) (by kernel_rfl) (by kernel_rfl) (fun _ _ _ h=>h) (yieldsIf_load_mid (by rfl) _ _ (by rfl) _ _ (by rfl) _ _ O6 Tryz.underlying111 rfl (by kernel_rfl)) (by assumption) ?_
  try simp only [Act.put,la,lz,ls]
  refine tr 3 fun K hK=>?_;go_simp
  (go_at_call 43;refine (zk _ (hG.out.below hL.bw)).mono ?_;rintro e YW ⟨rfl,Iw⟩)
  have hL:=hL.call Iw;refine hK.out _ _ ?Gu (fun hHeld=>?_)
  case Gu=>(exact hL)
  clear hK K
  try simp only [Act.put,la,lz,ls]
  refine tr 5 fun K hK=>?_;go_simp
  (go_at_call 85;refine (KN A B c d (⟨50,1⟩,⟨25,1⟩) p _ ho).mono ?_;rintro e YA ⟨rfl,Iy⟩)
  have hL:=hL.call Iy;refine hK.out _ _ ?Qg (fun hHeld=>?_)
  case Qg=>(exact hL)
  clear hK K
  try simp only [Act.put,la,lz,ls]
  refine tk 6 ?_;refine tk 7 ?_;refine wpAnyH_done (by kernel_rfl) ?_ _;go_wp2;go_ret;exact ⟨rfl,hL.bw⟩
theorem FM (A B:Option Addr) (c d:Nat) (p:Nm.Vec) (nm:ByteArray) (t q:Nat) (S:Nat→Prop) (P:Option Addr) (n:Nat) (w:World) (hg:Glob w) (ht:Held w t (aZ A c B d) 72) (hp:Held w q (aN p) 111) (ho:qC (⟨50,1⟩,⟨25,1⟩) p=true) (h:Reads w S 3 P 1 n [.string nm,.string bM,.string dn]):Calls Tryz.prog 145 #[.slice P 1 n,(.func (.func 84) #[] #[ptr t,ptr q])] w fun e w'=>e= .returned (.int .i64 (if tY p=true then 0 else -1))∧Below w.heap.size w w':=by
 have eg:∀ args w,(callFunc 84 args).run Tryz.prog w= .ok (.enter 84 args) w:=enters_of Tryz.func84 (by kernel_rfl) rfl;obtain ⟨b,o,rfl,_,hb,hc⟩:=h.at_ (by omega);have c0:w.cell? ⟨b,o,none⟩=some (.string nm):=hc 0 _ rfl;have c1:w.cell? ⟨b,o+1,none⟩=some (.string bM):=hc 1 _ rfl;have c2:w.cell? ⟨b,o+2,none⟩=some (.string dn):=hc 2 _ rfl;have H:=fun W h1 h2 h3=>Ic A B c d p nm t q W h1 h2 h3 ho;clear hc h
 cases hn:tY p
 · rw [hn] at H
   have H:=hide H;clear hn
   go_enter Tryz.func145,Tryz.ntmps145
   go_wp2
   go_loopw [8] (fun i wr=>(i= .int .i64 0∧wr=w)∨(i= .int .i64 1∧Below w.heap.size w wr)) (fun i _=>1 - (intOf i).toNat)
   case atStart=>exact .inl ⟨rfl,rfl⟩
   case round=>
    rcases hrel with ⟨rfl,rfl⟩ | ⟨rfl,hbw⟩
    · go_wp2_with (go_at_fn 84;refine (H.out _ hg ht hp).mono ?_;rintro e w1 ⟨rfl,hb1⟩)
      go_roundw
      case rel=>exact .inr ⟨rfl,hb1⟩
      case measure=>simp [intOf]
    · go_wp2
      go_ret;exact ⟨rfl,hbw⟩
 · rw [hn] at H
   have H:=hide H;clear hn
   go_enter Tryz.func145,Tryz.ntmps145
   go_wp2
   go_loopw [8] (fun i wr=>i= .int .i64 0∧wr=w) (fun _ _=>0)
   case atStart=>exact ⟨rfl,rfl⟩
   case round=>
    obtain ⟨rfl,rfl⟩:=hrel
    go_wp2_with (go_at_fn 84;refine (H.out _ hg ht hp).mono ?_;rintro e w1 ⟨rfl,hb1⟩)
    go_ret;exact ⟨rfl,hb1⟩
theorem FD (A B:Option Addr) (c d:Nat) (p:Nm.Vec) (nm:ByteArray) (t q:Nat) (S:Nat→Prop) (P:Option Addr) (n:Nat) (w:World) (hg:Glob w) (ht:Held w t (aZ A c B d) 72) (hp:Held w q (aN p) 111) (ho:qC (⟨50,1⟩,⟨25,1⟩) p=true) (h:Reads w S 3 P 1 n [.string nm,.string bM,.string dn]):Calls Tryz.prog 74 #[.slice P 1 n,(.func (.func 84) #[] #[ptr t,ptr q])] w fun e w'=>e= .returned (.bool (tY p))∧Below w.heap.size w w':=by
 have H:=fun W h1 h2 h3 h4=>FM A B c d p nm t q S P n W h1 h2 h3 ho h4
 cases hn:tY p
 all_goals
  rw [hn] at H;have H:=hide H;clear hn
  go_enter Tryz.func74,Tryz.ntmps74
  go_wp2_with (go_at_call 145;refine (H.out _ hg ht hp h).mono ?_;rintro e w1 ⟨rfl,hb1⟩;dsimp only)
  go_ret;exact ⟨rfl,hb1⟩
theorem DF (A B:Option Addr) (c d:Nat) (p:Nm.Vec) (nm:ByteArray) (S:Nat→Prop) (P:Option Addr) (n:Nat) (w:World) (hg:Glob w) (ho:qC (⟨50,1⟩,⟨25,1⟩) p=true) (h:Reads w S 3 P 1 n [.string nm,.string bM,.string dn]):Calls Tryz.prog 45 #[rZ A c B d,.slice P 1 n,pO p] w fun e w'=>e= .returned (.bool (!tY p))∧Below w.heap.size w w':=by
 have hG:=hide hg;clear hg
 go_enter Tryz.func45,Tryz.ntmps45
 go_upto_region 0 with (fail)
 go_cut [3,5,6] (fun v3 v5 v6 wx=>v3=ptr (w.heap.size)∧v5=ptr (w.heap.size+1)∧v6= .bool false∧Bx w wx [(w.heap.size,aZ A c B d,72),(w.heap.size+1,aN p,111)])
 case first=>
  go_wp2;go_meet;exact ⟨rfl,rfl,rfl,Bx.of (((aC.nil w).new (by simp) (aZ A c B d) 72).new (by simp) (aN p) 111) _ rfl⟩
 case rest=>
  obtain ⟨rfl,rfl,rfl,hL⟩:=hcut
  go_wp2_with (first | (go_at_call 74;refine (FD A B c d p nm _ _ S P n _ (hG.out.below hL.bw) (hL.get 0 rfl) (hL.get 1 rfl) ho (h.below hL.bw)).mono ?_;rintro e' w1 ⟨rfl,hb1⟩))
  go_ret;exact ⟨rfl,(hL.call hb1).bw⟩
theorem FN (P:Option Addr) (n:Nat) (K:Value) (w:World):Calls Tryz.prog 145 #[.slice P 0 n,K] w fun e w'=>e= .returned (.int .i64 (-1))∧w=w':=by
 go_enter Tryz.func145,Tryz.ntmps145
 go_wp2
 go_loopw [8] (fun i wr=>i= .int .i64 0∧wr=w) (fun _ _=>0)
 case atStart=>exact ⟨rfl,rfl⟩
 case round=>
  obtain ⟨rfl,rfl⟩:=hrel;go_wp2;go_ret;exact ⟨rfl,rfl⟩
theorem xR (P:Option Addr) (n:Nat) (K:Value) (w:World):Calls Tryz.prog 74 #[.slice P 0 n,K] w fun e w'=>e= .returned (.bool false)∧w=w':=by
 go_enter Tryz.func74,Tryz.ntmps74
 go_wp2_with (go_at_call 145;refine (FN _ _ _ _).mono ?_;rintro e w1 ⟨rfl,rfl⟩;dsimp only)
 go_ret;exact ⟨rfl,rfl⟩
theorem BA (A B:Option Addr) (c d:Nat) (p:Nm.Vec) (P:Option Addr) (n:Nat) (w:World):Calls Tryz.prog 45 #[rZ A c B d,.slice P 0 n,pO p] w fun e w'=>e= .returned (.bool true)∧Below w.heap.size w w':=by
 go_enter Tryz.func45,Tryz.ntmps45
 go_upto_region 0 with (fail)
 go_cut [3,5,6] (fun v3 v5 v6 wx=>v3=ptr (w.heap.size)∧v5=ptr (w.heap.size+1)∧v6= .bool false∧Bx w wx [(w.heap.size,aZ A c B d,72),(w.heap.size+1,aN p,111)])
 case first=>
  go_wp2;go_meet;exact ⟨rfl,rfl,rfl,Bx.of (((aC.nil w).new (by simp) (aZ A c B d) 72).new (by simp) (aN p) 111) _ rfl⟩
 case rest=>
  obtain ⟨rfl,rfl,rfl,hL⟩:=hcut
  go_wp2_with (first | (go_at_call 74;refine (xR _ _ _ _).mono ?_;rintro e' w1 ⟨rfl,rfl⟩))
  go_ret;exact ⟨rfl,hL.bw⟩
abbrev iR:ByteArray:=⟨#[98,97,108,108]⟩
theorem LH (w:World):Calls Tryz.prog 76 #[.string iR] w fun e w'=>e= .returned (.bool true)∧Below w.heap.size w w':=FU iR w (by decide) (by decide) (fun k h=>by
 have h4:k<4:=h
 match k,h4 with
 | 0,_=>exact (by decide:97≤(98:UInt8).toNat∧(98:UInt8).toNat≤122)
 | 1,_=>exact (by decide:97≤(97:UInt8).toNat∧(97:UInt8).toNat≤122)
 | 2,_=>exact (by decide:97≤(108:UInt8).toNat∧(108:UInt8).toNat≤122)
 | 3,_=>exact (by decide:97≤(108:UInt8).toNat∧(108:UInt8).toNat≤122)) (by rw [ByteArray.toList_eq];rfl)
theorem Bv (A B:Option Addr) (c d:Nat) (S:Nat→Prop) (P:Option Addr) (n t:Nat) (w:World) (hg:Glob w) (ht:Held w t (aZ A c B d) 72) (hc:oG w S A c corners):
 Calls Tryz.prog 73 #[.agg #[.string iR,.string bM,.string dn],.slice P 0 n,ptr t] w fun e w'=>e= .returned (.int .i64 0)∧Below w.heap.size w w':=by
 have hG:=hide hg;have HON:=hide (fun W (hb:Below w.heap.size w W)=>KC S A B c d W (hc.below hb));clear hg hc
 go_enter Tryz.func73,Tryz.ntmps73
 go_upto_region 0 with (fail)
 go_cut [3,5] (fun v3 v5 wx=>v3=ptr (w.heap.size)∧v5= .int .i64 0∧Bx w wx [(w.heap.size,[.string iR,.string bM,.string dn],73)])
 case first=>
  go_wp2;go_meet;exact ⟨rfl,rfl,Bx.of ((aC.nil w).new (by simp) ([.string iR,.string bM,.string dn]) 73) _ rfl⟩
 case rest=>
  obtain ⟨rfl,rfl,hL⟩:=hcut
  go_upto_region 1 with (fail)
  go_cut [6] from 9 to 12 (fun v6 wx=>v6= .bool false∧Bx w wx [(w.heap.size,[.string iR,.string bM,.string dn],73)])
  case first=>
   go_wp2_with (first | (go_at_call 74;refine (xR _ _ _ _).mono ?_;rintro e' w1 ⟨rfl,rfl⟩))
   go_meet;exact ⟨rfl,hL⟩
  case rest=>
   obtain ⟨rfl,hL⟩:=hcut
   go_upto_region 2 with (fail)
   go_cut [7] from 12 to 24 (fun v7 wx=>v7= .int .i64 0∧Bx w wx [(w.heap.size,[.string iR,.string bM,.string dn],73)])
   case first=>
    have J7:∀ W:World,Bx w W [(w.heap.size,[.string iR,.string bM,.string dn],73)]∧W.cell? ⟨w.heap.size,0,none⟩=some (.string iR)→W.rangeAt (w.heap.size) 1 ([.string bM,.string dn]):=fun W h=>h.1.rng 0 rfl 1 _ rfl;have hL:=hL.drew;refine wp_region_held_drew (S:=(fun w':World=>Bx w w' [(w.heap.size,[.string iR,.string bM,.string dn],73)]∧w'.cell? ⟨w.heap.size,0,none⟩=some (.string iR))) (by kernel_rfl) ?bU (fun hHeld=>?_)
    case bU=>exact ⟨hL,(hL.get 0 rfl).cell (j:=0) rfl⟩
    refine tk 0 ?_;refine tk 1 ?_;refine tk 5 ?_;refine tk 7 ?_;refine wpAnyH_take (i:=8) (oi:=_) (v:=_) (ga rfl) (by kernel_rfl) (by kernel_rfl) (by kernel_rfl) (fun _ _ _ h=>h) (yieldsIf_load_mid (by rfl) _ _ (by rfl) _ _ (by rfl) _ _ J7 Tryz.underlying66 rfl (by kernel_rfl)) (by assumption) ?_
    try simp only [Act.put,la,lz,ls]
    refine tr 2 fun K hK=>?_;go_simp
    (go_at_call 76;refine (LH _).mono ?_;rintro e w2a ⟨rfl,Iz⟩)
    have hL:=hL.call Iz;refine hK.out _ _ ?Gt (fun hHeld=>?_)
    case Gt=>(exact ⟨hL,(hL.get 0 rfl).cell (j:=0) rfl⟩)
    clear hK K
    try simp only [Act.put,la,lz,ls]
    refine tk 3 ?_;refine tr 4 fun K hK=>?_;go_simp
    (go_at_call 41;refine (iT _ _).mono ?_;rintro e w2b ⟨rfl,rfl⟩)
    refine hK.out _ _ ?vW (fun hHeld=>?_)
    case vW=>(exact ⟨hL,(hL.get 0 rfl).cell (j:=0) rfl⟩)
    clear hK K
    try simp only [Act.put,la,lz,ls]
    refine tr 6 fun K hK=>?_;go_simp
    (go_at_call 41;refine (iT _ _).mono ?_;rintro e w2c ⟨rfl,rfl⟩)
    refine hK.out _ _ ?abn (fun hHeld=>?_)
    case abn=>(exact ⟨hL,(hL.get 0 rfl).cell (j:=0) rfl⟩)
    clear hK K
    try simp only [Act.put,la,lz,ls]
    refine tr 9 fun K hK=>?_;go_simp
    (go_at_call 42;refine (kH bM dn _ (hG.out.below hL.bw) tq wz).mono ?_;rintro e w2d ⟨rfl,ain⟩)
    have hL:=hL.call ain;refine hK.out _ _ ?Ad (fun hHeld=>?_)
    case Ad=>(exact ⟨hL,(hL.get 0 rfl).cell (j:=0) rfl⟩)
    clear hK K
    try simp only [Act.put,la,lz,ls]
    refine tr 10 fun K hK=>?_;go_simp;have hL:=hL.alloc (.cells #[.int .i64 0,.int .i64 0,.int .i64 0] 31);refine hK.out _ _ ?Jl (fun hHeld=>?_)
    case Jl=>(exact ⟨hL,(hL.get 0 rfl).cell (j:=0) rfl⟩)
    clear hK K
    try simp only [Act.put,la,lz,ls]
    refine tr 11 fun K hK=>?_;go_simp
    (go_at_call 40;refine (wo _ _ rfl).mono ?_;rintro e w2e ⟨rfl,rfl⟩)
    refine hK.out _ _ ?uG (fun hHeld=>?_)
    case uG=>(exact ⟨hL,(hL.get 0 rfl).cell (j:=0) rfl⟩)
    clear hK K
    try simp only [Act.put,la,lz,ls]
    refine tk 12 ?_;refine wpAnyH_done (by kernel_rfl) ?_ _;go_wp2;go_meet;exact ⟨rfl,hL⟩
   case rest=>
    obtain ⟨rfl,hL⟩:=hcut
    go_upto_region 5 with (fail)
    go_cut [8] from 24 to 30 (fun v8 wx=>∃ B8,v8=ptr B8∧Bx w wx [(B8,aN (⟨50,1⟩,⟨25,1⟩),111),(w.heap.size,[.string iR,.string bM,.string dn],73)])
    case first=>
     go_wp2_with (first | ((with_reducible refine dh 66 27 ?_);refine nI (hL.rn 0 1 ([.string bM,.string dn])) Tryz.underlying66 jh ?_) | ((with_reducible refine iV 66 27 ?_);refine nJ (hL.rn 0 1 ([.string bM,.string dn])) Tryz.underlying66 jh ?_) | (go_at_call 43;refine (zk _ (hG.out.below hL.bw)).mono ?_;rintro e' w2 ⟨rfl,hb2⟩;have hL:=(hL.call hb2).add (aN (⟨0,0⟩,⟨0,0⟩)) 111) | ((with_reducible refine isS 111 8 29 ?_);refine iZ (hL.head) (aN (⟨50,1⟩,⟨25,1⟩)) eP (qZ _) ?_))
     go_meet;exact ⟨_,rfl,hL.put (aN (⟨50,1⟩,⟨25,1⟩)) rfl⟩
    case rest=>
     obtain ⟨B8,rfl,hL⟩:=hcut
     go_upto_region 6 with (fail)
     have xW:∀ W:World,Bx w W [(B8,aN (⟨50,1⟩,⟨25,1⟩),111),(w.heap.size,[.string iR,.string bM,.string dn],73)]→W.rangeAt (t) 0 ([.slice A 4 c,.int .i64 1,.slice none 0 0,.slice B 1 d]):=fun W h=>(ht.below h.bw).range;have CP:∀ W:World,Bx w W [(B8,aN (⟨50,1⟩,⟨25,1⟩),111),(w.heap.size,[.string iR,.string bM,.string dn],73)]→W.rangeAt (B8) 0 ([.int .i64 50,.slice none 0 0,.int .i64 1,.slice none 0 0,.int .i64 25,.slice none 0 0,.int .i64 1,.slice none 0 0]):=fun W h=>h.rng 0 rfl 0 _ rfl;have hL:=hL.drew;refine wp_region_held_drew (S:=(fun w':World=>Bx w w' [(B8,aN (⟨50,1⟩,⟨25,1⟩),111),(w.heap.size,[.string iR,.string bM,.string dn],73)])) (by kernel_rfl) ?cu (fun hHeld=>?_)
     case cu=>exact hL
     refine wpAnyH_take (i:=0) (oi:=_) (v:=_) (ga rfl) (by kernel_rfl) (by kernel_rfl) (by kernel_rfl) (fun _ _ _ h=>h) (yieldsIf_load_mid (by rfl) _ _ (by rfl) _ _ (by rfl) _ _ xW Tryz.underlying72 rfl (by kernel_rfl)) (by assumption) ?_
     try simp only [Act.put,la,lz,ls]
     refine wpAnyH_take (i:=1) (oi:=_) (v:=_) (ga rfl) (by kernel_rfl) (by kernel_rfl) (by kernel_rfl) (fun _ _ _ h=>h) (yieldsIf_load_mid (by rfl) _ _ (by rfl) _ _ (by rfl) _ _ CP Tryz.underlying111 rfl (by kernel_rfl)) (by assumption) ?_
     try simp only [Act.put,la,lz,ls]
     refine wpAnyH_take (i:=5) (oi:=_) (v:=_) (ga rfl) (by kernel_rfl) (by kernel_rfl) (by kernel_rfl) (fun _ _ _ h=>h) (yieldsIf_load_mid (by rfl) _ _ (by rfl) _ _ (by rfl) _ _ xW Tryz.underlying72 rfl (by kernel_rfl)) (by assumption) ?_
     try simp only [Act.put,la,lz,ls]
     refine tk 6 ?_;refine wpAnyH_take (i:=7) (oi:=_) (v:=_) (ga rfl) (by kernel_rfl) (by kernel_rfl) (by kernel_rfl) (fun _ _ _ h=>h) (yieldsIf_load_mid (by rfl) _ _ (by rfl) _ _ (by rfl) _ _ CP Tryz.underlying111 rfl (by kernel_rfl)) (by assumption) ?_
     try simp only [Act.put,la,lz,ls]
     refine tr 2 fun K hK=>?_;go_simp
     (go_at_call 44;refine (HON.out _ hL.bw).mono ?_;rintro e YZ ⟨rfl,wQ⟩)
     have hL:=hL.call wQ;refine hK.out _ _ ?Ag (fun hHeld=>?_)
     case Ag=>(exact hL)
     clear hK K
     try simp only [Act.put,la,lz,ls]
     refine tk 3 ?_;refine tr 4 fun K hK=>?_;go_simp
     (go_at_call 41;refine (iT _ _).mono ?_;rintro e w6b ⟨rfl,rfl⟩)
     refine hK.out _ _ ?vX (fun hHeld=>?_)
     case vX=>(exact hL)
     clear hK K
     try simp only [Act.put,la,lz,ls]
     refine tr 8 fun K hK=>?_;go_simp
     (go_at_call 45;refine (BA A B c d (⟨50,1⟩,⟨25,1⟩) P n _).mono ?_;rintro e w6c ⟨rfl,Xh⟩)
     have hL:=hL.call Xh;refine hK.out _ _ ?Qx (fun hHeld=>?_)
     case Qx=>(exact hL)
     clear hK K
     try simp only [Act.put,la,lz,ls]
     refine tk 9 ?_;refine tr 10 fun K hK=>?_;go_simp
     (go_at_call 41;refine (iT _ _).mono ?_;rintro e w6d ⟨rfl,rfl⟩)
     refine hK.out _ _ ?Ae (fun hHeld=>?_)
     case Ae=>(exact hL)
     clear hK K
     try simp only [Act.put,la,lz,ls]
     refine tr 11 fun K hK=>?_;go_simp;have hL:=hL.alloc (.cells #[.int .i64 0,.int .i64 0] 31);refine hK.out _ _ ?Af (fun hHeld=>?_)
     case Af=>(exact hL)
     clear hK K
     try simp only [Act.put,la,lz,ls]
     refine tr 12 fun K hK=>?_;go_simp
     (go_at_call 40;refine (Vr _ _ rfl).mono ?_;rintro e w6e ⟨rfl,rfl⟩)
     refine hK.out _ _ ?X0 (fun hHeld=>?_)
     case X0=>(exact hL)
     clear hK K
     try simp only [Act.put,la,lz,ls]
     refine tk 13 ?_;refine wpAnyH_done (by kernel_rfl) ?_ _;go_wp2;go_ret;exact ⟨rfl,hL.bw⟩
theorem MW (x y z:ByteArray):∀ v∈([.string x,.string y,.string z]:List Value),v.oneCell'=true:=by simp [Value.oneCell']
theorem DJ (A B:Option Addr) (c d:Nat) (S S2:Nat→Prop) (P:Option Addr) (n:Nat) (w:World) (hg:Glob w) (hc:oG w S A c corners) (h:Reads w S2 3 P 1 n [.string iR,.string bM,.string dn]) (t:Nat) (ht:Held w t (aZ A c B d) 72):Calls Tryz.prog 72 #[.slice P 1 n,.int .i64 24,(.func (.func 73) #[] #[ptr t])] w fun e w'=>e= .returned (.int .i64 0)∧Below w.heap.size w w':=by
 have eg:∀ args w,(callFunc 73 args).run Tryz.prog w= .ok (.enter 73 args) w:=enters_of Tryz.func73 (by kernel_rfl) rfl;obtain ⟨b1,b2,b3⟩:=h.bd;obtain ⟨b,o,rfl,_,hb,hrg⟩:=h.at_ (by omega);have hrg:w.rangeAt b o ([.string iR,.string bM,.string dn]):=hrg;have H:=hide (fun W (hbw:Below w.heap.size w W)=>Bv A B c d S (some ⟨b,o,none⟩) n t W (hg.below hbw) (ht.below hbw) (hc.below hbw));clear h hg ht hc
 go_enter Tryz.func72,Tryz.ntmps72
 go_wp2
 go_loopw [7,8,9,16] (fun _ _ _ i wr=>(i= .int .i64 0∧wr=w)∨(i= .int .i64 1∧Below w.heap.size w wr)) (fun _ _ _ i _=>1 - (intOf i).toNat)
 case atStart=>exact .inl ⟨rfl,rfl⟩
 case round=>
  rcases hrel with ⟨rfl,rfl⟩ | ⟨rfl,hbw⟩
  rotate_left
  · go_wp2
    go_ret;exact ⟨rfl,hbw⟩
  · go_upto_region 5 with (fail)
    go_cut [7,8] from 18 to 21 (fun v7 v8 wx=>∃ B8,v7= .int .i64 0∧v8=ptr B8∧Bx wr wx [(B8,[.string iR,.string bM,.string dn],73)])
    case first=>
     have hL:=(Bx.nil wr).add [.string ⟨#[]⟩,.string ⟨#[]⟩,.string ⟨#[]⟩] 73
     go_wp2_with (first | ((with_reducible (refine dA 73 (.tmp 19) ?lx ?_));(case lx=>rfl);refine iJ hrg Tryz.underlying73 rfl AQ rfl (.tmp 19) rfl rfl ?_) | ((with_reducible refine isS 73 8 20 ?_);refine iZ (hL.head) ([.string iR,.string bM,.string dn]) AQ (MW _ _ _) ?_))
     go_meet;exact ⟨_,rfl,rfl,hL.put [.string iR,.string bM,.string dn] rfl⟩
    case rest=>
     obtain ⟨B8,rfl,rfl,hL⟩:=hcut
     go_upto_region 6 with (fail)
     go_cut [9] from 21 to 27 (fun v9 wx=>v9= .int .i64 0∧Below wr.heap.size wr wx)
     case first=>
      have xW:∀ W:World,Bx wr W [(B8,[.string iR,.string bM,.string dn],73)]→W.rangeAt (B8) 0 ([.string iR,.string bM,.string dn]):=fun W h=>h.rng 0 rfl 0 _ rfl;have hL:=hL.drew;refine wp_region_held_drew (S:=(fun w':World=>Bx wr w' [(B8,[.string iR,.string bM,.string dn],73)])) (by kernel_rfl) ?dF (fun hHeld=>?_)
      case dF=>exact hL
      refine tk 0 ?_;refine wpAnyH_take (i:=1) (oi:=_) (v:=_) (ga rfl) (by kernel_rfl) (by kernel_rfl) (by kernel_rfl) (fun _ _ _ h=>h) (yieldsIf_load_mid (by rfl) _ _ (by rfl) _ _ (by rfl) _ _ xW Tryz.underlying73 rfl (by kernel_rfl)) (by assumption) ?_
      try simp only [Act.put,la,lz,ls]
      refine tk 2 ?_;refine tk 3 ?_;refine tr 4 fun K hK=>?_;go_simp;refine hK.out _ _ ?Ah (fun hHeld=>?_)
      case Ah=>(exact hL)
      clear hK K
      try simp only [Act.put,la,lz,ls]
      refine tr 5 fun K hK=>?_;go_simp
      (go_at_fn 73;refine (H.out _ hL.bw).mono ?_;rintro e YZ ⟨rfl,wQ⟩)
      have hL:=hL.call wQ;refine hK.out _ _ ?Qz (fun hHeld=>?_)
      case Qz=>(exact hL)
      clear hK K
      try simp only [Act.put,la,lz,ls]
      refine tk 6 ?_;refine wpAnyH_done (by kernel_rfl) ?_ _;go_wp2;go_meet;exact ⟨rfl,hL.bw⟩
     case rest=>
      obtain ⟨rfl,hbw⟩:=hcut;go_wp2
      go_roundw
      case rel=>exact .inr ⟨rfl,hbw⟩
      case measure=>simp [intOf]
theorem yN (A B:Option Addr) (c d:Nat) (S S2:Nat→Prop) (P:Option Addr) (n:Nat) (w:World) (hg:Glob w) (hc:oG w S A c corners) (h:Reads w S2 3 P 1 n [.string iR,.string bM,.string dn]) (hS:Reads w S 3 B 1 d [.string iL,.string bM,.string dn]):Calls Tryz.prog 38 #[rZ A c B d,.slice P 1 n] w fun e w'=>e= .returned (.int .i64 0)∧Below w.heap.size w w':=by
 have hG:=hide hg;have HT:=hide (fun W (hbw:Below w.heap.size w W)=>zB S A B c d W (hg.below hbw) (hc.below hbw) (hS.below hbw));have HE:=hide (fun W t (hbw:Below w.heap.size w W) ht=>DJ A B c d S S2 P n W (hg.below hbw) (hc.below hbw) (h.below hbw) t ht);clear hg hc h hS
 go_enter Tryz.func38,Tryz.ntmps38
 go_upto_region 0 with (fail)
 go_cut [2,4] (fun v2 v4 wx=>v2=ptr (w.heap.size)∧v4= .int .i64 0∧Bx w wx [(w.heap.size,aZ A c B d,72)])
 case first=>
  go_wp2;go_meet;exact ⟨rfl,rfl,Bx.of ((aC.nil w).new (by simp) (aZ A c B d) 72) _ rfl⟩
 case rest=>
  obtain ⟨rfl,rfl,hL⟩:=hcut
  go_wp2_with (first | ((with_reducible refine dh 72 2 ?_);refine nI (hL.rn 0 0 ([.slice A 4 c,.int .i64 1,.slice none 0 0,.slice B 1 d])) Tryz.underlying72 iP ?_) | ((with_reducible refine iV 72 2 ?_);refine nJ (hL.rn 0 0 ([.slice A 4 c,.int .i64 1,.slice none 0 0,.slice B 1 d])) Tryz.underlying72 iP ?_) | (go_at_call 71;refine (HT.out _ hL.bw).mono ?_;rintro e' w1 ⟨rfl,hb1⟩;have hL:=hL.call hb1) | (go_at_call 72;refine (HE.out _ _ hL.bw (hL.get 0 rfl)).mono ?_;rintro e' w2 ⟨rfl,hb2⟩;have hL:=hL.call hb2))
  go_ret;exact ⟨rfl,hL.bw⟩
end Go.Proofs.YtcbmedfongiojaaGreatDoor
