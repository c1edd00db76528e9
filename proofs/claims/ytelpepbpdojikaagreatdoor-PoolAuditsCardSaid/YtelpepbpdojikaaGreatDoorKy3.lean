/- Parts of a proof. -/
import Derived.Carry
import Derived.ChangeSame
import Derived.Deep.DeepHandedRow
import Derived.Deep.Slices
import Derived.Lib.SmallJoins
import Derived.Test.YtelpepbpdojikaaGreatDoorKy2
set_option maxRecDepth 100000
set_option linter.unusedVariables false
set_option linter.unusedSimpArgs false
namespace Go.Proofs.YtelpepbpdojikaaGreatDoor
open Go.RowKit Go.ChangeShapes Go.WideShapes
theorem ahp {α:Type} (f:α→List Value) {size:Nat} (hf:∀ a,(f a).length=size) {w:World} {b:Nat}:∀ (l:List α) (o:Nat),(∀ i (hi:i<l.length) j v,(f l[i])[j]? =some v→w.cell? ⟨b,o+i*size+j,none⟩=some v)→
 ∀ j u,(l.flatMap f)[j]? =some u→w.cell? ⟨b,o+j,none⟩=some u
 | [],_,_,j,u,h=>by simp at h
 | a::l,o,hc,j,u,h=>by
   rw [List.flatMap_cons] at h
   rcases Nat.lt_or_ge j size with hj | hj
   · rw [List.getElem?_append_left (by rw [hf];exact hj)] at h
     have:=hc 0 (by simp) j u h
     simpa using this
   · rw [List.getElem?_append_right (by rw [hf];exact hj),hf] at h
     have:=ahp f hf l (o+size) (fun i hi k v hk=>by
      have:=hc (i+1) (by simpa using hi) k v hk
      have e:o+(i+1)*size+k=o+size+i*size+k:=by rw [Nat.add_mul];omega
      rwa [e] at this) (j - size) u h
     have e:o+size+(j - size)=o+j:=by omega
     rwa [e] at this
theorem flat_length {α:Type} (f:α→List Value) {size:Nat} (hf:∀ a,(f a).length=size):∀ l:List α,(l.flatMap f).length=l.length*size
 | []=>by simp
 | a::l=>by rw [List.flatMap_cons,List.length_append,hf,flat_length f hf l,List.length_cons,Nat.add_mul];omega
section
variable {H:Type} {enc:TypeId × Value→H} {P:Program} {W:World}
theorem Zg {l m:List Nat} (h:(l++m).all (· ≤reachBytes)=true):m.all (· ≤reachBytes)=true:=by rw [List.all_append,Bool.and_eq_true] at h;exact h.2
theorem Zl {l m:List Nat} (h:(l++m).all (· ≤reachBytes)=true):l.all (· ≤reachBytes)=true:=by rw [List.all_append,Bool.and_eq_true] at h;exact h.1
theorem abR {e:TypeId}:∀ (ds:List (DataW H)),(DataW.weightsAll P e ds).all (· ≤reachBytes)=true→∀ d∈ds,(d.weights P e).all (· ≤reachBytes)=true
 | [],_,d,hd=>by cases hd
 | a::r,h,d,hd=>by
   rw [DataW.weightsAll] at h
   rcases List.mem_cons.1 hd with rfl | hd
   · exact Zl h
   · exact abR r (Zg h) d hd
theorem afi {α:Type} [Inhabited α] (f:α→List Value) (Q:α→Prop) {size:Nat} {t e:TypeId} (ht:P.underlying t=some (.slice e)) (hc:P.cellsOf e=size) (hpos:0<size) (hf:∀ a,(f a).length=size) (hby:8≤P.bytesOf e)
 (each:∀ n cs x,DataW.trod enc P W 0 (fun _=>true) true n e cs=some x→(x.1.weights P e).all (· ≤reachBytes)=true→∃ a,cs=f a∧Q a)
 {fuel:Nat} {cs:List Value} {x:DataW H × List MemPlace} (h:DataW.trod enc P W 0 (fun _=>true) true fuel t cs=some x) (hw:(x.1.weights P t).all (· ≤reachBytes)=true):
 ∃ (A:Option Addr) (c:Nat) (l:List α),cs=[.slice A l.length c]∧Reads W (fun _=>True) size A l.length c (l.flatMap f)∧(∀ a∈l,Q a)∧l.length*P.bytesOf e≤reachBytes:=by
 rcases Deep.open_slice ht h with ⟨rfl,rfl⟩ | ⟨a,len,cap,m,n,D,Pl,rfl,_,hl,hm,hmm,rfl,hx⟩
 · refine ⟨none,0,([]:List α),rfl,Reads.none_ _ _ _,fun a (ha:a∈([]:List α))=>?_,?_⟩
   · cases ha
   · simp
 · simp only [if_true] at hmm
   subst hmm;rw [DataW.weights.eq_def] at hw
   simp only [ht,List.all_cons,Bool.and_eq_true,List.length_map,List.length_range] at hw
   obtain ⟨hw1,hw2⟩:=hw
   have hw1:(len+(m - len))*P.bytesOf e≤reachBytes:=by simpa using hw1
   have hwl:=abR _ (Zl hw2)
   have hel:∀ i,i<len→∃ y:α,W.cells? 0 (a.add (i*P.cellsOf e)) (P.cellsOf e)=some (f y)∧Q y:=fun i hi=>by
    obtain ⟨cs',h1,h2⟩:=hx i (by omega);obtain ⟨y,rfl,hy⟩:=each _ _ _ h2 (hwl _ (List.mem_map.2 ⟨i,List.mem_range.2 hi,rfl⟩));exact ⟨y,h1,hy⟩
   obtain ⟨g,hg⟩:=Deep.choose_lt hel
   have hlen:((List.range len).map g).length=len:=by simp
   have hml:len*P.bytesOf e≤reachBytes:=Nat.le_trans (Nat.mul_le_mul_right _ (by omega)) hw1;refine ⟨some a,m,(List.range len).map g,by rw [hlen],?_,?_,by rw [hlen];exact hml⟩
   · rw [hlen]
     refine ⟨hl,by simpa [maxLen] using hm,?_,by rw [flat_length f hf,hlen],fun h0=>?_⟩
     · have h8:len*8≤reachBytes:=Nat.le_trans (Nat.mul_le_mul_left _ hby) hml
       simp only [reachBytes] at h8
       omega
     · obtain ⟨b,o,sp⟩:=a
       obtain ⟨_,hl0,hc0⟩:=World.cells?_some (hg 0 h0).1;have e0:=hc0 0 (by rw [hc];exact hpos);rw [hf] at hl0;obtain ⟨v0,hv0⟩:∃ v,(f (g 0))[0]? =some v:=⟨_,List.getElem?_eq_getElem (by rw [hf];exact hpos)⟩;rw [hv0] at e0
       have hsp:sp=none:=by simpa [Addr.add] using World.cell?_spot e0
       subst hsp;refine ⟨b,o,rfl,trivial,?_,ahp f hf _ o fun i hi j v hv=>?_⟩
       · simp only [Nat.zero_mul,rH,Nat.add_zero] at e0
         rcases Nat.lt_or_ge b W.heap.size with hlt | hge
         · exact hlt
         · simp [World.cell?,Array.getElem?_eq_none hge] at e0
       · rw [hlen] at hi
         simp only [List.getElem_map,List.getElem_range] at hv
         obtain ⟨_,_,hci⟩:=World.cells?_some (hg i hi).1
         have hj:j<size:=by have:=(List.getElem?_eq_some_iff.1 hv).1;rwa [hf] at this
         have:=hci j (by rw [hc];exact hj)
         rw [hc,hv] at this
         simpa only [rH] using this
   · intro y hy
     obtain ⟨i,hi,rfl⟩:=List.mem_map.1 hy;exact (hg i (List.mem_range.1 hi)).2
theorem aqE {s:ChangeSpec} {fn:Func} {args:Array Value} {ds gs:List (DataW H)} {before:List MemPlace} {tb:TypeId} {W':World}
 (hl:laidOutB P=true) (hlt:∀ t∈fn.params.toList,t<P.types.size∧P.readableRec t=true) (hvs:s.vars=[]) (hr:fn.resultTypes= #[tb]) (htb:P.underlying tb=some .bool)
 (hres:(s.fn H (ds++gs)).results=[.lit (.bool true)]) (hargs:(s.fn H (ds++gs)).args=ds) (hvars:(s.fn H (ds++gs)).vars=[])
 (hW:DataW.Whole enc P fn.params.toList s.vars false W args.toList ds gs before) (hb:Below W.heap.size W W'):
 s.post enc P fn false true false false W args (.bool true) W':=by
 have hW':=hW;obtain ⟨p,q,hA,hV,rfl,hfz,hnd⟩:=hW;rw [hvs] at hV
 obtain ⟨rfl,rfl⟩:gs=[]∧q=[]:=by
  cases gs with
  | nil=>exact ⟨rfl,hV⟩
  | cons g gs=>exact absurd hV (by simp [DataW.TrodVars])
 rw [List.append_nil] at hW' hfz
 have hlt':∀ x∈p,x.block<W.heap.size:=fun x hx=>by simpa using hW'.lt x hx
 have key:∀ (sp:Nat→Bool),(∀ x∈p,sp x.block=true)→∀ (ts:List TypeId) (vs:List Value) (ds:List (DataW H)) (p':List MemPlace),(∀ t∈ts,t<P.types.size∧P.readableRec t=true)→(∀ x∈p',x∈p)→
  DataW.TrodAll enc P W 0 (fun _=>true) true ts vs ds p'→DataW.TrodAll enc P W' 0 sp true ts vs ds p':=by
  intro sp hsp ts
  induction ts with
  | nil=>intro vs ds p' _ _ h;obtain ⟨rfl,rfl,rfl⟩:=trodAll_nil h;exact h
  | cons t ts ih=>
    intro vs ds p' ht hp h;obtain ⟨v,vs1,d,ds1,a,b,rfl,rfl,rfl,h1,h2⟩:=trodAll_cons h;refine ⟨a,b,?_,ih _ _ _ (fun u hu=>ht u (List.mem_cons_of_mem _ hu)) (fun x hx=>hp x (List.mem_append_right _ hx)) h2,rfl⟩;obtain ⟨hr1,hr2⟩:=ht t List.mem_cons_self;exact WideElems.Trod_stays hl hr2 hr1 h1 (fun x hx=>hb.same (hlt' x (hp x (List.mem_append_left _ hx)))) (fun x hx=>hsp x (hp x (List.mem_append_left _ hx)))
 have hag:∀ sp:Nat→Bool,(∀ x∈p,sp x.block=true)→DataW.TrodAll enc P W' 0 sp true fn.params.toList args.toList (s.fn H (ds++[])).args p:=fun sp hsp=>by
  rw [hargs];exact key sp hsp _ _ _ _ hlt (fun x hx=>hx) hA
 have hrs:∀ (b:Nat) (sp:Nat→Bool) (hd:Bool),DataW.TrodAll enc P W' b sp hd fn.resultTypes.toList ((Value.bool true).resultList fn.resultTypes.size) (s.fn H (ds++[])).results []:=fun b sp hd=>by
  rw [hr,hres];exact trodAll_mk1 (shut_bool htb _)
 have hvv:∀ sp:Nat→Bool,DataW.TrodVars enc P W' sp s.vars (s.fn H (ds++[])).vars []:=fun sp=>by rw [hvs,hvars];rfl
 have hok:∀ (j:Nat) (t:TypeId) (r:Value),fn.resultTypes[j]? =some t→((Value.bool true).resultList fn.resultTypes.size)[j]? =some r→Value.okWide P W' .any 0 t r:=ok_one hr rfl (okWide_bool_mk htb _)
 have hold:∀ x∈p,(fun b=>decide (b<W.heap.size)) x.block=true:=fun x hx=>by simpa using hlt' x hx
 refine ⟨ds,[],p,[],p,[],hW',hrs _ _ _,hag _ hold,hvv _,World.keptBut_mono (fun x hx=>⟨hx,Or.inr (Or.inl hx)⟩) (hb.frame (fun x=>x∈p)),fun _=>?_⟩;refine ⟨hok,_,_,([]++p)++[],⟨[]++p,[],trodAll_append (hag _ (fun _ _=>rfl)) (hrs _ _ _),hvv _,rfl,?_,?_⟩,?_⟩
 · intro b off hp
   have hp':MemPlace.cell b off∈p:=by simpa using hp
   rw [hb.frozen (p:=⟨b,off,none⟩) (hlt' _ hp')];exact hfz b off hp'
 · intro ha;cases ha
 · intro x hx _;simpa using hx
end
section
variable {H:Type} {enc:TypeId × Value→H} {W:World}
theorem aoG:Tryz.prog.cellsOf 3=1:=by kernel_rfl
theorem ayo:Tryz.prog.cellsOf 4=1:=by kernel_rfl
theorem akU:Tryz.prog.cellsOf 9=1:=by kernel_rfl
theorem ayC:Tryz.prog.cellsOf 64=1:=by kernel_rfl
theorem avx:Tryz.prog.cellsOf 24=1:=by kernel_rfl
theorem awM:Tryz.prog.cellsOf 31=2:=by kernel_rfl
theorem awF:Tryz.prog.cellsOf 107=2:=by kernel_rfl
theorem atp:Tryz.prog.cellsOf 66=7:=by kernel_rfl
theorem avq:Tryz.prog.cellsOf 23=3:=by kernel_rfl
theorem axe:Tryz.prog.bytesOf 107=16:=by kernel_rfl
theorem avc:Tryz.prog.bytesOf 66=80:=by kernel_rfl
theorem alK {α:Type} {l:List α} (h:l.length=2):∃ a b,l=[a,b]:=by match l,h with | [a,b],_=>exact ⟨a,b,rfl⟩
theorem awT {α:Type} {l:List α} (h:l.length=3):∃ a b c,l=[a,b,c]:=by match l,h with | [a,b,c],_=>exact ⟨a,b,c,rfl⟩
theorem aw0 {α:Type} {l:List α} (h:l.length=7):∃ a b c d e f g,l=[a,b,c,d,e,f,g]:=by match l,h with | [a,b,c,d,e,f,g],_=>exact ⟨a,b,c,d,e,f,g,rfl⟩
theorem aue (n:Nat) (cs:List Value) (x:DataW H × List MemPlace) (h:DataW.trod enc Tryz.prog W 0 (fun _=>true) true n 107 cs=some x):∃ p:M.rD,cs=[.int .i64 p.aJ,.int .i64 p.aP]:=by
 obtain ⟨y0,y1,m,rfl,hl,h0,h1⟩:=trod_struct2 Tryz.underlying107 h;obtain ⟨a,b,rfl⟩:=alK (hl.trans awF)
 simp [aoG] at h0 h1
 obtain ⟨z0,e0,_,_⟩:=DataW.trod_int Tryz.underlying3 h0;obtain ⟨z1,e1,_,_⟩:=DataW.trod_int Tryz.underlying3 h1
 cases e0;cases e1
 exact ⟨⟨z0,z1⟩,rfl⟩
instance:Inhabited M.rD:=⟨⟨0,0⟩⟩
instance:Inhabited M.aI:=⟨⟨0,⟨#[]⟩,0,0,0,false,[]⟩⟩
instance:Inhabited Sh:=⟨⟨default,none,0⟩⟩
theorem aqp {n:Nat} {cs:List Value} {x:DataW H × List MemPlace} (h:DataW.trod enc Tryz.prog W 0 (fun _=>true) true n 64 cs=some x) (hw:(x.1.weights Tryz.prog 64).all (· ≤reachBytes)=true):
 ∃ (A:Option Addr) (c:Nat) (l:List M.rD),cs=[.slice A l.length c]∧jl W (fun _=>True) A c l∧l.length*16≤140737488355328:=by
 obtain ⟨A,c,l,e,hr,_,hb⟩:=afi (f:=fun p:M.rD=>[.int .i64 p.aJ,.int .i64 p.aP]) (Q:=fun _=>True) Tryz.underlying64 awF (by omega) (fun _=>rfl) (by rw [axe];omega)
  (fun n cs x h _=>let ⟨p,e⟩:=aue n cs x h;⟨p,e,trivial⟩) h hw
 rw [axe] at hb;exact ⟨A,c,l,e,hr,Nat.le_trans hb (by decide)⟩
def aww (W:World) (e:Sh):Prop:=jl W (fun _=>True) e.a e.c e.x.aA∧e.x.aA.length*16≤140737488355328
theorem aqx (n:Nat) (cs:List Value) (x:DataW H × List MemPlace) (h:DataW.trod enc Tryz.prog W 0 (fun _=>true) true n 66 cs=some x) (hw:(x.1.weights Tryz.prog 66).all (· ≤reachBytes)=true):
 ∃ e:Sh,cs=au e∧aww W e:=by
 obtain ⟨ys,m,_,rfl,hl,hlen,hf⟩:=DataW.trod_struct Tryz.underlying66 h;obtain ⟨v0,v1,v2,v3,v4,v5,v6,rfl⟩:=aw0 (hl.trans atp);obtain ⟨y0,y1,y2,y3,y4,y5,y6,rfl⟩:=aw0 hlen;have g0:=hf 0 _ rfl;have g1:=hf 1 _ rfl;have g2:=hf 2 _ rfl;have g3:=hf 3 _ rfl;have g4:=hf 4 _ rfl;have g5:=hf 5 _ rfl;have g6:=hf 6 _ rfl;clear hf h
 simp [aoG,akU,ayo,ayC] at g0 g1 g2 g3 g4 g5 g6
 rw [DataW.weights.eq_def] at hw
 simp only [Tryz.underlying66,List.map_cons,List.map_nil,DataW.weightsEach] at hw
 have hw6:=Zl (Zg (Zg (Zg (Zg (Zg (Zg hw))))));obtain ⟨z0,e0,_,_⟩:=DataW.trod_int Tryz.underlying3 g0;obtain ⟨z1,e1,_,_⟩:=DataW.trod_string Tryz.underlying9 g1;obtain ⟨z2,e2,_,_⟩:=DataW.trod_int Tryz.underlying3 g2;obtain ⟨z3,e3,_,_⟩:=DataW.trod_int Tryz.underlying3 g3;obtain ⟨z4,e4,_,_⟩:=DataW.trod_int Tryz.underlying3 g4;obtain ⟨z5,e5,_⟩:=DataW.trod_bool Tryz.underlying4 g5;obtain ⟨A,c,l,e6,hr,hb⟩:=aqp g6 hw6
 cases e0;cases e1;cases e2;cases e3;cases e4;cases e5;cases e6
 exact ⟨⟨⟨z0,z1,z2,z3,z4,z5,l⟩,A,c⟩,rfl,hr,hb⟩
theorem ah5 {n:Nat} {cs:List Value} {x:DataW H × List MemPlace} (h:DataW.trod enc Tryz.prog W 0 (fun _=>true) true n 24 cs=some x) (hw:(x.1.weights Tryz.prog 24).all (· ≤reachBytes)=true):
 ∃ (A:Option Addr) (c:Nat) (l:List Sh),cs=[.slice A l.length c]∧wG W (fun _=>True) A c l∧(∀ e∈l,e.x.aA.length*16≤140737488355328)∧l.length*80≤140737488355328:=by
 obtain ⟨A,c,l,e,hr,hq,hb⟩:=afi (f:=au) (Q:=aww W) Tryz.underlying24 atp (by omega) (fun _=>rfl) (by rw [avc];omega) (fun n cs x h hw=>aqx n cs x h hw) h hw;rw [avc] at hb;exact ⟨A,c,l,e,⟨hr,fun e he=>(hq e he).1⟩,fun e he=>(hq e he).2,Nat.le_trans hb (by decide)⟩
theorem anF {n:Nat} {cs:List Value} {x:DataW H × List MemPlace} (h:DataW.trod enc Tryz.prog W 0 (fun _=>true) true n 23 cs=some x):
 ∃ r:M.Rules,cs=[.string r.game,.int .i64 r.target,.int .i64 r.aY]:=by
 obtain ⟨ys,m,_,rfl,hl,hlen,hf⟩:=DataW.trod_struct Tryz.underlying23 h;obtain ⟨v0,v1,v2,rfl⟩:=awT (hl.trans avq);obtain ⟨y0,y1,y2,rfl⟩:=awT hlen;have g0:=hf 0 _ rfl;have g1:=hf 1 _ rfl;have g2:=hf 2 _ rfl;clear hf h
 simp [aoG,akU] at g0 g1 g2
 obtain ⟨z0,e0,_,_⟩:=DataW.trod_string Tryz.underlying9 g0;obtain ⟨z1,e1,_,_⟩:=DataW.trod_int Tryz.underlying3 g1;obtain ⟨z2,e2,_,_⟩:=DataW.trod_int Tryz.underlying3 g2
 cases e0;cases e1;cases e2
 exact ⟨⟨z0,z1,z2⟩,rfl⟩
theorem aul {n:Nat} {cs:List Value} {x:DataW H × List MemPlace} (h:DataW.trod enc Tryz.prog W 0 (fun _=>true) true n 31 cs=some x):∃ a b:Int,cs=[.int .i64 a,.int .i64 b]:=by
 obtain ⟨ys,m,_,rfl,hl,hlen,hf⟩:=DataW.trod_array Tryz.underlying31 h;obtain ⟨v0,v1,rfl⟩:=alK (hl.trans awM);obtain ⟨y0,y1,rfl⟩:=alK hlen;have g0:=hf 0 (by omega);have g1:=hf 1 (by omega);clear hf h
 simp [aoG] at g0 g1
 obtain ⟨z0,e0,_,_⟩:=DataW.trod_int Tryz.underlying3 g0;obtain ⟨z1,e1,_,_⟩:=DataW.trod_int Tryz.underlying3 g1
 cases e0;cases e1
 exact ⟨z0,z1,rfl⟩
variable {b0:Nat} {v:Value} {d:DataW H} {ps:List MemPlace}
theorem aya {P:Program} {t:TypeId} {fs:Array Field} {cs:List Value} (ht:P.underlying t=some (.struct fs)) (hv:Value.okWide P W .any b0 t v) (h:v.cells.toList=cs):v= .agg cs.toArray:=by
 obtain ⟨l,rfl,_⟩:=okWide_struct ht hv;have h:l.toList=cs:=h;rw [← h]
theorem apX (hv:Value.okWide Tryz.prog W .any b0 23 v) (h:DataW.Trod enc Tryz.prog W 0 (fun _=>true) true 23 v d ps):∃ r:M.Rules,v=jM r:=by
 obtain ⟨n,hn⟩:=h;obtain ⟨r,he⟩:=anF hn;exact ⟨r,aya (P:=Tryz.prog) Tryz.underlying23 hv he⟩
end
end Go.Proofs.YtelpepbpdojikaaGreatDoor
