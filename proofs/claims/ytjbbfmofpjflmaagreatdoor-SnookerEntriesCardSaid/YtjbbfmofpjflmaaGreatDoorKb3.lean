/- Parts of a proof. -/
import Derived.Carry
import Derived.ChangeSame
import Derived.Deep.DeepHandedRow
import Derived.Deep.Slices
import Derived.Lib.SmallJoins
import Derived.Test.YtjbbfmofpjflmaaGreatDoorKb2
set_option linter.unusedVariables false
set_option linter.unusedSimpArgs false
namespace Go.Proofs.YtjbbfmofpjflmaaGreatDoor
open Go.RowKit Go.ChangeShapes Go.WideShapes
theorem zW {α:Type} (f:α→List Value) {size:Nat} (hf:∀ a,(f a).length=size) {w:World} {b:Nat}:∀ (l:List α) (o:Nat),(∀ i (hi:i<l.length) j v,(f l[i])[j]? =some v→w.cell? ⟨b,o+i*size+j,none⟩=some v)→
 ∀ j u,(l.flatMap f)[j]? =some u→w.cell? ⟨b,o+j,none⟩=some u
 | [],_,_,j,u,h=>by simp at h
 | a::l,o,hc,j,u,h=>by
   rw [List.flatMap_cons] at h
   rcases Nat.lt_or_ge j size with hj | hj
   · rw [List.getElem?_append_left (by rw [hf];exact hj)] at h
     have:=hc 0 (by simp) j u h
     simpa using this
   · rw [List.getElem?_append_right (by rw [hf];exact hj),hf] at h
     have:=zW f hf l (o+size) (fun i hi k v hk=>by
      have:=hc (i+1) (by simpa using hi) k v hk
      have e:o+(i+1)*size+k=o+size+i*size+k:=by rw [Nat.add_mul];omega
      rwa [e] at this) (j - size) u h
     have e:o+size+(j - size)=o+j:=by omega
     rwa [e] at this
theorem flat_length {α:Type} (f:α→List Value) {size:Nat} (hf:∀ a,(f a).length=size):∀ l:List α,(l.flatMap f).length=l.length*size
 | []=>by simp
 | a::l=>by rw [List.flatMap_cons,List.length_append,hf,flat_length f hf l,List.length_cons,Nat.add_mul];omega
section
variable {H:Type} {enc:TypeId × Value→H} {P:Program} {W:World}
theorem iY {l m:List Nat} (h:(l++m).all (· ≤reachBytes)=true):m.all (· ≤reachBytes)=true:=by rw [List.all_append,Bool.and_eq_true] at h;exact h.2
theorem lN {l m:List Nat} (h:(l++m).all (· ≤reachBytes)=true):l.all (· ≤reachBytes)=true:=by rw [List.all_append,Bool.and_eq_true] at h;exact h.1
theorem uI {e:TypeId}:∀ (ds:List (DataW H)),(DataW.weightsAll P e ds).all (· ≤reachBytes)=true→∀ d∈ds,(d.weights P e).all (· ≤reachBytes)=true
 | [],_,d,hd=>by cases hd
 | a::r,h,d,hd=>by
   rw [DataW.weightsAll] at h
   rcases List.mem_cons.1 hd with rfl | hd
   · exact lN h
   · exact uI r (iY h) d hd
theorem Du {α:Type} [Inhabited α] (f:α→List Value) (Q:α→Prop) {size:Nat} {t e:TypeId} (ht:P.underlying t=some (.slice e)) (hc:P.cellsOf e=size) (hpos:0<size) (hf:∀ a,(f a).length=size) (hby:8≤P.bytesOf e)
 (each:∀ n cs x,DataW.trod enc P W 0 (fun _=>true) true n e cs=some x→(x.1.weights P e).all (· ≤reachBytes)=true→∃ a,cs=f a∧Q a)
 {fuel:Nat} {cs:List Value} {x:DataW H × List MemPlace} (h:DataW.trod enc P W 0 (fun _=>true) true fuel t cs=some x) (hw:(x.1.weights P t).all (· ≤reachBytes)=true):
 ∃ (A:Option Addr) (c:Nat) (l:List α),cs=[.slice A l.length c]∧Reads W (fun _=>True) size A l.length c (l.flatMap f)∧(∀ a∈l,Q a)∧l.length*P.bytesOf e≤reachBytes:=by
 rcases Deep.open_slice ht h with ⟨rfl,rfl⟩ | ⟨a,len,cap,m,n,D,Pl,rfl,_,hl,hm,hmm,rfl,hx⟩
 · refine ⟨none,0,([]:List α),rfl,Reads.none_ _ _ _,fun a (ha:a∈([]:List α))=>?_,?_⟩
   · cases ha
   · simp
 · simp only [if_true] at hmm
   subst hmm;rw [DataW.weights.eq_def] at hw
   simp only [ht,List.all_cons,Bool.and_eq_true,List.length_map,List.length_range] at hw
   obtain ⟨hw1,hw2⟩:=hw
   have hw1:(len+(m - len))*P.bytesOf e≤reachBytes:=by simpa using hw1
   have hwl:=uI _ (lN hw2)
   have hel:∀ i,i<len→∃ y:α,W.cells? 0 (a.add (i*P.cellsOf e)) (P.cellsOf e)=some (f y)∧Q y:=fun i hi=>by
    obtain ⟨cs',h1,h2⟩:=hx i (by omega);obtain ⟨y,rfl,hy⟩:=each _ _ _ h2 (hwl _ (List.mem_map.2 ⟨i,List.mem_range.2 hi,rfl⟩));exact ⟨y,h1,hy⟩
   obtain ⟨g,hg⟩:=Deep.choose_lt hel
   have hlen:((List.range len).map g).length=len:=by simp
   have hml:len*P.bytesOf e≤reachBytes:=Nat.le_trans (Nat.mul_le_mul_right _ (by omega)) hw1;refine ⟨some a,m,(List.range len).map g,by rw [hlen],?_,?_,by rw [hlen];exact hml⟩
   · rw [hlen]
     refine ⟨hl,by simpa [maxLen] using hm,?_,by rw [flat_length f hf,hlen],fun h0=>?_⟩
     · have h8:len*8≤reachBytes:=Nat.le_trans (Nat.mul_le_mul_left _ hby) hml
       simp only [reachBytes] at h8
       omega
     · obtain ⟨b,o,sp⟩:=a
       obtain ⟨_,hl0,hc0⟩:=World.cells?_some (hg 0 h0).1;have e0:=hc0 0 (by rw [hc];exact hpos);rw [hf] at hl0;obtain ⟨v0,hv0⟩:∃ v,(f (g 0))[0]? =some v:=⟨_,List.getElem?_eq_getElem (by rw [hf];exact hpos)⟩;rw [hv0] at e0
       have hsp:sp=none:=by simpa [Addr.add] using World.cell?_spot e0
       subst hsp;refine ⟨b,o,rfl,trivial,?_,zW f hf _ o fun i hi j v hv=>?_⟩
       · simp only [Nat.zero_mul,oJ,Nat.add_zero] at e0
         rcases Nat.lt_or_ge b W.heap.size with hlt | hge
         · exact hlt
         · simp [World.cell?,Array.getElem?_eq_none hge] at e0
       · rw [hlen] at hi
         simp only [List.getElem_map,List.getElem_range] at hv
         obtain ⟨_,_,hci⟩:=World.cells?_some (hg i hi).1
         have hj:j<size:=by have:=(List.getElem?_eq_some_iff.1 hv).1;rwa [hf] at this
         have:=hci j (by rw [hc];exact hj)
         rw [hc,hv] at this
         simpa only [oJ] using this
   · intro y hy
     obtain ⟨i,hi,rfl⟩:=List.mem_map.1 hy;exact (hg i (List.mem_range.1 hi)).2
theorem MB {s:ChangeSpec} {fn:Func} {args:Array Value} {ds gs:List (DataW H)} {before:List MemPlace} {tb:TypeId} {W':World}
 (hl:laidOutB P=true) (hlt:∀ t∈fn.params.toList,t<P.types.size∧P.readableRec t=true) (hvs:s.vars=[]) (hr:fn.resultTypes= #[tb]) (htb:P.underlying tb=some .bool)
 (hres:(s.fn H (ds++gs)).results=[.lit (.bool true)]) (hargs:(s.fn H (ds++gs)).args=ds) (hvars:(s.fn H (ds++gs)).vars=[])
 (hW:DataW.Whole enc P fn.params.toList s.vars false W args.toList ds gs before) (hb:Below W.heap.size W W'):
 s.post enc P fn false true false false W args (.bool true) W':=by
 have hW':=hW;obtain ⟨p,q,hA,hV,rfl,hfz,hnd⟩:=hW;rw [hvs] at hV
 obtain ⟨rfl,rfl⟩:gs=[]∧q=[]:=by
  cases gs with
  | nil=>exact ⟨rfl,hV⟩
  | cons g gs=>exact absurd hV (by simp [DataW.TrodVars])
 rw [List.append_nil] at hW' hfz
 have hlt':∀ x∈p,x.block<W.heap.size:=fun x hx=>by simpa using hW'.lt x hx
 have key:∀ (sp:Nat→Bool),(∀ x∈p,sp x.block=true)→∀ (ts:List TypeId) (vs:List Value) (ds:List (DataW H)) (p':List MemPlace),(∀ t∈ts,t<P.types.size∧P.readableRec t=true)→(∀ x∈p',x∈p)→
  DataW.TrodAll enc P W 0 (fun _=>true) true ts vs ds p'→DataW.TrodAll enc P W' 0 sp true ts vs ds p':=by
  intro sp hsp ts
  induction ts with
  | nil=>intro vs ds p' _ _ h;obtain ⟨rfl,rfl,rfl⟩:=trodAll_nil h;exact h
  | cons t ts ih=>
    intro vs ds p' ht hp h;obtain ⟨v,vs1,d,ds1,a,b,rfl,rfl,rfl,h1,h2⟩:=trodAll_cons h;refine ⟨a,b,?_,ih _ _ _ (fun u hu=>ht u (List.mem_cons_of_mem _ hu)) (fun x hx=>hp x (List.mem_append_right _ hx)) h2,rfl⟩;obtain ⟨hr1,hr2⟩:=ht t List.mem_cons_self;exact WideElems.Trod_stays hl hr2 hr1 h1 (fun x hx=>hb.same (hlt' x (hp x (List.mem_append_left _ hx)))) (fun x hx=>hsp x (hp x (List.mem_append_left _ hx)))
 have hag:∀ sp:Nat→Bool,(∀ x∈p,sp x.block=true)→DataW.TrodAll enc P W' 0 sp true fn.params.toList args.toList (s.fn H (ds++[])).args p:=fun sp hsp=>by
  rw [hargs];exact key sp hsp _ _ _ _ hlt (fun x hx=>hx) hA
 have hrs:∀ (b:Nat) (sp:Nat→Bool) (hd:Bool),DataW.TrodAll enc P W' b sp hd fn.resultTypes.toList ((Value.bool true).resultList fn.resultTypes.size) (s.fn H (ds++[])).results []:=fun b sp hd=>by
  rw [hr,hres];exact trodAll_mk1 (shut_bool htb _)
 have hvv:∀ sp:Nat→Bool,DataW.TrodVars enc P W' sp s.vars (s.fn H (ds++[])).vars []:=fun sp=>by rw [hvs,hvars];rfl
 have hok:∀ (j:Nat) (t:TypeId) (r:Value),fn.resultTypes[j]? =some t→((Value.bool true).resultList fn.resultTypes.size)[j]? =some r→Value.okWide P W' .any 0 t r:=ok_one hr rfl (okWide_bool_mk htb _)
 have hold:∀ x∈p,(fun b=>decide (b<W.heap.size)) x.block=true:=fun x hx=>by simpa using hlt' x hx
 refine ⟨ds,[],p,[],p,[],hW',hrs _ _ _,hag _ hold,hvv _,World.keptBut_mono (fun x hx=>⟨hx,Or.inr (Or.inl hx)⟩) (hb.frame (fun x=>x∈p)),fun _=>?_⟩;refine ⟨hok,_,_,([]++p)++[],⟨[]++p,[],trodAll_append (hag _ (fun _ _=>rfl)) (hrs _ _ _),hvv _,rfl,?_,?_⟩,?_⟩
 · intro b off hp
   have hp':MemPlace.cell b off∈p:=by simpa using hp
   rw [hb.frozen (p:=⟨b,off,none⟩) (hlt' _ hp')];exact hfz b off hp'
 · intro ha;cases ha
 · intro x hx _;simpa using hx
end
section
variable {H:Type} {enc:TypeId × Value→H} {W:World}
theorem JW:Tryz.prog.cellsOf 3=1:=by kernel_rfl
theorem Ia:Tryz.prog.cellsOf 4=1:=by kernel_rfl
theorem wK:Tryz.prog.cellsOf 9=1:=by kernel_rfl
theorem JX:Tryz.prog.cellsOf 24=2:=by kernel_rfl
theorem VL {α:Type} {l:List α} (h:l.length=2):∃ a b,l=[a,b]:=by match l,h with | [a,b],_=>exact ⟨a,b,rfl⟩
theorem Gi {α β:Type} (f:α→β):∀ l:List α,l.map f=l.flatMap fun p=>[f p]
 | []=>rfl
 | a::l=>by rw [List.map_cons,List.flatMap_cons,Gi f l];rfl
instance:Inhabited M.Wp:=⟨⟨0,0⟩⟩
instance:Inhabited M.gy:=⟨⟨0,⟨#[]⟩,0,0,0,false,[]⟩⟩
instance:Inhabited Sh:=⟨⟨default,none,0⟩⟩
theorem Gn {n:Nat} {cs:List Value} {x:DataW H × List MemPlace} (h:DataW.trod enc Tryz.prog W 0 (fun _=>true) true n 24 cs=some x):∃ a b:Int,cs=[.int .i64 a,.int .i64 b]:=by
 obtain ⟨ys,m,_,rfl,hl,hlen,hf⟩:=DataW.trod_array Tryz.underlying24 h;obtain ⟨v0,v1,rfl⟩:=VL (hl.trans JX);obtain ⟨y0,y1,rfl⟩:=VL hlen;have g0:=hf 0 (by omega);have g1:=hf 1 (by omega);clear hf h
 simp [JW] at g0 g1
 obtain ⟨z0,e0,_,_⟩:=DataW.trod_int Tryz.underlying3 g0;obtain ⟨z1,e1,_,_⟩:=DataW.trod_int Tryz.underlying3 g1
 cases e0;cases e1
 exact ⟨z0,z1,rfl⟩
variable {b0:Nat} {v:Value} {d:DataW H} {ps:List MemPlace}
theorem NC {P:Program} {t:TypeId} {fs:Array Field} {cs:List Value} (ht:P.underlying t=some (.struct fs)) (hv:Value.okWide P W .any b0 t v) (h:v.cells.toList=cs):v= .agg cs.toArray:=by
 obtain ⟨l,rfl,_⟩:=okWide_struct ht hv;have h:l.toList=cs:=h;rw [← h]
end
end Go.Proofs.YtjbbfmofpjflmaaGreatDoor
