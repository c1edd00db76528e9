/- Parts of a proof. -/
import Derived.Carry
import Derived.ChangeSame
import Derived.Deep.DeepHandedRow
import Derived.Deep.Slices
import Derived.Lib.SmallJoins
import Derived.Test.YtcbmedfongiojaaGreatDoorKt2
set_option linter.unusedVariables false
set_option linter.unusedSimpArgs false
namespace Go.Proofs.YtcbmedfongiojaaGreatDoor
open Go.RowKit Go.ChangeShapes Go.WideShapes
section
variable {H:Type} {enc:TypeId × Value→H} {P:Program} {W:World}
theorem LU {s:ChangeSpec} {fn:Func} {args:Array Value} {ds gs:List (DataW H)} {before:List MemPlace} {tb:TypeId} {W':World}
 (hl:laidOutB P=true) (hlt:∀ t∈fn.params.toList,t<P.types.size∧P.readableRec t=true) (hvs:s.vars=[]) (hr:fn.resultTypes= #[tb]) (htb:P.underlying tb=some .bool)
 (hres:(s.fn H (ds++gs)).results=[.lit (.bool true)]) (hargs:(s.fn H (ds++gs)).args=ds) (hvars:(s.fn H (ds++gs)).vars=[])
 (hW:DataW.Whole enc P fn.params.toList s.vars false W args.toList ds gs before) (hb:Below W.heap.size W W'):
 s.post enc P fn false true false false W args (.bool true) W':=by
 have hW':=hW;obtain ⟨p,q,hA,hV,rfl,hfz,hnd⟩:=hW;rw [hvs] at hV
 obtain ⟨rfl,rfl⟩:gs=[]∧q=[]:=by
  cases gs with
  | nil=>exact ⟨rfl,hV⟩
  | cons g gs=>exact absurd hV (by simp [DataW.TrodVars])
 rw [List.append_nil] at hW' hfz
 have hlt':∀ x∈p,x.block<W.heap.size:=fun x hx=>by simpa using hW'.lt x hx
 have key:∀ (sp:Nat→Bool),(∀ x∈p,sp x.block=true)→∀ (ts:List TypeId) (vs:List Value) (ds:List (DataW H)) (p':List MemPlace),(∀ t∈ts,t<P.types.size∧P.readableRec t=true)→(∀ x∈p',x∈p)→
  DataW.TrodAll enc P W 0 (fun _=>true) true ts vs ds p'→DataW.TrodAll enc P W' 0 sp true ts vs ds p':=by
  intro sp hsp ts
  induction ts with
  | nil=>intro vs ds p' _ _ h;obtain ⟨rfl,rfl,rfl⟩:=trodAll_nil h;exact h
  | cons t ts ih=>
    intro vs ds p' ht hp h;obtain ⟨v,vs1,d,ds1,a,b,rfl,rfl,rfl,h1,h2⟩:=trodAll_cons h;refine ⟨a,b,?_,ih _ _ _ (fun u hu=>ht u (List.mem_cons_of_mem _ hu)) (fun x hx=>hp x (List.mem_append_right _ hx)) h2,rfl⟩;obtain ⟨hr1,hr2⟩:=ht t List.mem_cons_self;exact WideElems.Trod_stays hl hr2 hr1 h1 (fun x hx=>hb.same (hlt' x (hp x (List.mem_append_left _ hx)))) (fun x hx=>hsp x (hp x (List.mem_append_left _ hx)))
 have hag:∀ sp:Nat→Bool,(∀ x∈p,sp x.block=true)→DataW.TrodAll enc P W' 0 sp true fn.params.toList args.toList (s.fn H (ds++[])).args p:=fun sp hsp=>by
  rw [hargs];exact key sp hsp _ _ _ _ hlt (fun x hx=>hx) hA
 have hrs:∀ (b:Nat) (sp:Nat→Bool) (hd:Bool),DataW.TrodAll enc P W' b sp hd fn.resultTypes.toList ((Value.bool true).resultList fn.resultTypes.size) (s.fn H (ds++[])).results []:=fun b sp hd=>by
  rw [hr,hres];exact trodAll_mk1 (shut_bool htb _)
 have hvv:∀ sp:Nat→Bool,DataW.TrodVars enc P W' sp s.vars (s.fn H (ds++[])).vars []:=fun sp=>by rw [hvs,hvars];rfl
 have hok:∀ (j:Nat) (t:TypeId) (r:Value),fn.resultTypes[j]? =some t→((Value.bool true).resultList fn.resultTypes.size)[j]? =some r→Value.okWide P W' .any 0 t r:=ok_one hr rfl (okWide_bool_mk htb _)
 have hold:∀ x∈p,(fun b=>decide (b<W.heap.size)) x.block=true:=fun x hx=>by simpa using hlt' x hx
 refine ⟨ds,[],p,[],p,[],hW',hrs _ _ _,hag _ hold,hvv _,World.keptBut_mono (fun x hx=>⟨hx,Or.inr (Or.inl hx)⟩) (hb.frame (fun x=>x∈p)),fun _=>?_⟩;refine ⟨hok,_,_,([]++p)++[],⟨[]++p,[],trodAll_append (hag _ (fun _ _=>rfl)) (hrs _ _ _),hvv _,rfl,?_,?_⟩,?_⟩
 · intro b off hp
   have hp':MemPlace.cell b off∈p:=by simpa using hp
   rw [hb.frozen (p:=⟨b,off,none⟩) (hlt' _ hp')];exact hfz b off hp'
 · intro ha;cases ha
 · intro x hx _;simpa using hx
end
section
variable {H:Type} {enc:TypeId × Value→H} {W:World}
theorem NV:Tryz.prog.cellsOf 3=1:=by kernel_rfl
theorem NU:Tryz.prog.cellsOf 4=1:=by kernel_rfl
theorem E5:Tryz.prog.cellsOf 9=1:=by kernel_rfl
theorem NW:Tryz.prog.cellsOf 24=2:=by kernel_rfl
theorem Wh {α:Type} {l:List α} (h:l.length=2):∃ a b,l=[a,b]:=by match l,h with | [a,b],_=>exact ⟨a,b,rfl⟩
instance:Inhabited M.Dt:=⟨⟨0,0⟩⟩
instance:Inhabited M.oH:=⟨⟨0,⟨#[]⟩,0,0,0,false,[]⟩⟩
instance:Inhabited Sh:=⟨⟨default,none,0⟩⟩
theorem Gj {n:Nat} {cs:List Value} {x:DataW H × List MemPlace} (h:DataW.trod enc Tryz.prog W 0 (fun _=>true) true n 24 cs=some x):∃ a b:Int,cs=[.int .i64 a,.int .i64 b]:=by
 obtain ⟨ys,m,_,rfl,hl,hlen,hf⟩:=DataW.trod_array Tryz.underlying24 h;obtain ⟨v0,v1,rfl⟩:=Wh (hl.trans NW);obtain ⟨y0,y1,rfl⟩:=Wh hlen;have g0:=hf 0 (by omega);have g1:=hf 1 (by omega);clear hf h
 simp [NV] at g0 g1
 obtain ⟨z0,e0,_,_⟩:=DataW.trod_int Tryz.underlying3 g0;obtain ⟨z1,e1,_,_⟩:=DataW.trod_int Tryz.underlying3 g1
 cases e0;cases e1
 exact ⟨z0,z1,rfl⟩
variable {b0:Nat} {v:Value} {d:DataW H} {ps:List MemPlace}
theorem NM {P:Program} {t:TypeId} {fs:Array Field} {cs:List Value} (ht:P.underlying t=some (.struct fs)) (hv:Value.okWide P W .any b0 t v) (h:v.cells.toList=cs):v= .agg cs.toArray:=by
 obtain ⟨l,rfl,_⟩:=okWide_struct ht hv;have h:l.toList=cs:=h;rw [← h]
end
end Go.Proofs.YtcbmedfongiojaaGreatDoor
