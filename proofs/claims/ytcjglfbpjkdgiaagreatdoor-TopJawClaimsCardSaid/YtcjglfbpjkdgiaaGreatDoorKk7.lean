/- Parts of a proof. -/
import Derived.Laws.EntriesVeiled
import Derived.Maps.Own
import Derived.Test.YtcjglfbpjkdgiaaGreatDoorKk1
set_option maxHeartbeats 400000
set_option maxRecDepth 100000
set_option linter.unusedVariables false
set_option linter.unusedSimpArgs false
namespace Go.Proofs.YtcjglfbpjkdgiaaGreatDoor
open Go.RowKit
@[reducible] def ou (jC called:Bool) (f:Nat):Value:= .agg #[.bool jC,.bool called,.func (.func f) #[] #[]]
def IU:List (ByteArray × Value):=
 [(⟨#[98,114,101,97,107]⟩,ou true false 134),(⟨#[112,108,97,121]⟩,ou true true 134),
  (⟨#[115,97,102,101,116,121]⟩,ou true false 134),(⟨#[112,117,115,104]⟩,ou true false 135),
  (⟨#[112,97,115,115]⟩,ou false false 136),(⟨#[99,111,110,99,101,100,101]⟩,ou false false 134)]
def kE (n:Nat):Array MapEntry:=((List.range n).filterMap fun i=>(IU[i]?).map fun p=>{key:= .string p.1,val:=p.2,born:=i }).toArray
theorem oJ {P:Program} {W:World} {r:Nat} {es:Array MapEntry} {c:Nat} (hb:W.heap[r]? =some (.map es c)):(getObj r).run P W= .ok (.map es c) W:=by
 simp [getObj,Sem.run,hb]
theorem DF {P:Program} {W:World} {r:Nat} {es:Array MapEntry} {c:Nat} (o:Obj) (hb:W.heap[r]? =some (.map es c)):(setObj r o).run P W= .ok () {W with heap:=W.heap.setIfInBounds r o }:=by
 simp [setObj,Sem.run,hb]
theorem Rf (w:World) (o o':Obj):({w.alloc o with heap:=(w.alloc o).heap.setIfInBounds w.heap.size o' }:World)=w.alloc o':=by
 show ({w with heap:=(w.heap.push o).setIfInBounds w.heap.size o' }:World)= {w with heap:=w.heap.push o' }
 congr 1
 simp [Array.setIfInBounds,Array.push]
theorem kK {P:Program} (kt:TypeId) (hk:P.underlying kt=some .string) (b:Bool) (n:Nat) (s:ByteArray) (W:World):(Instr.checkKey b (n+1) kt (.string s)).run P W= .ok () W:=by
 unfold Instr.checkKey
 simp [run_underlying hk]
theorem sJ {P:Program} (t kt et:TypeId) (w:World) (es:Array MapEntry) (clock:Nat) (k:ByteArray) (v:Value) (ht:P.underlying t=some (.map kt et)) (hk:P.underlying kt=some .string)
 (hf:Instr.findNow .string (.string k) es.toList 0=some none):
 (Instr.mapUpdate t (.map (some w.heap.size)) (.string k) v).run P (w.alloc (.map es clock))= .ok () (w.alloc (.map (es.push {key:= .string k,val:=v,born:=clock }) (clock+1))):=by
 have hb:=heap_alloc_new w (.map es clock);have h2:=DF (P:=P) (.map (es.push {key:= .string k,val:=v,born:=clock }) (clock+1)) hb;rw [Rf] at h2
 simp [Instr.mapUpdate,run_underlying ht,oJ hb,kK kt hk,Instr.findKey,run_underlying hk,hf,h2]
theorem Yh (n:Nat) (k:ByteArray) (v:Value) (h:IU[n]? =some (k,v)):(kE n).push {key:= .string k,val:=v,born:=n }=kE (n+1):=by
 simp [kE,List.range_succ,h]
theorem iT {P:Program} (t kt et:TypeId) (w:World) (n:Nat) (k:ByteArray) (v:Value) (ht:P.underlying t=some (.map kt et)) (hk:P.underlying kt=some .string)
 (hf:Instr.findNow .string (.string k) (kE n).toList 0=some none) (h:IU[n]? =some (k,v)):
 (Instr.mapUpdate t (.map (some w.heap.size)) (.string k) v).run P (w.alloc (.map (kE n) n))= .ok () (w.alloc (.map (kE (n+1)) (n+1))):=by
 rw [sJ t kt et w (kE n) n k v ht hk hf,Yh n k v h]
theorem ql (w:World):Calls Tryz.prog 63 #[] w fun r w'=>r= .returned (.map (some w.heap.size))∧w.alloc (.map (kE 6) 6)=w':=by
 have hmm:(Instr.makeMap 159 none).run Tryz.prog w= .ok (.map (some w.heap.size)) (w.alloc (.map (kE 0) 0)):=rfl;have h0:=iT 159 9 157 w 0 _ _ Tryz.underlying159 Tryz.underlying9 (by kernel_rfl) rfl;have h1:=iT 159 9 157 w 1 _ _ Tryz.underlying159 Tryz.underlying9 (by kernel_rfl) rfl;have h2:=iT 159 9 157 w 2 _ _ Tryz.underlying159 Tryz.underlying9 (by kernel_rfl) rfl;have h3:=iT 159 9 157 w 3 _ _ Tryz.underlying159 Tryz.underlying9 (by kernel_rfl) rfl;have h4:=iT 159 9 157 w 4 _ _ Tryz.underlying159 Tryz.underlying9 (by kernel_rfl) rfl;have h5:=iT 159 9 157 w 5 _ _ Tryz.underlying159 Tryz.underlying9 (by kernel_rfl) rfl
 go_enter Tryz.func63,Tryz.ntmps63
 go_wp2
 go_outline
 go_ret;exact ⟨rfl,rfl⟩
def kindOf (k:ByteArray):Value × Bool:=
 if k=⟨#[98,114,101,97,107]⟩ then (ou true false 134,true)
 else if k=⟨#[112,108,97,121]⟩ then (ou true true 134,true)
 else if k=⟨#[115,97,102,101,116,121]⟩ then (ou true false 134,true)
 else if k=⟨#[112,117,115,104]⟩ then (ou true false 135,true)
 else if k=⟨#[112,97,115,115]⟩ then (ou false false 136,true)
 else if k=⟨#[99,111,110,99,101,100,101]⟩ then (ou false false 134,true)
 else (.agg #[.bool false,.bool false,.nilFunc],false)
theorem Eo {w:World} {g:Nat} (hb:w.heap[g]? =some (.map (kE 6) 6)) (k:ByteArray) (ok:Bool) (r:Option (Nat × Value)) (hf:Instr.findNow .string (.string k) (kE 6).toList 0=some r):
 (Instr.lookup 159 (.map (some g)) (.string k) ok).run Tryz.prog w=
   .ok (if ok then .tuple #[(r.map (·.2)).getD (.agg #[.bool false,.bool false,.nilFunc]),.bool r.isSome] else (r.map (·.2)).getD (.agg #[.bool false,.bool false,.nilFunc])) w:=by
 have hz:(zeroValue 157).run Tryz.prog w= .ok (.agg #[.bool false,.bool false,.nilFunc]) w:=by kernel_rfl
 have hck:∀ b,(Instr.checkKey b 10000 9 (.string k)).run Tryz.prog w= .ok () w:=fun b=>kK 9 Tryz.underlying9 b 9999 k w
 cases r with
 | none=>cases ok <;> simp [Instr.lookup,run_underlying Tryz.underlying159,oJ hb,hck,Instr.findKey,run_underlying Tryz.underlying9,hf,hz]
 | some p=>cases ok <;> simp [Instr.lookup,run_underlying Tryz.underlying159,oJ hb,hck,Instr.findKey,run_underlying Tryz.underlying9,hf]
theorem PU (k:ByteArray):∃ r:Option (Nat × Value),Instr.findNow .string (.string k) (kE 6).toList 0=some r∧kindOf k=((r.map (·.2)).getD (.agg #[.bool false,.bool false,.nilFunc]),r.isSome):=by
 unfold kindOf
 split
 · next h=>subst h;exact ⟨some (0,ou true false 134),by kernel_rfl,rfl⟩
 split
 · next h=>subst h;exact ⟨some (1,ou true true 134),by kernel_rfl,rfl⟩
 split
 · next h=>subst h;exact ⟨some (2,ou true false 134),by kernel_rfl,rfl⟩
 split
 · next h=>subst h;exact ⟨some (3,ou true false 135),by kernel_rfl,rfl⟩
 split
 · next h=>subst h;exact ⟨some (4,ou false false 136),by kernel_rfl,rfl⟩
 split
 · next h=>subst h;exact ⟨some (5,ou false false 134),by kernel_rfl,rfl⟩
 · next h0 h1 h2 h3 h4 h5=>
   refine ⟨none,?_,rfl⟩;have he:(kE 6).toList=IU.zipIdx.map fun p=>{key:= .string p.1.1,val:=p.1.2,born:=p.2 }:=rfl;rw [he];have e0:=rY h0;have e1:=rY h1;have e2:=rY h2;have e3:=rY h3;have e4:=rY h4;have e5:=rY h5
   simp only [IU,List.zipIdx,List.map,Instr.findNow,Instr.sameNow,e0,e1,e2,e3,e4,e5]
theorem uo {w:World} {g:Nat} (hb:w.heap[g]? =some (.map (kE 6) 6)) (k:ByteArray) (ok:Bool):
 (Instr.lookup 159 (.map (some g)) (.string k) ok).run Tryz.prog w= .ok (if ok then .tuple #[(kindOf k).1,.bool (kindOf k).2] else (kindOf k).1) w:=by
 obtain ⟨r,hf,hk⟩:=PU k;rw [hk];exact Eo hb k ok r hf
def Zh (k:ByteArray):Bool:=k=M.oq
def P9 (k:ByteArray):Nat:=if k=M.gI then 135 else if k=M.iW then 136 else 134
theorem Gq {k:ByteArray} (h:M.isKind k=true):kindOf k=(.agg #[.bool (M.jC k),.bool (Zh k),.func (.func (P9 k)) #[] #[]],true):=by
 rcases wI k with rfl | rfl | rfl | rfl | rfl | rfl | ⟨h0,h1,h2,h3,h4,h5,hk⟩
 iterate 6 (first | rfl | skip)
 rw [hk] at h;cases h
theorem CU {k:ByteArray} (h:M.isKind k=false):kindOf k=(.agg #[.bool false,.bool false,.nilFunc],false):=by
 rcases wI k with rfl | rfl | rfl | rfl | rfl | rfl | ⟨h0,h1,h2,h3,h4,h5,hk⟩
 iterate 6 (first | (exfalso;revert h;decide) | skip)
 unfold kindOf
 rw [if_neg (fun e=>h0 (by subst e;rw [ByteArray.toList_eq])),if_neg (fun e=>h1 (by subst e;rw [ByteArray.toList_eq])),if_neg (fun e=>h2 (by subst e;rw [ByteArray.toList_eq])),if_neg (fun e=>h3 (by subst e;rw [ByteArray.toList_eq])),if_neg (fun e=>h4 (by subst e;rw [ByteArray.toList_eq])),if_neg (fun e=>h5 (by subst e;rw [ByteArray.toList_eq]))]
theorem iY {k:ByteArray} (h:M.isKind k=true) {w:World} {g:Nat} (hb:w.heap[g]? =some (.map (kE 6) 6)) (ok:Bool):
 (Instr.lookup 159 (.map (some g)) (.string k) ok).run Tryz.prog w= .ok (if ok then .tuple #[.agg #[.bool (M.jC k),.bool (Zh k),.func (.func (P9 k)) #[] #[]],.bool true] else .agg #[.bool (M.jC k),.bool (Zh k),.func (.func (P9 k)) #[] #[]]) w:=by
 rw [uo hb,Gq h]
theorem lM {k:ByteArray} (h:M.isKind k=false) {w:World} {g:Nat} (hb:w.heap[g]? =some (.map (kE 6) 6)) (ok:Bool):
 (Instr.lookup 159 (.map (some g)) (.string k) ok).run Tryz.prog w= .ok (if ok then .tuple #[.agg #[.bool false,.bool false,.nilFunc],.bool false] else .agg #[.bool false,.bool false,.nilFunc]) w:=by
 rw [uo hb,CU h]
theorem gG (W:World) (us:List Value) (t:TypeId) (g:Nat) (hg:W.heap.size=g) (j:Nat) (v:Value) (h:us[j]? =some v):(W.alloc (.cells us.toArray t)).cell? ⟨g,j,none⟩=some v:=by
 have:=dJ W t us g hg j v h;rwa [oC,Nat.zero_add] at this
theorem LU (W:World) (us:List Value) (t:TypeId) (o:Obj) (g:Nat) (hg:W.heap.size=g) (j:Nat) (v:Value) (h:us[j]? =some v):((W.alloc (.cells us.toArray t)).alloc o).cell? ⟨g,j,none⟩=some v:=
 (World.cell?_alloc_lt _ o ⟨g,j,none⟩ (by simp;omega)).trans (gG W us t g hg j v h)
theorem yX (w:World) (o m:Obj):((w.alloc o).alloc m).heap[w.heap.size+1]? =some m:=by
 have:=heap_alloc_new (w.alloc o) m;rwa [World.size_alloc] at this
theorem CO (w:World) (o m k:Obj):(((w.alloc o).alloc m).alloc k).heap[w.heap.size+1]? =some m:=
 (heap_alloc_old _ k (by simp)).trans (yX w o m)
theorem EF (w:World) (o k m:Obj):(((w.alloc o).alloc k).alloc m).heap[w.heap.size+2]? =some m:=by
 have:=heap_alloc_new ((w.alloc o).alloc k) m;rwa [World.size_alloc,World.size_alloc] at this
theorem Na {k:ByteArray} (h:M.isKind k=true) (ok:Bool) (W:World) (g:Nat) (hg:W.heap.size=g):
 (Instr.lookup 159 (.map (some g)) (.string k) ok).run Tryz.prog (W.alloc (.map (kE 6) 6))= .ok (if ok then .tuple #[.agg #[.bool (M.jC k),.bool (Zh k),.func (.func (P9 k)) #[] #[]],.bool true] else .agg #[.bool (M.jC k),.bool (Zh k),.func (.func (P9 k)) #[] #[]]) (W.alloc (.map (kE 6) 6)):=by
 subst hg;exact iY h (heap_alloc_new W _) ok
theorem Gw {k:ByteArray} (h:M.isKind k=false) (ok:Bool) (W:World) (g:Nat) (hg:W.heap.size=g):
 (Instr.lookup 159 (.map (some g)) (.string k) ok).run Tryz.prog (W.alloc (.map (kE 6) 6))= .ok (if ok then .tuple #[.agg #[.bool false,.bool false,.nilFunc],.bool false] else .agg #[.bool false,.bool false,.nilFunc]) (W.alloc (.map (kE 6) 6)):=by
 subst hg;exact lM h (heap_alloc_new W _) ok
end Go.Proofs.YtcjglfbpjkdgiaaGreatDoor
