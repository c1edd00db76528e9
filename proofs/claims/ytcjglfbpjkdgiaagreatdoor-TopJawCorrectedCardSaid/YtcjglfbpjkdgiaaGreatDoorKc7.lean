/- Parts of a proof. -/
import Derived.Laws.EntriesVeiled
import Derived.Maps.Own
import Derived.Test.YtcjglfbpjkdgiaaGreatDoorKc1
set_option maxHeartbeats 400000
set_option maxRecDepth 100000
set_option linter.unusedVariables false
set_option linter.unusedSimpArgs false
namespace Go.Proofs.YtcjglfbpjkdgiaaGreatDoor
open Go.RowKit
@[reducible] def mP (jr called:Bool) (f:Nat):Value:= .agg #[.bool jr,.bool called,.func (.func f) #[] #[]]
def Fh:List (ByteArray × Value):=
 [(⟨#[98,114,101,97,107]⟩,mP true false 134),(⟨#[112,108,97,121]⟩,mP true true 134),
  (⟨#[115,97,102,101,116,121]⟩,mP true false 134),(⟨#[112,117,115,104]⟩,mP true false 135),
  (⟨#[112,97,115,115]⟩,mP false false 136),(⟨#[99,111,110,99,101,100,101]⟩,mP false false 134)]
def kE (n:Nat):Array MapEntry:=((List.range n).filterMap fun i=>(Fh[i]?).map fun p=>{key:= .string p.1,val:=p.2,born:=i }).toArray
theorem ni {P:Program} {W:World} {r:Nat} {es:Array MapEntry} {c:Nat} (hb:W.heap[r]? =some (.map es c)):(getObj r).run P W= .ok (.map es c) W:=by
 simp [getObj,Sem.run,hb]
theorem Ae {P:Program} {W:World} {r:Nat} {es:Array MapEntry} {c:Nat} (o:Obj) (hb:W.heap[r]? =some (.map es c)):(setObj r o).run P W= .ok () {W with heap:=W.heap.setIfInBounds r o }:=by
 simp [setObj,Sem.run,hb]
theorem Nr (w:World) (o o':Obj):({w.alloc o with heap:=(w.alloc o).heap.setIfInBounds w.heap.size o' }:World)=w.alloc o':=by
 show ({w with heap:=(w.heap.push o).setIfInBounds w.heap.size o' }:World)= {w with heap:=w.heap.push o' }
 congr 1
 simp [Array.setIfInBounds,Array.push]
theorem jH {P:Program} (kt:TypeId) (hk:P.underlying kt=some .string) (b:Bool) (n:Nat) (s:ByteArray) (W:World):(Instr.checkKey b (n+1) kt (.string s)).run P W= .ok () W:=by
 unfold Instr.checkKey
 simp [run_underlying hk]
theorem pX {P:Program} (t kt et:TypeId) (w:World) (es:Array MapEntry) (clock:Nat) (k:ByteArray) (v:Value) (ht:P.underlying t=some (.map kt et)) (hk:P.underlying kt=some .string)
 (hf:Instr.findNow .string (.string k) es.toList 0=some none):
 (Instr.mapUpdate t (.map (some w.heap.size)) (.string k) v).run P (w.alloc (.map es clock))= .ok () (w.alloc (.map (es.push {key:= .string k,val:=v,born:=clock }) (clock+1))):=by
 have hb:=heap_alloc_new w (.map es clock);have h2:=Ae (P:=P) (.map (es.push {key:= .string k,val:=v,born:=clock }) (clock+1)) hb;rw [Nr] at h2
 simp [Instr.mapUpdate,run_underlying ht,ni hb,jH kt hk,Instr.findKey,run_underlying hk,hf,h2]
theorem Uy (n:Nat) (k:ByteArray) (v:Value) (h:Fh[n]? =some (k,v)):(kE n).push {key:= .string k,val:=v,born:=n }=kE (n+1):=by
 simp [kE,List.range_succ,h]
theorem gZ {P:Program} (t kt et:TypeId) (w:World) (n:Nat) (k:ByteArray) (v:Value) (ht:P.underlying t=some (.map kt et)) (hk:P.underlying kt=some .string)
 (hf:Instr.findNow .string (.string k) (kE n).toList 0=some none) (h:Fh[n]? =some (k,v)):
 (Instr.mapUpdate t (.map (some w.heap.size)) (.string k) v).run P (w.alloc (.map (kE n) n))= .ok () (w.alloc (.map (kE (n+1)) (n+1))):=by
 rw [pX t kt et w (kE n) n k v ht hk hf,Uy n k v h]
theorem sF (w:World):Calls Tryz.prog 63 #[] w fun r w'=>r= .returned (.map (some w.heap.size))∧w.alloc (.map (kE 6) 6)=w':=by
 have hmm:(Instr.makeMap 159 none).run Tryz.prog w= .ok (.map (some w.heap.size)) (w.alloc (.map (kE 0) 0)):=rfl;have h0:=gZ 159 9 157 w 0 _ _ Tryz.underlying159 Tryz.underlying9 (by kernel_rfl) rfl;have h1:=gZ 159 9 157 w 1 _ _ Tryz.underlying159 Tryz.underlying9 (by kernel_rfl) rfl;have h2:=gZ 159 9 157 w 2 _ _ Tryz.underlying159 Tryz.underlying9 (by kernel_rfl) rfl;have h3:=gZ 159 9 157 w 3 _ _ Tryz.underlying159 Tryz.underlying9 (by kernel_rfl) rfl;have h4:=gZ 159 9 157 w 4 _ _ Tryz.underlying159 Tryz.underlying9 (by kernel_rfl) rfl;have h5:=gZ 159 9 157 w 5 _ _ Tryz.underlying159 Tryz.underlying9 (by kernel_rfl) rfl
 go_enter Tryz.func63,Tryz.ntmps63
 go_wp2
 go_outline
 go_ret;exact ⟨rfl,rfl⟩
def kindOf (k:ByteArray):Value × Bool:=
 if k=⟨#[98,114,101,97,107]⟩ then (mP true false 134,true)
 else if k=⟨#[112,108,97,121]⟩ then (mP true true 134,true)
 else if k=⟨#[115,97,102,101,116,121]⟩ then (mP true false 134,true)
 else if k=⟨#[112,117,115,104]⟩ then (mP true false 135,true)
 else if k=⟨#[112,97,115,115]⟩ then (mP false false 136,true)
 else if k=⟨#[99,111,110,99,101,100,101]⟩ then (mP false false 134,true)
 else (.agg #[.bool false,.bool false,.nilFunc],false)
theorem Bz {w:World} {g:Nat} (hb:w.heap[g]? =some (.map (kE 6) 6)) (k:ByteArray) (ok:Bool) (r:Option (Nat × Value)) (hf:Instr.findNow .string (.string k) (kE 6).toList 0=some r):
 (Instr.lookup 159 (.map (some g)) (.string k) ok).run Tryz.prog w=
   .ok (if ok then .tuple #[(r.map (·.2)).getD (.agg #[.bool false,.bool false,.nilFunc]),.bool r.isSome] else (r.map (·.2)).getD (.agg #[.bool false,.bool false,.nilFunc])) w:=by
 have hz:(zeroValue 157).run Tryz.prog w= .ok (.agg #[.bool false,.bool false,.nilFunc]) w:=by kernel_rfl
 have hck:∀ b,(Instr.checkKey b 10000 9 (.string k)).run Tryz.prog w= .ok () w:=fun b=>jH 9 Tryz.underlying9 b 9999 k w
 cases r with
 | none=>cases ok <;> simp [Instr.lookup,run_underlying Tryz.underlying159,ni hb,hck,Instr.findKey,run_underlying Tryz.underlying9,hf,hz]
 | some p=>cases ok <;> simp [Instr.lookup,run_underlying Tryz.underlying159,ni hb,hck,Instr.findKey,run_underlying Tryz.underlying9,hf]
theorem Le (k:ByteArray):∃ r:Option (Nat × Value),Instr.findNow .string (.string k) (kE 6).toList 0=some r∧kindOf k=((r.map (·.2)).getD (.agg #[.bool false,.bool false,.nilFunc]),r.isSome):=by
 unfold kindOf
 split
 · next h=>subst h;exact ⟨some (0,mP true false 134),by kernel_rfl,rfl⟩
 split
 · next h=>subst h;exact ⟨some (1,mP true true 134),by kernel_rfl,rfl⟩
 split
 · next h=>subst h;exact ⟨some (2,mP true false 134),by kernel_rfl,rfl⟩
 split
 · next h=>subst h;exact ⟨some (3,mP true false 135),by kernel_rfl,rfl⟩
 split
 · next h=>subst h;exact ⟨some (4,mP false false 136),by kernel_rfl,rfl⟩
 split
 · next h=>subst h;exact ⟨some (5,mP false false 134),by kernel_rfl,rfl⟩
 · next h0 h1 h2 h3 h4 h5=>
   refine ⟨none,?_,rfl⟩;have he:(kE 6).toList=Fh.zipIdx.map fun p=>{key:= .string p.1.1,val:=p.1.2,born:=p.2 }:=rfl;rw [he];have e0:=iI h0;have e1:=iI h1;have e2:=iI h2;have e3:=iI h3;have e4:=iI h4;have e5:=iI h5
   simp only [Fh,List.zipIdx,List.map,Instr.findNow,Instr.sameNow,e0,e1,e2,e3,e4,e5]
theorem qR {w:World} {g:Nat} (hb:w.heap[g]? =some (.map (kE 6) 6)) (k:ByteArray) (ok:Bool):
 (Instr.lookup 159 (.map (some g)) (.string k) ok).run Tryz.prog w= .ok (if ok then .tuple #[(kindOf k).1,.bool (kindOf k).2] else (kindOf k).1) w:=by
 obtain ⟨r,hf,hk⟩:=Le k;rw [hk];exact Bz hb k ok r hf
def XO (k:ByteArray):Bool:=k=M.nP
def PK (k:ByteArray):Nat:=if k=M.fJ then 135 else if k=M.gU then 136 else 134
theorem DN {k:ByteArray} (h:M.isKind k=true):kindOf k=(.agg #[.bool (M.jr k),.bool (XO k),.func (.func (PK k)) #[] #[]],true):=by
 rcases tV k with rfl | rfl | rfl | rfl | rfl | rfl | ⟨h0,h1,h2,h3,h4,h5,hk⟩
 iterate 6 (first | rfl | skip)
 rw [hk] at h;cases h
theorem zH {k:ByteArray} (h:M.isKind k=false):kindOf k=(.agg #[.bool false,.bool false,.nilFunc],false):=by
 rcases tV k with rfl | rfl | rfl | rfl | rfl | rfl | ⟨h0,h1,h2,h3,h4,h5,hk⟩
 iterate 6 (first | (exfalso;revert h;decide) | skip)
 unfold kindOf
 rw [if_neg (fun e=>h0 (by subst e;rw [ByteArray.toList_eq])),if_neg (fun e=>h1 (by subst e;rw [ByteArray.toList_eq])),if_neg (fun e=>h2 (by subst e;rw [ByteArray.toList_eq])),if_neg (fun e=>h3 (by subst e;rw [ByteArray.toList_eq])),if_neg (fun e=>h4 (by subst e;rw [ByteArray.toList_eq])),if_neg (fun e=>h5 (by subst e;rw [ByteArray.toList_eq]))]
theorem iT {k:ByteArray} (h:M.isKind k=true) {w:World} {g:Nat} (hb:w.heap[g]? =some (.map (kE 6) 6)) (ok:Bool):
 (Instr.lookup 159 (.map (some g)) (.string k) ok).run Tryz.prog w= .ok (if ok then .tuple #[.agg #[.bool (M.jr k),.bool (XO k),.func (.func (PK k)) #[] #[]],.bool true] else .agg #[.bool (M.jr k),.bool (XO k),.func (.func (PK k)) #[] #[]]) w:=by
 rw [qR hb,DN h]
theorem oC {k:ByteArray} (h:M.isKind k=false) {w:World} {g:Nat} (hb:w.heap[g]? =some (.map (kE 6) 6)) (ok:Bool):
 (Instr.lookup 159 (.map (some g)) (.string k) ok).run Tryz.prog w= .ok (if ok then .tuple #[.agg #[.bool false,.bool false,.nilFunc],.bool false] else .agg #[.bool false,.bool false,.nilFunc]) w:=by
 rw [qR hb,zH h]
theorem fC (W:World) (us:List Value) (t:TypeId) (g:Nat) (hg:W.heap.size=g) (j:Nat) (v:Value) (h:us[j]? =some v):(W.alloc (.cells us.toArray t)).cell? ⟨g,j,none⟩=some v:=by
 have:=dV W t us g hg j v h;rwa [jP,Nat.zero_add] at this
theorem Ia (W:World) (us:List Value) (t:TypeId) (o:Obj) (g:Nat) (hg:W.heap.size=g) (j:Nat) (v:Value) (h:us[j]? =some v):((W.alloc (.cells us.toArray t)).alloc o).cell? ⟨g,j,none⟩=some v:=
 (World.cell?_alloc_lt _ o ⟨g,j,none⟩ (by simp;omega)).trans (fC W us t g hg j v h)
theorem wC (w:World) (o m:Obj):((w.alloc o).alloc m).heap[w.heap.size+1]? =some m:=by
 have:=heap_alloc_new (w.alloc o) m;rwa [World.size_alloc] at this
theorem zD (w:World) (o m k:Obj):(((w.alloc o).alloc m).alloc k).heap[w.heap.size+1]? =some m:=
 (heap_alloc_old _ k (by simp)).trans (wC w o m)
theorem BO (w:World) (o k m:Obj):(((w.alloc o).alloc k).alloc m).heap[w.heap.size+2]? =some m:=by
 have:=heap_alloc_new ((w.alloc o).alloc k) m;rwa [World.size_alloc,World.size_alloc] at this
end Go.Proofs.YtcjglfbpjkdgiaaGreatDoor
