/- Parts of the proofs about chapter 5 (pool), joined by program. -/
import Derived.Laws.EntriesVeiled
import Derived.Maps.Own
import Derived.Test.YtelpepbpdojikaaGreatDoorKe0
import Derived.Test.YtelpepbpdojikaaGreatDoorKe1
set_option linter.unusedVariables false
set_option linter.unusedSimpArgs false
namespace Go.Proofs.YtelpepbpdojikaaGreatDoor
open Go.RowKit
@[reducible] def kindV (played called : Bool) (f : Nat) : Value := .agg #[.bool played, .bool called, .func (.func f) #[] #[]]
def kindL : List (ByteArray × Value) :=
  [(⟨#[98, 114, 101, 97, 107]⟩, kindV true false 126), (⟨#[112, 108, 97, 121]⟩, kindV true true 126),
   (⟨#[115, 97, 102, 101, 116, 121]⟩, kindV true false 126), (⟨#[112, 117, 115, 104]⟩, kindV true false 127),
   (⟨#[112, 97, 115, 115]⟩, kindV false false 128), (⟨#[99, 111, 110, 99, 101, 100, 101]⟩, kindV false false 126)]
def kE (n : Nat) : Array MapEntry := ((List.range n).filterMap fun i => (kindL[i]?).map fun p => { key := .string p.1, val := p.2, born := i }).toArray
theorem run_getMap {P : Program} {W : World} {r : Nat} {es : Array MapEntry} {c : Nat} (hb : W.heap[r]? = some (.map es c)) : (getObj r).run P W = .ok (.map es c) W := by
  simp [getObj, Sem.run, hb]
theorem run_setMap {P : Program} {W : World} {r : Nat} {es : Array MapEntry} {c : Nat} (o : Obj) (hb : W.heap[r]? = some (.map es c)) : (setObj r o).run P W = .ok () { W with heap := W.heap.setIfInBounds r o } := by
  simp [setObj, Sem.run, hb]
theorem set_alloc (w : World) (o o' : Obj) : ({ w.alloc o with heap := (w.alloc o).heap.setIfInBounds w.heap.size o' } : World) = w.alloc o' := by
  show ({ w with heap := (w.heap.push o).setIfInBounds w.heap.size o' } : World) = { w with heap := w.heap.push o' }
  congr 1
  simp [Array.setIfInBounds, Array.push]
theorem run_checkKey_string {P : Program} (kt : TypeId) (hk : P.underlying kt = some .string) (b : Bool) (n : Nat) (s : ByteArray) (W : World) : (Instr.checkKey b (n + 1) kt (.string s)).run P W = .ok () W := by
  unfold Instr.checkKey
  simp [run_underlying hk]
theorem run_insert_fresh {P : Program} (t kt et : TypeId) (w : World) (es : Array MapEntry) (clock : Nat) (k : ByteArray) (v : Value) (ht : P.underlying t = some (.map kt et)) (hk : P.underlying kt = some .string)
    (hf : Instr.findNow .string (.string k) es.toList 0 = some none) :
    (Instr.mapUpdate t (.map (some w.heap.size)) (.string k) v).run P (w.alloc (.map es clock)) = .ok () (w.alloc (.map (es.push { key := .string k, val := v, born := clock }) (clock + 1))) := by
  have hb := heap_alloc_new w (.map es clock)
  have h2 := run_setMap (P := P) (.map (es.push { key := .string k, val := v, born := clock }) (clock + 1)) hb
  rw [set_alloc] at h2
  simp [Instr.mapUpdate, run_underlying ht, run_getMap hb, run_checkKey_string kt hk, Instr.findKey, run_underlying hk, hf, h2]
theorem kE_succ (n : Nat) (k : ByteArray) (v : Value) (h : kindL[n]? = some (k, v)) : (kE n).push { key := .string k, val := v, born := n } = kE (n + 1) := by
  simp [kE, List.range_succ, h]
theorem run_insert_kind {P : Program} (t kt et : TypeId) (w : World) (n : Nat) (k : ByteArray) (v : Value) (ht : P.underlying t = some (.map kt et)) (hk : P.underlying kt = some .string)
    (hf : Instr.findNow .string (.string k) (kE n).toList 0 = some none) (h : kindL[n]? = some (k, v)) :
    (Instr.mapUpdate t (.map (some w.heap.size)) (.string k) v).run P (w.alloc (.map (kE n) n)) = .ok () (w.alloc (.map (kE (n + 1)) (n + 1))) := by
  rw [run_insert_fresh t kt et w (kE n) n k v ht hk hf, kE_succ n k v h]
set_option maxRecDepth 100000 in
set_option maxHeartbeats 400000 in
theorem kinds_any (w : World) : Calls Tryz.prog 84 #[] w fun r w' => r = .returned (.map (some w.heap.size)) ∧ w.alloc (.map (kE 6) 6) = w' := by
  have hmm : (Instr.makeMap 160 none).run Tryz.prog w = .ok (.map (some w.heap.size)) (w.alloc (.map (kE 0) 0)) := rfl
  have h0 := run_insert_kind 160 9 158 w 0 _ _ Tryz.underlying160 Tryz.underlying9 (by kernel_rfl) rfl
  have h1 := run_insert_kind 160 9 158 w 1 _ _ Tryz.underlying160 Tryz.underlying9 (by kernel_rfl) rfl
  have h2 := run_insert_kind 160 9 158 w 2 _ _ Tryz.underlying160 Tryz.underlying9 (by kernel_rfl) rfl
  have h3 := run_insert_kind 160 9 158 w 3 _ _ Tryz.underlying160 Tryz.underlying9 (by kernel_rfl) rfl
  have h4 := run_insert_kind 160 9 158 w 4 _ _ Tryz.underlying160 Tryz.underlying9 (by kernel_rfl) rfl
  have h5 := run_insert_kind 160 9 158 w 5 _ _ Tryz.underlying160 Tryz.underlying9 (by kernel_rfl) rfl
  go_enter Tryz.func84, Tryz.ntmps84
  go_wp2
  go_outline
  go_ret
  exact ⟨rfl, rfl⟩
def kindOf (k : ByteArray) : Value × Bool :=
  if k = ⟨#[98, 114, 101, 97, 107]⟩ then (kindV true false 126, true)
  else if k = ⟨#[112, 108, 97, 121]⟩ then (kindV true true 126, true)
  else if k = ⟨#[115, 97, 102, 101, 116, 121]⟩ then (kindV true false 126, true)
  else if k = ⟨#[112, 117, 115, 104]⟩ then (kindV true false 127, true)
  else if k = ⟨#[112, 97, 115, 115]⟩ then (kindV false false 128, true)
  else if k = ⟨#[99, 111, 110, 99, 101, 100, 101]⟩ then (kindV false false 126, true)
  else (.agg #[.bool false, .bool false, .nilFunc], false)
theorem run_lookup_of {w : World} {g : Nat} (hb : w.heap[g]? = some (.map (kE 6) 6)) (k : ByteArray) (ok : Bool) (r : Option (Nat × Value)) (hf : Instr.findNow .string (.string k) (kE 6).toList 0 = some r) :
    (Instr.lookup 160 (.map (some g)) (.string k) ok).run Tryz.prog w =
      .ok (if ok then .tuple #[(r.map (·.2)).getD (.agg #[.bool false, .bool false, .nilFunc]), .bool r.isSome] else (r.map (·.2)).getD (.agg #[.bool false, .bool false, .nilFunc])) w := by
  have hz : (zeroValue 158).run Tryz.prog w = .ok (.agg #[.bool false, .bool false, .nilFunc]) w := by kernel_rfl
  have hck : ∀ b, (Instr.checkKey b 10000 9 (.string k)).run Tryz.prog w = .ok () w := fun b => run_checkKey_string 9 Tryz.underlying9 b 9999 k w
  cases r with
  | none => cases ok <;> simp [Instr.lookup, run_underlying Tryz.underlying160, run_getMap hb, hck, Instr.findKey, run_underlying Tryz.underlying9, hf, hz]
  | some p => cases ok <;> simp [Instr.lookup, run_underlying Tryz.underlying160, run_getMap hb, hck, Instr.findKey, run_underlying Tryz.underlying9, hf]
theorem find_kind (k : ByteArray) : ∃ r : Option (Nat × Value), Instr.findNow .string (.string k) (kE 6).toList 0 = some r ∧ kindOf k = ((r.map (·.2)).getD (.agg #[.bool false, .bool false, .nilFunc]), r.isSome) := by
  unfold kindOf
  split
  · next h => subst h; exact ⟨some (0, kindV true false 126), by kernel_rfl, rfl⟩
  split
  · next h => subst h; exact ⟨some (1, kindV true true 126), by kernel_rfl, rfl⟩
  split
  · next h => subst h; exact ⟨some (2, kindV true false 126), by kernel_rfl, rfl⟩
  split
  · next h => subst h; exact ⟨some (3, kindV true false 127), by kernel_rfl, rfl⟩
  split
  · next h => subst h; exact ⟨some (4, kindV false false 128), by kernel_rfl, rfl⟩
  split
  · next h => subst h; exact ⟨some (5, kindV false false 126), by kernel_rfl, rfl⟩
  · next h0 h1 h2 h3 h4 h5 =>
    refine ⟨none, ?_, rfl⟩
    have he : (kE 6).toList = kindL.zipIdx.map fun p => { key := .string p.1.1, val := p.1.2, born := p.2 } := rfl
    rw [he]
    have e0 := bytes_ne h0
    have e1 := bytes_ne h1
    have e2 := bytes_ne h2
    have e3 := bytes_ne h3
    have e4 := bytes_ne h4
    have e5 := bytes_ne h5
    simp only [kindL, List.zipIdx, List.map, Instr.findNow, Instr.sameNow, e0, e1, e2, e3, e4, e5]
theorem run_lookup_kind {w : World} {g : Nat} (hb : w.heap[g]? = some (.map (kE 6) 6)) (k : ByteArray) (ok : Bool) :
    (Instr.lookup 160 (.map (some g)) (.string k) ok).run Tryz.prog w = .ok (if ok then .tuple #[(kindOf k).1, .bool (kindOf k).2] else (kindOf k).1) w := by
  obtain ⟨r, hf, hk⟩ := find_kind k
  rw [hk]
  exact run_lookup_of hb k ok r hf
end Go.Proofs.YtelpepbpdojikaaGreatDoor
namespace Go.Proofs.YtelpepbpdojikaaGreatDoor
open Go.RowKit
def kCa (k : ByteArray) : Bool := k = M.kPlay
def kFn (k : ByteArray) : Nat := if k = M.kPush then 127 else if k = M.kPass then 128 else 126
theorem kindOf_known {k : ByteArray} (h : M.isKind k = true) : kindOf k = (.agg #[.bool (M.played k), .bool (kCa k), .func (.func (kFn k)) #[] #[]], true) := by
  rcases kind_split k with rfl | rfl | rfl | rfl | rfl | rfl | ⟨h0, h1, h2, h3, h4, h5, hk⟩
  iterate 6 (first | rfl | skip)
  rw [hk] at h; cases h
theorem kindOf_unknown {k : ByteArray} (h : M.isKind k = false) : kindOf k = (.agg #[.bool false, .bool false, .nilFunc], false) := by
  rcases kind_split k with rfl | rfl | rfl | rfl | rfl | rfl | ⟨h0, h1, h2, h3, h4, h5, hk⟩
  iterate 6 (first | (exfalso; revert h; decide) | skip)
  unfold kindOf
  rw [if_neg (fun e => h0 (by subst e; rw [ByteArray.toList_eq])), if_neg (fun e => h1 (by subst e; rw [ByteArray.toList_eq])), if_neg (fun e => h2 (by subst e; rw [ByteArray.toList_eq])), if_neg (fun e => h3 (by subst e; rw [ByteArray.toList_eq])), if_neg (fun e => h4 (by subst e; rw [ByteArray.toList_eq])), if_neg (fun e => h5 (by subst e; rw [ByteArray.toList_eq]))]
theorem lookup_known {k : ByteArray} (h : M.isKind k = true) {w : World} {g : Nat} (hb : w.heap[g]? = some (.map (kE 6) 6)) (ok : Bool) :
    (Instr.lookup 160 (.map (some g)) (.string k) ok).run Tryz.prog w = .ok (if ok then .tuple #[.agg #[.bool (M.played k), .bool (kCa k), .func (.func (kFn k)) #[] #[]], .bool true] else .agg #[.bool (M.played k), .bool (kCa k), .func (.func (kFn k)) #[] #[]]) w := by
  rw [run_lookup_kind hb, kindOf_known h]
theorem lookup_unknown {k : ByteArray} (h : M.isKind k = false) {w : World} {g : Nat} (hb : w.heap[g]? = some (.map (kE 6) 6)) (ok : Bool) :
    (Instr.lookup 160 (.map (some g)) (.string k) ok).run Tryz.prog w = .ok (if ok then .tuple #[.agg #[.bool false, .bool false, .nilFunc], .bool false] else .agg #[.bool false, .bool false, .nilFunc]) w := by
  rw [run_lookup_kind hb, kindOf_unknown h]
theorem cell_last (W : World) (us : List Value) (t : TypeId) (g : Nat) (hg : W.heap.size = g) (j : Nat) (v : Value) (h : us[j]? = some v) : (W.alloc (.cells us.toArray t)).cell? ⟨g, j, none⟩ = some v := by
  have := cells_new W t us g hg j v h; rwa [add_at, Nat.zero_add] at this
theorem cell_last1 (W : World) (us : List Value) (t : TypeId) (o : Obj) (g : Nat) (hg : W.heap.size = g) (j : Nat) (v : Value) (h : us[j]? = some v) : ((W.alloc (.cells us.toArray t)).alloc o).cell? ⟨g, j, none⟩ = some v :=
  (World.cell?_alloc_lt _ o ⟨g, j, none⟩ (by simp; omega)).trans (cell_last W us t g hg j v h)
theorem heap_new1 (w : World) (o m : Obj) : ((w.alloc o).alloc m).heap[w.heap.size + 1]? = some m := by
  have := heap_alloc_new (w.alloc o) m; rwa [World.size_alloc] at this
theorem heap_new1' (w : World) (o m k : Obj) : (((w.alloc o).alloc m).alloc k).heap[w.heap.size + 1]? = some m :=
  (heap_alloc_old _ k (by simp)).trans (heap_new1 w o m)
theorem heap_new2 (w : World) (o k m : Obj) : (((w.alloc o).alloc k).alloc m).heap[w.heap.size + 2]? = some m := by
  have := heap_alloc_new ((w.alloc o).alloc k) m; rwa [World.size_alloc, World.size_alloc] at this
theorem look_known {k : ByteArray} (h : M.isKind k = true) (ok : Bool) (W : World) (g : Nat) (hg : W.heap.size = g) :
    (Instr.lookup 160 (.map (some g)) (.string k) ok).run Tryz.prog (W.alloc (.map (kE 6) 6)) = .ok (if ok then .tuple #[.agg #[.bool (M.played k), .bool (kCa k), .func (.func (kFn k)) #[] #[]], .bool true] else .agg #[.bool (M.played k), .bool (kCa k), .func (.func (kFn k)) #[] #[]]) (W.alloc (.map (kE 6) 6)) := by
  subst hg; exact lookup_known h (heap_alloc_new W _) ok
theorem look_unknown {k : ByteArray} (h : M.isKind k = false) (ok : Bool) (W : World) (g : Nat) (hg : W.heap.size = g) :
    (Instr.lookup 160 (.map (some g)) (.string k) ok).run Tryz.prog (W.alloc (.map (kE 6) 6)) = .ok (if ok then .tuple #[.agg #[.bool false, .bool false, .nilFunc], .bool false] else .agg #[.bool false, .bool false, .nilFunc]) (W.alloc (.map (kE 6) 6)) := by
  subst hg; exact lookup_unknown h (heap_alloc_new W _) ok
end Go.Proofs.YtelpepbpdojikaaGreatDoor
