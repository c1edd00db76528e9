/- Parts of the proofs about chapter 5 (pool), joined by program. -/
import Derived.Deep.MidRow
import Derived.Test.YtelpepbpdojikaaGreatDoorKe0
import Derived.Test.YtelpepbpdojikaaGreatDoorKe2
import Derived.Test.YtelpepbpdojikaaGreatDoorKe6
import Derived.Test.YtelpepbpdojikaaGreatDoorKe11
import Derived.Test.YtelpepbpdojikaaGreatDoorKe20
import Derived.Test.YtelpepbpdojikaaGreatDoorKe23
set_option linter.unusedVariables false
set_option linter.unusedSimpArgs false
namespace Go.Proofs.YtelpepbpdojikaaGreatDoor
open Go.RowKit
def Held (W : World) (g : Nat) (cs : List Value) (t : TypeId) : Prop := W.heap[g]? = some (.cells cs.toArray t (0, 0))
section
variable {W W' : World} {g g' : Nat} {cs cs' : List Value} {t t' : TypeId}
theorem Held.lt (h : Held W g cs t) : g < W.heap.size := (Array.getElem?_eq_some_iff.1 h).1
theorem Held.cell (h : Held W g cs t) {j : Nat} {v : Value} (hj : cs[j]? = some v) : W.cell? ⟨g, j, none⟩ = some v := by
  rw [cell_of_row W g j _ _ _ h]; simpa using hj
theorem Held.frozen (h : Held W g cs t) (j : Nat) : W.frozen? ⟨g, j, none⟩ = false := by simp [World.frozen?, show W.heap[g]? = _ from h]
theorem Held.new (W : World) (us : List Value) (t : TypeId) : Held (W.alloc (.cells us.toArray t)) W.heap.size us t := heap_alloc_new W _
theorem Held.newAt (W : World) (us : List Value) (t : TypeId) (hg : W.heap.size = g) : Held (W.alloc (.cells us.toArray t)) g us t := by subst hg; exact heap_alloc_new W _
theorem Held.below (h : Held W g cs t) (hb : Below W.heap.size W W') : Held W' g cs t := (hb.block g h.lt).trans h
theorem Held.upto {D : Nat} (h : Held W g cs t) (hb : Below D W W') (hD : g < D) : Held W' g cs t := (hb.block g hD).trans h
theorem Held.alloc (h : Held W g cs t) (o : Obj) : Held (W.alloc o) g cs t := h.below ((Below.refl _ _).alloc (Nat.le_refl _) o)
theorem Held.drew (h : Held W g cs t) : Held W.drew g cs t := h
theorem Held.drewN (h : Held W g cs t) (n : Nat) : Held (W.drewN n) g cs t := h
theorem Held.set (h : Held W g cs t) (o : Nat) (v : Value) : Held (W.setCell ⟨g, o, none⟩ v) g (cs.set o v) t := by
  obtain ⟨hlt, hk⟩ := Array.getElem?_eq_some_iff.1 h
  show (W.heap.modify g _)[g]? = _
  rw [Array.getElem?_eq_getElem (by rw [Array.size_modify]; exact hlt), Array.getElem_modify_self, hk]
  simp
theorem Held.other (h : Held W g cs t) (hne : g ≠ g') (o : Nat) (v : Value) : Held (W.setCell ⟨g', o, none⟩ v) g cs t := (Below.heap_setCell W ⟨g', o, none⟩ v g hne).trans h
theorem Held.others (hne : g ≠ g') : ∀ (vs : List Value) (o : Nat) (W : World), Held W g cs t → Held (W.setCells g' o vs) g cs t
  | [], _, _, h => h
  | v :: r, o, W, h => Held.others hne r (o + 1) _ (h.other hne o v)
theorem Held.sets : ∀ (vs pre post : List Value) (W : World), Held W g (pre ++ post) t → post.length = vs.length → Held (W.setCells g pre.length vs) g (pre ++ vs) t
  | [], pre, post, W, h, hl => by
    obtain rfl := List.eq_nil_of_length_eq_zero (by simpa using hl)
    exact h
  | v :: r, pre, [], W, h, hl => by cases hl
  | v :: r, pre, u :: post, W, h, hl => by
    have h1 := h.set pre.length v
    rw [show (pre ++ u :: post).set pre.length v = pre ++ [v] ++ post by simp] at h1
    have h2 := Held.sets r (pre ++ [v]) post _ h1 (by simpa using hl)
    rw [List.length_append, List.append_assoc] at h2
    exact h2
theorem Held.whole (h : Held W g cs t) (vs : List Value) (hl : cs.length = vs.length) : Held (W.setCells g 0 vs) g vs t := by
  have := Held.sets vs [] cs W h hl
  simpa using this
theorem Held.range (h : Held W g cs t) : W.rangeAt g 0 cs := fun j v hj => by rw [Nat.zero_add]; exact h.cell hj
theorem Held.there (h : Held W g cs t) : W.there g 0 cs.length := fun j hj => by
  rw [Nat.zero_add, h.cell (List.getElem?_eq_getElem hj)]
  exact ⟨rfl, h.frozen j⟩
theorem setCells_size (g : Nat) : ∀ (vs : List Value) (o : Nat) (W : World), (W.setCells g o vs).heap.size = W.heap.size
  | [], _, _ => rfl
  | v :: r, o, W => by
    rw [World.setCells, setCells_size g r]
    simp [World.setCell]
theorem below_setCells {B : Nat} (g : Nat) (hg : B ≤ g) : ∀ (vs : List Value) (o : Nat) (w W : World), Below B w W → Below B w (W.setCells g o vs)
  | [], _, _, _, h => h
  | v :: r, o, w, W, h => below_setCells g hg r (o + 1) w _ (h.setCell (p := ⟨g, o, none⟩) hg v)
end
structure Blks (w W : World) (L : List (List Value × TypeId)) : Prop where
  at_ : ∀ i e, L[i]? = some e → Held W (w.heap.size + i) e.1 e.2
  bw : Below w.heap.size w W
section
variable {w W W' : World} {L : List (List Value × TypeId)}
theorem Blks.get (h : Blks w W L) (i : Nat) {cs : List Value} {t : TypeId} (he : L[i]? = some (cs, t)) : Held W (w.heap.size + i) cs t := h.at_ i _ he
theorem Blks.get0 (h : Blks w W L) {cs : List Value} {t : TypeId} (he : L[0]? = some (cs, t)) : Held W w.heap.size cs t := h.at_ 0 _ he
theorem Blks.nil (w : World) : Blks w w [] := ⟨fun i e h => by simp at h, Below.refl _ _⟩
theorem Blks.new (h : Blks w W L) (hs : W.heap.size = w.heap.size + L.length) (cs : List Value) (t : TypeId) : Blks w (W.alloc (.cells cs.toArray t)) (L ++ [(cs, t)]) :=
  ⟨fun i e he => by
    rcases Nat.lt_or_ge i L.length with hi | hi
    · rw [List.getElem?_append_left hi] at he
      exact (h.at_ i e he).alloc _
    · rw [List.getElem?_append_right hi] at he
      match hn : i - L.length, he with
      | 0, he =>
        simp at he
        subst he
        exact Held.newAt _ _ _ (by omega)
      | k + 1, he => simp at he, h.bw.alloc (by omega) _⟩
theorem Blks.lt (h : Blks w W L) {i : Nat} (hi : i < L.length) : w.heap.size + i < W.heap.size := (h.at_ i _ (List.getElem?_eq_getElem hi)).lt
theorem Blks.set (h : Blks w W L) (i : Nat) {cs : List Value} {t : TypeId} (he : L[i]? = some (cs, t)) (o : Nat) (v : Value) : Blks w (W.setCell ⟨w.heap.size + i, o, none⟩ v) (L.set i (cs.set o v, t)) :=
  ⟨fun j e hj => by
    by_cases hij : i = j
    · subst hij
      rw [List.getElem?_set_self (List.getElem?_eq_some_iff.1 he).1] at hj
      injection hj with hj
      subst hj
      exact (h.get i he).set o v
    · rw [List.getElem?_set_ne hij] at hj
      exact (h.at_ j e hj).other (by omega) o v, h.bw.setCell (p := ⟨w.heap.size + i, o, none⟩) (by show w.heap.size ≤ w.heap.size + i; omega) v⟩
theorem Blks.put (h : Blks w W L) (i : Nat) {cs : List Value} {t : TypeId} (he : L[i]? = some (cs, t)) (vs : List Value) (hl : cs.length = vs.length) : Blks w (W.setCells (w.heap.size + i) 0 vs) (L.set i (vs, t)) :=
  ⟨fun j e hj => by
    by_cases hij : i = j
    · subst hij
      rw [List.getElem?_set_self (List.getElem?_eq_some_iff.1 he).1] at hj
      injection hj with hj
      subst hj
      exact (h.get i he).whole vs hl
    · rw [List.getElem?_set_ne hij] at hj
      exact Held.others (by omega) _ _ _ (h.at_ j e hj), below_setCells _ (by omega) _ _ _ _ h.bw⟩
theorem Blks.far (h : Blks w W L) {g : Nat} (hg : w.heap.size + L.length ≤ g) (o : Nat) (v : Value) : Blks w (W.setCell ⟨g, o, none⟩ v) L :=
  ⟨fun j e hj => (h.at_ j e hj).other (by have := (List.getElem?_eq_some_iff.1 hj).1; omega) o v, h.bw.setCell (p := ⟨g, o, none⟩) (by show w.heap.size ≤ g; omega) v⟩
theorem Blks.fars (h : Blks w W L) {g : Nat} (hg : w.heap.size + L.length ≤ g) (vs : List Value) (o : Nat) : Blks w (W.setCells g o vs) L :=
  ⟨fun j e hj => Held.others (by have := (List.getElem?_eq_some_iff.1 hj).1; omega) _ _ _ (h.at_ j e hj), below_setCells _ (by omega) _ _ _ _ h.bw⟩
theorem Blks.upto {D : Nat} (h : Blks w W L) (hb : Below D W W') (hD : w.heap.size + L.length ≤ D) : Blks w W' L :=
  ⟨fun j e hj => (h.at_ j e hj).upto hb (by have := (List.getElem?_eq_some_iff.1 hj).1; omega), h.bw.trans (hb.mono (by omega))⟩
theorem Blks.size (h : Blks w W L) (hL : 0 < L.length) : w.heap.size + L.length ≤ W.heap.size := by have := h.lt (i := L.length - 1) (by omega); omega
theorem Blks.call (h : Blks w W L) (hL : 0 < L.length) (hb : Below W.heap.size W W') : Blks w W' L := h.upto hb (h.size hL)
theorem Blks.drew (h : Blks w W L) : Blks w W.drew L := ⟨h.at_, h.bw.drew⟩
theorem Blks.drewN (h : Blks w W L) (n : Nat) : Blks w (W.drewN n) L := ⟨h.at_, below_drewN h.bw n⟩
theorem Blks.alloc (h : Blks w W L) (hL : 0 < L.length) (o : Obj) : Blks w (W.alloc o) L := h.call hL ((Below.refl _ _).alloc (Nat.le_refl _) o)
end
section
variable {ops : Array Oper} {rest : List Oper} {op : Oper} {a : Act} {W : World} {Q : Exit → Act → World → Prop} {g n : Nat} {cs : List Value} {t : TypeId} {d : TypeDesc}
theorem held_load (h : Held W g cs t) (hu : Tryz.prog.underlying t = some d) (hd : d.isRow = true) (hi : (Tryz.prog.info? t).map (·.size) = some cs.length) (hgd : op.guard = none) (x : Operand) (ho : op.op = .load t x) (hx : a.eval x = .pointer (some ⟨g, 0, none⟩))
    (k : wpList Tryz.prog ops Q rest (a.put op.dst (.agg cs.toArray)) W) : wpList Tryz.prog ops Q (op :: rest) a W :=
  wpList_load_mid hgd t x ho g 0 hx cs d h.range hu hd hi k
theorem sizeOf_list {cs vs : List Value} {n : Nat} (h : cs.length = n) (h' : vs.length = cs.length) : vs.toArray.size = n := by simp [h, h']
theorem held_store (h : Held W g cs t) (vs : List Value) (hl : vs.length = cs.length) (hi : (Tryz.prog.info? t).map (·.size) = some cs.length) (h1 : ∀ v ∈ vs, v.oneCell' = true) (hgd : op.guard = none) (x y : Operand) (ho : op.op = .store t x y)
    (hx : a.eval x = .pointer (some ⟨g, 0, none⟩)) (hy : a.eval y = .agg vs.toArray)
    (k : wpList Tryz.prog ops Q rest (a.put op.dst undef) (W.setCells g 0 vs)) : wpList Tryz.prog ops Q (op :: rest) a W :=
  wpList_store_mid hgd t x y ho g 0 vs.toArray hx hy (by rw [sizeOf_list rfl hl]; exact h.there) (by rw [sizeOf_list rfl hl]; exact hi) (all_oneCell_toArray h1) (by rw [List.toList_toArray]; exact k)
def NextIs (P : Program) (ops : Array Oper) (Q : Exit → Act → World → Prop) (op : Oper) (rest : List Oper) (a : Act) (W : World) : Prop := wpList P ops Q (op :: rest) a W
theorem is_load (t : TypeId) (x : Operand) (_ : op.op = .load t x) (h : NextIs Tryz.prog ops Q op rest a W) : wpList Tryz.prog ops Q (op :: rest) a W := h
theorem is_store (t : TypeId) (x y : Operand) (_ : op.op = .store t x y) (h : NextIs Tryz.prog ops Q op rest a W) : wpList Tryz.prog ops Q (op :: rest) a W := h
theorem next_load (h : Held W g cs t) (hu : Tryz.prog.underlying t = some d) (hd : d.isRow = true) (hi : (Tryz.prog.info? t).map (·.size) = some cs.length) (hgd : op.guard = none) (x : Operand) (ho : op.op = .load t x) (hx : a.eval x = .pointer (some ⟨g, 0, none⟩))
    (k : wpList Tryz.prog ops Q rest (a.put op.dst (.agg cs.toArray)) W) : NextIs Tryz.prog ops Q op rest a W := held_load h hu hd hi hgd x ho hx k
theorem next_store (h : Held W g cs t) (vs : List Value) (hl : vs.length = cs.length) (hi : (Tryz.prog.info? t).map (·.size) = some cs.length) (h1 : ∀ v ∈ vs, v.oneCell' = true) (hgd : op.guard = none) (x y : Operand) (ho : op.op = .store t x y)
    (hx : a.eval x = .pointer (some ⟨g, 0, none⟩)) (hy : a.eval y = .agg vs.toArray)
    (k : wpList Tryz.prog ops Q rest (a.put op.dst undef) (W.setCells g 0 vs)) : NextIs Tryz.prog ops Q op rest a W := held_store h vs hl hi h1 hgd x y ho hx hy k
theorem next_load_g (h : Held W g cs t) (hu : Tryz.prog.underlying t = some d) (hd : d.isRow = true) (hi : (Tryz.prog.info? t).map (·.size) = some cs.length) (hw : Region.wanted op (yielded ops a.tmps) = true) (x : Operand) (ho : op.op = .load t x) (hx : a.eval x = .pointer (some ⟨g, 0, none⟩))
    (k : wpList Tryz.prog ops Q rest (a.put op.dst (.agg cs.toArray)) W) : NextIs Tryz.prog ops Q op rest a W :=
  BigFrame.wpList_want hw fun _ hK => wp_load_mid t x ho g 0 hx cs d h.range hu hd hi (hK _ _ k)
def NextWp (P : Program) (Q : Exit → Act → World → Prop) (op : Oper) (K : Act → World → Prop) (a : Act) (W : World) : Prop := op.wp P a W K Q
theorem is_load_w {K : Act → World → Prop} (t : TypeId) (x : Operand) (_ : op.op = .load t x) (h : NextWp Tryz.prog Q op K a W) : op.wp Tryz.prog a W K Q := h
theorem next_load_w {K : Act → World → Prop} (h : Held W g cs t) (hu : Tryz.prog.underlying t = some d) (hd : d.isRow = true) (hi : (Tryz.prog.info? t).map (·.size) = some cs.length) (x : Operand) (ho : op.op = .load t x) (hx : a.eval x = .pointer (some ⟨g, 0, none⟩))
    (k : K (a.put op.dst (.agg cs.toArray)) W) : NextWp Tryz.prog Q op K a W := wp_load_mid t x ho g 0 hx cs d h.range hu hd hi k
theorem held_ret {fn : Func} {p : Tmp} (h : Held W g cs t) (hu : Tryz.prog.underlying t = some d) (hd : d.isRow = true) (hi : (Tryz.prog.info? t).map (·.size) = some cs.length) (hr : fn.results = #[.cell p t]) (tmps : Array Value) (hp : tmps.getD p undef = .pointer (some ⟨g, 0, none⟩)) :
    (results fn tmps).run Tryz.prog W = .ok (.agg cs.toArray) W :=
  results_cell_row hr tmps W g t cs.toArray (0, 0) d hp h hu (by cases d <;> first | rfl | cases hd) (by rw [sizeOf_list rfl rfl]; exact hi)
end
structure Above (D : Nat) (W W' : World) : Prop where
  sz : W.heap.size ≤ W'.heap.size
  block : ∀ b, D ≤ b → b < W.heap.size → W'.heap[b]? = W.heap[b]?
section
variable {D : Nat} {W W' W2 : World} {S : Nat → Prop} {size n c : Nat} {A : Option Addr} {xs : List Value}
theorem Above.refl (D : Nat) (W : World) : Above D W W := ⟨Nat.le_refl _, fun _ _ _ => rfl⟩
theorem Above.trans (h : Above D W W') (k : Above D W' W2) : Above D W W2 := ⟨Nat.le_trans h.sz k.sz, fun b hb hl => (k.block b hb (Nat.lt_of_lt_of_le hl h.sz)).trans (h.block b hb hl)⟩
theorem Above.setCell (h : Above D W W') {g : Nat} (hg : g < D) (o : Nat) (v : Value) : Above D W (W'.setCell ⟨g, o, none⟩ v) :=
  h.trans ⟨by simp [World.setCell], fun b hb _ => Below.heap_setCell _ _ _ b (by show b ≠ g; omega)⟩
theorem Above.setCells {g : Nat} (hg : g < D) : ∀ (vs : List Value) (o : Nat) (W' : World), Above D W W' → Above D W (W'.setCells g o vs)
  | [], _, _, h => h
  | v :: r, o, W', h => Above.setCells hg r (o + 1) _ (h.setCell hg o v)
theorem Above.call (h : Above D W W') (hb : Below W'.heap.size W' W2) : Above D W W2 := h.trans ⟨hb.size, fun b _ hl => hb.block b hl⟩
theorem Above.drew (h : Above D W W') : Above D W W'.drew := ⟨h.sz, h.block⟩
theorem Reads.above (h : Reads W S size A n c xs) (hS : ∀ b, S b → D ≤ b) (ha : Above D W W') : Reads W' S size A n c xs :=
  h.keep ha.sz fun b o hb hl => World.cell?_of_block (ha.block b (hS b hb) hl)
theorem RdI.above {zs : List Int} (h : RdI W S A c zs) (hS : ∀ b, S b → D ≤ b) (ha : Above D W W') : RdI W' S A c zs := Reads.above h hS ha
end
def zeroFrame : List Value := [.string ⟨#[]⟩, .int .i64 0, .int .i64 0, .int .i64 0, .bool false, .bool false, .bool false, .bool false, .int .i64 0, .slice none 0 0, .int .i64 0, .int .i64 0, .int .i64 0, .int .i64 0, .int .i64 0, .int .i64 0, .bool false, .int .i64 0]
theorem frame_one (r : M.Rules) (s : M.State) (A : Option Addr) (c : Nat) : ∀ v ∈ frameCells r s A c, v.oneCell' = true := by simp [frameCells, Value.oneCell']
theorem frame_info : (Tryz.prog.info? 127).map (·.size) = some 18 := by kernel_rfl
theorem shot_info : (Tryz.prog.info? 66).map (·.size) = some 7 := by kernel_rfl
theorem state_info : (Tryz.prog.info? 33).map (·.size) = some 15 := by kernel_rfl
theorem toList_beq (k : ByteArray) (l : List UInt8) : (k.toList == l) = decide (k = ⟨l.toArray⟩) := by
  rw [Bool.eq_iff_iff, beq_iff_eq, decide_eq_true_eq]
  exact ⟨fun e => bytes_ext (by rw [e, ByteArray.toList_eq]), fun e => by subst e; rw [ByteArray.toList_eq]⟩
set_option maxRecDepth 100000 in
set_option maxHeartbeats 800000 in
theorem changed_any (r : M.Rules) (s : M.State) (A : Option Addr) (c : Nat) (w : World) (h0 : 0 ≤ s.turn) (h1 : s.turn ≤ 1) :
    Calls Tryz.prog 143 #[frameV r s A c] w fun e w' => e = .returned (frameV r { s with turn := 1 - s.turn, run := 0 } A c) ∧ Below w.heap.size w w' := by
  go_enter Tryz.func143, Tryz.ntmps143
  go_upto_region 2 with (fail)
  go_cut [] (fun wx => Blks w wx [(frameCells r ({ s with turn := 1 - s.turn, run := 0 }) A c, 127), (zeroFrame, 127)])
  case first =>
    go_wp2
    go_meet
    exact (((Blks.nil w).new (by simp) (frameCells r ({ s with turn := 1 - s.turn, run := 0 }) A c) _).new (by simp) (zeroFrame) _)
  case rest =>
    have hB := hcut
    go_wp2_with (first | (refine is_load 127 (.tmp 1) rfl ?_; refine next_load (hB.get 0 rfl) Tryz.underlying127 rfl frame_info rfl (.tmp 1) rfl rfl ?_) | (refine is_store 127 (.tmp 2) (.tmp 11) rfl ?_; refine next_store (hB.get 1 rfl) (frameCells r ({ s with turn := 1 - s.turn, run := 0 }) A c) rfl frame_info (frame_one _ _ _ _) rfl (.tmp 2) (.tmp 11) rfl rfl rfl ?_))
    have hZ := hB.put 1 rfl (frameCells r ({ s with turn := 1 - s.turn, run := 0 }) A c) rfl
    exact bodyPost_ret (held_ret (p := 2) (hZ.get 1 rfl) Tryz.underlying127 rfl frame_info rfl _ rfl) rfl ⟨rfl, hZ.bw⟩
set_option maxRecDepth 100000 in
set_option maxHeartbeats 800000 in
theorem racked_any (r : M.Rules) (s : M.State) (A : Option Addr) (c : Nat) (w : World) (h0 : 0 ≤ s.racks) (h1 : s.racks ≤ 1000000) :
    Calls Tryz.prog 166 #[frameV r s A c] w fun e w' => ∃ A' c', e = .returned (frameV r { s with balls := M.rack r, racks := s.racks + 1 } A' c') ∧ RdI w' (fun b => w.heap.size ≤ b) A' c' (M.rack r) ∧ Below w.heap.size w w' := by
  go_enter Tryz.func166, Tryz.ntmps166
  go_upto_region 0 with (fail)
  go_cut [1, 2] (fun v1 v2 wx => v1 = ptr w.heap.size ∧ v2 = ptr (w.heap.size + 1) ∧ Blks w wx [(frameCells r (s) A c, 127), (zeroFrame, 127)])
  case first =>
    go_wp2
    go_meet
    exact ⟨rfl, rfl, (((Blks.nil w).new (by simp) (frameCells r (s) A c) _).new (by simp) (zeroFrame) _)⟩
  case rest =>
    obtain ⟨rfl, rfl, hB⟩ := hcut
    have hF := hB.get0 rfl
    have k0 := hF.cell (j := 0) rfl
    have kf0 := hF.frozen 0
    have k1 := hF.cell (j := 1) rfl
    have kf1 := hF.frozen 1
    have k2 := hF.cell (j := 2) rfl
    have kf2 := hF.frozen 2
    have k9 := hF.cell (j := 9) rfl
    have kf9 := hF.frozen 9
    have k15 := hF.cell (j := 15) rfl
    have kf15 := hF.frozen 15
    go_wp2_with (first | (go_at_call 92; refine (rack_any r _).mono ?_; rintro e w1 ⟨A1, c1, rfl, hr1, hb1⟩; have hB1 := hB.call (by simp) hb1; have hF1 := hB1.get0 rfl; have q15 := hF1.cell (j := 15) rfl; have qf15 := hF1.frozen 15; have q9 := hF1.cell (j := 9) rfl; have qf9 := hF1.frozen 9; have hB2 : Blks w ((w1.setCell ⟨w.heap.size, 9, none⟩ (.slice A1 (M.rack r).length c1)).setCell ⟨w.heap.size, 15, none⟩ (.int .i64 (s.racks + 1))) [(frameCells r ({ s with balls := M.rack r, racks := s.racks + 1 }) A1 c1, 127), (zeroFrame, 127)] := ((hB1.set 0 rfl 9 _).set 0 rfl 15 _)) | (refine is_load 127 (.tmp 1) rfl ?_; refine next_load (hB2.get0 rfl) Tryz.underlying127 rfl frame_info rfl (.tmp 1) rfl rfl ?_) | (refine is_store 127 (.tmp 2) (.tmp 14) rfl ?_; refine next_store (hB2.get 1 rfl) (frameCells r ({ s with balls := M.rack r, racks := s.racks + 1 }) A1 c1) rfl frame_info (frame_one _ _ _ _) rfl (.tmp 2) (.tmp 14) rfl rfl rfl ?_))
    have hZ := hB2.put 1 rfl (frameCells r ({ s with balls := M.rack r, racks := s.racks + 1 }) A1 c1) rfl
    refine bodyPost_ret (held_ret (p := 2) (hZ.get 1 rfl) Tryz.underlying127 rfl frame_info rfl _ rfl) rfl ⟨A1, c1, rfl, ?_, hZ.bw⟩
    have hsz := hB.size (by simp)
    simp only [List.length_cons, List.length_nil] at hsz
    exact (hr1.above (D := w.heap.size + 2) (fun b h => Nat.le_trans hsz h) (Above.setCells (by omega) _ _ _ (((Above.refl _ _).setCell (by omega) _ _).setCell (by omega) _ _))).more (fun b _ h => by omega)
end Go.Proofs.YtelpepbpdojikaaGreatDoor
namespace Go.Proofs.YtelpepbpdojikaaGreatDoor
open Go.RowKit
set_option maxRecDepth 100000 in
set_option maxHeartbeats 800000 in
theorem inPot_index (S : Nat → Prop) (A : Option Addr) (c : Nat) (l : List M.Pot) (x : M.Pot) (w : World) (h : RdP w S A c l) :
    Calls Tryz.prog 151 #[.slice A l.length c, .agg #[.int .i64 x.ball, .int .i64 x.pocket]] w fun e w' => (∃ i : Int, e = .returned (.int .i64 i) ∧ decide (0 ≤ i) = decide (x ∈ l)) ∧ Below w.heap.size w w' := by
  obtain ⟨b1, b2, b3⟩ := h.bd
  rw [decide_any_pot]
  obtain ⟨xb, xp⟩ := x
  go_enter Tryz.func151, Tryz.ntmps151
  go_wp2
  go_loopw [8] (fun i wr => ∃ k : Nat, k ≤ l.length ∧ i = .int .i64 k ∧ Aside ((l.take k).any (fun y => decide (y = ⟨xb, xp⟩)) = false) ∧ Keeps w (w.alloc (.cells #[.int .i64 xb, .int .i64 xp] 107)) 1 wr) (fun i _ => l.length - (intOf i).toNat)
  case atStart => exact ⟨0, Nat.zero_le _, rfl, by simp [Aside], Keeps.of1 w _⟩
  case round =>
    obtain ⟨k, hk, rfl, hall, KR⟩ := hrel
    have hq0 : wr.cell? ⟨w.heap.size, 0, none⟩ = some (.int .i64 xb) := (KR.cell _ _ (by omega)).trans ((Held.new w [.int .i64 xb, .int .i64 xp] _).cell (j := 0) rfl)
    have hq1 : wr.cell? ⟨w.heap.size, 1, none⟩ = some (.int .i64 xp) := (KR.cell _ _ (by omega)).trans ((Held.new w [.int .i64 xb, .int .i64 xp] _).cell (j := 1) rfl)
    by_cases hlt : k < l.length
    · obtain ⟨b, o, rfl, _, hbl, hc⟩ := (RdP.below h KR.bw).at_ k hlt
      obtain ⟨hck1, hck2⟩ := hc k hlt
      clear hc
      by_cases he : l[k] = ⟨xb, xp⟩
      · have HP := hide (any_take_hit (p := fun y => decide (y = (⟨xb, xp⟩ : M.Pot))) hlt (by simp [he]))
        have he1 : (xb == l[k].ball) = true := by simp [he]
        have he2 : (xp == l[k].pocket) = true := by simp [he]
        clear he
        go_wp2
        go_quiet (fail)
        go_wp2
        go_ret
        exact ⟨⟨k, rfl, by rw [HP.out]; simp⟩, below_drewN KR.bw _⟩
      · have HP := hide (any_take_step (p := fun y => decide (y = (⟨xb, xp⟩ : M.Pot))) hlt hall.out (by simp [he]))
        have he' : ((xb == l[k].ball) && (xp == l[k].pocket)) = false := by
          rw [Bool.eq_false_iff]; intro hb; simp at hb; exact he (by rw [hb.1, hb.2])
        rcases hb1 : (xb == l[k].ball) with _ | _ <;> rcases hb2 : (xp == l[k].pocket) with _ | _ <;> rw [hb1, hb2] at he'
        all_goals first | (cases he'; done) | skip
        all_goals
          clear he'
          have HE := hide he
          clear he
          go_wp2
          go_quiet (fail)
          go_wp2
          go_roundw
          case rel => exact ⟨k + 1, by omega, by go_num, HP.out, KR.drewN _⟩
          case measure => simp [intOf]; omega
    · have HA := hide (show l.any (fun y => decide (y = (⟨xb, xp⟩ : M.Pot))) = false by have := hall.out; rwa [List.take_of_length_le (by omega)] at this)
      go_wp2
      go_ret
      exact ⟨⟨-1, rfl, by rw [HA.out]; rfl⟩, KR.bw⟩
set_option maxRecDepth 100000 in
set_option maxHeartbeats 800000 in
theorem inPot_any (S : Nat → Prop) (A : Option Addr) (c : Nat) (l : List M.Pot) (x : M.Pot) (w : World) (h : RdP w S A c l) :
    Calls Tryz.prog 117 #[.slice A l.length c, .agg #[.int .i64 x.ball, .int .i64 x.pocket]] w fun e w' => e = .returned (.bool (decide (x ∈ l))) ∧ Below w.heap.size w w' := by
  have hx := fun W hw => inPot_index S A c l x W hw
  obtain ⟨xb, xp⟩ := x
  have K0 : Keeps w (w.alloc (.cells #[.int .i64 xb, .int .i64 xp] 107)) 1 (w.alloc (.cells #[.int .i64 xb, .int .i64 xp] 107)) := Keeps.of1 w _
  go_enter Tryz.func117, Tryz.ntmps117
  go_wp2_with (go_at_call 151; refine (hx _ (h.below K0.bw)).mono ?_; rintro e w2 ⟨⟨i, rfl, hi⟩, hb2⟩)
  go_ret
  exact ⟨rfl, (K0.call hb2).bw⟩
def spot (g k : ByteArray) (ball : Int) (good : Bool) : Bool := if g = M.gEight then decide (ball = 8 ∧ k = M.kBreak) else if g = M.gNine then decide (ball = 9 ∧ good = false) else !good
set_option maxRecDepth 100000 in
set_option maxHeartbeats 800000 in
theorem spotted_any (r : M.Rules) (s : M.State) (x : M.Shot) (A P : Option Addr) (c d : Nat) (ball : Int) (gd : Bool) (w : World) :
    Calls Tryz.prog 182 #[frameV r s A c, shotV x P d, .int .i64 ball, .bool gd] w fun e w' => e = .returned (.bool (spot r.game x.kind ball gd)) ∧ Below w.heap.size w w' := by
  obtain ⟨g, tg, fo⟩ := r
  obtain ⟨a0, a1, a2, a3, a4, gr, bl, b0, b1, b2, b3, b4, b5, b6, b7⟩ := s
  obtain ⟨pl, kd, ba, po, fi, cu, pots⟩ := x
  simp only
  have e1 : (g.toList == [101, 105, 103, 104, 116]) = decide (g = M.gEight) := toList_beq g [101, 105, 103, 104, 116]
  have e2 : (g.toList == [110, 105, 110, 101]) = decide (g = M.gNine) := toList_beq g [110, 105, 110, 101]
  have e3 : (kd.toList == [98, 114, 101, 97, 107]) = decide (kd = M.kBreak) := toList_beq kd [98, 114, 101, 97, 107]
  have hs : spot g kd ball gd = if (g.toList == [101, 105, 103, 104, 116]) = true then ((ball == 8) && (kd.toList == [98, 114, 101, 97, 107])) else if (g.toList == [110, 105, 110, 101]) = true then ((ball == 9) && !gd) else !gd := by
    rw [e1, e2, e3]
    unfold spot
    by_cases h1 : g = M.gEight
    · simp [h1, ibeq]
    · by_cases h2 : g = M.gNine
      · simp [h2, ibeq]
      · simp [h1, h2]
  rw [hs]
  clear hs e1 e2 e3
  rcases Bool.eq_false_or_eq_true (g.toList == [101, 105, 103, 104, 116]) with y1 | y1
  · rcases Bool.eq_false_or_eq_true (ball == 8) with y2 | y2
    all_goals
      rw [y1, y2]
      go_enter Tryz.func182, Tryz.ntmps182
      go_wp2
      go_ret
      exact ⟨rfl, ((Below.refl _ _).alloc (Nat.le_refl _) _).alloc (by simp) _⟩
  · rcases Bool.eq_false_or_eq_true (g.toList == [110, 105, 110, 101]) with y3 | y3
    · rcases Bool.eq_false_or_eq_true (ball == 9) with y2 | y2
      all_goals
        rw [y1, y3, y2]
        go_enter Tryz.func182, Tryz.ntmps182
        go_wp2
        go_ret
        exact ⟨rfl, ((Below.refl _ _).alloc (Nat.le_refl _) _).alloc (by simp) _⟩
    · rw [y1, y3]
      go_enter Tryz.func182, Tryz.ntmps182
      go_wp2
      go_ret
      exact ⟨rfl, ((Below.refl _ _).alloc (Nat.le_refl _) _).alloc (by simp) _⟩
end Go.Proofs.YtelpepbpdojikaaGreatDoor
namespace Go.Proofs.YtelpepbpdojikaaGreatDoor
open Go.RowKit
set_option maxRecDepth 100000 in
set_option maxHeartbeats 800000 in
theorem good_any (S : Nat → Prop) (r : M.Rules) (s : M.State) (x : M.Shot) (A P : Option Addr) (c d : Nat) (w : World) (hp : RdI w S A c s.balls) (hpp : RdP w S P d x.pots) (hx : HeadOk x) (hpos : ∀ p ∈ x.pots, 0 ≤ p.ball) (hr : M.ckRules r = 0) (hg : 0 ≤ s.group ∧ s.group ≤ 2) :
    Calls Tryz.prog 69 #[frameV r s A c, shotV x P d] w fun e w' => e = .returned (.bool (M.good r s x)) ∧ Below w.heap.size w w' := by
  have hF := fun W h h' => foul_any S r s x A P c d W h h' hx hpos hr hg
  have hgs := M.good_some r s x
  generalize M.foul r s x = fl at hF hgs
  generalize M.good r s x = gd at hgs ⊢
  have HF := hide hF
  have HG := hide hgs
  clear hF hgs
  go_enter Tryz.func69, Tryz.ntmps69
  go_upto_region 0 with (fail)
  go_cut [2, 3] (fun v2 v3 wx => v2 = ptr w.heap.size ∧ v3 = ptr (w.heap.size + 1) ∧ Blks w wx [(frameCells r (s) A c, 127), (shCells ⟨x, P, d⟩, 66)])
  case first =>
    go_wp2
    go_meet
    exact ⟨rfl, rfl, (((Blks.nil w).new (by simp) (frameCells r (s) A c) _).new (by simp) (shCells ⟨x, P, d⟩) _)⟩
  case rest =>
    obtain ⟨rfl, rfl, hB⟩ := hcut
    go_upto_region 1 with (fail)
    go_cut [5] (fun v wx => v = .bool (decide (fl = 0 ∧ 0 < (M.objects x).length)) ∧ Blks w wx [(frameCells r (s) A c, 127), (shCells ⟨x, P, d⟩, 66)])
    case first =>
      rcases Bool.eq_false_or_eq_true (fl == 0) with z1 | z1
      · by_cases z2 : 0 < (M.objects x).length
        all_goals
          go_wp2_with (first | (refine is_load 127 (.tmp 2) rfl ?_; refine next_load (hB.get0 rfl) Tryz.underlying127 rfl frame_info rfl (.tmp 2) rfl rfl ?_) | (refine is_load 66 (.tmp 3) rfl ?_; refine next_load (hB1.get 1 rfl) Tryz.underlying66 rfl shot_info rfl (.tmp 3) rfl rfl ?_) | (refine is_load 66 (.tmp 3) rfl ?_; refine next_load_g (hB1.get 1 rfl) Tryz.underlying66 rfl shot_info rfl (.tmp 3) rfl rfl ?_) | (refine is_load_w 66 (.tmp 3) rfl ?_; refine next_load_w (hB1.get 1 rfl) Tryz.underlying66 rfl shot_info (.tmp 3) rfl rfl ?_) | (refine is_load 66 (.tmp 3) rfl ?_; refine next_load (hB.get 1 rfl) Tryz.underlying66 rfl shot_info rfl (.tmp 3) rfl rfl ?_) | (go_at_call 66; refine (HF.out _ (hp.below hB.bw) (hpp.below hB.bw)).mono ?_; rintro e w1 ⟨rfl, hb1⟩; have hB1 := hB.call (by simp) hb1) | (go_at_call 70; refine (objects_any S x P d _ (hpp.below hB1.bw) hpos).mono ?_; rintro e w2 ⟨A1, c1, rfl, hr1, hb2⟩; have hB2 := hB1.call (by simp) hb2))
          go_meet
          exact ⟨by simp only [beq_iff_eq] at z1; simp [z1, z2], hB2⟩
      · go_wp2_with (first | (refine is_load 127 (.tmp 2) rfl ?_; refine next_load (hB.get0 rfl) Tryz.underlying127 rfl frame_info rfl (.tmp 2) rfl rfl ?_) | (refine is_load 66 (.tmp 3) rfl ?_; refine next_load (hB.get 1 rfl) Tryz.underlying66 rfl shot_info rfl (.tmp 3) rfl rfl ?_) | (go_at_call 66; refine (HF.out _ (hp.below hB.bw) (hpp.below hB.bw)).mono ?_; rintro e w1 ⟨rfl, hb1⟩; have hB1 := hB.call (by simp) hb1))
        go_meet
        exact ⟨by rw [beq_eq_false_iff_ne] at z1; simp [z1], hB1⟩
    case rest =>
      obtain ⟨rfl, hC⟩ := hcut
      clear hB
      obtain ⟨so, hso⟩ : ∃ b, (decide (fl = 0 ∧ 0 < (M.objects x).length)) = b := ⟨_, rfl⟩
      rw [hso]
      have HS := hide hso
      clear hso
      have hFC := hC.get0 rfl
      have hXC := hC.get 1 rfl
      have k0 := hFC.cell (j := 0) rfl
      have kf0 := hFC.frozen 0
      have x1 := hXC.cell (j := 1) rfl
      have xf1 := hXC.frozen 1
      have x2 := hXC.cell (j := 2) rfl
      have xf2 := hXC.frozen 2
      have x3 := hXC.cell (j := 3) rfl
      have xf3 := hXC.frozen 3
      have x6 := hXC.cell (j := 6) rfl
      have xf6 := hXC.frozen 6
      have hgd : ∀ (b1 b2 b3 b4 : Bool), b1 = (x.kind.toList == [98, 114, 101, 97, 107]) → b2 = (x.kind.toList == [112, 108, 97, 121]) → b3 = (r.game.toList == [115, 116, 114, 97, 105, 103, 104, 116]) → b4 = (r.game.toList == [110, 105, 110, 101]) →
          gd = if b1 then (so && !b3) else if !b2 then false else if b4 then so else (so && decide ((⟨x.ball, x.pocket⟩ : M.Pot) ∈ x.pots)) := by
        have g1 := HG.out
        have g2 := HS.out
        rintro b1 b2 b3 b4 rfl rfl rfl rfl
        rw [toList_beq x.kind [98, 114, 101, 97, 107], toList_beq x.kind [112, 108, 97, 121], toList_beq r.game [115, 116, 114, 97, 105, 103, 104, 116], toList_beq r.game [110, 105, 110, 101], g1, ← g2]
        by_cases h1 : x.kind = M.kBreak
        · simp [h1, Bool.decide_and, Bool.and_assoc]
        · by_cases h2 : x.kind = M.kPlay
          · by_cases h4 : r.game = M.gNine <;> simp [h2, h4, M.kPlay_ne_kBreak, Bool.decide_and, Bool.and_assoc]
          · simp [h1, h2]
      have HGD := hide hgd
      clear hgd
      rcases hb1 : (x.kind.toList == [98, 114, 101, 97, 107]) with _ | _
      · rcases hb2 : (x.kind.toList == [112, 108, 97, 121]) with _ | _
        · have hn : (x.kind.toList != [112, 108, 97, 121]) = true := by simp [bne, hb2]
          go_wp2
          go_ret
          exact ⟨ret_bool (by rw [HGD.out _ _ _ _ hb1.symm hb2.symm rfl rfl]; rfl), hC.bw⟩
        · have hn : (x.kind.toList != [112, 108, 97, 121]) = false := by simp [bne, hb2]
          rcases hb4 : (r.game.toList == [110, 105, 110, 101]) with _ | _
          · cases so with
            | true =>
              go_wp2_with (go_at_call 117; refine (inPot_any S P d x.pots ⟨x.ball, x.pocket⟩ _ (hpp.below hC.bw)).mono ?_; rintro e w3 ⟨rfl, hb3⟩; have hC3 := hC.call (by simp) hb3)
              go_ret
              exact ⟨ret_bool (by rw [HGD.out _ _ _ _ hb1.symm hb2.symm rfl hb4.symm]; simp), hC3.bw⟩
            | false =>
              go_wp2
              go_ret
              exact ⟨ret_bool (by rw [HGD.out _ _ _ _ hb1.symm hb2.symm rfl hb4.symm]; simp), hC.bw⟩
          · go_wp2
            go_ret
            exact ⟨ret_bool (by rw [HGD.out _ _ _ _ hb1.symm hb2.symm rfl hb4.symm]; simp), hC.bw⟩
      · rcases hb3 : (r.game.toList == [115, 116, 114, 97, 105, 103, 104, 116]) with _ | _
        all_goals
          have hn : (r.game.toList != [115, 116, 114, 97, 105, 103, 104, 116]) = !(r.game.toList == [115, 116, 114, 97, 105, 103, 104, 116]) := rfl
          rw [hb3] at hn
          cases so
          all_goals
            go_wp2
            go_ret
            exact ⟨ret_bool (by rw [HGD.out _ _ _ _ hb1.symm rfl hb3.symm rfl]; rfl), hC.bw⟩
end Go.Proofs.YtelpepbpdojikaaGreatDoor
namespace Go.Proofs.YtelpepbpdojikaaGreatDoor
open Go.RowKit
def keepP (r : M.Rules) (x : M.Shot) (gd : Bool) (b : Int) : Bool := !(decide (b ∈ M.objects x)) || spot r.game x.kind b gd
theorem filter_take {p : Int → Bool} {l : List Int} {k : Nat} (hk : k < l.length) : (l.take (k + 1)).filter p = (l.take k).filter p ++ if p l[k] = true then [l[k]] else [] := by
  rw [List.take_succ_eq_append_getElem hk, List.filter_append]
  cases h : p l[k] <;> simp [h]
theorem left_keep {r : M.Rules} {s : M.State} {x : M.Shot} (hr : M.ckRules r = 0) : M.left r s x = s.balls.filter (keepP r x (M.good r s x)) := by
  unfold M.left
  congr 1
  funext b
  unfold M.stays keepP spot
  rcases M.rules_game hr with h | h | h
  · have h1 : ¬ M.gStraight = M.gEight := by decide
    have h2 : ¬ M.gStraight = M.gNine := by decide
    rw [h]; simp [h1, h2]
  · have h1 : ¬ M.gEight = M.gStraight := by decide
    have h2 : ¬ M.gEight = M.gNine := by decide
    rw [h]; simp [h1, h2]
  · have h1 : ¬ M.gNine = M.gStraight := by decide
    have h2 : ¬ M.gNine = M.gEight := by decide
    rw [h]; simp [h1, h2]
set_option maxRecDepth 100000 in
set_option maxHeartbeats 1600000 in
theorem left_any (S : Nat → Prop) (r : M.Rules) (s : M.State) (x : M.Shot) (A P : Option Addr) (c d : Nat) (gd : Bool) (w : World) (hp : RdI w S A c s.balls) (hpp : RdP w S P d x.pots) (hpos : ∀ p ∈ x.pots, 0 ≤ p.ball) :
    Calls Tryz.prog 163 #[frameV r s A c, shotV x P d, .bool gd] w fun e w' => ∃ A' c', e = .returned (.slice A' (s.balls.filter (keepP r x gd)).length c') ∧ RdI w' (fun b => w.heap.size ≤ b) A' c' (s.balls.filter (keepP r x gd)) ∧ Below w.heap.size w w' := by
  obtain ⟨i0, hi, hz0, hz1, hz2⟩ := info_parts int_info
  obtain ⟨e1, e2, e3⟩ := hp.bd
  go_enter Tryz.func163, Tryz.ntmps163
  go_upto_region 0 with (fail)
  go_cut [3, 4] (fun v2 v3 wx => v2 = ptr w.heap.size ∧ v3 = ptr (w.heap.size + 1) ∧ Blks w wx [(frameCells r (s) A c, 127), (shCells ⟨x, P, d⟩, 66)])
  case first =>
    go_wp2
    go_meet
    exact ⟨rfl, rfl, (((Blks.nil w).new (by simp) (frameCells r (s) A c) _).new (by simp) (shCells ⟨x, P, d⟩) _)⟩
  case rest =>
    obtain ⟨rfl, rfl, hB⟩ := hcut
    go_upto_region 1 with (fail)
    go_cut [7] (fun v wx => ∃ A1 c1, v = .slice A1 (M.objects x).length c1 ∧ RdI wx (fun b => w.heap.size ≤ b) A1 c1 (M.objects x) ∧ Blks w wx [(frameCells r (s) A c, 127), (shCells ⟨x, P, d⟩, 66)])
    case first =>
      go_wp2_with (first | (refine is_load 66 (.tmp 4) rfl ?_; refine next_load (hB.get 1 rfl) Tryz.underlying66 rfl shot_info rfl (.tmp 4) rfl rfl ?_) | (go_at_call 70; refine (objects_any S x P d _ (hpp.below hB.bw) hpos).mono ?_; rintro e w2 ⟨A1, c1, rfl, hr1, hb2⟩; have hB2 := hB.call (by simp) hb2))
      go_meet
      exact ⟨A1, c1, rfl, hr1.more (fun b _ h => Nat.le_trans hB.bw.size h), hB2⟩
    case rest =>
      obtain ⟨A1, c1, rfl, hr1, hC⟩ := hcut
      rename World => W0
      clear hB
      have hFC := hC.get0 rfl
      have k9 := hFC.cell (j := 9) rfl
      have hszc := hC.size (by simp)
      simp only [List.length_cons, List.length_nil] at hszc
      go_wp2
      go_loopw [8, 17] (fun v i wr => ∃ k : Nat, k ≤ s.balls.length ∧ i = .int .i64 k ∧ (∃ A c, v = .slice A ((s.balls.take k).filter (keepP r x gd)).length c) ∧ wr.ownsRow W0.heap.size 3 1 v ((s.balls.take k).filter (keepP r x gd)).length (((s.balls.take k).filter (keepP r x gd)).map (Value.int .i64)) ∧ Aside (Below W0.heap.size W0 wr))
        (fun _ i _ => s.balls.length - (intOf i).toNat)
      case atStart => exact ⟨0, Nat.zero_le _, rfl, ⟨_, _, rfl⟩, World.ownsRow_nil _ _ _ _, Below.refl _ _⟩
      case round =>
        obtain ⟨k, hk, rfl, ⟨A2, c2, rfl⟩, hown, hbR⟩ := hrel
        have hR := hC.call (by simp) hbR.out
        have hgR := hr1.below hbR.out
        by_cases hlt : k < s.balls.length
        · obtain ⟨b, o, rfl, _, hbl, hc⟩ := (hp.below hR.bw).at_ k hlt
          have hck := hc k hlt
          clear hc
          have hs := filter_take (p := (keepP r x gd)) hlt
          have hle := List.length_filter_le (keepP r x gd) (s.balls.take k)
          rw [List.length_take] at hle
          have HS := hide hs
          clear hs
          go_upto_region 6 with (fail)
          go_cut [31] from 21 to 31 (fun v wx => v = .bool ((keepP r x gd) s.balls[k]) ∧ wx.ownsRow W0.heap.size 3 1 (.slice A2 ((s.balls.take k).filter (keepP r x gd)).length c2) ((s.balls.take k).filter (keepP r x gd)).length (((s.balls.take k).filter (keepP r x gd)).map (Value.int .i64)) ∧ Below wr.heap.size wr wx)
          case first =>
            rcases hm : decide (s.balls[k] ∈ M.objects x) with _ | _
            · go_wp2_with (go_at_call 95; refine (inInt_any _ A1 c1 (M.objects x) _ _ hgR).mono ?_; rintro e w99 ⟨rfl, rfl⟩)
              go_meet
              exact ⟨by unfold keepP; rw [hm]; rfl, hown, Below.refl _ _⟩
            · go_wp2_with (first | (refine is_load 127 (.tmp 3) rfl ?_; refine next_load (hR.get0 rfl) Tryz.underlying127 rfl frame_info rfl (.tmp 3) rfl rfl ?_) | (refine is_load 127 (.tmp 3) rfl ?_; refine next_load_g (hR.get0 rfl) Tryz.underlying127 rfl frame_info rfl (.tmp 3) rfl rfl ?_) | (refine is_load_w 127 (.tmp 3) rfl ?_; refine next_load_w (hR.get0 rfl) Tryz.underlying127 rfl frame_info (.tmp 3) rfl rfl ?_) | (refine is_load 66 (.tmp 4) rfl ?_; refine next_load (hR.get 1 rfl) Tryz.underlying66 rfl shot_info rfl (.tmp 4) rfl rfl ?_) | (refine is_load 66 (.tmp 4) rfl ?_; refine next_load_g (hR.get 1 rfl) Tryz.underlying66 rfl shot_info rfl (.tmp 4) rfl rfl ?_) | (refine is_load_w 66 (.tmp 4) rfl ?_; refine next_load_w (hR.get 1 rfl) Tryz.underlying66 rfl shot_info (.tmp 4) rfl rfl ?_) | (go_at_call 95; refine (inInt_any _ A1 c1 (M.objects x) _ _ hgR).mono ?_; rintro e w99 ⟨rfl, rfl⟩) | (go_at_call 182; refine (spotted_any r s x _ P _ d _ gd _).mono ?_; rintro e w3 ⟨rfl, hb3⟩))
              go_meet
              exact ⟨by unfold keepP; rw [hm]; rfl, own_call hown hb3, hb3⟩
          case rest =>
            obtain ⟨rfl, hownZ, hbZ⟩ := hcut
            have hbw1 := hbR.out.trans (hbZ.mono hbR.out.size)
            have hsz1 := hbw1.size
            clear hown
            cases hy : (keepP r x gd) s.balls[k] with
            | true =>
              have hsn : (s.balls.take (k + 1)).filter (keepP r x gd) = (s.balls.take k).filter (keepP r x gd) ++ [s.balls[k]] := by rw [HS.out, hy]; rfl
              have HN := hide hsn
              clear hsn
              go_wp2_with (at_builtin; refine wpList_append_lies _ rfl _ _ _ rfl (W0.heap.size) 3 i0 (.int .i64 0) 1 8 Tryz.underlying30 hi hz0 hz1 hz2 rfl (by omega) _ _ _ rfl (hownZ.alloc _) ⟨wc.heap.size, 0, none⟩ 1 1 [.int .i64 s.balls[k]] rfl rfl (cells_new _ _ _ _ (by simp)) ?c1 (by omega) ?c2 ?c3 ?c4 (wc.heap.size + 1) (by simp) ?_)
              case c1 => simp [Value.oneCell']
              case c2 => simp only [maxLen]; omega
              case c3 => omega
              case c4 => first | omega | (simp; omega)
              intro g1 cap w1 hown1 hgrow _ _
              have hbd := below_own (B := W0.heap.size) (hownZ.alloc _) hgrow (by omega) (by simp; omega)
              have hb1 := ((Below.refl W0.heap.size wc).alloc (by omega) _).trans hbd
              have hown2 : w1.ownsRow W0.heap.size 3 1 (.slice (some ⟨g1, 0, none⟩) ((s.balls.take (k + 1)).filter (keepP r x gd)).length cap) ((s.balls.take (k + 1)).filter (keepP r x gd)).length (((s.balls.take (k + 1)).filter (keepP r x gd)).map (Value.int .i64)) := by rw [HN.out]; simpa using hown1
              have hv : ((s.balls.take k).filter (keepP r x gd)).length + 1 = ((s.balls.take (k + 1)).filter (keepP r x gd)).length := by rw [HN.out]; simp
              rw [hv]
              have hbw2 := hbw1.trans hb1
              clear hownZ hown1 hgrow hbd hb1 hv
              go_wp2
              go_roundw
              case rel => exact ⟨k + 1, by omega, by go_num, ⟨_, _, rfl⟩, hown2, hbw2⟩
              case measure => simp [intOf]; omega
            | false =>
              have hsn : (s.balls.take (k + 1)).filter (keepP r x gd) = (s.balls.take k).filter (keepP r x gd) := by rw [HS.out, hy]; simp
              have HN := hide hsn
              clear hsn
              go_wp2
              go_roundw
              case rel => exact ⟨k + 1, by omega, by go_num, by rw [HN.out]; exact ⟨⟨_, _, rfl⟩, hownZ, hbw1⟩⟩
              case measure => simp [intOf]; omega
        · obtain rfl : k = s.balls.length := by omega
          rw [List.take_length] at hown
          go_wp2
          go_ret
          rw [List.take_length]
          exact ⟨A2, c2, rfl, (Reads.of_own hown (fun b h => by omega) (by have := List.length_filter_le (keepP r x gd) s.balls; omega)), hR.bw⟩
end Go.Proofs.YtelpepbpdojikaaGreatDoor
namespace Go.Proofs.YtelpepbpdojikaaGreatDoor
open Go.RowKit
set_option maxRecDepth 100000 in
set_option maxHeartbeats 800000 in
theorem eqInts_any (S : Nat → Prop) (A B : Option Addr) (c d : Nat) (xs ys : List Int) (w : World) (hx : RdI w S A c xs) (hy : RdI w S B d ys) :
    Calls Tryz.prog 147 #[.slice A xs.length c, .slice B ys.length d] w fun r w' => r = .returned (.bool (decide (xs = ys))) ∧ ∃ n, w' = w.drewN n := by
  obtain ⟨b1, b2, b3⟩ := hx.bd
  obtain ⟨b4, b5, b6⟩ := hy.bd
  by_cases hl : xs.length = ys.length
  · have hl1 : ((xs.length : Int) != (ys.length : Int)) = false := by rw [hl]; simp
    have HL := hide hl
    clear hl
    go_enter Tryz.func147, Tryz.ntmps147
    go_wp2
    go_loopw [13] (fun i wr => ∃ k n : Nat, k ≤ xs.length ∧ i = .int .i64 k ∧ xs.take k = ys.take k ∧ wr = w.drewN n) (fun i _ => xs.length - (intOf i).toNat)
    case atStart => exact ⟨0, 0, Nat.zero_le _, rfl, by simp, rfl⟩
    case round =>
      obtain ⟨k, n, hk, rfl, hx1, rfl⟩ := hrel
      by_cases hlt : k < xs.length
      · have hlt2 : k < ys.length := by have := HL.out; omega
        obtain ⟨b, o, rfl, _, _, hc⟩ := hx.at_ k hlt
        obtain ⟨b', o', rfl, _, _, hc'⟩ := hy.at_ k hlt2
        have h1 := hc k hlt
        have h2 := hc' k hlt2
        clear hc hc'
        have i1 : (0 : Int) ≤ (k : Int) := by omega
        have i2 : (k : Int) < (xs.length : Int) := by omega
        have i3 : (k : Int) < (ys.length : Int) := by omega
        by_cases he : xs[k] = ys[k]
        · have he1 : (xs[k] != ys[k]) = false := by simp [he]
          have HE := hide he
          have HX := hide hx1
          clear he hx1
          go_wp2
          go_quiet (fail)
          go_wp2
          go_roundw
          case rel => exact ⟨k + 1, _, by omega, by go_num, take_eq_succ hlt hlt2 HX.out HE.out, rfl⟩
          case measure => simp [intOf]; omega
        · have he1 : (xs[k] != ys[k]) = true := by simp [he]
          go_wp2
          go_quiet (fail)
          go_wp2
          go_ret
          exact ⟨ret_bool (by simp [ne_of_get hlt hlt2 he]), _, World.drewN_drewN _ _ _⟩
      · go_wp2
        go_ret
        rw [List.take_of_length_le (by omega), List.take_of_length_le (by have := HL.out; omega)] at hx1
        exact ⟨ret_bool (by simp [hx1]), n, rfl⟩
  · have hl1 : ((xs.length : Int) != (ys.length : Int)) = true := by simp; omega
    go_enter Tryz.func147, Tryz.ntmps147
    go_wp2
    go_ret
    exact ⟨ret_bool (by simp; intro e; exact hl (by rw [e])), 0, rfl⟩
def winP (r : M.Rules) (s : M.State) (x : M.Shot) (gd : Bool) (sc : Int) : Int × Bool :=
  if r.game = M.gStraight then (x.player, gd && decide (r.target ≤ sc))
  else if r.game = M.gNine then (x.player, gd && decide ((9 : Int) ∈ M.objects x))
  else if x.kind = M.kBreak ∨ (8 : Int) ∉ M.objects x then (0, false)
  else if gd = true ∧ x.ball = 8 ∧ M.targets r s = [8] then (x.player, true) else (1 - x.player, true)
set_option maxRecDepth 100000 in
set_option maxHeartbeats 800000 in
theorem down_any {w : World} {Bx : Nat} {x : M.Shot} {P : Option Addr} {d : Nat} {S : Nat → Prop} (hx : Held w Bx (shCells ⟨x, P, d⟩) 66) (hpp : RdP w S P d x.pots) (hpos : ∀ p ∈ x.pots, 0 ≤ p.ball) (b : Int) (W : World) (hb : Below w.heap.size w W) :
    Calls Tryz.prog 183 #[.int .i64 b, ptr Bx] W fun e w' => e = .returned (.bool (decide (b ∈ M.objects x))) ∧ Below W.heap.size W w' := by
  have hX := hx.below hb
  go_enter Tryz.func183, Tryz.ntmps183
  go_wp2_with (first | (refine is_load 66 (.tmp 1) rfl ?_; refine next_load (hX) Tryz.underlying66 rfl shot_info rfl (.tmp 1) rfl rfl ?_) | (go_at_call 70; refine (objects_any S x P d _ (hpp.below hb) hpos).mono ?_; rintro e w1 ⟨A1, c1, rfl, hr1, hb1⟩) | (go_at_call 95; refine (inInt_any _ A1 c1 (M.objects x) _ _ hr1).mono ?_; rintro e w99 ⟨rfl, rfl⟩))
  go_ret
  exact ⟨rfl, hb1⟩
set_option maxRecDepth 100000 in
set_option maxHeartbeats 1600000 in
theorem winner_any (S : Nat → Prop) (r : M.Rules) (s : M.State) (x : M.Shot) (A P : Option Addr) (c d : Nat) (gd : Bool) (sc : Int) (w : World) (hp : RdI w S A c s.balls) (hpp : RdP w S P d x.pots) (hpos : ∀ p ∈ x.pots, 0 ≤ p.ball) (hr : M.ckRules r = 0) (hg : 0 ≤ s.group ∧ s.group ≤ 2) (h0 : 0 ≤ x.player) (h1 : x.player ≤ 1) :
    Calls Tryz.prog 164 #[frameV r s A c, shotV x P d, .bool gd, .int .i64 sc] w fun e w' => e = .returned (.tuple #[.int .i64 (winP r s x gd sc).1, .bool (winP r s x gd sc).2]) ∧ Below w.heap.size w w' := by
  go_enter Tryz.func164, Tryz.ntmps164
  go_upto_region 1 with (fail)
  go_cut [4, 5, 10] (fun v2 v3 v4 wx => v2 = ptr w.heap.size ∧ v3 = ptr (w.heap.size + 1) ∧ v4 = .func (.func 183) #[] #[ptr (w.heap.size + 1)] ∧ Blks w wx [(frameCells r (s) A c, 127), (shCells ⟨x, P, d⟩, 66)])
  case first =>
    go_wp2
    go_meet
    exact ⟨rfl, rfl, rfl, (((Blks.nil w).new (by simp) (frameCells r (s) A c) _).new (by simp) (shCells ⟨x, P, d⟩) _)⟩
  case rest =>
    obtain ⟨rfl, rfl, rfl, hB⟩ := hcut
    have hbD := Below.refl wc.heap.size wc
    have hD := fun b W h => down_any (hB.get 1 rfl) (hpp.below hB.bw) hpos b W h
    have HD := hide hD
    clear hD
    have hFC := hB.get0 rfl
    have hXC := hB.get 1 rfl
    have k0 := hFC.cell (j := 0) rfl
    have kf0 := hFC.frozen 0
    have k1 := hFC.cell (j := 1) rfl
    have kf1 := hFC.frozen 1
    have x0 := hXC.cell (j := 0) rfl
    have xf0 := hXC.frozen 0
    have x1 := hXC.cell (j := 1) rfl
    have xf1 := hXC.frozen 1
    have x2 := hXC.cell (j := 2) rfl
    have xf2 := hXC.frozen 2
    have e1 := toList_beq r.game [115, 116, 114, 97, 105, 103, 104, 116]
    have e2 := toList_beq r.game [110, 105, 110, 101]
    have e3 := toList_beq x.kind [98, 114, 101, 97, 107]
    have hw : winP r s x gd sc = if (r.game.toList == [115, 116, 114, 97, 105, 103, 104, 116]) = true then (x.player, gd && decide (r.target ≤ sc)) else if (r.game.toList == [110, 105, 110, 101]) = true then (x.player, gd && decide ((9 : Int) ∈ M.objects x))
        else if ((x.kind.toList == [98, 114, 101, 97, 107]) || !decide ((8 : Int) ∈ M.objects x)) = true then (0, false) else if (gd && (decide (x.ball = 8) && decide (M.targets r s = [8]))) = true then (x.player, true) else (1 - x.player, true) := by
      rw [e1, e2, e3]
      unfold winP
      simp only [decide_eq_true_eq, Bool.or_eq_true, Bool.not_eq_true', decide_eq_false_iff_not, Bool.and_eq_true]
    have HW := hide hw
    clear hw e1 e2 e3
    rcases hy1 : (r.game.toList == [115, 116, 114, 97, 105, 103, 104, 116]) with _ | _
    · rcases hy2 : (r.game.toList == [110, 105, 110, 101]) with _ | _
      · rcases hy3 : (x.kind.toList == [98, 114, 101, 97, 107]) with _ | _
        · rcases hm : decide ((8 : Int) ∈ M.objects x) with _ | _
          · go_wp2_with (first | (go_at_call 183; refine (HD.out _ _ hbD).mono ?_; rintro e w1 ⟨rfl, hb1⟩; have hB1 := hB.call (by simp) hb1))
            go_ret2
            exact ⟨by rw [HW.out, hy1, hy2, hy3, hm]; rfl, hB1.bw⟩
          · rcases gd with _ | _
            · have hq : ∀ p : Bool, (if (false && p) = true then ((x.player, true) : Int × Bool) else (1 - x.player, true)) = (1 - x.player, true) := by intro p; rfl
              go_upto_region 8 with (first | (go_at_call 183; refine (HD.out _ _ hbD).mono ?_; rintro e w1 ⟨rfl, hb1⟩; have hB1 := hB.call (by simp) hb1))
              have hX1 := hB1.get 1 rfl
              have y0 := hX1.cell (j := 0) rfl
              have yf0 := hX1.frozen 0
              have y2 := hX1.cell (j := 2) rfl
              have yf2 := hX1.frozen 2
              go_wp2
              go_ret2
              exact ⟨by rw [HW.out, hy1, hy2, hy3, hm]; rfl, hB1.bw⟩
            · rcases hy4 : decide (x.ball = 8) with _ | _
              · have hy5 : (x.ball == 8) = false := by rw [ibeq, hy4]
                go_upto_region 8 with (first | (go_at_call 183; refine (HD.out _ _ hbD).mono ?_; rintro e w1 ⟨rfl, hb1⟩; have hB1 := hB.call (by simp) hb1))
                have hX1 := hB1.get 1 rfl
                have y0 := hX1.cell (j := 0) rfl
                have yf0 := hX1.frozen 0
                have y2 := hX1.cell (j := 2) rfl
                have yf2 := hX1.frozen 2
                go_wp2
                go_ret2
                exact ⟨by rw [HW.out, hy1, hy2, hy3, hm, hy4]; rfl, hB1.bw⟩
              · have hy5 : (x.ball == 8) = true := by rw [ibeq, hy4]
                go_upto_region 8 with (first | (go_at_call 183; refine (HD.out _ _ hbD).mono ?_; rintro e w1 ⟨rfl, hb1⟩; have hB1 := hB.call (by simp) hb1))
                have hX1 := hB1.get 1 rfl
                have y0 := hX1.cell (j := 0) rfl
                have yf0 := hX1.frozen 0
                have y2 := hX1.cell (j := 2) rfl
                have yf2 := hX1.frozen 2
                go_upto_region 8 with (fail)
                go_cut [48] (fun v wx => v = .bool (decide (M.targets r s = [8])) ∧ Blks w wx [(frameCells r (s) A c, 127), (shCells ⟨x, P, d⟩, 66)])
                case first =>
                  go_wp2_with (first | (refine is_load 127 (.tmp 4) rfl ?_; refine next_load (hB1.get0 rfl) Tryz.underlying127 rfl frame_info rfl (.tmp 4) rfl rfl ?_) | (refine is_load 127 (.tmp 4) rfl ?_; refine next_load_g (hB1.get0 rfl) Tryz.underlying127 rfl frame_info rfl (.tmp 4) rfl rfl ?_) | (refine is_load_w 127 (.tmp 4) rfl ?_; refine next_load_w (hB1.get0 rfl) Tryz.underlying127 rfl frame_info (.tmp 4) rfl rfl ?_) | (go_at_call 103; refine (targets_any S r s A c _ (hp.below hB1.bw) hr hg).mono ?_; rintro e w2 ⟨A2, c2, rfl, hr2, hb2⟩; have hB2 := hB1.call (by simp) hb2) | (go_at_call 147; refine (eqInts_any (fun _ => True) A2 (some ⟨w2.heap.size, 0, none⟩) c2 1 (M.targets r s) [8] _ ((hr2.alloc _).more (fun _ _ _ => trivial)) (RdI.lit w2 _ [8] (by simp) (fun _ => True) trivial)).mono ?_; rintro e w3 ⟨rfl, n3, rfl⟩; have hB3 := (hB2.alloc (by simp) (.cells #[.int .i64 8] 3)).drewN n3))
                  go_meet
                  exact ⟨rfl, hB3⟩
                case rest =>
                  obtain ⟨rfl, hB4⟩ := hcut
                  have hX4 := hB4.get 1 rfl
                  have z0 := hX4.cell (j := 0) rfl
                  have zf0 := hX4.frozen 0
                  rcases ht : decide (M.targets r s = [8]) with _ | _
                  all_goals
                    go_wp2
                    go_ret2
                    exact ⟨by rw [HW.out, hy1, hy2, hy3, hm, hy4, ht]; rfl, hB4.bw⟩
        · go_wp2
          go_ret2
          exact ⟨by rw [HW.out, hy1, hy2, hy3]; rfl, hB.bw⟩
      · rcases gd with _ | _
        · go_upto_region 5 with (fail)
          refine wp_region_held_drew (S := (fun w' : World => w'.cell? ⟨w.heap.size + 1, 0, none⟩ = some (.int .i64 x.player))) (by kernel_rfl) ?q1xstart (fun hHeld => ?_)
          case q1xstart => first | exact (hB.get 1 rfl).cell (j := 0) rfl | exact (hB.drew.get 1 rfl).cell (j := 0) rfl | exact (hB1.get 1 rfl).cell (j := 0) rfl
          refine wpAnyH_take (i := 0) (oi := _) (v := ?q1xv0) (ga rfl) (by kernel_rfl) (by kernel_rfl) (by kernel_rfl) (fun _ _ _ h => h) (Or.inl ⟨by rfl, ?q1xy0⟩) (by assumption) ?_
          case q1xy0 => (intro w hSw; (try dsimp only at hSw); go_simp; try with_reducible rfl)
          try simp only [Act.put, la, lz, ls]
          refine wpAnyH_take (i := 1) (oi := _) (v := ?q1xv1) (ga rfl) (by kernel_rfl) (by kernel_rfl) (by kernel_rfl) (fun _ _ _ h => h) (Or.inl ⟨by rfl, ?q1xy1⟩) (by assumption) ?_
          case q1xy1 => (intro w hSw; (try dsimp only at hSw); go_simp; try with_reducible rfl)
          try simp only [Act.put, la, lz, ls]
          refine wpAnyH_take (i := 2) (oi := _) (v := ?q1xv2) (ga rfl) (by kernel_rfl) (by kernel_rfl) (by kernel_rfl) (fun _ _ _ h => h) (Or.inl ⟨by rfl, ?q1xy2⟩) (by assumption) ?_
          case q1xy2 => (intro w hSw; (try dsimp only at hSw); go_simp; try with_reducible rfl)
          try simp only [Act.put, la, lz, ls]
          refine wpAnyH_take (i := 3) (oi := _) (v := ?q1xv3) (ga rfl) (by kernel_rfl) (by kernel_rfl) (by kernel_rfl) (fun _ _ _ h => h) (Or.inl ⟨by rfl, ?q1xy3⟩) (by assumption) ?_
          case q1xy3 => (intro w hSw; (try dsimp only at hSw); go_simp; try with_reducible rfl)
          try simp only [Act.put, la, lz, ls]
          refine wpAnyH_take (i := 4) (oi := _) (v := undef) (ga rfl) (by kernel_rfl) (by kernel_rfl) (by kernel_rfl) (fun _ _ _ h => h) (Or.inr ⟨by rfl, rfl⟩) (by assumption) ?_
          try simp only [Act.put, la, lz, ls]
          refine wpAnyH_take (i := 5) (oi := _) (v := undef) (ga rfl) (by kernel_rfl) (by kernel_rfl) (by kernel_rfl) (fun _ _ _ h => h) (Or.inr ⟨by rfl, rfl⟩) (by assumption) ?_
          try simp only [Act.put, la, lz, ls]
          refine wpAnyH_take (i := 6) (oi := _) (v := ?q1xv6) (ga rfl) (by kernel_rfl) (by kernel_rfl) (by kernel_rfl) (fun _ _ _ h => h) (Or.inl ⟨by rfl, ?q1xy6⟩) (by assumption) ?_
          case q1xy6 => (intro w hSw; (try dsimp only at hSw); go_simp; try with_reducible rfl)
          try simp only [Act.put, la, lz, ls]
          refine wpAnyH_take (i := 7) (oi := _) (v := ?q1xv7) (ga rfl) (by kernel_rfl) (by kernel_rfl) (by kernel_rfl) (fun _ _ _ h => h) (Or.inl ⟨by rfl, ?q1xy7⟩) (by assumption) ?_
          case q1xy7 => (intro w hSw; (try dsimp only at hSw); go_simp; try with_reducible rfl)
          try simp only [Act.put, la, lz, ls]
          refine wpAnyH_take (i := 8) (oi := _) (v := ?q1xv8) (ga rfl) (by kernel_rfl) (by kernel_rfl) (by kernel_rfl) (fun _ _ _ h => h) (Or.inl ⟨by rfl, ?q1xy8⟩) (by assumption) ?_
          case q1xy8 => (intro w hSw; (try dsimp only at hSw); go_simp; try with_reducible rfl)
          try simp only [Act.put, la, lz, ls]
          refine wpAnyH_done (by kernel_rfl) ?_ _
          go_wp2
          go_ret2
          exact ⟨by rw [HW.out, hy1, hy2]; rfl, hB.drew.bw⟩
        · go_upto_region 5 with (fail)
          refine wp_region_held_drew (S := (fun w' : World => w'.cell? ⟨w.heap.size + 1, 0, none⟩ = some (.int .i64 x.player))) (by kernel_rfl) ?q2xstart (fun hHeld => ?_)
          case q2xstart => first | exact (hB.get 1 rfl).cell (j := 0) rfl | exact (hB.drew.get 1 rfl).cell (j := 0) rfl | exact (hB1.get 1 rfl).cell (j := 0) rfl
          refine wpAnyH_take (i := 0) (oi := _) (v := ?q2xv0) (ga rfl) (by kernel_rfl) (by kernel_rfl) (by kernel_rfl) (fun _ _ _ h => h) (Or.inl ⟨by rfl, ?q2xy0⟩) (by assumption) ?_
          case q2xy0 => (intro w hSw; (try dsimp only at hSw); go_simp; try with_reducible rfl)
          try simp only [Act.put, la, lz, ls]
          refine wpAnyH_take (i := 1) (oi := _) (v := ?q2xv1) (ga rfl) (by kernel_rfl) (by kernel_rfl) (by kernel_rfl) (fun _ _ _ h => h) (Or.inl ⟨by rfl, ?q2xy1⟩) (by assumption) ?_
          case q2xy1 => (intro w hSw; (try dsimp only at hSw); go_simp; try with_reducible rfl)
          try simp only [Act.put, la, lz, ls]
          refine wpAnyH_take (i := 2) (oi := _) (v := ?q2xv2) (ga rfl) (by kernel_rfl) (by kernel_rfl) (by kernel_rfl) (fun _ _ _ h => h) (Or.inl ⟨by rfl, ?q2xy2⟩) (by assumption) ?_
          case q2xy2 => (intro w hSw; (try dsimp only at hSw); go_simp; try with_reducible rfl)
          try simp only [Act.put, la, lz, ls]
          refine wpAnyH_take (i := 3) (oi := _) (v := ?q2xv3) (ga rfl) (by kernel_rfl) (by kernel_rfl) (by kernel_rfl) (fun _ _ _ h => h) (Or.inl ⟨by rfl, ?q2xy3⟩) (by assumption) ?_
          case q2xy3 => (intro w hSw; (try dsimp only at hSw); go_simp; try with_reducible rfl)
          try simp only [Act.put, la, lz, ls]
          refine wpAnyH_take (i := 4) (oi := _) (v := ?q2xv4) (ga rfl) (by kernel_rfl) (by kernel_rfl) (by kernel_rfl) (fun _ _ _ h => h) (Or.inl ⟨by rfl, ?q2xy4⟩) (by assumption) ?_
          case q2xy4 => (intro w hSw; (try dsimp only at hSw); go_simp; try with_reducible rfl)
          try simp only [Act.put, la, lz, ls]
          refine wpAnyH_ready (rs := [5]) (by kernel_rfl) (by simp) ?_
          refine AllReadyH.cons (o := _) (ga rfl) (fun K hK => ?_) AllReadyH.nil
          go_simp
          (go_at_call 183; refine (HD.out _ _ (Below.refl _ _).drew).mono ?_; rintro e w1 ⟨rfl, hb1⟩; have hB1 := hB.drew.call (by simp) hb1)
          refine hK.out _ _ ?q2xh5 (fun hHeld => ?_)
          case q2xh5 => (first | (first | exact (hB.get 1 rfl).cell (j := 0) rfl | exact (hB.drew.get 1 rfl).cell (j := 0) rfl | exact (hB1.get 1 rfl).cell (j := 0) rfl) | (dsimp only; first | exact (hB.get 1 rfl).cell (j := 0) rfl | exact (hB.drew.get 1 rfl).cell (j := 0) rfl | exact (hB1.get 1 rfl).cell (j := 0) rfl))
          clear hK K
          try simp only [Act.put, la, lz, ls]
          refine wpAnyH_take (i := 6) (oi := _) (v := ?q2xv6) (ga rfl) (by kernel_rfl) (by kernel_rfl) (by kernel_rfl) (fun _ _ _ h => h) (Or.inl ⟨by rfl, ?q2xy6⟩) (by assumption) ?_
          case q2xy6 => (intro w hSw; (try dsimp only at hSw); go_simp; try with_reducible rfl)
          try simp only [Act.put, la, lz, ls]
          refine wpAnyH_take (i := 7) (oi := _) (v := ?q2xv7) (ga rfl) (by kernel_rfl) (by kernel_rfl) (by kernel_rfl) (fun _ _ _ h => h) (Or.inl ⟨by rfl, ?q2xy7⟩) (by assumption) ?_
          case q2xy7 => (intro w hSw; (try dsimp only at hSw); go_simp; try with_reducible rfl)
          try simp only [Act.put, la, lz, ls]
          refine wpAnyH_take (i := 8) (oi := _) (v := ?q2xv8) (ga rfl) (by kernel_rfl) (by kernel_rfl) (by kernel_rfl) (fun _ _ _ h => h) (Or.inl ⟨by rfl, ?q2xy8⟩) (by assumption) ?_
          case q2xy8 => (intro w hSw; (try dsimp only at hSw); go_simp; try with_reducible rfl)
          try simp only [Act.put, la, lz, ls]
          refine wpAnyH_done (by kernel_rfl) ?_ _
          go_wp2
          go_ret2
          exact ⟨by rw [HW.out, hy1, hy2]; rfl, hB1.bw⟩
    · rcases gd with _ | _
      all_goals
        go_wp2
        go_quiet (fail)
        go_wp2
        go_ret2
        exact ⟨by rw [HW.out, hy1]; rfl, below_drewN hB.bw _⟩
end Go.Proofs.YtelpepbpdojikaaGreatDoor
