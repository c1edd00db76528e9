/- Parts of the proofs about chapter 5 (pool), joined by program. -/
import Derived.BigQuiet
import Derived.Deep.QuietTactic
import Derived.Test.YtelpepbpdojikaaGreatDoorKe1
set_option linter.unusedVariables false
set_option linter.unusedSimpArgs false
namespace Go.Proofs.YtelpepbpdojikaaGreatDoor
open Go.RowKit
structure Sh where
  x : M.Shot
  a : Option Addr
  c : Nat
def shCells (e : Sh) : List Value := [.int .i64 e.x.player, .string e.x.kind, .int .i64 e.x.ball, .int .i64 e.x.pocket, .int .i64 e.x.first, .bool e.x.cushion, .slice e.a e.x.pots.length e.c]
def shsCells (l : List Sh) : List Value := l.flatMap shCells
theorem shsCells_length (l : List Sh) : (shsCells l).length = l.length * 7 := by
  induction l with
  | nil => rfl
  | cons p l ih => simp [shsCells, shCells] at ih ⊢; omega
theorem shsCells_append (a b : List Sh) : shsCells (a ++ b) = shsCells a ++ shsCells b := by simp [shsCells]
theorem shsCells_get (l : List Sh) (k : Nat) (hk : k < l.length) (j : Nat) (hj : j < 7) : (shsCells l)[k * 7 + j]? = (shCells l[k])[j]? := by
  have h : shsCells l = shsCells (l.take k) ++ (shCells l[k] ++ shsCells (l.drop (k + 1))) := by
    conv => lhs; rw [← List.take_append_drop k l, List.drop_eq_getElem_cons hk]
    rw [shsCells_append]; rfl
  have hl : (shsCells (l.take k)).length = k * 7 := by rw [shsCells_length, List.length_take]; omega
  have h7 : (shCells l[k]).length = 7 := rfl
  rw [h, List.getElem?_append_right (by omega), hl, List.getElem?_append_left (by omega)]
  congr 1
  omega
def RdS (w : World) (S : Nat → Prop) (A : Option Addr) (c : Nat) (l : List Sh) : Prop := Reads w S 7 A l.length c (shsCells l) ∧ ∀ e ∈ l, RdP w S e.a e.c e.x.pots
section
variable {w w' : World} {S S' : Nat → Prop} {A : Option Addr} {c : Nat} {l : List Sh}
theorem RdS.at_ (h : RdS w S A c l) (k : Nat) (hk : k < l.length) :
    ∃ b o, A = some ⟨b, o, none⟩ ∧ S b ∧ b < w.heap.size ∧ ∀ j (_ : j < l.length), w.cell? ⟨b, o + j * 7, none⟩ = some (.int .i64 l[j].x.player) ∧ w.cell? ⟨b, o + j * 7 + 1, none⟩ = some (.string l[j].x.kind) ∧
      w.cell? ⟨b, o + j * 7 + 2, none⟩ = some (.int .i64 l[j].x.ball) ∧ w.cell? ⟨b, o + j * 7 + 3, none⟩ = some (.int .i64 l[j].x.pocket) ∧ w.cell? ⟨b, o + j * 7 + 4, none⟩ = some (.int .i64 l[j].x.first) ∧
      w.cell? ⟨b, o + j * 7 + 5, none⟩ = some (.bool l[j].x.cushion) ∧ w.cell? ⟨b, o + j * 7 + 6, none⟩ = some (.slice l[j].a l[j].x.pots.length l[j].c) := by
  obtain ⟨b, o, e, h1, h2, h3⟩ := Reads.at_ h.1 (by omega)
  exact ⟨b, o, e, h1, h2, fun j hj => ⟨h3 _ _ (shsCells_get l j hj 0 (by omega)), h3 _ _ (shsCells_get l j hj 1 (by omega)), h3 _ _ (shsCells_get l j hj 2 (by omega)),
    h3 _ _ (shsCells_get l j hj 3 (by omega)), h3 _ _ (shsCells_get l j hj 4 (by omega)), h3 _ _ (shsCells_get l j hj 5 (by omega)), h3 _ _ (shsCells_get l j hj 6 (by omega))⟩⟩
theorem RdS.bd (h : RdS w S A c l) : l.length ≤ c ∧ c ≤ 9223372036854775807 ∧ l.length ≤ 17592186044416 := Reads.bd h.1
theorem RdS.pots (h : RdS w S A c l) (k : Nat) (hk : k < l.length) : RdP w S l[k].a l[k].c l[k].x.pots := h.2 _ (List.getElem_mem hk)
theorem RdS.keep (h : RdS w S A c l) (hs : w.heap.size ≤ w'.heap.size) (hk : ∀ b o, S b → b < w.heap.size → w'.cell? ⟨b, o, none⟩ = w.cell? ⟨b, o, none⟩) : RdS w' S A c l :=
  ⟨Reads.keep h.1 hs hk, fun e he => Reads.keep (h.2 e he) hs hk⟩
theorem RdS.below (h : RdS w S A c l) (hb : Below w.heap.size w w') : RdS w' S A c l := h.keep hb.size fun _ _ _ hp => hb.cell (p := ⟨_, _, none⟩) hp
theorem RdS.more (h : RdS w S A c l) (hS : ∀ b, b < w.heap.size → S b → S' b) : RdS w S' A c l := ⟨Reads.more h.1 hS, fun e he => Reads.more (h.2 e he) hS⟩
end
def plain (l : List Sh) : List M.Shot := l.map (·.x)
theorem plain_length (l : List Sh) : (plain l).length = l.length := by simp [plain]
theorem plain_get (l : List Sh) (k : Nat) (hk : k < l.length) : (plain l)[k]'(by rw [plain_length]; exact hk) = l[k].x := by simp [plain]
section
variable {w w' : World} {S S' : Nat → Prop} {A : Option Addr} {c : Nat} {zs : List Int} {ps : List M.Pot}
theorem RdI.below (h : RdI w S A c zs) (hb : Below w.heap.size w w') : RdI w' S A c zs := Reads.below h hb
theorem RdI.alloc (h : RdI w S A c zs) (o : Obj) : RdI (w.alloc o) S A c zs := Reads.alloc h o
theorem RdI.drewN (h : RdI w S A c zs) (n : Nat) : RdI (w.drewN n) S A c zs := h
theorem RdI.more (h : RdI w S A c zs) (hS : ∀ b, b < w.heap.size → S b → S' b) : RdI w S' A c zs := Reads.more h hS
theorem RdI.keep (h : RdI w S A c zs) (hs : w.heap.size ≤ w'.heap.size) (hk : ∀ b o, S b → b < w.heap.size → w'.cell? ⟨b, o, none⟩ = w.cell? ⟨b, o, none⟩) : RdI w' S A c zs := Reads.keep h hs hk
theorem RdI.setCell (h : RdI w S A c zs) {p : Addr} (hp : ¬ S p.block) (u : Value) : RdI (w.setCell p u) S A c zs := Reads.setCell h hp u
theorem RdP.below (h : RdP w S A c ps) (hb : Below w.heap.size w w') : RdP w' S A c ps := Reads.below h hb
theorem RdP.alloc (h : RdP w S A c ps) (o : Obj) : RdP (w.alloc o) S A c ps := Reads.alloc h o
theorem RdP.drewN (h : RdP w S A c ps) (n : Nat) : RdP (w.drewN n) S A c ps := h
theorem RdP.more (h : RdP w S A c ps) (hS : ∀ b, b < w.heap.size → S b → S' b) : RdP w S' A c ps := Reads.more h hS
theorem RdP.keep (h : RdP w S A c ps) (hs : w.heap.size ≤ w'.heap.size) (hk : ∀ b o, S b → b < w.heap.size → w'.cell? ⟨b, o, none⟩ = w.cell? ⟨b, o, none⟩) : RdP w' S A c ps := Reads.keep h hs hk
theorem RdP.setCell (h : RdP w S A c ps) {p : Addr} (hp : ¬ S p.block) (u : Value) : RdP (w.setCell p u) S A c ps := Reads.setCell h hp u
theorem ckShots_step {l : List Sh} {k : Nat} (hk : k < l.length) : M.ckShots ((plain l).drop k) = if M.ckShot l[k].x ≠ 0 then M.ckShot l[k].x else M.ckShots ((plain l).drop (k + 1)) := by
  rw [List.drop_eq_getElem_cons (by rw [plain_length]; exact hk), M.ckShots, plain_get l k hk]
end
end Go.Proofs.YtelpepbpdojikaaGreatDoor
namespace Go.Proofs.YtelpepbpdojikaaGreatDoor
open Go.RowKit
structure Keeps (w B : World) (nb : Nat) (W : World) : Prop where
  sz : w.heap.size + nb ≤ W.heap.size
  cell : ∀ p q, p < w.heap.size + nb → W.cell? ⟨p, q, none⟩ = B.cell? ⟨p, q, none⟩
  frozen : ∀ p q, p < w.heap.size + nb → W.frozen? ⟨p, q, none⟩ = B.frozen? ⟨p, q, none⟩
  bw : Below w.heap.size w W
section
variable {w B W W' : World} {nb : Nat}
theorem Keeps.of (hb : Below w.heap.size w B) (hs : B.heap.size = w.heap.size + nb) : Keeps w B nb B := ⟨by omega, fun _ _ _ => rfl, fun _ _ _ => rfl, hb⟩
theorem Keeps.of0 (w : World) : Keeps w w 0 w := ⟨by omega, fun _ _ _ => rfl, fun _ _ _ => rfl, Below.refl _ _⟩
theorem Keeps.of1 (w : World) (o : Obj) : Keeps w (w.alloc o) 1 (w.alloc o) := .of ((Below.refl _ _).alloc (Nat.le_refl _) _) (by simp)
theorem Keeps.of2 (w : World) (o p : Obj) : Keeps w ((w.alloc o).alloc p) 2 ((w.alloc o).alloc p) := .of (((Below.refl _ _).alloc (Nat.le_refl _) _).alloc (by simp) _) (by simp)
theorem Keeps.drew (h : Keeps w B nb W) : Keeps w B nb W.drew := ⟨h.sz, h.cell, h.frozen, h.bw.drew⟩
theorem Keeps.drewN (h : Keeps w B nb W) (n : Nat) : Keeps w B nb (W.drewN n) := ⟨h.sz, h.cell, h.frozen, below_drewN h.bw n⟩
theorem Keeps.call (h : Keeps w B nb W) (hb : Below W.heap.size W W') : Keeps w B nb W' :=
  ⟨Nat.le_trans h.sz hb.size, fun p q hp => (hb.cell (p := ⟨p, q, none⟩) (Nat.lt_of_lt_of_le hp h.sz)).trans (h.cell p q hp),
    fun p q hp => (hb.frozen (p := ⟨p, q, none⟩) (Nat.lt_of_lt_of_le hp h.sz)).trans (h.frozen p q hp), h.bw.trans (hb.mono (by have := h.sz; omega))⟩
theorem Keeps.upto {D : Nat} (h : Keeps w B nb W) (hb : Below D W W') (hD : w.heap.size + nb ≤ D) : Keeps w B nb W' :=
  ⟨Nat.le_trans h.sz hb.size, fun p q hp => (hb.cell (p := ⟨p, q, none⟩) (Nat.lt_of_lt_of_le hp hD)).trans (h.cell p q hp),
    fun p q hp => (hb.frozen (p := ⟨p, q, none⟩) (Nat.lt_of_lt_of_le hp hD)).trans (h.frozen p q hp), h.bw.trans (hb.mono (by omega))⟩
theorem Keeps.alloc (h : Keeps w B nb W) (o : Obj) : Keeps w B nb (W.alloc o) := h.call ((Below.refl _ _).alloc (Nat.le_refl _) o)
theorem own_call {base e size n : Nat} {v : Value} {xs : List Value} (h : W.ownsRow base e size v n xs) (hb : Below W.heap.size W W') : W'.ownsRow base e size v n xs :=
  World.ownsRow.kept (row := none) h ⟨hb.os, hb.tape, hb.output, hb.size, fun i hi _ => hb.block i hi⟩ (by
    rcases hv : v.ownBlock with _ | k
    · exact .inl rfl
    · exact .inr (by simp))
end
end Go.Proofs.YtelpepbpdojikaaGreatDoor
namespace Go.Proofs.YtelpepbpdojikaaGreatDoor
open Go.RowKit
theorem take_eq_succ {xs ys : List Int} {k : Nat} (hx : k < xs.length) (hy : k < ys.length) (h : xs.take k = ys.take k) (e : xs[k] = ys[k]) : xs.take (k + 1) = ys.take (k + 1) := by
  rw [List.take_succ_eq_append_getElem hx, List.take_succ_eq_append_getElem hy, h, e]
theorem ne_of_get {xs ys : List Int} {k : Nat} (hx : k < xs.length) (hy : k < ys.length) (e : xs[k] ≠ ys[k]) : xs ≠ ys := by
  intro h; subst h; exact e rfl
set_option maxRecDepth 100000 in
set_option maxHeartbeats 800000 in
theorem sameInts_any (S : Nat → Prop) (A B : Option Addr) (c d : Nat) (xs ys : List Int) (w : World) (hx : RdI w S A c xs) (hy : RdI w S B d ys) :
    Calls Tryz.prog 53 #[.slice A xs.length c, .slice B ys.length d] w fun r w' => r = .returned (.bool (decide (xs = ys))) ∧ ∃ n, w' = w.drewN n := by
  obtain ⟨b1, b2, b3⟩ := hx.bd
  obtain ⟨b4, b5, b6⟩ := hy.bd
  by_cases hl : xs.length = ys.length
  · have hl1 : ((xs.length : Int) != (ys.length : Int)) = false := by rw [hl]; simp
    have HL := hide hl
    clear hl
    go_enter Tryz.func53, Tryz.ntmps53
    go_wp2
    go_loopw [5] (fun i wr => ∃ k n : Nat, k ≤ xs.length ∧ i = .int .i64 k ∧ xs.take k = ys.take k ∧ wr = w.drewN n) (fun i _ => xs.length - (intOf i).toNat)
    case atStart => exact ⟨0, 0, Nat.zero_le _, rfl, by simp, rfl⟩
    case round =>
      obtain ⟨k, n, hk, rfl, hx1, rfl⟩ := hrel
      by_cases hlt : k < xs.length
      · have hlt2 : k < ys.length := by have := HL.out; omega
        obtain ⟨b, o, rfl, _, _, hc⟩ := hx.at_ k hlt
        obtain ⟨b', o', rfl, _, _, hc'⟩ := hy.at_ k hlt2
        have h1 := hc k hlt
        have h2 := hc' k hlt2
        clear hc hc'
        have i1 : (0 : Int) ≤ (k : Int) := by omega
        have i2 : (k : Int) < (xs.length : Int) := by omega
        have i3 : (k : Int) < (ys.length : Int) := by omega
        by_cases he : xs[k] = ys[k]
        · have he1 : (xs[k] != ys[k]) = false := by simp [he]
          have HE := hide he
          have HX := hide hx1
          clear he hx1
          go_wp2
          go_quiet (fail)
          go_wp2
          go_roundw
          case rel => exact ⟨k + 1, _, by omega, by go_num, take_eq_succ hlt hlt2 HX.out HE.out, rfl⟩
          case measure => simp [intOf]; omega
        · have he1 : (xs[k] != ys[k]) = true := by simp [he]
          go_wp2
          go_quiet (fail)
          go_wp2
          go_ret
          exact ⟨ret_bool (by simp [ne_of_get hlt hlt2 he]), _, World.drewN_drewN _ _ _⟩
      · go_wp2
        go_ret
        rw [List.take_of_length_le (by omega), List.take_of_length_le (by have := HL.out; omega)] at hx1
        exact ⟨ret_bool (by simp [hx1]), n, rfl⟩
  · have hl1 : ((xs.length : Int) != (ys.length : Int)) = true := by simp; omega
    go_enter Tryz.func53, Tryz.ntmps53
    go_wp2
    go_ret
    exact ⟨ret_bool (by simp; intro e; exact hl (by rw [e])), 0, rfl⟩
def objTo (l : List M.Pot) : List Int := (l.map (·.ball)).filter (· ≠ 0)
theorem objTo_snoc {l : List M.Pot} {k : Nat} (hk : k < l.length) : objTo (l.take (k + 1)) = objTo (l.take k) ++ if l[k].ball = 0 then [] else [l[k].ball] := by
  unfold objTo
  rw [List.take_succ_eq_append_getElem hk, List.map_append, List.filter_append]
  by_cases h : l[k].ball = 0 <;> simp [h]
theorem objTo_le (l : List M.Pot) : (objTo l).length ≤ l.length := by
  unfold objTo
  exact Nat.le_trans (List.length_filter_le _ _) (by simp)
end Go.Proofs.YtelpepbpdojikaaGreatDoor
