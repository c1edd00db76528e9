/- Parts of the proofs about chapter 5 (pool), joined by program. -/
import Derived.Test.YtelpepbpdojikaaGreatDoorKe11
import Derived.Test.YtelpepbpdojikaaGreatDoorKe12
set_option linter.unusedVariables false
set_option linter.unusedSimpArgs false
namespace Go.Proofs.YtelpepbpdojikaaGreatDoor
open Go.RowKit
theorem ckStateHead_first {r : M.Rules} {s : M.State} {b : Bool} (hb : b = decide (s.group ≠ 0 ∧ r.game ≠ M.gEight)) : firstOf [M.ckRules r, wi s.turn 0 1, wi s.winner 0 1, wi s.group 0 2, wh b 3] = M.ckStateHead r s := by
  subst hb
  unfold M.ckStateHead
  simp only [firstOf, wi, wh]
  by_cases h0 : M.ckRules r = 0
  · by_cases h1 : M.out s.turn 0 1 = true
    · simp [h0, h1]
    by_cases h2 : M.out s.winner 0 1 = true
    · simp [h0, h1, h2]
    by_cases h3 : M.out s.group 0 2 = true
    · simp [h0, h1, h2, h3]
    by_cases h4 : s.group ≠ 0 ∧ r.game ≠ M.gEight
    · simp [h0, h1, h2, h3, h4]
    · simp only [h0, h1, h2, h3, h4]; simp
  · simp [h0]
theorem ckBalls_first {l : List Int} {k : Nat} (n : Int) (hk : k < l.length) : M.ckBalls n (lastOf l k) (l.drop k) =
    if firstOf [wi l[k] 1 n, wh (lowBall l k) 11] ≠ 0 then firstOf [wi l[k] 1 n, wh (lowBall l k) 11] else M.ckBalls n (lastOf l (k + 1)) (l.drop (k + 1)) := by
  rw [ckBalls_step n hk]
  by_cases h1 : M.out l[k] 1 n = true
  · simp [firstOf, wi, wh, h1]
  by_cases h2 : lowBall l k = true
  · simp [firstOf, wi, wh, h1, h2]
  · simp [firstOf, wi, wh, h1, h2]
theorem lowBall1 {l : List Int} {k : Nat} (hk : k + 1 < l.length) : lowBall l (k + 1) = decide (l[k + 1] ≤ l[k]) := by
  unfold lowBall lastOf
  have h : k < l.length := by omega
  simp [hk, h, List.getD_eq_getElem?_getD]
def miss (g : ByteArray) (bl : List Int) : Bool := decide (bl = []) || (decide (0 < need g) && !decide (need g ∈ bl))
theorem missing_miss (r : M.Rules) (s : M.State) : M.missing r s = miss r.game s.balls := by
  unfold M.missing miss need
  by_cases h0 : s.balls = []
  · simp [h0]
  by_cases h1 : r.game = M.gEight
  · have : M.gEight ≠ M.gNine := by decide
    simp [h0, h1, this]
  by_cases h2 : r.game = M.gNine
  · simp [h0, h1, h2]
  · simp [h0, h1, h2]
def pushB (g : ByteArray) (brk push pushed : Bool) : Bool := (push || pushed) && (!decide (g = M.gNine) || (push && pushed) || brk)
theorem ckPush_pushB (r : M.Rules) (s : M.State) : M.ckPush r s = pushB r.game s.brk s.push s.pushed := by
  unfold M.ckPush pushB
  by_cases h : r.game = M.gNine <;> cases s.push <;> cases s.pushed <;> cases s.brk <;> simp [h]
theorem ckState_tail {r : M.Rules} {s : M.State} (h1 : M.ckStateHead r s = 0) (h2 : M.ckBalls (M.rackN r.game) none s.balls = 0) (h3 : M.ckNumbers r s = 0) (b : Bool)
    (hb : b = (pushB r.game s.brk s.push s.pushed || (!s.over && (!decide (s.winner = 0) || miss r.game s.balls)))) : M.ckState r s = wh b 19 := by
  subst hb
  unfold M.ckState
  rw [if_neg (by simp [h1]), if_neg (by simp [h2]), if_neg (by simp [h3])]
  unfold M.ckStateTail
  rw [ckPush_pushB, missing_miss]
  unfold wh
  congr 1
  rw [eq_iff_iff]
  cases pushB r.game s.brk s.push s.pushed <;> cases s.over <;> cases miss r.game s.balls <;> by_cases h : s.winner = 0 <;> simp [h]
theorem ckState_nums {r : M.Rules} {s : M.State} (h1 : M.ckStateHead r s = 0) (h2 : M.ckBalls (M.rackN r.game) none s.balls = 0) (h3 : M.ckNumbers r s ≠ 0) : M.ckState r s = M.ckNumbers r s := by
  unfold M.ckState
  rw [if_neg (by simp [h1]), if_neg (by simp [h2]), if_pos h3]
  unfold M.ckNumbers at h3 ⊢; split at h3 <;> simp_all
theorem ckState_balls {r : M.Rules} {s : M.State} (h1 : M.ckStateHead r s = 0) (h2 : M.ckBalls (M.rackN r.game) none s.balls ≠ 0) : M.ckState r s = M.ckBalls (M.rackN r.game) none s.balls := by
  unfold M.ckState
  rw [if_neg (by simp [h1]), if_pos h2]
theorem ckState_first {r : M.Rules} {s : M.State} (h1 : M.ckStateHead r s ≠ 0) : M.ckState r s = M.ckStateHead r s := by
  unfold M.ckState
  rw [if_pos h1]
theorem headB {gr : Int} {g : ByteArray} {x y : Bool} (h0 : (gr != 0) = x) (h1 : (g.toList == [101, 105, 103, 104, 116]) = y) : (x && !y) = decide (gr ≠ 0 ∧ g ≠ M.gEight) := by
  have e1 : (g.toList == [101, 105, 103, 104, 116]) = decide (g = M.gEight) := by rw [Bool.eq_iff_iff, beq_iff_eq, decide_eq_true_eq]; exact ⟨fun e => bytes_ext (by rw [e, ByteArray.toList_eq]), fun e => by subst e; rw [ByteArray.toList_eq]⟩
  subst h0 h1
  rw [e1]
  by_cases a : gr = 0 <;> by_cases b : g = M.gEight <;> simp [a, b]
theorem rack_len (r : M.Rules) : (M.rack r).length = M.rackN r.game := rackTo_length _
theorem beq_nine' (k : ByteArray) : (k.toList == [110, 105, 110, 101]) = decide (k = M.gNine) := by
  rw [Bool.eq_iff_iff, beq_iff_eq, decide_eq_true_eq]; exact ⟨fun e => bytes_ext (by rw [e, ByteArray.toList_eq]), fun e => by subst e; rw [ByteArray.toList_eq]⟩
set_option maxRecDepth 100000 in
set_option maxHeartbeats 4000000 in
theorem ckState_any (S : Nat → Prop) (r : M.Rules) (s : M.State) (A : Option Addr) (c : Nat) (w : World) (hp : RdI w S A c s.balls) :
    Calls Tryz.prog 42 #[rulesV r, stateV s A c] w fun e w' => e = .returned (.int .i64 (M.ckState r s)) ∧ Below w.heap.size w w' := by
  obtain ⟨e4, e5, e6⟩ := hp.bd
  obtain ⟨g, tg, fo⟩ := r
  obtain ⟨a0, a1, a2, a3, a4, gr, bl, b0, b1, b2, b3, b4, b5, b6, b7⟩ := s
  simp only at hp e4 e6
  have K0 : Keeps w ((w.alloc (.cells #[.string g, .int .i64 tg, .int .i64 fo] 23)).alloc (.cells #[.int .i64 a0, .bool a1, .bool a2, .bool a3, .bool a4, .int .i64 gr, .slice A bl.length c, .int .i64 b0, .int .i64 b1, .int .i64 b2, .int .i64 b3, .int .i64 b4, .int .i64 b5, .bool b6, .int .i64 b7] 33)) 2 ((w.alloc (.cells #[.string g, .int .i64 tg, .int .i64 fo] 23)).alloc (.cells #[.int .i64 a0, .bool a1, .bool a2, .bool a3, .bool a4, .int .i64 gr, .slice A bl.length c, .int .i64 b0, .int .i64 b1, .int .i64 b2, .int .i64 b3, .int .i64 b4, .int .i64 b5, .bool b6, .int .i64 b7] 33)) := Keeps.of2 w _ _
  have hrack := fun W => rack_any ⟨g, tg, fo⟩ W
  rw [rack_len] at hrack
  go_enter Tryz.func42, Tryz.ntmps42
  go_upto_region 1 with fail
  go_cut [0, 1, 5] (fun _ _ v wx => v = .int .i64 (M.ckStateHead ⟨g, tg, fo⟩ ⟨a0, a1, a2, a3, a4, gr, bl, b0, b1, b2, b3, b4, b5, b6, b7⟩) ∧ Keeps w ((w.alloc (.cells #[.string g, .int .i64 tg, .int .i64 fo] 23)).alloc (.cells #[.int .i64 a0, .bool a1, .bool a2, .bool a3, .bool a4, .int .i64 gr, .slice A bl.length c, .int .i64 b0, .int .i64 b1, .int .i64 b2, .int .i64 b3, .int .i64 b4, .int .i64 b5, .bool b6, .int .i64 b7] 33)) 2 wx)
  case first =>
    obtain ⟨y, y1⟩ : ∃ y, (g.toList == [101, 105, 103, 104, 116]) = y := ⟨_, rfl⟩
    rcases Bool.eq_false_or_eq_true (gr != 0) with y0 | y0
    · refine wp_region_held_drew (S := (fun w' => ∀ p q, p < w.heap.size + 2 → w'.cell? ⟨p, q, none⟩ = ((w.alloc (.cells #[.string g, .int .i64 tg, .int .i64 fo] 23)).alloc (.cells #[.int .i64 a0, .bool a1, .bool a2, .bool a3, .bool a4, .int .i64 gr, .slice A bl.length c, .int .i64 b0, .int .i64 b1, .int .i64 b2, .int .i64 b3, .int .i64 b4, .int .i64 b5, .bool b6, .int .i64 b7] 33)).cell? ⟨p, q, none⟩)) (by kernel_rfl) ?q3xstart (fun hHeld => ?_)
      case q3xstart => first | exact K0.cell | exact K1.cell | exact (K1.alloc _).cell
      refine wpAnyH_take (i := 0) (oi := _) (v := ?q3xv0) (ga rfl) (by kernel_rfl) (by kernel_rfl) (by kernel_rfl) (fun _ _ _ h => h) (Or.inl ⟨by rfl, ?q3xy0⟩) (by assumption) ?_
      case q3xy0 => (intro w hSw; (try dsimp only at hSw); go_simp; try with_reducible rfl)
      try simp only [Act.put, la, lz, ls]
      refine wpAnyH_take (i := 2) (oi := _) (v := ?q3xv2) (ga rfl) (by kernel_rfl) (by kernel_rfl) (by kernel_rfl) (fun _ _ _ h => h) (Or.inl ⟨by rfl, ?q3xy2⟩) (by assumption) ?_
      case q3xy2 => (intro w hSw; (try dsimp only at hSw); go_simp; try with_reducible rfl)
      try simp only [Act.put, la, lz, ls]
      refine wpAnyH_take (i := 3) (oi := _) (v := ?q3xv3) (ga rfl) (by kernel_rfl) (by kernel_rfl) (by kernel_rfl) (fun _ _ _ h => h) (Or.inl ⟨by rfl, ?q3xy3⟩) (by assumption) ?_
      case q3xy3 => (intro w hSw; (try dsimp only at hSw); go_simp; try with_reducible rfl)
      try simp only [Act.put, la, lz, ls]
      refine wpAnyH_take (i := 5) (oi := _) (v := ?q3xv5) (ga rfl) (by kernel_rfl) (by kernel_rfl) (by kernel_rfl) (fun _ _ _ h => h) (Or.inl ⟨by rfl, ?q3xy5⟩) (by assumption) ?_
      case q3xy5 => (intro w hSw; (try dsimp only at hSw); go_simp; try with_reducible rfl)
      try simp only [Act.put, la, lz, ls]
      refine wpAnyH_take (i := 6) (oi := _) (v := ?q3xv6) (ga rfl) (by kernel_rfl) (by kernel_rfl) (by kernel_rfl) (fun _ _ _ h => h) (Or.inl ⟨by rfl, ?q3xy6⟩) (by assumption) ?_
      case q3xy6 => (intro w hSw; (try dsimp only at hSw); go_simp; try with_reducible rfl)
      try simp only [Act.put, la, lz, ls]
      refine wpAnyH_take (i := 8) (oi := _) (v := ?q3xv8) (ga rfl) (by kernel_rfl) (by kernel_rfl) (by kernel_rfl) (fun _ _ _ h => h) (Or.inl ⟨by rfl, ?q3xy8⟩) (by assumption) ?_
      case q3xy8 => (intro w hSw; (try dsimp only at hSw); go_simp; try with_reducible rfl)
      try simp only [Act.put, la, lz, ls]
      refine wpAnyH_take (i := 9) (oi := _) (v := ?q3xv9) (ga rfl) (by kernel_rfl) (by kernel_rfl) (by kernel_rfl) (fun _ _ _ h => h) (Or.inl ⟨by rfl, ?q3xy9⟩) (by assumption) ?_
      case q3xy9 => (intro w hSw; (try dsimp only at hSw); go_simp; try with_reducible rfl)
      try simp only [Act.put, la, lz, ls]
      refine wpAnyH_take (i := 11) (oi := _) (v := ?q3xv11) (ga rfl) (by kernel_rfl) (by kernel_rfl) (by kernel_rfl) (fun _ _ _ h => h) (Or.inl ⟨by rfl, ?q3xy11⟩) (by assumption) ?_
      case q3xy11 => (intro w hSw; (try dsimp only at hSw); go_simp; try with_reducible rfl)
      try simp only [Act.put, la, lz, ls]
      refine wpAnyH_take (i := 12) (oi := _) (v := ?q3xv12) (ga rfl) (by kernel_rfl) (by kernel_rfl) (by kernel_rfl) (fun _ _ _ h => h) (Or.inl ⟨by rfl, ?q3xy12⟩) (by assumption) ?_
      case q3xy12 => (intro w hSw; (try dsimp only at hSw); go_simp; try with_reducible rfl)
      try simp only [Act.put, la, lz, ls]
      refine wpAnyH_take (i := 13) (oi := _) (v := ?q3xv13) (ga rfl) (by kernel_rfl) (by kernel_rfl) (by kernel_rfl) (fun _ _ _ h => h) (Or.inl ⟨by rfl, ?q3xy13⟩) (by assumption) ?_
      case q3xy13 => (intro w hSw; (try dsimp only at hSw); go_simp; try with_reducible rfl)
      try simp only [Act.put, la, lz, ls]
      refine wpAnyH_ready (rs := [1]) (by kernel_rfl) (by simp) ?_
      refine AllReadyH.cons (o := _) (ga rfl) (fun K hK => ?_) AllReadyH.nil
      go_simp
      (first | (go_at_call 86; refine (within_any _ _ _ _).mono ?_; rintro e w99 ⟨rfl, rfl⟩) | (go_at_call 87; refine (when_any _ _ _).mono ?_; rintro e w99 ⟨rfl, rfl⟩) | (go_at_call 39; refine (ckRules_any ⟨g, tg, fo⟩ _).mono ?_; rintro e w1 ⟨rfl, hb1⟩; have K1 := K0.drew.call hb1) | (go_at_call 85; refine (first_any (fun _ => True) _ _ [M.ckRules ⟨g, tg, fo⟩, wi a0 0 1, wi b7 0 1, wi gr 0 2, wh _ 3] _ (RdI.lit _ _ [M.ckRules ⟨g, tg, fo⟩, wi a0 0 1, wi b7 0 1, wi gr 0 2, wh _ 3] (by simp) _ trivial)).mono ?_; rintro e w99 ⟨rfl, rfl⟩) | (go_at_call 85; refine (first_any (fun _ => True) _ _ [M.ckRules ⟨g, tg, fo⟩, wi a0 0 1, wi b7 0 1, wi gr 0 2, wh _ 3] _ (RdI.drewN (RdI.lit _ _ [M.ckRules ⟨g, tg, fo⟩, wi a0 0 1, wi b7 0 1, wi gr 0 2, wh _ 3] (by simp) _ trivial) 1)).mono ?_; rintro e w99 ⟨rfl, rfl⟩))
      refine hK.out _ _ ?q3xh1 (fun hHeld => ?_)
      case q3xh1 => (first | (first | exact K0.cell | exact K1.cell | exact (K1.alloc _).cell) | (dsimp only; first | exact K0.cell | exact K1.cell | exact (K1.alloc _).cell))
      clear hK K
      try simp only [Act.put, la, lz, ls]
      refine wpAnyH_ready (rs := [4]) (by kernel_rfl) (by simp) ?_
      refine AllReadyH.cons (o := _) (ga rfl) (fun K hK => ?_) AllReadyH.nil
      go_simp
      (first | (go_at_call 86; refine (within_any _ _ _ _).mono ?_; rintro e w99 ⟨rfl, rfl⟩) | (go_at_call 87; refine (when_any _ _ _).mono ?_; rintro e w99 ⟨rfl, rfl⟩) | (go_at_call 39; refine (ckRules_any ⟨g, tg, fo⟩ _).mono ?_; rintro e w1 ⟨rfl, hb1⟩; have K1 := K0.drew.call hb1) | (go_at_call 85; refine (first_any (fun _ => True) _ _ [M.ckRules ⟨g, tg, fo⟩, wi a0 0 1, wi b7 0 1, wi gr 0 2, wh _ 3] _ (RdI.lit _ _ [M.ckRules ⟨g, tg, fo⟩, wi a0 0 1, wi b7 0 1, wi gr 0 2, wh _ 3] (by simp) _ trivial)).mono ?_; rintro e w99 ⟨rfl, rfl⟩) | (go_at_call 85; refine (first_any (fun _ => True) _ _ [M.ckRules ⟨g, tg, fo⟩, wi a0 0 1, wi b7 0 1, wi gr 0 2, wh _ 3] _ (RdI.drewN (RdI.lit _ _ [M.ckRules ⟨g, tg, fo⟩, wi a0 0 1, wi b7 0 1, wi gr 0 2, wh _ 3] (by simp) _ trivial) 1)).mono ?_; rintro e w99 ⟨rfl, rfl⟩))
      refine hK.out _ _ ?q3xh4 (fun hHeld => ?_)
      case q3xh4 => (first | (first | exact K0.cell | exact K1.cell | exact (K1.alloc _).cell) | (dsimp only; first | exact K0.cell | exact K1.cell | exact (K1.alloc _).cell))
      clear hK K
      try simp only [Act.put, la, lz, ls]
      refine wpAnyH_ready (rs := [7]) (by kernel_rfl) (by simp) ?_
      refine AllReadyH.cons (o := _) (ga rfl) (fun K hK => ?_) AllReadyH.nil
      go_simp
      (first | (go_at_call 86; refine (within_any _ _ _ _).mono ?_; rintro e w99 ⟨rfl, rfl⟩) | (go_at_call 87; refine (when_any _ _ _).mono ?_; rintro e w99 ⟨rfl, rfl⟩) | (go_at_call 39; refine (ckRules_any ⟨g, tg, fo⟩ _).mono ?_; rintro e w1 ⟨rfl, hb1⟩; have K1 := K0.drew.call hb1) | (go_at_call 85; refine (first_any (fun _ => True) _ _ [M.ckRules ⟨g, tg, fo⟩, wi a0 0 1, wi b7 0 1, wi gr 0 2, wh _ 3] _ (RdI.lit _ _ [M.ckRules ⟨g, tg, fo⟩, wi a0 0 1, wi b7 0 1, wi gr 0 2, wh _ 3] (by simp) _ trivial)).mono ?_; rintro e w99 ⟨rfl, rfl⟩) | (go_at_call 85; refine (first_any (fun _ => True) _ _ [M.ckRules ⟨g, tg, fo⟩, wi a0 0 1, wi b7 0 1, wi gr 0 2, wh _ 3] _ (RdI.drewN (RdI.lit _ _ [M.ckRules ⟨g, tg, fo⟩, wi a0 0 1, wi b7 0 1, wi gr 0 2, wh _ 3] (by simp) _ trivial) 1)).mono ?_; rintro e w99 ⟨rfl, rfl⟩))
      refine hK.out _ _ ?q3xh7 (fun hHeld => ?_)
      case q3xh7 => (first | (first | exact K0.cell | exact K1.cell | exact (K1.alloc _).cell) | (dsimp only; first | exact K0.cell | exact K1.cell | exact (K1.alloc _).cell))
      clear hK K
      try simp only [Act.put, la, lz, ls]
      refine wpAnyH_ready (rs := [10]) (by kernel_rfl) (by simp) ?_
      refine AllReadyH.cons (o := _) (ga rfl) (fun K hK => ?_) AllReadyH.nil
      go_simp
      (first | (go_at_call 86; refine (within_any _ _ _ _).mono ?_; rintro e w99 ⟨rfl, rfl⟩) | (go_at_call 87; refine (when_any _ _ _).mono ?_; rintro e w99 ⟨rfl, rfl⟩) | (go_at_call 39; refine (ckRules_any ⟨g, tg, fo⟩ _).mono ?_; rintro e w1 ⟨rfl, hb1⟩; have K1 := K0.drew.call hb1) | (go_at_call 85; refine (first_any (fun _ => True) _ _ [M.ckRules ⟨g, tg, fo⟩, wi a0 0 1, wi b7 0 1, wi gr 0 2, wh _ 3] _ (RdI.lit _ _ [M.ckRules ⟨g, tg, fo⟩, wi a0 0 1, wi b7 0 1, wi gr 0 2, wh _ 3] (by simp) _ trivial)).mono ?_; rintro e w99 ⟨rfl, rfl⟩) | (go_at_call 85; refine (first_any (fun _ => True) _ _ [M.ckRules ⟨g, tg, fo⟩, wi a0 0 1, wi b7 0 1, wi gr 0 2, wh _ 3] _ (RdI.drewN (RdI.lit _ _ [M.ckRules ⟨g, tg, fo⟩, wi a0 0 1, wi b7 0 1, wi gr 0 2, wh _ 3] (by simp) _ trivial) 1)).mono ?_; rintro e w99 ⟨rfl, rfl⟩))
      refine hK.out _ _ ?q3xh10 (fun hHeld => ?_)
      case q3xh10 => (first | (first | exact K0.cell | exact K1.cell | exact (K1.alloc _).cell) | (dsimp only; first | exact K0.cell | exact K1.cell | exact (K1.alloc _).cell))
      clear hK K
      try simp only [Act.put, la, lz, ls]
      refine wpAnyH_take (i := 14) (oi := _) (v := ?q3xv14) (ga rfl) (by kernel_rfl) (by kernel_rfl) (by kernel_rfl) (fun _ _ _ h => h) (Or.inl ⟨by rfl, ?q3xy14⟩) (by assumption) ?_
      case q3xy14 => (intro w hSw; (try dsimp only at hSw); go_simp; try with_reducible rfl)
      try simp only [Act.put, la, lz, ls]
      refine wpAnyH_take (i := 15) (oi := _) (v := ?q3xv15) (ga rfl) (by kernel_rfl) (by kernel_rfl) (by kernel_rfl) (fun _ _ _ h => h) (Or.inl ⟨by rfl, ?q3xy15⟩) (by assumption) ?_
      case q3xy15 => (intro w hSw; (try dsimp only at hSw); go_simp; try with_reducible rfl)
      try simp only [Act.put, la, lz, ls]
      refine wpAnyH_take (i := 16) (oi := _) (v := ?q3xv16) (ga rfl) (by kernel_rfl) (by kernel_rfl) (by kernel_rfl) (fun _ _ _ h => h) (Or.inl ⟨by rfl, ?q3xy16⟩) (by assumption) ?_
      case q3xy16 => (intro w hSw; (try dsimp only at hSw); go_simp; try with_reducible rfl)
      try simp only [Act.put, la, lz, ls]
      refine wpAnyH_take (i := 17) (oi := _) (v := ?q3xv17) (ga rfl) (by kernel_rfl) (by kernel_rfl) (by kernel_rfl) (fun _ _ _ h => h) (Or.inl ⟨by rfl, ?q3xy17⟩) (by assumption) ?_
      case q3xy17 => (intro w hSw; (try dsimp only at hSw); go_simp; try with_reducible rfl)
      try simp only [Act.put, la, lz, ls]
      refine wpAnyH_take (i := 18) (oi := _) (v := ?q3xv18) (ga rfl) (by kernel_rfl) (by kernel_rfl) (by kernel_rfl) (fun _ _ _ h => h) (Or.inl ⟨by rfl, ?q3xy18⟩) (by assumption) ?_
      case q3xy18 => (intro w hSw; (try dsimp only at hSw); go_simp; try with_reducible rfl)
      try simp only [Act.put, la, lz, ls]
      refine wpAnyH_ready (rs := [19]) (by kernel_rfl) (by simp) ?_
      refine AllReadyH.cons (o := _) (ga rfl) (fun K hK => ?_) AllReadyH.nil
      go_simp
      (first | (go_at_call 86; refine (within_any _ _ _ _).mono ?_; rintro e w99 ⟨rfl, rfl⟩) | (go_at_call 87; refine (when_any _ _ _).mono ?_; rintro e w99 ⟨rfl, rfl⟩) | (go_at_call 39; refine (ckRules_any ⟨g, tg, fo⟩ _).mono ?_; rintro e w1 ⟨rfl, hb1⟩; have K1 := K0.drew.call hb1) | (go_at_call 85; refine (first_any (fun _ => True) _ _ [M.ckRules ⟨g, tg, fo⟩, wi a0 0 1, wi b7 0 1, wi gr 0 2, wh _ 3] _ (RdI.lit _ _ [M.ckRules ⟨g, tg, fo⟩, wi a0 0 1, wi b7 0 1, wi gr 0 2, wh _ 3] (by simp) _ trivial)).mono ?_; rintro e w99 ⟨rfl, rfl⟩) | (go_at_call 85; refine (first_any (fun _ => True) _ _ [M.ckRules ⟨g, tg, fo⟩, wi a0 0 1, wi b7 0 1, wi gr 0 2, wh _ 3] _ (RdI.drewN (RdI.lit _ _ [M.ckRules ⟨g, tg, fo⟩, wi a0 0 1, wi b7 0 1, wi gr 0 2, wh _ 3] (by simp) _ trivial) 1)).mono ?_; rintro e w99 ⟨rfl, rfl⟩))
      refine hK.out _ _ ?q3xh19 (fun hHeld => ?_)
      case q3xh19 => (first | (first | exact K0.cell | exact K1.cell | exact (K1.alloc _).cell) | (dsimp only; first | exact K0.cell | exact K1.cell | exact (K1.alloc _).cell))
      clear hK K
      try simp only [Act.put, la, lz, ls]
      refine wpAnyH_ready (rs := [20]) (by kernel_rfl) (by simp) ?_
      refine AllReadyH.cons (o := _) (ga rfl) (fun K hK => ?_) AllReadyH.nil
      go_simp
      refine hK.out _ _ ?q3xh20 (fun hHeld => ?_)
      case q3xh20 => (first | (first | exact K0.cell | exact K1.cell | exact (K1.alloc _).cell) | (dsimp only; first | exact K0.cell | exact K1.cell | exact (K1.alloc _).cell))
      clear hK K
      try simp only [Act.put, la, lz, ls]
      refine wpAnyH_ready (rs := [21]) (by kernel_rfl) (by simp) ?_
      refine AllReadyH.cons (o := _) (ga rfl) (fun K hK => ?_) AllReadyH.nil
      go_simp
      (first | (go_at_call 86; refine (within_any _ _ _ _).mono ?_; rintro e w99 ⟨rfl, rfl⟩) | (go_at_call 87; refine (when_any _ _ _).mono ?_; rintro e w99 ⟨rfl, rfl⟩) | (go_at_call 39; refine (ckRules_any ⟨g, tg, fo⟩ _).mono ?_; rintro e w1 ⟨rfl, hb1⟩; have K1 := K0.drew.call hb1) | (go_at_call 85; refine (first_any (fun _ => True) _ _ [M.ckRules ⟨g, tg, fo⟩, wi a0 0 1, wi b7 0 1, wi gr 0 2, wh _ 3] _ (RdI.lit _ _ [M.ckRules ⟨g, tg, fo⟩, wi a0 0 1, wi b7 0 1, wi gr 0 2, wh _ 3] (by simp) _ trivial)).mono ?_; rintro e w99 ⟨rfl, rfl⟩) | (go_at_call 85; refine (first_any (fun _ => True) _ _ [M.ckRules ⟨g, tg, fo⟩, wi a0 0 1, wi b7 0 1, wi gr 0 2, wh _ 3] _ (RdI.drewN (RdI.lit _ _ [M.ckRules ⟨g, tg, fo⟩, wi a0 0 1, wi b7 0 1, wi gr 0 2, wh _ 3] (by simp) _ trivial) 1)).mono ?_; rintro e w99 ⟨rfl, rfl⟩))
      refine hK.out _ _ ?q3xh21 (fun hHeld => ?_)
      case q3xh21 => (first | (first | exact K0.cell | exact K1.cell | exact (K1.alloc _).cell) | (dsimp only; first | exact K0.cell | exact K1.cell | exact (K1.alloc _).cell))
      clear hK K
      try simp only [Act.put, la, lz, ls]
      refine wpAnyH_take (i := 22) (oi := _) (v := ?q3xv22) (ga rfl) (by kernel_rfl) (by kernel_rfl) (by kernel_rfl) (fun _ _ _ h => h) (Or.inl ⟨by rfl, ?q3xy22⟩) (by assumption) ?_
      case q3xy22 => (intro w hSw; (try dsimp only at hSw); go_simp; try with_reducible rfl)
      try simp only [Act.put, la, lz, ls]
      refine wpAnyH_done (by kernel_rfl) ?_ _
      go_wp2
      go_meet
      exact ⟨congrArg _ (ckStateHead_first (r := ⟨g, tg, fo⟩) (s := ⟨a0, a1, a2, a3, a4, gr, bl, b0, b1, b2, b3, b4, b5, b6, b7⟩) (by have := headB y0 y1; exact this)), by first | exact K1.alloc _ | exact (K1.alloc _).drew⟩
    · refine wp_region_held_drew (S := (fun w' => ∀ p q, p < w.heap.size + 2 → w'.cell? ⟨p, q, none⟩ = ((w.alloc (.cells #[.string g, .int .i64 tg, .int .i64 fo] 23)).alloc (.cells #[.int .i64 a0, .bool a1, .bool a2, .bool a3, .bool a4, .int .i64 gr, .slice A bl.length c, .int .i64 b0, .int .i64 b1, .int .i64 b2, .int .i64 b3, .int .i64 b4, .int .i64 b5, .bool b6, .int .i64 b7] 33)).cell? ⟨p, q, none⟩)) (by kernel_rfl) ?q4xstart (fun hHeld => ?_)
      case q4xstart => first | exact K0.cell | exact K1.cell | exact (K1.alloc _).cell
      refine wpAnyH_take (i := 0) (oi := _) (v := ?q4xv0) (ga rfl) (by kernel_rfl) (by kernel_rfl) (by kernel_rfl) (fun _ _ _ h => h) (Or.inl ⟨by rfl, ?q4xy0⟩) (by assumption) ?_
      case q4xy0 => (intro w hSw; (try dsimp only at hSw); go_simp; try with_reducible rfl)
      try simp only [Act.put, la, lz, ls]
      refine wpAnyH_take (i := 2) (oi := _) (v := ?q4xv2) (ga rfl) (by kernel_rfl) (by kernel_rfl) (by kernel_rfl) (fun _ _ _ h => h) (Or.inl ⟨by rfl, ?q4xy2⟩) (by assumption) ?_
      case q4xy2 => (intro w hSw; (try dsimp only at hSw); go_simp; try with_reducible rfl)
      try simp only [Act.put, la, lz, ls]
      refine wpAnyH_take (i := 3) (oi := _) (v := ?q4xv3) (ga rfl) (by kernel_rfl) (by kernel_rfl) (by kernel_rfl) (fun _ _ _ h => h) (Or.inl ⟨by rfl, ?q4xy3⟩) (by assumption) ?_
      case q4xy3 => (intro w hSw; (try dsimp only at hSw); go_simp; try with_reducible rfl)
      try simp only [Act.put, la, lz, ls]
      refine wpAnyH_take (i := 5) (oi := _) (v := ?q4xv5) (ga rfl) (by kernel_rfl) (by kernel_rfl) (by kernel_rfl) (fun _ _ _ h => h) (Or.inl ⟨by rfl, ?q4xy5⟩) (by assumption) ?_
      case q4xy5 => (intro w hSw; (try dsimp only at hSw); go_simp; try with_reducible rfl)
      try simp only [Act.put, la, lz, ls]
      refine wpAnyH_take (i := 6) (oi := _) (v := ?q4xv6) (ga rfl) (by kernel_rfl) (by kernel_rfl) (by kernel_rfl) (fun _ _ _ h => h) (Or.inl ⟨by rfl, ?q4xy6⟩) (by assumption) ?_
      case q4xy6 => (intro w hSw; (try dsimp only at hSw); go_simp; try with_reducible rfl)
      try simp only [Act.put, la, lz, ls]
      refine wpAnyH_take (i := 8) (oi := _) (v := ?q4xv8) (ga rfl) (by kernel_rfl) (by kernel_rfl) (by kernel_rfl) (fun _ _ _ h => h) (Or.inl ⟨by rfl, ?q4xy8⟩) (by assumption) ?_
      case q4xy8 => (intro w hSw; (try dsimp only at hSw); go_simp; try with_reducible rfl)
      try simp only [Act.put, la, lz, ls]
      refine wpAnyH_take (i := 9) (oi := _) (v := ?q4xv9) (ga rfl) (by kernel_rfl) (by kernel_rfl) (by kernel_rfl) (fun _ _ _ h => h) (Or.inl ⟨by rfl, ?q4xy9⟩) (by assumption) ?_
      case q4xy9 => (intro w hSw; (try dsimp only at hSw); go_simp; try with_reducible rfl)
      try simp only [Act.put, la, lz, ls]
      refine wpAnyH_take (i := 11) (oi := _) (v := ?q4xv11) (ga rfl) (by kernel_rfl) (by kernel_rfl) (by kernel_rfl) (fun _ _ _ h => h) (Or.inl ⟨by rfl, ?q4xy11⟩) (by assumption) ?_
      case q4xy11 => (intro w hSw; (try dsimp only at hSw); go_simp; try with_reducible rfl)
      try simp only [Act.put, la, lz, ls]
      refine wpAnyH_take (i := 12) (oi := _) (v := ?q4xv12) (ga rfl) (by kernel_rfl) (by kernel_rfl) (by kernel_rfl) (fun _ _ _ h => h) (Or.inl ⟨by rfl, ?q4xy12⟩) (by assumption) ?_
      case q4xy12 => (intro w hSw; (try dsimp only at hSw); go_simp; try with_reducible rfl)
      try simp only [Act.put, la, lz, ls]
      refine wpAnyH_take (i := 13) (oi := _) (v := ?q4xv13) (ga rfl) (by kernel_rfl) (by kernel_rfl) (by kernel_rfl) (fun _ _ _ h => h) (Or.inl ⟨by rfl, ?q4xy13⟩) (by assumption) ?_
      case q4xy13 => (intro w hSw; (try dsimp only at hSw); go_simp; try with_reducible rfl)
      try simp only [Act.put, la, lz, ls]
      refine wpAnyH_ready (rs := [1]) (by kernel_rfl) (by simp) ?_
      refine AllReadyH.cons (o := _) (ga rfl) (fun K hK => ?_) AllReadyH.nil
      go_simp
      (first | (go_at_call 86; refine (within_any _ _ _ _).mono ?_; rintro e w99 ⟨rfl, rfl⟩) | (go_at_call 87; refine (when_any _ _ _).mono ?_; rintro e w99 ⟨rfl, rfl⟩) | (go_at_call 39; refine (ckRules_any ⟨g, tg, fo⟩ _).mono ?_; rintro e w1 ⟨rfl, hb1⟩; have K1 := K0.drew.call hb1) | (go_at_call 85; refine (first_any (fun _ => True) _ _ [M.ckRules ⟨g, tg, fo⟩, wi a0 0 1, wi b7 0 1, wi gr 0 2, wh _ 3] _ (RdI.lit _ _ [M.ckRules ⟨g, tg, fo⟩, wi a0 0 1, wi b7 0 1, wi gr 0 2, wh _ 3] (by simp) _ trivial)).mono ?_; rintro e w99 ⟨rfl, rfl⟩) | (go_at_call 85; refine (first_any (fun _ => True) _ _ [M.ckRules ⟨g, tg, fo⟩, wi a0 0 1, wi b7 0 1, wi gr 0 2, wh _ 3] _ (RdI.drewN (RdI.lit _ _ [M.ckRules ⟨g, tg, fo⟩, wi a0 0 1, wi b7 0 1, wi gr 0 2, wh _ 3] (by simp) _ trivial) 1)).mono ?_; rintro e w99 ⟨rfl, rfl⟩))
      refine hK.out _ _ ?q4xh1 (fun hHeld => ?_)
      case q4xh1 => (first | (first | exact K0.cell | exact K1.cell | exact (K1.alloc _).cell) | (dsimp only; first | exact K0.cell | exact K1.cell | exact (K1.alloc _).cell))
      clear hK K
      try simp only [Act.put, la, lz, ls]
      refine wpAnyH_ready (rs := [4]) (by kernel_rfl) (by simp) ?_
      refine AllReadyH.cons (o := _) (ga rfl) (fun K hK => ?_) AllReadyH.nil
      go_simp
      (first | (go_at_call 86; refine (within_any _ _ _ _).mono ?_; rintro e w99 ⟨rfl, rfl⟩) | (go_at_call 87; refine (when_any _ _ _).mono ?_; rintro e w99 ⟨rfl, rfl⟩) | (go_at_call 39; refine (ckRules_any ⟨g, tg, fo⟩ _).mono ?_; rintro e w1 ⟨rfl, hb1⟩; have K1 := K0.drew.call hb1) | (go_at_call 85; refine (first_any (fun _ => True) _ _ [M.ckRules ⟨g, tg, fo⟩, wi a0 0 1, wi b7 0 1, wi gr 0 2, wh _ 3] _ (RdI.lit _ _ [M.ckRules ⟨g, tg, fo⟩, wi a0 0 1, wi b7 0 1, wi gr 0 2, wh _ 3] (by simp) _ trivial)).mono ?_; rintro e w99 ⟨rfl, rfl⟩) | (go_at_call 85; refine (first_any (fun _ => True) _ _ [M.ckRules ⟨g, tg, fo⟩, wi a0 0 1, wi b7 0 1, wi gr 0 2, wh _ 3] _ (RdI.drewN (RdI.lit _ _ [M.ckRules ⟨g, tg, fo⟩, wi a0 0 1, wi b7 0 1, wi gr 0 2, wh _ 3] (by simp) _ trivial) 1)).mono ?_; rintro e w99 ⟨rfl, rfl⟩))
      refine hK.out _ _ ?q4xh4 (fun hHeld => ?_)
      case q4xh4 => (first | (first | exact K0.cell | exact K1.cell | exact (K1.alloc _).cell) | (dsimp only; first | exact K0.cell | exact K1.cell | exact (K1.alloc _).cell))
      clear hK K
      try simp only [Act.put, la, lz, ls]
      refine wpAnyH_ready (rs := [7]) (by kernel_rfl) (by simp) ?_
      refine AllReadyH.cons (o := _) (ga rfl) (fun K hK => ?_) AllReadyH.nil
      go_simp
      (first | (go_at_call 86; refine (within_any _ _ _ _).mono ?_; rintro e w99 ⟨rfl, rfl⟩) | (go_at_call 87; refine (when_any _ _ _).mono ?_; rintro e w99 ⟨rfl, rfl⟩) | (go_at_call 39; refine (ckRules_any ⟨g, tg, fo⟩ _).mono ?_; rintro e w1 ⟨rfl, hb1⟩; have K1 := K0.drew.call hb1) | (go_at_call 85; refine (first_any (fun _ => True) _ _ [M.ckRules ⟨g, tg, fo⟩, wi a0 0 1, wi b7 0 1, wi gr 0 2, wh _ 3] _ (RdI.lit _ _ [M.ckRules ⟨g, tg, fo⟩, wi a0 0 1, wi b7 0 1, wi gr 0 2, wh _ 3] (by simp) _ trivial)).mono ?_; rintro e w99 ⟨rfl, rfl⟩) | (go_at_call 85; refine (first_any (fun _ => True) _ _ [M.ckRules ⟨g, tg, fo⟩, wi a0 0 1, wi b7 0 1, wi gr 0 2, wh _ 3] _ (RdI.drewN (RdI.lit _ _ [M.ckRules ⟨g, tg, fo⟩, wi a0 0 1, wi b7 0 1, wi gr 0 2, wh _ 3] (by simp) _ trivial) 1)).mono ?_; rintro e w99 ⟨rfl, rfl⟩))
      refine hK.out _ _ ?q4xh7 (fun hHeld => ?_)
      case q4xh7 => (first | (first | exact K0.cell | exact K1.cell | exact (K1.alloc _).cell) | (dsimp only; first | exact K0.cell | exact K1.cell | exact (K1.alloc _).cell))
      clear hK K
      try simp only [Act.put, la, lz, ls]
      refine wpAnyH_ready (rs := [10]) (by kernel_rfl) (by simp) ?_
      refine AllReadyH.cons (o := _) (ga rfl) (fun K hK => ?_) AllReadyH.nil
      go_simp
      (first | (go_at_call 86; refine (within_any _ _ _ _).mono ?_; rintro e w99 ⟨rfl, rfl⟩) | (go_at_call 87; refine (when_any _ _ _).mono ?_; rintro e w99 ⟨rfl, rfl⟩) | (go_at_call 39; refine (ckRules_any ⟨g, tg, fo⟩ _).mono ?_; rintro e w1 ⟨rfl, hb1⟩; have K1 := K0.drew.call hb1) | (go_at_call 85; refine (first_any (fun _ => True) _ _ [M.ckRules ⟨g, tg, fo⟩, wi a0 0 1, wi b7 0 1, wi gr 0 2, wh _ 3] _ (RdI.lit _ _ [M.ckRules ⟨g, tg, fo⟩, wi a0 0 1, wi b7 0 1, wi gr 0 2, wh _ 3] (by simp) _ trivial)).mono ?_; rintro e w99 ⟨rfl, rfl⟩) | (go_at_call 85; refine (first_any (fun _ => True) _ _ [M.ckRules ⟨g, tg, fo⟩, wi a0 0 1, wi b7 0 1, wi gr 0 2, wh _ 3] _ (RdI.drewN (RdI.lit _ _ [M.ckRules ⟨g, tg, fo⟩, wi a0 0 1, wi b7 0 1, wi gr 0 2, wh _ 3] (by simp) _ trivial) 1)).mono ?_; rintro e w99 ⟨rfl, rfl⟩))
      refine hK.out _ _ ?q4xh10 (fun hHeld => ?_)
      case q4xh10 => (first | (first | exact K0.cell | exact K1.cell | exact (K1.alloc _).cell) | (dsimp only; first | exact K0.cell | exact K1.cell | exact (K1.alloc _).cell))
      clear hK K
      try simp only [Act.put, la, lz, ls]
      refine wpAnyH_take (i := 14) (oi := _) (v := ?q4xv14) (ga rfl) (by kernel_rfl) (by kernel_rfl) (by kernel_rfl) (fun _ _ _ h => h) (Or.inl ⟨by rfl, ?q4xy14⟩) (by assumption) ?_
      case q4xy14 => (intro w hSw; (try dsimp only at hSw); go_simp; try with_reducible rfl)
      try simp only [Act.put, la, lz, ls]
      refine wpAnyH_take (i := 15) (oi := _) (v := undef) (ga rfl) (by kernel_rfl) (by kernel_rfl) (by kernel_rfl) (fun _ _ _ h => h) (Or.inr ⟨by rfl, rfl⟩) (by assumption) ?_
      try simp only [Act.put, la, lz, ls]
      refine wpAnyH_take (i := 16) (oi := _) (v := undef) (ga rfl) (by kernel_rfl) (by kernel_rfl) (by kernel_rfl) (fun _ _ _ h => h) (Or.inr ⟨by rfl, rfl⟩) (by assumption) ?_
      try simp only [Act.put, la, lz, ls]
      refine wpAnyH_take (i := 17) (oi := _) (v := undef) (ga rfl) (by kernel_rfl) (by kernel_rfl) (by kernel_rfl) (fun _ _ _ h => h) (Or.inr ⟨by rfl, rfl⟩) (by assumption) ?_
      try simp only [Act.put, la, lz, ls]
      refine wpAnyH_take (i := 18) (oi := _) (v := ?q4xv18) (ga rfl) (by kernel_rfl) (by kernel_rfl) (by kernel_rfl) (fun _ _ _ h => h) (Or.inl ⟨by rfl, ?q4xy18⟩) (by assumption) ?_
      case q4xy18 => (intro w hSw; (try dsimp only at hSw); go_simp; try with_reducible rfl)
      try simp only [Act.put, la, lz, ls]
      refine wpAnyH_ready (rs := [19]) (by kernel_rfl) (by simp) ?_
      refine AllReadyH.cons (o := _) (ga rfl) (fun K hK => ?_) AllReadyH.nil
      go_simp
      (first | (go_at_call 86; refine (within_any _ _ _ _).mono ?_; rintro e w99 ⟨rfl, rfl⟩) | (go_at_call 87; refine (when_any _ _ _).mono ?_; rintro e w99 ⟨rfl, rfl⟩) | (go_at_call 39; refine (ckRules_any ⟨g, tg, fo⟩ _).mono ?_; rintro e w1 ⟨rfl, hb1⟩; have K1 := K0.drew.call hb1) | (go_at_call 85; refine (first_any (fun _ => True) _ _ [M.ckRules ⟨g, tg, fo⟩, wi a0 0 1, wi b7 0 1, wi gr 0 2, wh _ 3] _ (RdI.lit _ _ [M.ckRules ⟨g, tg, fo⟩, wi a0 0 1, wi b7 0 1, wi gr 0 2, wh _ 3] (by simp) _ trivial)).mono ?_; rintro e w99 ⟨rfl, rfl⟩) | (go_at_call 85; refine (first_any (fun _ => True) _ _ [M.ckRules ⟨g, tg, fo⟩, wi a0 0 1, wi b7 0 1, wi gr 0 2, wh _ 3] _ (RdI.drewN (RdI.lit _ _ [M.ckRules ⟨g, tg, fo⟩, wi a0 0 1, wi b7 0 1, wi gr 0 2, wh _ 3] (by simp) _ trivial) 1)).mono ?_; rintro e w99 ⟨rfl, rfl⟩))
      refine hK.out _ _ ?q4xh19 (fun hHeld => ?_)
      case q4xh19 => (first | (first | exact K0.cell | exact K1.cell | exact (K1.alloc _).cell) | (dsimp only; first | exact K0.cell | exact K1.cell | exact (K1.alloc _).cell))
      clear hK K
      try simp only [Act.put, la, lz, ls]
      refine wpAnyH_ready (rs := [20]) (by kernel_rfl) (by simp) ?_
      refine AllReadyH.cons (o := _) (ga rfl) (fun K hK => ?_) AllReadyH.nil
      go_simp
      refine hK.out _ _ ?q4xh20 (fun hHeld => ?_)
      case q4xh20 => (first | (first | exact K0.cell | exact K1.cell | exact (K1.alloc _).cell) | (dsimp only; first | exact K0.cell | exact K1.cell | exact (K1.alloc _).cell))
      clear hK K
      try simp only [Act.put, la, lz, ls]
      refine wpAnyH_ready (rs := [21]) (by kernel_rfl) (by simp) ?_
      refine AllReadyH.cons (o := _) (ga rfl) (fun K hK => ?_) AllReadyH.nil
      go_simp
      (first | (go_at_call 86; refine (within_any _ _ _ _).mono ?_; rintro e w99 ⟨rfl, rfl⟩) | (go_at_call 87; refine (when_any _ _ _).mono ?_; rintro e w99 ⟨rfl, rfl⟩) | (go_at_call 39; refine (ckRules_any ⟨g, tg, fo⟩ _).mono ?_; rintro e w1 ⟨rfl, hb1⟩; have K1 := K0.drew.call hb1) | (go_at_call 85; refine (first_any (fun _ => True) _ _ [M.ckRules ⟨g, tg, fo⟩, wi a0 0 1, wi b7 0 1, wi gr 0 2, wh _ 3] _ (RdI.lit _ _ [M.ckRules ⟨g, tg, fo⟩, wi a0 0 1, wi b7 0 1, wi gr 0 2, wh _ 3] (by simp) _ trivial)).mono ?_; rintro e w99 ⟨rfl, rfl⟩) | (go_at_call 85; refine (first_any (fun _ => True) _ _ [M.ckRules ⟨g, tg, fo⟩, wi a0 0 1, wi b7 0 1, wi gr 0 2, wh _ 3] _ (RdI.drewN (RdI.lit _ _ [M.ckRules ⟨g, tg, fo⟩, wi a0 0 1, wi b7 0 1, wi gr 0 2, wh _ 3] (by simp) _ trivial) 1)).mono ?_; rintro e w99 ⟨rfl, rfl⟩))
      refine hK.out _ _ ?q4xh21 (fun hHeld => ?_)
      case q4xh21 => (first | (first | exact K0.cell | exact K1.cell | exact (K1.alloc _).cell) | (dsimp only; first | exact K0.cell | exact K1.cell | exact (K1.alloc _).cell))
      clear hK K
      try simp only [Act.put, la, lz, ls]
      refine wpAnyH_take (i := 22) (oi := _) (v := ?q4xv22) (ga rfl) (by kernel_rfl) (by kernel_rfl) (by kernel_rfl) (fun _ _ _ h => h) (Or.inl ⟨by rfl, ?q4xy22⟩) (by assumption) ?_
      case q4xy22 => (intro w hSw; (try dsimp only at hSw); go_simp; try with_reducible rfl)
      try simp only [Act.put, la, lz, ls]
      refine wpAnyH_done (by kernel_rfl) ?_ _
      go_wp2
      go_meet
      exact ⟨congrArg _ (ckStateHead_first (r := ⟨g, tg, fo⟩) (s := ⟨a0, a1, a2, a3, a4, gr, bl, b0, b1, b2, b3, b4, b5, b6, b7⟩) (by have := headB y0 y1; exact this)), by first | exact K1.alloc _ | exact (K1.alloc _).drew⟩
  case rest =>
    obtain ⟨rfl, K4⟩ := hcut
    have hc4 := K4.cell
    by_cases hz : M.ckStateHead ⟨g, tg, fo⟩ ⟨a0, a1, a2, a3, a4, gr, bl, b0, b1, b2, b3, b4, b5, b6, b7⟩ = 0
    · have hz' : (M.ckStateHead ⟨g, tg, fo⟩ ⟨a0, a1, a2, a3, a4, gr, bl, b0, b1, b2, b3, b4, b5, b6, b7⟩ != 0) = false := by simp [hz]
      have H1 := hide hz
      clear hz
      go_wp2_with (go_at_call 92; refine (hrack _).mono ?_; rintro e w5 ⟨A2, c2', rfl, hr2, hb5⟩; have K5 := K4.call hb5; have hc5 := K5.cell)
      go_outline
      go_loopw [44] (fun i wr => ∃ k : Nat, k ≤ bl.length ∧ i = .int .i64 k ∧ M.ckBalls (M.rackN g) none bl = M.ckBalls (M.rackN g) (lastOf bl k) (bl.drop k) ∧ Keeps w ((w.alloc (.cells #[.string g, .int .i64 tg, .int .i64 fo] 23)).alloc (.cells #[.int .i64 a0, .bool a1, .bool a2, .bool a3, .bool a4, .int .i64 gr, .slice A bl.length c, .int .i64 b0, .int .i64 b1, .int .i64 b2, .int .i64 b3, .int .i64 b4, .int .i64 b5, .bool b6, .int .i64 b7] 33)) 2 wr) (fun i _ => bl.length - (intOf i).toNat)
      case atStart => exact ⟨0, Nat.zero_le _, rfl, by simp [lastOf], K5⟩
      case round =>
        obtain ⟨k, hkl, rfl, hx1, KR⟩ := hrel
        have hcR := KR.cell
        by_cases hlt : k < bl.length
        · obtain ⟨b, o, rfl, _, hbl, hc⟩ := hp.at_ k hlt
          have hck := hc k hlt
          have hbl1 : b < w.heap.size + 1 := by omega
          have hbl2 : b < w.heap.size + 2 := by omega
          by_cases hk0 : k = 0
          · have hst := hx1.trans (ckBalls_first (↑(M.rackN g)) hlt)
            rw [show lowBall bl k = false by rw [hk0]; rfl] at hst
            have hkb : decide (0 < k) = false := by simp [hk0]
            have hkc : ¬ 0 < k := by omega
            have HK0 := hide hk0
            clear hx1 hc hk0
            by_cases hz : firstOf [wi bl[k] 1 ↑(M.rackN g), wh false 11] = 0
            · have hz' : (firstOf [wi bl[k] 1 ↑(M.rackN g), wh false 11] != 0) = false := by simp [hz]
              rw [if_neg (by simp [hz])] at hst
              have HX := hide hst
              clear hst hz
              go_wp2_with (first | (go_at_call 86; refine (within_any _ _ _ _).mono ?_; rintro e w99 ⟨rfl, rfl⟩) | (go_at_call 87; refine (when_any _ _ _).mono ?_; rintro e w99 ⟨rfl, rfl⟩) | (go_at_call 85; refine (first_any (fun _ => True) _ _ [wi bl[k] 1 ↑(M.rackN g), wh false 11] _ (RdI.lit _ _ [wi bl[k] 1 ↑(M.rackN g), wh false 11] (by simp) _ trivial)).mono ?_; rintro e w99 ⟨rfl, rfl⟩))
              go_roundw
              case rel => exact ⟨k + 1, by omega, by go_num, HX.out, KR.alloc _⟩
              case measure => simp [intOf]; omega
            · have hz' : (firstOf [wi bl[k] 1 ↑(M.rackN g), wh false 11] != 0) = true := by simp [hz]
              rw [if_pos hz] at hst
              have HX := hide hst
              have HZ := hide hz
              clear hst hz
              go_wp2_with (first | (go_at_call 86; refine (within_any _ _ _ _).mono ?_; rintro e w99 ⟨rfl, rfl⟩) | (go_at_call 87; refine (when_any _ _ _).mono ?_; rintro e w99 ⟨rfl, rfl⟩) | (go_at_call 85; refine (first_any (fun _ => True) _ _ [wi bl[k] 1 ↑(M.rackN g), wh false 11] _ (RdI.lit _ _ [wi bl[k] 1 ↑(M.rackN g), wh false 11] (by simp) _ trivial)).mono ?_; rintro e w99 ⟨rfl, rfl⟩))
              go_ret
              exact ⟨ret_int (by rw [ckState_balls (r := ⟨g, tg, fo⟩) (s := ⟨a0, a1, a2, a3, a4, gr, bl, b0, b1, b2, b3, b4, b5, b6, b7⟩) H1.out (by rw [HX.out]; exact HZ.out)]; exact HX.out.symm), (KR.alloc _).bw⟩
          · obtain ⟨j, rfl⟩ : ∃ j, k = j + 1 := ⟨k - 1, by omega⟩
            clear hk0
            have hst := hx1.trans (ckBalls_first (↑(M.rackN g)) hlt)
            rw [lowBall1 hlt] at hst
            have hcj := hc j (by omega)
            clear hx1 hc
            obtain ⟨x1, hx1⟩ : ∃ x, bl[j + 1] = x := ⟨_, rfl⟩
            obtain ⟨x0, hx0⟩ : ∃ x, bl[j] = x := ⟨_, rfl⟩
            rw [hx1] at hck
            rw [hx0] at hcj
            rw [hx1, hx0] at hst
            clear hx1 hx0
            rcases Nat.eq_zero_or_pos j with hj | hj
            · have hcj' : w.cell? ⟨b, o, none⟩ = some (.int .i64 x0) := by rw [hj] at hcj; exact hcj
              have hjb : ¬ 0 < j := by omega
              clear hj
              by_cases hz : firstOf [wi x1 1 ↑(M.rackN g), wh (decide (x1 ≤ x0)) 11] = 0
              · have hz' : (firstOf [wi x1 1 ↑(M.rackN g), wh (decide (x1 ≤ x0)) 11] != 0) = false := by simp [hz]
                rw [if_neg (by simp [hz])] at hst
                have HX := hide hst
                clear hst hz
                go_wp2_with (first | (go_at_call 86; refine (within_any _ _ _ _).mono ?_; rintro e w99 ⟨rfl, rfl⟩) | (go_at_call 87; refine (when_any _ _ _).mono ?_; rintro e w99 ⟨rfl, rfl⟩) | (go_at_call 85; refine (first_any (fun _ => True) _ _ [wi x1 1 ↑(M.rackN g), wh (decide (x1 ≤ x0)) 11] _ (RdI.lit _ _ [wi x1 1 ↑(M.rackN g), wh (decide (x1 ≤ x0)) 11] (by simp) _ trivial)).mono ?_; rintro e w99 ⟨rfl, rfl⟩))
                go_roundw
                case rel => exact ⟨j + 1 + 1, by omega, by go_num, HX.out, KR.alloc _⟩
                case measure => simp [intOf]; omega
              · have hz' : (firstOf [wi x1 1 ↑(M.rackN g), wh (decide (x1 ≤ x0)) 11] != 0) = true := by simp [hz]
                rw [if_pos hz] at hst
                have HX := hide hst
                have HZ := hide hz
                clear hst hz
                go_wp2_with (first | (go_at_call 86; refine (within_any _ _ _ _).mono ?_; rintro e w99 ⟨rfl, rfl⟩) | (go_at_call 87; refine (when_any _ _ _).mono ?_; rintro e w99 ⟨rfl, rfl⟩) | (go_at_call 85; refine (first_any (fun _ => True) _ _ [wi x1 1 ↑(M.rackN g), wh (decide (x1 ≤ x0)) 11] _ (RdI.lit _ _ [wi x1 1 ↑(M.rackN g), wh (decide (x1 ≤ x0)) 11] (by simp) _ trivial)).mono ?_; rintro e w99 ⟨rfl, rfl⟩))
                go_ret
                exact ⟨ret_int (by rw [ckState_balls (r := ⟨g, tg, fo⟩) (s := ⟨a0, a1, a2, a3, a4, gr, bl, b0, b1, b2, b3, b4, b5, b6, b7⟩) H1.out (by rw [HX.out]; exact HZ.out)]; exact HX.out.symm), (KR.alloc _).bw⟩
            · skip
              by_cases hz : firstOf [wi x1 1 ↑(M.rackN g), wh (decide (x1 ≤ x0)) 11] = 0
              · have hz' : (firstOf [wi x1 1 ↑(M.rackN g), wh (decide (x1 ≤ x0)) 11] != 0) = false := by simp [hz]
                rw [if_neg (by simp [hz])] at hst
                have HX := hide hst
                clear hst hz
                go_wp2_with (first | (go_at_call 86; refine (within_any _ _ _ _).mono ?_; rintro e w99 ⟨rfl, rfl⟩) | (go_at_call 87; refine (when_any _ _ _).mono ?_; rintro e w99 ⟨rfl, rfl⟩) | (go_at_call 85; refine (first_any (fun _ => True) _ _ [wi x1 1 ↑(M.rackN g), wh (decide (x1 ≤ x0)) 11] _ (RdI.lit _ _ [wi x1 1 ↑(M.rackN g), wh (decide (x1 ≤ x0)) 11] (by simp) _ trivial)).mono ?_; rintro e w99 ⟨rfl, rfl⟩))
                go_roundw
                case rel => exact ⟨j + 1 + 1, by omega, by go_num, HX.out, KR.alloc _⟩
                case measure => simp [intOf]; omega
              · have hz' : (firstOf [wi x1 1 ↑(M.rackN g), wh (decide (x1 ≤ x0)) 11] != 0) = true := by simp [hz]
                rw [if_pos hz] at hst
                have HX := hide hst
                have HZ := hide hz
                clear hst hz
                go_wp2_with (first | (go_at_call 86; refine (within_any _ _ _ _).mono ?_; rintro e w99 ⟨rfl, rfl⟩) | (go_at_call 87; refine (when_any _ _ _).mono ?_; rintro e w99 ⟨rfl, rfl⟩) | (go_at_call 85; refine (first_any (fun _ => True) _ _ [wi x1 1 ↑(M.rackN g), wh (decide (x1 ≤ x0)) 11] _ (RdI.lit _ _ [wi x1 1 ↑(M.rackN g), wh (decide (x1 ≤ x0)) 11] (by simp) _ trivial)).mono ?_; rintro e w99 ⟨rfl, rfl⟩))
                go_ret
                exact ⟨ret_int (by rw [ckState_balls (r := ⟨g, tg, fo⟩) (s := ⟨a0, a1, a2, a3, a4, gr, bl, b0, b1, b2, b3, b4, b5, b6, b7⟩) H1.out (by rw [HX.out]; exact HZ.out)]; exact HX.out.symm), (KR.alloc _).bw⟩
        · have hz0 : M.ckBalls (M.rackN g) none bl = 0 := by rw [hx1, List.drop_of_length_le (by omega), M.ckBalls]
          have H2 := hide hz0
          clear hx1 hz0
          by_cases hn : M.ckNumbers ⟨g, tg, fo⟩ ⟨a0, a1, a2, a3, a4, gr, bl, b0, b1, b2, b3, b4, b5, b6, b7⟩ = 0
          · have hn' : (M.ckNumbers ⟨g, tg, fo⟩ ⟨a0, a1, a2, a3, a4, gr, bl, b0, b1, b2, b3, b4, b5, b6, b7⟩ != 0) = false := by simp [hn]
            have H3 := hide hn
            clear hn
            go_upto_region 15 with ((go_at_call 93; refine (ckNumbers_any ⟨g, tg, fo⟩ ⟨a0, a1, a2, a3, a4, gr, bl, b0, b1, b2, b3, b4, b5, b6, b7⟩ _ _ _).mono ?_; rintro e w3 ⟨rfl, hb3⟩; have K3 := KR.call hb3; have hc3 := K3.cell))
            go_cut [11] (fun v wx => v = .bool (pushB g a1 a3 a4) ∧ Keeps w ((w.alloc (.cells #[.string g, .int .i64 tg, .int .i64 fo] 23)).alloc (.cells #[.int .i64 a0, .bool a1, .bool a2, .bool a3, .bool a4, .int .i64 gr, .slice A bl.length c, .int .i64 b0, .int .i64 b1, .int .i64 b2, .int .i64 b3, .int .i64 b4, .int .i64 b5, .bool b6, .int .i64 b7] 33)) 2 wx)
            case first =>
              all_goals rcases Bool.eq_false_or_eq_true (g.toList == [110, 105, 110, 101]) with y0 | y0
              all_goals go_wp2
              all_goals go_meet
              all_goals
                refine ⟨?_, by assumption⟩
                exact val_bool' (by first | (simp [pushB, beq_nine', *]; done) | (simp_all [pushB, beq_nine']; done))
            case rest =>
              obtain ⟨rfl, K4⟩ := hcut
              have hc4 := K4.cell
              go_upto_region 16 with fail
              go_cut [12] (fun v wx => v = .bool (miss g bl) ∧ Keeps w ((w.alloc (.cells #[.string g, .int .i64 tg, .int .i64 fo] 23)).alloc (.cells #[.int .i64 a0, .bool a1, .bool a2, .bool a3, .bool a4, .int .i64 gr, .slice A bl.length c, .int .i64 b0, .int .i64 b1, .int .i64 b2, .int .i64 b3, .int .i64 b4, .int .i64 b5, .bool b6, .int .i64 b7] 33)) 2 wx)
              case first =>
                by_cases hb : bl = []
                · subst hb
                  go_quiet (fail)
                  go_wp2
                  go_meet
                  exact ⟨val_bool' (by simp [miss]), K4.drewN _⟩
                · have hb' : ((bl.length : Int) == 0) = false := by simp [hb]
                  have HB := hide hb
                  clear hb
                  by_cases hn : 0 < need g
                  · have hn' : decide (0 < need g) = true := by simp [hn]
                    have HN := hide hn
                    clear hn
                    refine wp_region_held_drew (S := (fun w' => ∀ p q, p < w.heap.size + 2 → w'.cell? ⟨p, q, none⟩ = ((w.alloc (.cells #[.string g, .int .i64 tg, .int .i64 fo] 23)).alloc (.cells #[.int .i64 a0, .bool a1, .bool a2, .bool a3, .bool a4, .int .i64 gr, .slice A bl.length c, .int .i64 b0, .int .i64 b1, .int .i64 b2, .int .i64 b3, .int .i64 b4, .int .i64 b5, .bool b6, .int .i64 b7] 33)).cell? ⟨p, q, none⟩)) (by kernel_rfl) ?q1xstart (fun hHeld => ?_)
                    case q1xstart => first | exact K4.cell | exact K5.cell | exact K6.cell
                    refine wpAnyH_take (i := 0) (oi := _) (v := ?q1xv0) (ga rfl) (by kernel_rfl) (by kernel_rfl) (by kernel_rfl) (fun _ _ _ h => h) (Or.inl ⟨by rfl, ?q1xy0⟩) (by assumption) ?_
                    case q1xy0 => (intro w hSw; (try dsimp only at hSw); go_simp; try with_reducible rfl)
                    try simp only [Act.put, la, lz, ls]
                    refine wpAnyH_take (i := 1) (oi := _) (v := ?q1xv1) (ga rfl) (by kernel_rfl) (by kernel_rfl) (by kernel_rfl) (fun _ _ _ h => h) (Or.inl ⟨by rfl, ?q1xy1⟩) (by assumption) ?_
                    case q1xy1 => (intro w hSw; (try dsimp only at hSw); go_simp; try with_reducible rfl)
                    try simp only [Act.put, la, lz, ls]
                    refine wpAnyH_take (i := 2) (oi := _) (v := ?q1xv2) (ga rfl) (by kernel_rfl) (by kernel_rfl) (by kernel_rfl) (fun _ _ _ h => h) (Or.inl ⟨by rfl, ?q1xy2⟩) (by assumption) ?_
                    case q1xy2 => (intro w hSw; (try dsimp only at hSw); go_simp; try with_reducible rfl)
                    try simp only [Act.put, la, lz, ls]
                    refine wpAnyH_take (i := 3) (oi := _) (v := ?q1xv3) (ga rfl) (by kernel_rfl) (by kernel_rfl) (by kernel_rfl) (fun _ _ _ h => h) (Or.inl ⟨by rfl, ?q1xy3⟩) (by assumption) ?_
                    case q1xy3 => (intro w hSw; (try dsimp only at hSw); go_simp; try with_reducible rfl)
                    try simp only [Act.put, la, lz, ls]
                    refine wpAnyH_take (i := 4) (oi := _) (v := ?q1xv4) (ga rfl) (by kernel_rfl) (by kernel_rfl) (by kernel_rfl) (fun _ _ _ h => h) (Or.inl ⟨by rfl, ?q1xy4⟩) (by assumption) ?_
                    case q1xy4 => (intro w hSw; (try dsimp only at hSw); go_simp; try with_reducible rfl)
                    try simp only [Act.put, la, lz, ls]
                    refine wpAnyH_take (i := 5) (oi := _) (v := ?q1xv5) (ga rfl) (by kernel_rfl) (by kernel_rfl) (by kernel_rfl) (fun _ _ _ h => h) (Or.inl ⟨by rfl, ?q1xy5⟩) (by assumption) ?_
                    case q1xy5 => (intro w hSw; (try dsimp only at hSw); go_simp; try with_reducible rfl)
                    try simp only [Act.put, la, lz, ls]
                    refine wpAnyH_ready (rs := [6]) (by kernel_rfl) (by simp) ?_
                    refine AllReadyH.cons (o := _) (ga rfl) (fun K hK => ?_) AllReadyH.nil
                    go_simp
                    (first | (go_at_call 94; refine (needed_any ⟨g, tg, fo⟩ _).mono ?_; rintro e w5 ⟨rfl, hb5⟩; have K5 := K4.drew.call hb5) | (go_at_call 94; refine (needed_any ⟨g, tg, fo⟩ _).mono ?_; rintro e w6 ⟨rfl, hb6⟩; have K6 := K5.call hb6; have hc6 := K6.cell) | (go_at_call 95; refine (inInt_any S A c bl _ _ (hp.below K6.bw)).mono ?_; rintro e w99 ⟨rfl, rfl⟩))
                    refine hK.out _ _ ?q1xh6 (fun hHeld => ?_)
                    case q1xh6 => (first | (first | exact K4.cell | exact K5.cell | exact K6.cell) | (dsimp only; first | exact K4.cell | exact K5.cell | exact K6.cell))
                    clear hK K
                    try simp only [Act.put, la, lz, ls]
                    refine wpAnyH_take (i := 7) (oi := _) (v := ?q1xv7) (ga rfl) (by kernel_rfl) (by kernel_rfl) (by kernel_rfl) (fun _ _ _ h => h) (Or.inl ⟨by rfl, ?q1xy7⟩) (by assumption) ?_
                    case q1xy7 => (intro w hSw; (try dsimp only at hSw); go_simp; try with_reducible rfl)
                    try simp only [Act.put, la, lz, ls]
                    refine wpAnyH_take (i := 8) (oi := _) (v := ?q1xv8) (ga rfl) (by kernel_rfl) (by kernel_rfl) (by kernel_rfl) (fun _ _ _ h => h) (Or.inl ⟨by rfl, ?q1xy8⟩) (by assumption) ?_
                    case q1xy8 => (intro w hSw; (try dsimp only at hSw); go_simp; try with_reducible rfl)
                    try simp only [Act.put, la, lz, ls]
                    refine wpAnyH_take (i := 9) (oi := _) (v := ?q1xv9) (ga rfl) (by kernel_rfl) (by kernel_rfl) (by kernel_rfl) (fun _ _ _ h => h) (Or.inl ⟨by rfl, ?q1xy9⟩) (by assumption) ?_
                    case q1xy9 => (intro w hSw; (try dsimp only at hSw); go_simp; try with_reducible rfl)
                    try simp only [Act.put, la, lz, ls]
                    refine wpAnyH_take (i := 10) (oi := _) (v := ?q1xv10) (ga rfl) (by kernel_rfl) (by kernel_rfl) (by kernel_rfl) (fun _ _ _ h => h) (Or.inl ⟨by rfl, ?q1xy10⟩) (by assumption) ?_
                    case q1xy10 => (intro w hSw; (try dsimp only at hSw); go_simp; try with_reducible rfl)
                    try simp only [Act.put, la, lz, ls]
                    refine wpAnyH_take (i := 11) (oi := _) (v := ?q1xv11) (ga rfl) (by kernel_rfl) (by kernel_rfl) (by kernel_rfl) (fun _ _ _ h => h) (Or.inl ⟨by rfl, ?q1xy11⟩) (by assumption) ?_
                    case q1xy11 => (intro w hSw; (try dsimp only at hSw); go_simp; try with_reducible rfl)
                    try simp only [Act.put, la, lz, ls]
                    refine wpAnyH_ready (rs := [12]) (by kernel_rfl) (by simp) ?_
                    refine AllReadyH.cons (o := _) (ga rfl) (fun K hK => ?_) AllReadyH.nil
                    go_simp
                    (first | (go_at_call 94; refine (needed_any ⟨g, tg, fo⟩ _).mono ?_; rintro e w5 ⟨rfl, hb5⟩; have K5 := K4.drew.call hb5) | (go_at_call 94; refine (needed_any ⟨g, tg, fo⟩ _).mono ?_; rintro e w6 ⟨rfl, hb6⟩; have K6 := K5.call hb6; have hc6 := K6.cell) | (go_at_call 95; refine (inInt_any S A c bl _ _ (hp.below K6.bw)).mono ?_; rintro e w99 ⟨rfl, rfl⟩))
                    refine hK.out _ _ ?q1xh12 (fun hHeld => ?_)
                    case q1xh12 => (first | (first | exact K4.cell | exact K5.cell | exact K6.cell) | (dsimp only; first | exact K4.cell | exact K5.cell | exact K6.cell))
                    clear hK K
                    try simp only [Act.put, la, lz, ls]
                    refine wpAnyH_ready (rs := [13]) (by kernel_rfl) (by simp) ?_
                    refine AllReadyH.cons (o := _) (ga rfl) (fun K hK => ?_) AllReadyH.nil
                    go_simp
                    (first | (go_at_call 94; refine (needed_any ⟨g, tg, fo⟩ _).mono ?_; rintro e w5 ⟨rfl, hb5⟩; have K5 := K4.drew.call hb5) | (go_at_call 94; refine (needed_any ⟨g, tg, fo⟩ _).mono ?_; rintro e w6 ⟨rfl, hb6⟩; have K6 := K5.call hb6; have hc6 := K6.cell) | (go_at_call 95; refine (inInt_any S A c bl _ _ (hp.below K6.bw)).mono ?_; rintro e w99 ⟨rfl, rfl⟩))
                    refine hK.out _ _ ?q1xh13 (fun hHeld => ?_)
                    case q1xh13 => (first | (first | exact K4.cell | exact K5.cell | exact K6.cell) | (dsimp only; first | exact K4.cell | exact K5.cell | exact K6.cell))
                    clear hK K
                    try simp only [Act.put, la, lz, ls]
                    refine wpAnyH_take (i := 14) (oi := _) (v := ?q1xv14) (ga rfl) (by kernel_rfl) (by kernel_rfl) (by kernel_rfl) (fun _ _ _ h => h) (Or.inl ⟨by rfl, ?q1xy14⟩) (by assumption) ?_
                    case q1xy14 => (intro w hSw; (try dsimp only at hSw); go_simp; try with_reducible rfl)
                    try simp only [Act.put, la, lz, ls]
                    refine wpAnyH_take (i := 15) (oi := _) (v := ?q1xv15) (ga rfl) (by kernel_rfl) (by kernel_rfl) (by kernel_rfl) (fun _ _ _ h => h) (Or.inl ⟨by rfl, ?q1xy15⟩) (by assumption) ?_
                    case q1xy15 => (intro w hSw; (try dsimp only at hSw); go_simp; try with_reducible rfl)
                    try simp only [Act.put, la, lz, ls]
                    refine wpAnyH_take (i := 16) (oi := _) (v := ?q1xv16) (ga rfl) (by kernel_rfl) (by kernel_rfl) (by kernel_rfl) (fun _ _ _ h => h) (Or.inl ⟨by rfl, ?q1xy16⟩) (by assumption) ?_
                    case q1xy16 => (intro w hSw; (try dsimp only at hSw); go_simp; try with_reducible rfl)
                    try simp only [Act.put, la, lz, ls]
                    refine wpAnyH_take (i := 17) (oi := _) (v := ?q1xv17) (ga rfl) (by kernel_rfl) (by kernel_rfl) (by kernel_rfl) (fun _ _ _ h => h) (Or.inl ⟨by rfl, ?q1xy17⟩) (by assumption) ?_
                    case q1xy17 => (intro w hSw; (try dsimp only at hSw); go_simp; try with_reducible rfl)
                    try simp only [Act.put, la, lz, ls]
                    refine wpAnyH_done (by kernel_rfl) ?_ _
                    go_wp2
                    go_meet
                    exact ⟨val_bool' (by have h1 := HB.out; have h2 := HN.out; simp [miss, h1, h2]), by first | exact K6 | exact K5 | exact K4.drew⟩
                  · have hn' : decide (0 < need g) = false := by simp; omega
                    have HN := hide hn
                    clear hn
                    refine wp_region_held_drew (S := (fun w' => ∀ p q, p < w.heap.size + 2 → w'.cell? ⟨p, q, none⟩ = ((w.alloc (.cells #[.string g, .int .i64 tg, .int .i64 fo] 23)).alloc (.cells #[.int .i64 a0, .bool a1, .bool a2, .bool a3, .bool a4, .int .i64 gr, .slice A bl.length c, .int .i64 b0, .int .i64 b1, .int .i64 b2, .int .i64 b3, .int .i64 b4, .int .i64 b5, .bool b6, .int .i64 b7] 33)).cell? ⟨p, q, none⟩)) (by kernel_rfl) ?q2xstart (fun hHeld => ?_)
                    case q2xstart => first | exact K4.cell | exact K5.cell | exact K6.cell
                    refine wpAnyH_take (i := 0) (oi := _) (v := ?q2xv0) (ga rfl) (by kernel_rfl) (by kernel_rfl) (by kernel_rfl) (fun _ _ _ h => h) (Or.inl ⟨by rfl, ?q2xy0⟩) (by assumption) ?_
                    case q2xy0 => (intro w hSw; (try dsimp only at hSw); go_simp; try with_reducible rfl)
                    try simp only [Act.put, la, lz, ls]
                    refine wpAnyH_take (i := 1) (oi := _) (v := ?q2xv1) (ga rfl) (by kernel_rfl) (by kernel_rfl) (by kernel_rfl) (fun _ _ _ h => h) (Or.inl ⟨by rfl, ?q2xy1⟩) (by assumption) ?_
                    case q2xy1 => (intro w hSw; (try dsimp only at hSw); go_simp; try with_reducible rfl)
                    try simp only [Act.put, la, lz, ls]
                    refine wpAnyH_take (i := 2) (oi := _) (v := ?q2xv2) (ga rfl) (by kernel_rfl) (by kernel_rfl) (by kernel_rfl) (fun _ _ _ h => h) (Or.inl ⟨by rfl, ?q2xy2⟩) (by assumption) ?_
                    case q2xy2 => (intro w hSw; (try dsimp only at hSw); go_simp; try with_reducible rfl)
                    try simp only [Act.put, la, lz, ls]
                    refine wpAnyH_take (i := 3) (oi := _) (v := ?q2xv3) (ga rfl) (by kernel_rfl) (by kernel_rfl) (by kernel_rfl) (fun _ _ _ h => h) (Or.inl ⟨by rfl, ?q2xy3⟩) (by assumption) ?_
                    case q2xy3 => (intro w hSw; (try dsimp only at hSw); go_simp; try with_reducible rfl)
                    try simp only [Act.put, la, lz, ls]
                    refine wpAnyH_take (i := 4) (oi := _) (v := ?q2xv4) (ga rfl) (by kernel_rfl) (by kernel_rfl) (by kernel_rfl) (fun _ _ _ h => h) (Or.inl ⟨by rfl, ?q2xy4⟩) (by assumption) ?_
                    case q2xy4 => (intro w hSw; (try dsimp only at hSw); go_simp; try with_reducible rfl)
                    try simp only [Act.put, la, lz, ls]
                    refine wpAnyH_take (i := 5) (oi := _) (v := ?q2xv5) (ga rfl) (by kernel_rfl) (by kernel_rfl) (by kernel_rfl) (fun _ _ _ h => h) (Or.inl ⟨by rfl, ?q2xy5⟩) (by assumption) ?_
                    case q2xy5 => (intro w hSw; (try dsimp only at hSw); go_simp; try with_reducible rfl)
                    try simp only [Act.put, la, lz, ls]
                    refine wpAnyH_ready (rs := [6]) (by kernel_rfl) (by simp) ?_
                    refine AllReadyH.cons (o := _) (ga rfl) (fun K hK => ?_) AllReadyH.nil
                    go_simp
                    (first | (go_at_call 94; refine (needed_any ⟨g, tg, fo⟩ _).mono ?_; rintro e w5 ⟨rfl, hb5⟩; have K5 := K4.drew.call hb5) | (go_at_call 94; refine (needed_any ⟨g, tg, fo⟩ _).mono ?_; rintro e w6 ⟨rfl, hb6⟩; have K6 := K5.call hb6; have hc6 := K6.cell) | (go_at_call 95; refine (inInt_any S A c bl _ _ (hp.below K6.bw)).mono ?_; rintro e w99 ⟨rfl, rfl⟩))
                    refine hK.out _ _ ?q2xh6 (fun hHeld => ?_)
                    case q2xh6 => (first | (first | exact K4.cell | exact K5.cell | exact K6.cell) | (dsimp only; first | exact K4.cell | exact K5.cell | exact K6.cell))
                    clear hK K
                    try simp only [Act.put, la, lz, ls]
                    refine wpAnyH_take (i := 7) (oi := _) (v := ?q2xv7) (ga rfl) (by kernel_rfl) (by kernel_rfl) (by kernel_rfl) (fun _ _ _ h => h) (Or.inl ⟨by rfl, ?q2xy7⟩) (by assumption) ?_
                    case q2xy7 => (intro w hSw; (try dsimp only at hSw); go_simp; try with_reducible rfl)
                    try simp only [Act.put, la, lz, ls]
                    refine wpAnyH_take (i := 8) (oi := _) (v := ?q2xv8) (ga rfl) (by kernel_rfl) (by kernel_rfl) (by kernel_rfl) (fun _ _ _ h => h) (Or.inl ⟨by rfl, ?q2xy8⟩) (by assumption) ?_
                    case q2xy8 => (intro w hSw; (try dsimp only at hSw); go_simp; try with_reducible rfl)
                    try simp only [Act.put, la, lz, ls]
                    refine wpAnyH_take (i := 9) (oi := _) (v := undef) (ga rfl) (by kernel_rfl) (by kernel_rfl) (by kernel_rfl) (fun _ _ _ h => h) (Or.inr ⟨by rfl, rfl⟩) (by assumption) ?_
                    try simp only [Act.put, la, lz, ls]
                    refine wpAnyH_take (i := 10) (oi := _) (v := undef) (ga rfl) (by kernel_rfl) (by kernel_rfl) (by kernel_rfl) (fun _ _ _ h => h) (Or.inr ⟨by rfl, rfl⟩) (by assumption) ?_
                    try simp only [Act.put, la, lz, ls]
                    refine wpAnyH_take (i := 11) (oi := _) (v := undef) (ga rfl) (by kernel_rfl) (by kernel_rfl) (by kernel_rfl) (fun _ _ _ h => h) (Or.inr ⟨by rfl, rfl⟩) (by assumption) ?_
                    try simp only [Act.put, la, lz, ls]
                    refine wpAnyH_take (i := 12) (oi := _) (v := undef) (ga rfl) (by kernel_rfl) (by kernel_rfl) (by kernel_rfl) (fun _ _ _ h => h) (Or.inr ⟨by rfl, rfl⟩) (by assumption) ?_
                    try simp only [Act.put, la, lz, ls]
                    refine wpAnyH_take (i := 13) (oi := _) (v := undef) (ga rfl) (by kernel_rfl) (by kernel_rfl) (by kernel_rfl) (fun _ _ _ h => h) (Or.inr ⟨by rfl, rfl⟩) (by assumption) ?_
                    try simp only [Act.put, la, lz, ls]
                    refine wpAnyH_take (i := 14) (oi := _) (v := undef) (ga rfl) (by kernel_rfl) (by kernel_rfl) (by kernel_rfl) (fun _ _ _ h => h) (Or.inr ⟨by rfl, rfl⟩) (by assumption) ?_
                    try simp only [Act.put, la, lz, ls]
                    refine wpAnyH_take (i := 15) (oi := _) (v := ?q2xv15) (ga rfl) (by kernel_rfl) (by kernel_rfl) (by kernel_rfl) (fun _ _ _ h => h) (Or.inl ⟨by rfl, ?q2xy15⟩) (by assumption) ?_
                    case q2xy15 => (intro w hSw; (try dsimp only at hSw); go_simp; try with_reducible rfl)
                    try simp only [Act.put, la, lz, ls]
                    refine wpAnyH_take (i := 16) (oi := _) (v := ?q2xv16) (ga rfl) (by kernel_rfl) (by kernel_rfl) (by kernel_rfl) (fun _ _ _ h => h) (Or.inl ⟨by rfl, ?q2xy16⟩) (by assumption) ?_
                    case q2xy16 => (intro w hSw; (try dsimp only at hSw); go_simp; try with_reducible rfl)
                    try simp only [Act.put, la, lz, ls]
                    refine wpAnyH_take (i := 17) (oi := _) (v := ?q2xv17) (ga rfl) (by kernel_rfl) (by kernel_rfl) (by kernel_rfl) (fun _ _ _ h => h) (Or.inl ⟨by rfl, ?q2xy17⟩) (by assumption) ?_
                    case q2xy17 => (intro w hSw; (try dsimp only at hSw); go_simp; try with_reducible rfl)
                    try simp only [Act.put, la, lz, ls]
                    refine wpAnyH_done (by kernel_rfl) ?_ _
                    go_wp2
                    go_meet
                    exact ⟨val_bool' (by have h1 := HB.out; have h2 := HN.out; simp [miss, h1]; intro h; omega), by first | exact K6 | exact K5 | exact K4.drew⟩
              case rest =>
                obtain ⟨rfl, K7⟩ := hcut
                have hc7 := K7.cell
                clear hc4 K4
                obtain ⟨pb, hpb⟩ : ∃ x, pushB g a1 a3 a4 = x := ⟨_, rfl⟩
                obtain ⟨mi, hmi⟩ : ∃ x, miss g bl = x := ⟨_, rfl⟩
                have HT := hide (fun b => ckState_tail (r := ⟨g, tg, fo⟩) (s := ⟨a0, a1, a2, a3, a4, gr, bl, b0, b1, b2, b3, b4, b5, b6, b7⟩) H1.out H2.out H3.out b)
                rw [hpb, hmi]
                rcases Bool.eq_false_or_eq_true (b7 != 0) with y7 | y7
                all_goals have HY := hide y7
                all_goals
                  have HPB := hide hpb
                  have HMI := hide hmi
                  clear hpb hmi
                  cases pb <;> cases mi <;> cases b6
                all_goals go_wp2_with ((go_at_call 87; refine (when_any _ _ _).mono ?_; rintro e w99 ⟨rfl, rfl⟩))
                all_goals
                  go_ret
                  exact ⟨ret_int (HT.out _ (by have h1 := HPB.out; have h2 := HMI.out; have h3 := HY.out; simp only [h1, h2]; simp at h3; simp [h3])).symm, K7.bw⟩
          · have hn' : (M.ckNumbers ⟨g, tg, fo⟩ ⟨a0, a1, a2, a3, a4, gr, bl, b0, b1, b2, b3, b4, b5, b6, b7⟩ != 0) = true := by simp [hn]
            have H3 := hide hn
            clear hn
            go_wp2_with ((go_at_call 93; refine (ckNumbers_any ⟨g, tg, fo⟩ ⟨a0, a1, a2, a3, a4, gr, bl, b0, b1, b2, b3, b4, b5, b6, b7⟩ _ _ _).mono ?_; rintro e w3 ⟨rfl, hb3⟩; have K3 := KR.call hb3; have hc3 := K3.cell))
            go_ret
            exact ⟨ret_int (ckState_nums (r := ⟨g, tg, fo⟩) (s := ⟨a0, a1, a2, a3, a4, gr, bl, b0, b1, b2, b3, b4, b5, b6, b7⟩) H1.out H2.out H3.out).symm, K3.bw⟩
    · have hz' : (M.ckStateHead ⟨g, tg, fo⟩ ⟨a0, a1, a2, a3, a4, gr, bl, b0, b1, b2, b3, b4, b5, b6, b7⟩ != 0) = true := by simp [hz]
      have H1 := hide hz
      clear hz
      go_wp2
      go_ret
      exact ⟨ret_int (ckState_first H1.out).symm, K4.bw⟩
end Go.Proofs.YtelpepbpdojikaaGreatDoor
