/- Parts of the proofs about chapter 5 (pool), joined by program. -/
import Derived.Deep.DeepCutAuto
import Derived.Deep.RegionHeld3
import Derived.Test.YtelpepbpdojikaaGreatDoorKe6
import Derived.Test.YtelpepbpdojikaaGreatDoorKe7
import Derived.Test.YtelpepbpdojikaaGreatDoorKe8
set_option linter.unusedVariables false
set_option linter.unusedSimpArgs false
namespace Go.Proofs.YtelpepbpdojikaaGreatDoor
open Go.RowKit
theorem ckRules_first (r : M.Rules) : M.ckRules r = if r.game = M.gStraight then firstOf [wi r.target 1 200, wh (!decide (r.fouls = 0) && M.out r.fouls 2 9) 3] else if r.game = M.gEight ∨ r.game = M.gNine then firstOf [wi r.target 0 0, wh (!decide (r.fouls = 0) && M.out r.fouls 2 9) 3] else 13 := by
  have h0 : M.out r.target 0 0 = decide (r.target ≠ 0) := by unfold M.out; rw [Bool.eq_iff_iff]; simp only [decide_eq_true_eq]; omega
  unfold M.ckRules M.isGame
  simp only [wi, wh, firstOf, h0]
  by_cases h1 : r.game = M.gStraight
  · simp only [h1, true_or, decide_true, Bool.true_eq_false, if_false, if_true, true_and, not_true, ne_eq, false_and, false_or]
    by_cases h2 : M.out r.target 1 200 = true
    · simp [h2]
    · by_cases h3 : r.fouls = 0 <;> by_cases h4 : M.out r.fouls 2 9 = true <;> simp [h2, h3, h4]
  · by_cases h2 : r.game = M.gEight ∨ r.game = M.gNine
    · simp only [h1, h2, false_or, decide_true, Bool.true_eq_false, if_false, if_true, false_and, ne_eq, not_false_eq_true, true_and]
      by_cases h3 : r.target = 0 <;> by_cases h4 : r.fouls = 0 <;> by_cases h5 : M.out r.fouls 2 9 = true <;> simp [h3, h4, h5]
    · simp only [h1, h2, or_self, decide_false, if_false, if_true]
set_option maxRecDepth 100000 in
set_option maxHeartbeats 800000 in
theorem checkFouls_any (r : M.Rules) (w : World) : Calls Tryz.prog 91 #[rulesV r] w fun e w' => e = .returned (.int .i64 (wh (!decide (r.fouls = 0) && M.out r.fouls 2 9) 3)) ∧ Below w.heap.size w w' := by
  obtain ⟨g, tg, fo⟩ := r
  go_enter Tryz.func91, Tryz.ntmps91
  go_wp2_with (go_at_call 87; refine (when_any _ _ _).mono ?_; rintro e w99 ⟨rfl, rfl⟩)
  all_goals
    go_ret
    exact ⟨ret_int (by congr 1; simp [M.out, *]), (Below.refl _ _).alloc (Nat.le_refl _) _⟩
set_option maxRecDepth 100000 in
set_option maxHeartbeats 800000 in
theorem ckRules_any (r : M.Rules) (w : World) : Calls Tryz.prog 39 #[rulesV r] w fun e w' => e = .returned (.int .i64 (M.ckRules r)) ∧ Below w.heap.size w w' := by
  rw [ckRules_first]
  obtain ⟨g, tg, fo⟩ := r
  rcases game_split g with rfl | rfl | rfl | ⟨h0, h1, h2, hk⟩
  · go_enter Tryz.func39, Tryz.ntmps39
    go_wp2
    have K0 : Keeps w (w.alloc (.cells #[.string M.gStraight, .int .i64 tg, .int .i64 fo] 23)) 1 (w.alloc (.cells #[.string M.gStraight, .int .i64 tg, .int .i64 fo] 23)) := Keeps.of1 w _
    go_region_held3 (fun w' => ∀ p q, p < w.heap.size + 1 → w'.cell? ⟨p, q, none⟩ = (w.alloc (.cells #[.string M.gStraight, .int .i64 tg, .int .i64 fo] 23)).cell? ⟨p, q, none⟩) (first | exact K0.cell | exact K1.cell | exact (K1.alloc _).cell) (first | (go_at_call 86; refine (within_any _ _ _ _).mono ?_; rintro e w99 ⟨rfl, rfl⟩) | (go_at_call 91; refine (checkFouls_any ⟨M.gStraight, tg, fo⟩ _).mono ?_; rintro e w1 ⟨rfl, hb1⟩; have K1 := K0.drew.call hb1) | (go_at_call 85; refine (first_any (fun _ => True) _ _ [wi tg 1 200, wh (!decide (fo = 0) && M.out fo 2 9) 3] _ (RdI.lit _ _ [wi tg 1 200, wh (!decide (fo = 0) && M.out fo 2 9) 3] (by simp) _ trivial)).mono ?_; rintro e w99 ⟨rfl, rfl⟩))
    go_wp2
    go_ret
    exact ⟨rfl, (K1.alloc _).bw⟩
  · go_enter Tryz.func39, Tryz.ntmps39
    go_wp2
    have K0 : Keeps w (w.alloc (.cells #[.string M.gEight, .int .i64 tg, .int .i64 fo] 23)) 1 (w.alloc (.cells #[.string M.gEight, .int .i64 tg, .int .i64 fo] 23)) := Keeps.of1 w _
    go_region_held3 (fun w' => ∀ p q, p < w.heap.size + 1 → w'.cell? ⟨p, q, none⟩ = (w.alloc (.cells #[.string M.gEight, .int .i64 tg, .int .i64 fo] 23)).cell? ⟨p, q, none⟩) (first | exact K0.cell | exact K1.cell | exact (K1.alloc _).cell) (first | (go_at_call 86; refine (within_any _ _ _ _).mono ?_; rintro e w99 ⟨rfl, rfl⟩) | (go_at_call 91; refine (checkFouls_any ⟨M.gEight, tg, fo⟩ _).mono ?_; rintro e w1 ⟨rfl, hb1⟩; have K1 := K0.drew.call hb1) | (go_at_call 85; refine (first_any (fun _ => True) _ _ [wi tg 0 0, wh (!decide (fo = 0) && M.out fo 2 9) 3] _ (RdI.lit _ _ [wi tg 0 0, wh (!decide (fo = 0) && M.out fo 2 9) 3] (by simp) _ trivial)).mono ?_; rintro e w99 ⟨rfl, rfl⟩))
    go_wp2
    go_ret
    exact ⟨rfl, (K1.alloc _).bw⟩
  · go_enter Tryz.func39, Tryz.ntmps39
    go_wp2
    have K0 : Keeps w (w.alloc (.cells #[.string M.gNine, .int .i64 tg, .int .i64 fo] 23)) 1 (w.alloc (.cells #[.string M.gNine, .int .i64 tg, .int .i64 fo] 23)) := Keeps.of1 w _
    go_region_held3 (fun w' => ∀ p q, p < w.heap.size + 1 → w'.cell? ⟨p, q, none⟩ = (w.alloc (.cells #[.string M.gNine, .int .i64 tg, .int .i64 fo] 23)).cell? ⟨p, q, none⟩) (first | exact K0.cell | exact K1.cell | exact (K1.alloc _).cell) (first | (go_at_call 86; refine (within_any _ _ _ _).mono ?_; rintro e w99 ⟨rfl, rfl⟩) | (go_at_call 91; refine (checkFouls_any ⟨M.gNine, tg, fo⟩ _).mono ?_; rintro e w1 ⟨rfl, hb1⟩; have K1 := K0.drew.call hb1) | (go_at_call 85; refine (first_any (fun _ => True) _ _ [wi tg 0 0, wh (!decide (fo = 0) && M.out fo 2 9) 3] _ (RdI.lit _ _ [wi tg 0 0, wh (!decide (fo = 0) && M.out fo 2 9) 3] (by simp) _ trivial)).mono ?_; rintro e w99 ⟨rfl, rfl⟩))
    go_wp2
    go_ret
    exact ⟨rfl, (K1.alloc _).bw⟩
  · have hn : ¬ (g = M.gStraight) ∧ ¬ (g = M.gEight ∨ g = M.gNine) := by refine ⟨fun e => ?_, fun e => ?_⟩ <;> (have : M.isGame g = true := by (unfold M.isGame; simp [e])) <;> rw [hk] at this <;> cases this
    rw [if_neg hn.1, if_neg hn.2]
    clear hn
    have h0' : (g.toList == [115, 116, 114, 97, 105, 103, 104, 116]) = false := beq_eq_false_iff_ne.2 h0
    have h1' : (g.toList == [101, 105, 103, 104, 116]) = false := beq_eq_false_iff_ne.2 h1
    have h2' : (g.toList == [110, 105, 110, 101]) = false := beq_eq_false_iff_ne.2 h2
    go_enter Tryz.func39, Tryz.ntmps39
    go_wp2
    go_ret
    exact ⟨rfl, (Below.refl _ _).alloc (Nat.le_refl _) _⟩
theorem ckShot_head (x : M.Shot) : M.ckShot x = if M.ckHead x ≠ 0 then M.ckHead x else if M.ckPots [] x.pots ≠ 0 then M.ckPots [] x.pots else M.ckTail x := rfl
theorem ibeq (a b : Int) : (a == b) = decide (a = b) := by by_cases h : a = b <;> simp [h]
theorem ckHead_first (pl ba po fi : Int) (kd : ByteArray) (cu : Bool) (pots : List M.Pot) (b1 b2 b3 : Bool) (h1 : b1 = !M.isKind kd) (h2 : b2 = decide (decide (ba = 0) ≠ decide (po = 0))) (h3 : b3 = decide (16 < pots.length)) :
    firstOf [wi pl 0 1, wh b1 13, wi ba 0 15, wi po 0 6, wi fi 0 15, wh b2 2, wh b3 5] = M.ckHead ⟨pl, kd, ba, po, fi, cu, pots⟩ := by
  subst h1 h2 h3
  unfold M.ckHead
  simp only [wi, wh, firstOf]
  by_cases h1 : M.out pl 0 1 = true
  · simp [h1]
  by_cases h2 : M.isKind kd = true
  · by_cases h3 : M.out ba 0 15 = true
    · simp [h1, h2, h3]
    by_cases h4 : M.out po 0 6 = true
    · simp [h1, h2, h3, h4]
    by_cases h4' : M.out fi 0 15 = true
    · simp [h1, h2, h3, h4, h4']
    by_cases h5 : (ba = 0 ↔ po = 0) <;> by_cases h7 : 16 < pots.length <;> simp [h1, h2, h3, h4, h4', h5, h7]
  · simp [h1, h2]
theorem ckPots_first {l : List M.Pot} {k : Nat} (hk : k < l.length) : M.ckPots (l.take k) (l.drop k) =
    if firstOf [wi l[k].ball 0 15, wi l[k].pocket 1 6, wh ((l.take k).any fun o => decide (o.ball = l[k].ball)) 9] ≠ 0 then firstOf [wi l[k].ball 0 15, wi l[k].pocket 1 6, wh ((l.take k).any fun o => decide (o.ball = l[k].ball)) 9] else M.ckPots (l.take (k + 1)) (l.drop (k + 1)) := by
  rw [ckPots_step hk]
  have hm : (l[k].ball ∈ (l.take k).map (·.ball)) ↔ ((l.take k).any fun o => decide (o.ball = l[k].ball)) = true := by
    rw [List.mem_map, List.any_eq_true]; simp only [decide_eq_true_eq]
  simp only [wi, wh, firstOf, hm]
  by_cases h1 : M.out l[k].ball 0 15 = true
  · simp [h1]
  by_cases h2 : M.out l[k].pocket 1 6 = true
  · simp [h1, h2]
  by_cases h3 : ((l.take k).any fun o => decide (o.ball = l[k].ball)) = true
  · simp [h1, h2, h3]
  · simp [h1, h2, h3]
theorem twice_tells (B : Nat) (b : Int) (w : World) (hB : B < w.heap.size) (hc : w.cell? ⟨B, 0, none⟩ = some (.int .i64 b)) : Tells 89 #[.pointer (some ⟨B, 0, none⟩)] potV (fun o => decide (o.ball = b)) w := by
  refine ⟨enters_of Tryz.func89 (by kernel_rfl) rfl, fun W x hb => ?_⟩
  have hc1 := (hb.cell (p := ⟨B, 0, none⟩) hB).trans hc
  have hlt : B < W.heap.size := Nat.lt_of_lt_of_le hB hb.size
  obtain ⟨xb, xp⟩ := x
  clear hc
  go_enter Tryz.func89, Tryz.ntmps89
  go_wp2
  go_ret
  exact ⟨ret_bool (by by_cases h : xb = b <;> simp [h]), hb.alloc hb.size _⟩
end Go.Proofs.YtelpepbpdojikaaGreatDoor
