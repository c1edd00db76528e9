/- Parts of the proofs about chapter 5 (pool), joined by program. -/
import Derived.Test.YtelpepbpdojikaaGreatDoorKe2
import Derived.Test.YtelpepbpdojikaaGreatDoorKe4
import Derived.Test.YtelpepbpdojikaaGreatDoorKe13
set_option linter.unusedVariables false
set_option linter.unusedSimpArgs false
namespace Go.Proofs.YtelpepbpdojikaaGreatDoor
open Go.RowKit
def shotEq (x y : M.Shot) : Bool := x.player = y.player ∧ x.kind = y.kind ∧ x.ball = y.ball ∧ x.pocket = y.pocket ∧ x.first = y.first ∧ x.cushion = y.cushion ∧ x.pots = y.pots
theorem shotEq_iff {x y : M.Shot} : shotEq x y = true ↔ x = y := by
  unfold shotEq
  rw [decide_eq_true_eq]
  constructor
  · rintro ⟨h1, h2, h3, h4, h5, h6, h7⟩
    cases x; cases y
    simp only at h1 h2 h3 h4 h5 h6 h7
    subst h1 h2 h3 h4 h5 h6 h7
    rfl
  · rintro rfl; simp
theorem shotEq_no {x y : M.Shot} (h : ¬ x = y) : shotEq x y = false := by
  cases he : shotEq x y with
  | false => rfl
  | true => exact absurd (shotEq_iff.1 he) h
theorem pots_take {xs ys : List M.Pot} {k : Nat} (hx : k < xs.length) (hy : k < ys.length) (h : xs.take k = ys.take k) (e : xs[k] = ys[k]) : xs.take (k + 1) = ys.take (k + 1) := by
  rw [List.take_succ_eq_append_getElem hx, List.take_succ_eq_append_getElem hy, h, e]
theorem pots_ne {xs ys : List M.Pot} {k : Nat} (hx : k < xs.length) (hy : k < ys.length) (e : xs[k] ≠ ys[k]) : xs ≠ ys := by
  rintro rfl; exact e rfl
set_option maxRecDepth 100000 in
set_option maxHeartbeats 1600000 in
theorem sameShot_any (S S' : Nat → Prop) (x y : M.Shot) (P Q : Option Addr) (d e : Nat) (w : World) (hp : RdP w S P d x.pots) (hq : RdP w S' Q e y.pots) :
    Calls Tryz.prog 33 #[shotV x P d, shotV y Q e] w fun e w' => e = .returned (.bool (shotEq x y)) ∧ Below w.heap.size w w' := by
  obtain ⟨b1, b2, b3⟩ := hp.bd
  obtain ⟨c1, c2, c3⟩ := hq.bd
  obtain ⟨xp, xk, xb, xo, xf, xc, xl⟩ := x
  obtain ⟨yp, yk, yb, yo, yf, yc, yl⟩ := y
  simp only at hp hq b1 b3 c1 c3
  by_cases h0 : xp = yp
  rotate_left
  · have hb0 : (xp != yp) = true := by first | (simp [h0]; done) | (rw [Bool.eq_iff_iff]; simp [h0]; done) | (rw [← beq_toListBytes]; exact bytes_ne h0) | (simp; omega)
    have HN := hide h0
    clear h0
    have hr : shotEq ⟨xp, xk, xb, xo, xf, xc, xl⟩ ⟨yp, yk, yb, yo, yf, yc, yl⟩ = false := shotEq_no (fun e => HN.out (by injection e with e0 e1 e2 e3 e4 e5 e6 <;> first | assumption | (rw [e6])))
    rw [hr]
    clear hr
    go_enter Tryz.func33, Tryz.ntmps33
    have hB := ((Blks.nil w).new (by simp) (shCells ⟨⟨xp, xk, xb, xo, xf, xc, xl⟩, P, d⟩) 69).new (by simp) (shCells ⟨⟨yp, yk, yb, yo, yf, yc, yl⟩, Q, e⟩) 69
    have k0 := (hB.get0 rfl).cell (j := 0) rfl
    have m0 := (hB.get 1 rfl).cell (j := 0) rfl
    go_wp2
    go_ret
    exact ⟨rfl, hB.bw⟩
  subst h0
  by_cases h1 : xk = yk
  rotate_left
  · have hb1 : (xk.toList == yk.toList) = false := by first | (simp [h1]; done) | (rw [Bool.eq_iff_iff]; simp [h1]; done) | (rw [← beq_toListBytes]; exact bytes_ne h1) | (simp; omega)
    have HN := hide h1
    clear h1
    have hr : shotEq ⟨xp, xk, xb, xo, xf, xc, xl⟩ ⟨xp, yk, yb, yo, yf, yc, yl⟩ = false := shotEq_no (fun e => HN.out (by injection e with e0 e1 e2 e3 e4 e5 e6 <;> first | assumption | (rw [e6])))
    rw [hr]
    clear hr
    go_enter Tryz.func33, Tryz.ntmps33
    have hB := ((Blks.nil w).new (by simp) (shCells ⟨⟨xp, xk, xb, xo, xf, xc, xl⟩, P, d⟩) 69).new (by simp) (shCells ⟨⟨xp, yk, yb, yo, yf, yc, yl⟩, Q, e⟩) 69
    have k0 := (hB.get0 rfl).cell (j := 0) rfl
    have m0 := (hB.get 1 rfl).cell (j := 0) rfl
    have k1 := (hB.get0 rfl).cell (j := 1) rfl
    have m1 := (hB.get 1 rfl).cell (j := 1) rfl
    go_wp2
    go_ret
    exact ⟨rfl, hB.bw⟩
  subst h1
  by_cases h2 : xb = yb
  rotate_left
  · have hb2 : (xb != yb) = true := by first | (simp [h2]; done) | (rw [Bool.eq_iff_iff]; simp [h2]; done) | (rw [← beq_toListBytes]; exact bytes_ne h2) | (simp; omega)
    have HN := hide h2
    clear h2
    have hr : shotEq ⟨xp, xk, xb, xo, xf, xc, xl⟩ ⟨xp, xk, yb, yo, yf, yc, yl⟩ = false := shotEq_no (fun e => HN.out (by injection e with e0 e1 e2 e3 e4 e5 e6 <;> first | assumption | (rw [e6])))
    rw [hr]
    clear hr
    go_enter Tryz.func33, Tryz.ntmps33
    have hB := ((Blks.nil w).new (by simp) (shCells ⟨⟨xp, xk, xb, xo, xf, xc, xl⟩, P, d⟩) 69).new (by simp) (shCells ⟨⟨xp, xk, yb, yo, yf, yc, yl⟩, Q, e⟩) 69
    have k0 := (hB.get0 rfl).cell (j := 0) rfl
    have m0 := (hB.get 1 rfl).cell (j := 0) rfl
    have k1 := (hB.get0 rfl).cell (j := 1) rfl
    have m1 := (hB.get 1 rfl).cell (j := 1) rfl
    have k2 := (hB.get0 rfl).cell (j := 2) rfl
    have m2 := (hB.get 1 rfl).cell (j := 2) rfl
    go_wp2
    go_ret
    exact ⟨rfl, hB.bw⟩
  subst h2
  by_cases h3 : xo = yo
  rotate_left
  · have hb3 : (xo != yo) = true := by first | (simp [h3]; done) | (rw [Bool.eq_iff_iff]; simp [h3]; done) | (rw [← beq_toListBytes]; exact bytes_ne h3) | (simp; omega)
    have HN := hide h3
    clear h3
    have hr : shotEq ⟨xp, xk, xb, xo, xf, xc, xl⟩ ⟨xp, xk, xb, yo, yf, yc, yl⟩ = false := shotEq_no (fun e => HN.out (by injection e with e0 e1 e2 e3 e4 e5 e6 <;> first | assumption | (rw [e6])))
    rw [hr]
    clear hr
    go_enter Tryz.func33, Tryz.ntmps33
    have hB := ((Blks.nil w).new (by simp) (shCells ⟨⟨xp, xk, xb, xo, xf, xc, xl⟩, P, d⟩) 69).new (by simp) (shCells ⟨⟨xp, xk, xb, yo, yf, yc, yl⟩, Q, e⟩) 69
    have k0 := (hB.get0 rfl).cell (j := 0) rfl
    have m0 := (hB.get 1 rfl).cell (j := 0) rfl
    have k1 := (hB.get0 rfl).cell (j := 1) rfl
    have m1 := (hB.get 1 rfl).cell (j := 1) rfl
    have k2 := (hB.get0 rfl).cell (j := 2) rfl
    have m2 := (hB.get 1 rfl).cell (j := 2) rfl
    have k3 := (hB.get0 rfl).cell (j := 3) rfl
    have m3 := (hB.get 1 rfl).cell (j := 3) rfl
    go_wp2
    go_ret
    exact ⟨rfl, hB.bw⟩
  subst h3
  by_cases h4 : xf = yf
  rotate_left
  · have hb4 : (xf != yf) = true := by first | (simp [h4]; done) | (rw [Bool.eq_iff_iff]; simp [h4]; done) | (rw [← beq_toListBytes]; exact bytes_ne h4) | (simp; omega)
    have HN := hide h4
    clear h4
    have hr : shotEq ⟨xp, xk, xb, xo, xf, xc, xl⟩ ⟨xp, xk, xb, xo, yf, yc, yl⟩ = false := shotEq_no (fun e => HN.out (by injection e with e0 e1 e2 e3 e4 e5 e6 <;> first | assumption | (rw [e6])))
    rw [hr]
    clear hr
    go_enter Tryz.func33, Tryz.ntmps33
    have hB := ((Blks.nil w).new (by simp) (shCells ⟨⟨xp, xk, xb, xo, xf, xc, xl⟩, P, d⟩) 69).new (by simp) (shCells ⟨⟨xp, xk, xb, xo, yf, yc, yl⟩, Q, e⟩) 69
    have k0 := (hB.get0 rfl).cell (j := 0) rfl
    have m0 := (hB.get 1 rfl).cell (j := 0) rfl
    have k1 := (hB.get0 rfl).cell (j := 1) rfl
    have m1 := (hB.get 1 rfl).cell (j := 1) rfl
    have k2 := (hB.get0 rfl).cell (j := 2) rfl
    have m2 := (hB.get 1 rfl).cell (j := 2) rfl
    have k3 := (hB.get0 rfl).cell (j := 3) rfl
    have m3 := (hB.get 1 rfl).cell (j := 3) rfl
    have k4 := (hB.get0 rfl).cell (j := 4) rfl
    have m4 := (hB.get 1 rfl).cell (j := 4) rfl
    go_wp2
    go_ret
    exact ⟨rfl, hB.bw⟩
  subst h4
  by_cases h5 : xc = yc
  rotate_left
  · have hb5 : (xc != yc) = true := by first | (simp [h5]; done) | (rw [Bool.eq_iff_iff]; simp [h5]; done) | (rw [← beq_toListBytes]; exact bytes_ne h5) | (simp; omega)
    have HN := hide h5
    clear h5
    have hr : shotEq ⟨xp, xk, xb, xo, xf, xc, xl⟩ ⟨xp, xk, xb, xo, xf, yc, yl⟩ = false := shotEq_no (fun e => HN.out (by injection e with e0 e1 e2 e3 e4 e5 e6 <;> first | assumption | (rw [e6])))
    rw [hr]
    clear hr
    go_enter Tryz.func33, Tryz.ntmps33
    have hB := ((Blks.nil w).new (by simp) (shCells ⟨⟨xp, xk, xb, xo, xf, xc, xl⟩, P, d⟩) 69).new (by simp) (shCells ⟨⟨xp, xk, xb, xo, xf, yc, yl⟩, Q, e⟩) 69
    have k0 := (hB.get0 rfl).cell (j := 0) rfl
    have m0 := (hB.get 1 rfl).cell (j := 0) rfl
    have k1 := (hB.get0 rfl).cell (j := 1) rfl
    have m1 := (hB.get 1 rfl).cell (j := 1) rfl
    have k2 := (hB.get0 rfl).cell (j := 2) rfl
    have m2 := (hB.get 1 rfl).cell (j := 2) rfl
    have k3 := (hB.get0 rfl).cell (j := 3) rfl
    have m3 := (hB.get 1 rfl).cell (j := 3) rfl
    have k4 := (hB.get0 rfl).cell (j := 4) rfl
    have m4 := (hB.get 1 rfl).cell (j := 4) rfl
    have k5 := (hB.get0 rfl).cell (j := 5) rfl
    have m5 := (hB.get 1 rfl).cell (j := 5) rfl
    go_wp2
    go_ret
    exact ⟨rfl, hB.bw⟩
  subst h5
  by_cases h6 : xl.length = yl.length
  rotate_left
  · have hb6 : ((xl.length : Int) != (yl.length : Int)) = true := by first | (simp [h6]; done) | (rw [Bool.eq_iff_iff]; simp [h6]; done) | (rw [← beq_toListBytes]; exact bytes_ne h6) | (simp; omega)
    have HN := hide h6
    clear h6
    have hr : shotEq ⟨xp, xk, xb, xo, xf, xc, xl⟩ ⟨xp, xk, xb, xo, xf, xc, yl⟩ = false := shotEq_no (fun e => HN.out (by injection e with e0 e1 e2 e3 e4 e5 e6 <;> first | assumption | (rw [e6])))
    rw [hr]
    clear hr
    go_enter Tryz.func33, Tryz.ntmps33
    have hB := ((Blks.nil w).new (by simp) (shCells ⟨⟨xp, xk, xb, xo, xf, xc, xl⟩, P, d⟩) 69).new (by simp) (shCells ⟨⟨xp, xk, xb, xo, xf, xc, yl⟩, Q, e⟩) 69
    have k0 := (hB.get0 rfl).cell (j := 0) rfl
    have m0 := (hB.get 1 rfl).cell (j := 0) rfl
    have k1 := (hB.get0 rfl).cell (j := 1) rfl
    have m1 := (hB.get 1 rfl).cell (j := 1) rfl
    have k2 := (hB.get0 rfl).cell (j := 2) rfl
    have m2 := (hB.get 1 rfl).cell (j := 2) rfl
    have k3 := (hB.get0 rfl).cell (j := 3) rfl
    have m3 := (hB.get 1 rfl).cell (j := 3) rfl
    have k4 := (hB.get0 rfl).cell (j := 4) rfl
    have m4 := (hB.get 1 rfl).cell (j := 4) rfl
    have k5 := (hB.get0 rfl).cell (j := 5) rfl
    have m5 := (hB.get 1 rfl).cell (j := 5) rfl
    have k6 := (hB.get0 rfl).cell (j := 6) rfl
    have m6 := (hB.get 1 rfl).cell (j := 6) rfl
    go_wp2
    go_ret
    exact ⟨rfl, hB.bw⟩
  have hb6 : ((xl.length : Int) != (yl.length : Int)) = false := by simp [h6]
  have H6 := hide h6
  clear h6
  obtain ⟨rr, hrr⟩ : ∃ b, shotEq ⟨xp, xk, xb, xo, xf, xc, xl⟩ ⟨xp, xk, xb, xo, xf, xc, yl⟩ = b := ⟨_, rfl⟩
  rw [hrr]
  have HRR := hide hrr
  clear hrr
  go_enter Tryz.func33, Tryz.ntmps33
  have hB := ((Blks.nil w).new (by simp) (shCells ⟨⟨xp, xk, xb, xo, xf, xc, xl⟩, P, d⟩) 69).new (by simp) (shCells ⟨⟨xp, xk, xb, xo, xf, xc, yl⟩, Q, e⟩) 69
  have k0 := (hB.get0 rfl).cell (j := 0) rfl
  have m0 := (hB.get 1 rfl).cell (j := 0) rfl
  have k1 := (hB.get0 rfl).cell (j := 1) rfl
  have m1 := (hB.get 1 rfl).cell (j := 1) rfl
  have k2 := (hB.get0 rfl).cell (j := 2) rfl
  have m2 := (hB.get 1 rfl).cell (j := 2) rfl
  have k3 := (hB.get0 rfl).cell (j := 3) rfl
  have m3 := (hB.get 1 rfl).cell (j := 3) rfl
  have k4 := (hB.get0 rfl).cell (j := 4) rfl
  have m4 := (hB.get 1 rfl).cell (j := 4) rfl
  have k5 := (hB.get0 rfl).cell (j := 5) rfl
  have m5 := (hB.get 1 rfl).cell (j := 5) rfl
  have k6 := (hB.get0 rfl).cell (j := 6) rfl
  have m6 := (hB.get 1 rfl).cell (j := 6) rfl
  go_wp2
  go_loopw [5] (fun i wr => ∃ k : Nat, k ≤ xl.length ∧ i = .int .i64 k ∧ xl.take k = yl.take k ∧ Blks w wr [(shCells ⟨⟨xp, xk, xb, xo, xf, xc, xl⟩, P, d⟩, 69), (shCells ⟨⟨xp, xk, xb, xo, xf, xc, yl⟩, Q, e⟩, 69)]) (fun i _ => xl.length - (intOf i).toNat)
  case atStart => exact ⟨0, Nat.zero_le _, rfl, by simp, hB⟩
  case round =>
    obtain ⟨k, hk, rfl, hx1, hB⟩ := hrel
    have k6 := (hB.get0 rfl).cell (j := 6) rfl
    have m6 := (hB.get 1 rfl).cell (j := 6) rfl
    by_cases hlt : k < xl.length
    · have hlt2 : k < yl.length := by have := H6.out; omega
      obtain ⟨b, o, rfl, hS, hb, hc⟩ := (hp.below hB.bw).at_ k hlt
      obtain ⟨r1, r2⟩ := hc k hlt
      obtain ⟨b', o', rfl, hS', hb', hc'⟩ := (hq.below hB.bw).at_ k hlt2
      obtain ⟨r3, r4⟩ := hc' k hlt2
      clear hc hc'
      have i1 : (0 : Int) ≤ (k : Int) := by omega
      have i2 : (k : Int) < (xl.length : Int) := by omega
      have i3 : (k : Int) < (yl.length : Int) := by omega
      by_cases he : xl[k] = yl[k]
      · have he1 : (xl[k].ball == yl[k].ball) = true := by simp [he]
        have he2 : (xl[k].pocket == yl[k].pocket) = true := by simp [he]
        have HX := hide (pots_take hlt hlt2 hx1 he)
        clear he hx1
        go_wp2
        go_quiet (fail)
        go_wp2
        go_roundw
        case rel => exact ⟨k + 1, by omega, by go_num, HX.out, hB.drewN _⟩
        case measure => simp [intOf]; omega
      · have he' : ((xl[k].ball == yl[k].ball) && (xl[k].pocket == yl[k].pocket)) = false := by
          rw [Bool.eq_false_iff]; intro hb; simp at hb
          exact he (by cases h1 : xl[k]; cases h2 : yl[k]; rw [h1, h2] at hb; simp only at hb; rw [hb.1, hb.2])
        have hr : rr = false := by
          rw [← HRR.out]
          exact shotEq_no (fun e => by injection e with e0 e1 e2 e3 e4 e5 e6; exact pots_ne hlt hlt2 he e6)
        subst hr
        clear he
        rcases hb1 : (xl[k].ball == yl[k].ball) with _ | _ <;> rcases hb2 : (xl[k].pocket == yl[k].pocket) with _ | _ <;> rw [hb1, hb2] at he'
        all_goals first | (cases he'; done) | skip
        all_goals
          clear he'
          go_wp2
          go_quiet (fail)
          go_wp2
          go_ret
          exact ⟨rfl, below_drewN hB.bw _⟩
    · have hke : k = xl.length := by omega
      subst hke
      have he : xl = yl := by
        have h6 := H6.out
        rwa [List.take_of_length_le (Nat.le_refl _), List.take_of_length_le (by omega)] at hx1
      have hr : rr = true := by
        rw [← HRR.out]
        unfold shotEq
        rw [decide_eq_true_eq]
        exact ⟨rfl, rfl, rfl, rfl, rfl, rfl, he⟩
      subst hr
      clear he
      go_wp2
      go_ret
      exact ⟨rfl, hB.bw⟩
end Go.Proofs.YtelpepbpdojikaaGreatDoor
