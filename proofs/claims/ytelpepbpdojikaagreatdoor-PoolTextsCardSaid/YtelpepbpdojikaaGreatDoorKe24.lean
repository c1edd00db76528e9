/- Parts of the proofs about chapter 5 (pool), joined by program. -/
import Derived.Test.YtelpepbpdojikaaGreatDoorKe11
import Derived.Test.YtelpepbpdojikaaGreatDoorKe13
import Derived.Test.YtelpepbpdojikaaGreatDoorKe20
set_option linter.unusedVariables false
set_option linter.unusedSimpArgs false
namespace Go.Proofs.YtelpepbpdojikaaGreatDoor
open Go.RowKit
set_option maxRecDepth 100000 in
set_option maxHeartbeats 800000 in
theorem calm_any (S : Nat → Prop) (r : M.Rules) (s : M.State) (x : M.Shot) (A P : Option Addr) (c d : Nat) (w : World) (hp : RdI w S A c s.balls) :
    Calls Tryz.prog 142 #[frameV r s A c, shotV x P d] w fun e w' => ∃ A' c', e = .returned (frameV r (M.calm r s x) A' c') ∧ RdI w' (fun b => w.heap.size ≤ b) A' c' s.balls ∧ Below w.heap.size w w' := by
  have hS2 : M.calm r s x = { s with brk := false, hand := false, push := (r.game.toList == [110, 105, 110, 101]) && (x.kind.toList == [98, 114, 101, 97, 107]), pushed := (x.kind.toList == [112, 117, 115, 104]) } := by
    unfold M.calm
    have e1 : (r.game.toList == [110, 105, 110, 101]) = decide (r.game = M.gNine) := toList_beq r.game [110, 105, 110, 101]
    have e2 : (x.kind.toList == [98, 114, 101, 97, 107]) = decide (x.kind = M.kBreak) := toList_beq x.kind [98, 114, 101, 97, 107]
    have e3 : (x.kind.toList == [112, 117, 115, 104]) = decide (x.kind = M.kPush) := toList_beq x.kind [112, 117, 115, 104]
    rw [e1, e2, e3]
    simp only [Bool.decide_and]
  go_enter Tryz.func142, Tryz.ntmps142
  go_upto_region 1 with (fail)
  go_cut [2, 3, 4] (fun v2 v3 v4 wx => v2 = ptr w.heap.size ∧ v3 = ptr (w.heap.size + 1) ∧ v4 = ptr (w.heap.size + 2) ∧ Blks w wx [(frameCells r ({ s with brk := false, hand := false }) A c, 127), (shCells ⟨x, P, d⟩, 66), (zeroFrame, 127)])
  case first =>
    go_wp2
    go_meet
    exact ⟨rfl, rfl, rfl, ((((Blks.nil w).new (by simp) (frameCells r ({ s with brk := false, hand := false }) A c) _).new (by simp) (shCells ⟨x, P, d⟩) _).new (by simp) (zeroFrame) _)⟩
  case rest =>
    obtain ⟨rfl, rfl, rfl, hB⟩ := hcut
    have hF := hB.get0 rfl
    have hX := hB.get 1 rfl
    have k0 := hF.cell (j := 0) rfl
    have kf0 := hF.frozen 0
    have k6 := hF.cell (j := 6) rfl
    have kf6 := hF.frozen 6
    have k7 := hF.cell (j := 7) rfl
    have kf7 := hF.frozen 7
    have x1 := hX.cell (j := 1) rfl
    have xf1 := hX.frozen 1
    go_upto_region 2 with (fail)
    go_cut [] (fun wx => Blks w wx [(frameCells r (M.calm r s x) A c, 127), (shCells ⟨x, P, d⟩, 66), (zeroFrame, 127)])
    case first =>
      obtain ⟨y1, hy1⟩ : ∃ y, (r.game.toList == [110, 105, 110, 101]) = y := ⟨_, rfl⟩
      obtain ⟨y2, hy2⟩ : ∃ y, (x.kind.toList == [98, 114, 101, 97, 107]) = y := ⟨_, rfl⟩
      obtain ⟨y3, hy3⟩ : ∃ y, (x.kind.toList == [112, 117, 115, 104]) = y := ⟨_, rfl⟩
      cases y1 with
      | true =>
        refine wp_region_held_drew (S := (fun w' : World => w'.cell? ⟨w.heap.size, 0, none⟩ = some (.string r.game) ∧ w'.cell? ⟨w.heap.size + 1, 1, none⟩ = some (.string x.kind))) (by kernel_rfl) ?q1xstart (fun hHeld => ?_)
        case q1xstart => first | exact ⟨(hB.get0 rfl).cell (j := 0) rfl, (hB.get 1 rfl).cell (j := 1) rfl⟩ | exact ⟨(hB.drew.get0 rfl).cell (j := 0) rfl, (hB.drew.get 1 rfl).cell (j := 1) rfl⟩ | exact ⟨((hB.set 0 rfl 6 _).drew.get0 rfl).cell (j := 0) rfl, ((hB.set 0 rfl 6 _).drew.get 1 rfl).cell (j := 1) rfl⟩ | exact ⟨(((hB.set 0 rfl 6 _).set 0 rfl 7 _).drew.get0 rfl).cell (j := 0) rfl, (((hB.set 0 rfl 6 _).set 0 rfl 7 _).drew.get 1 rfl).cell (j := 1) rfl⟩
        refine wpAnyH_take (i := 0) (oi := _) (v := ?q1xv0) (ga rfl) (by kernel_rfl) (by kernel_rfl) (by kernel_rfl) (fun _ _ _ h => h) (Or.inl ⟨by rfl, ?q1xy0⟩) (by assumption) ?_
        case q1xy0 => (intro w hSw; (try dsimp only at hSw); go_simp; try with_reducible rfl)
        try simp only [Act.put, la, lz, ls]
        refine wpAnyH_take (i := 1) (oi := _) (v := ?q1xv1) (ga rfl) (by kernel_rfl) (by kernel_rfl) (by kernel_rfl) (fun _ _ _ h => h) (Or.inl ⟨by rfl, ?q1xy1⟩) (by assumption) ?_
        case q1xy1 => (intro w hSw; (try dsimp only at hSw); go_simp; try with_reducible rfl)
        try simp only [Act.put, la, lz, ls]
        refine wpAnyH_take (i := 2) (oi := _) (v := ?q1xv2) (ga rfl) (by kernel_rfl) (by kernel_rfl) (by kernel_rfl) (fun _ _ _ h => h) (Or.inl ⟨by rfl, ?q1xy2⟩) (by assumption) ?_
        case q1xy2 => (intro w hSw; (try dsimp only at hSw); go_simp; try with_reducible rfl)
        try simp only [Act.put, la, lz, ls]
        refine wpAnyH_take (i := 3) (oi := _) (v := ?q1xv3) (ga rfl) (by kernel_rfl) (by kernel_rfl) (by kernel_rfl) (fun _ _ _ h => h) (Or.inl ⟨by rfl, ?q1xy3⟩) (by assumption) ?_
        case q1xy3 => (intro w hSw; (try dsimp only at hSw); go_simp; try with_reducible rfl)
        try simp only [Act.put, la, lz, ls]
        refine wpAnyH_take (i := 4) (oi := _) (v := ?q1xv4) (ga rfl) (by kernel_rfl) (by kernel_rfl) (by kernel_rfl) (fun _ _ _ h => h) (Or.inl ⟨by rfl, ?q1xy4⟩) (by assumption) ?_
        case q1xy4 => (intro w hSw; (try dsimp only at hSw); go_simp; try with_reducible rfl)
        try simp only [Act.put, la, lz, ls]
        refine wpAnyH_take (i := 5) (oi := _) (v := ?q1xv5) (ga rfl) (by kernel_rfl) (by kernel_rfl) (by kernel_rfl) (fun _ _ _ h => h) (Or.inl ⟨by rfl, ?q1xy5⟩) (by assumption) ?_
        case q1xy5 => (intro w hSw; (try dsimp only at hSw); go_simp; try with_reducible rfl)
        try simp only [Act.put, la, lz, ls]
        refine wpAnyH_take (i := 6) (oi := _) (v := ?q1xv6) (ga rfl) (by kernel_rfl) (by kernel_rfl) (by kernel_rfl) (fun _ _ _ h => h) (Or.inl ⟨by rfl, ?q1xy6⟩) (by assumption) ?_
        case q1xy6 => (intro w hSw; (try dsimp only at hSw); go_simp; try with_reducible rfl)
        try simp only [Act.put, la, lz, ls]
        refine wpAnyH_take (i := 7) (oi := _) (v := ?q1xv7) (ga rfl) (by kernel_rfl) (by kernel_rfl) (by kernel_rfl) (fun _ _ _ h => h) (Or.inl ⟨by rfl, ?q1xy7⟩) (by assumption) ?_
        case q1xy7 => (intro w hSw; (try dsimp only at hSw); go_simp; try with_reducible rfl)
        try simp only [Act.put, la, lz, ls]
        refine wpAnyH_take (i := 8) (oi := _) (v := ?q1xv8) (ga rfl) (by kernel_rfl) (by kernel_rfl) (by kernel_rfl) (fun _ _ _ h => h) (Or.inl ⟨by rfl, ?q1xy8⟩) (by assumption) ?_
        case q1xy8 => (intro w hSw; (try dsimp only at hSw); go_simp; try with_reducible rfl)
        try simp only [Act.put, la, lz, ls]
        refine wpAnyH_take (i := 9) (oi := _) (v := ?q1xv9) (ga rfl) (by kernel_rfl) (by kernel_rfl) (by kernel_rfl) (fun _ _ _ h => h) (Or.inl ⟨by rfl, ?q1xy9⟩) (by assumption) ?_
        case q1xy9 => (intro w hSw; (try dsimp only at hSw); go_simp; try with_reducible rfl)
        try simp only [Act.put, la, lz, ls]
        refine wpAnyH_take (i := 10) (oi := _) (v := ?q1xv10) (ga rfl) (by kernel_rfl) (by kernel_rfl) (by kernel_rfl) (fun _ _ _ h => h) (Or.inl ⟨by rfl, ?q1xy10⟩) (by assumption) ?_
        case q1xy10 => (intro w hSw; (try dsimp only at hSw); go_simp; try with_reducible rfl)
        try simp only [Act.put, la, lz, ls]
        refine wpAnyH_take (i := 11) (oi := _) (v := ?q1xv11) (ga rfl) (by kernel_rfl) (by kernel_rfl) (by kernel_rfl) (fun _ _ _ h => h) (Or.inl ⟨by rfl, ?q1xy11⟩) (by assumption) ?_
        case q1xy11 => (intro w hSw; (try dsimp only at hSw); go_simp; try with_reducible rfl)
        try simp only [Act.put, la, lz, ls]
        refine wpAnyH_take (i := 12) (oi := _) (v := ?q1xv12) (ga rfl) (by kernel_rfl) (by kernel_rfl) (by kernel_rfl) (fun _ _ _ h => h) (Or.inl ⟨by rfl, ?q1xy12⟩) (by assumption) ?_
        case q1xy12 => (intro w hSw; (try dsimp only at hSw); go_simp; try with_reducible rfl)
        try simp only [Act.put, la, lz, ls]
        refine wpAnyH_take (i := 13) (oi := _) (v := ?q1xv13) (ga rfl) (by kernel_rfl) (by kernel_rfl) (by kernel_rfl) (fun _ _ _ h => h) (Or.inl ⟨by rfl, ?q1xy13⟩) (by assumption) ?_
        case q1xy13 => (intro w hSw; (try dsimp only at hSw); go_simp; try with_reducible rfl)
        try simp only [Act.put, la, lz, ls]
        refine wpAnyH_ready (rs := [14]) (by kernel_rfl) (by simp) ?_
        refine AllReadyH.cons (o := _) (ga rfl) (fun K hK => ?_) AllReadyH.nil
        go_simp
        refine hK.out _ _ ?q1xh14 (fun hHeld => ?_)
        case q1xh14 => (first | (first | exact ⟨(hB.get0 rfl).cell (j := 0) rfl, (hB.get 1 rfl).cell (j := 1) rfl⟩ | exact ⟨(hB.drew.get0 rfl).cell (j := 0) rfl, (hB.drew.get 1 rfl).cell (j := 1) rfl⟩ | exact ⟨((hB.set 0 rfl 6 _).drew.get0 rfl).cell (j := 0) rfl, ((hB.set 0 rfl 6 _).drew.get 1 rfl).cell (j := 1) rfl⟩ | exact ⟨(((hB.set 0 rfl 6 _).set 0 rfl 7 _).drew.get0 rfl).cell (j := 0) rfl, (((hB.set 0 rfl 6 _).set 0 rfl 7 _).drew.get 1 rfl).cell (j := 1) rfl⟩) | (dsimp only; first | exact ⟨(hB.get0 rfl).cell (j := 0) rfl, (hB.get 1 rfl).cell (j := 1) rfl⟩ | exact ⟨(hB.drew.get0 rfl).cell (j := 0) rfl, (hB.drew.get 1 rfl).cell (j := 1) rfl⟩ | exact ⟨((hB.set 0 rfl 6 _).drew.get0 rfl).cell (j := 0) rfl, ((hB.set 0 rfl 6 _).drew.get 1 rfl).cell (j := 1) rfl⟩ | exact ⟨(((hB.set 0 rfl 6 _).set 0 rfl 7 _).drew.get0 rfl).cell (j := 0) rfl, (((hB.set 0 rfl 6 _).set 0 rfl 7 _).drew.get 1 rfl).cell (j := 1) rfl⟩))
        clear hK K
        try simp only [Act.put, la, lz, ls]
        refine wpAnyH_take (i := 15) (oi := _) (v := ?q1xv15) (ga rfl) (by kernel_rfl) (by kernel_rfl) (by kernel_rfl) (fun _ _ _ h => h) (Or.inl ⟨by rfl, ?q1xy15⟩) (by assumption) ?_
        case q1xy15 => (intro w hSw; (try dsimp only at hSw); go_simp; try with_reducible rfl)
        try simp only [Act.put, la, lz, ls]
        refine wpAnyH_take (i := 16) (oi := _) (v := ?q1xv16) (ga rfl) (by kernel_rfl) (by kernel_rfl) (by kernel_rfl) (fun _ _ _ h => h) (Or.inl ⟨by rfl, ?q1xy16⟩) (by assumption) ?_
        case q1xy16 => (intro w hSw; (try dsimp only at hSw); go_simp; try with_reducible rfl)
        try simp only [Act.put, la, lz, ls]
        refine wpAnyH_ready (rs := [17]) (by kernel_rfl) (by simp) ?_
        refine AllReadyH.cons (o := _) (ga rfl) (fun K hK => ?_) AllReadyH.nil
        go_simp
        refine hK.out _ _ ?q1xh17 (fun hHeld => ?_)
        case q1xh17 => (first | (first | exact ⟨(hB.get0 rfl).cell (j := 0) rfl, (hB.get 1 rfl).cell (j := 1) rfl⟩ | exact ⟨(hB.drew.get0 rfl).cell (j := 0) rfl, (hB.drew.get 1 rfl).cell (j := 1) rfl⟩ | exact ⟨((hB.set 0 rfl 6 _).drew.get0 rfl).cell (j := 0) rfl, ((hB.set 0 rfl 6 _).drew.get 1 rfl).cell (j := 1) rfl⟩ | exact ⟨(((hB.set 0 rfl 6 _).set 0 rfl 7 _).drew.get0 rfl).cell (j := 0) rfl, (((hB.set 0 rfl 6 _).set 0 rfl 7 _).drew.get 1 rfl).cell (j := 1) rfl⟩) | (dsimp only; first | exact ⟨(hB.get0 rfl).cell (j := 0) rfl, (hB.get 1 rfl).cell (j := 1) rfl⟩ | exact ⟨(hB.drew.get0 rfl).cell (j := 0) rfl, (hB.drew.get 1 rfl).cell (j := 1) rfl⟩ | exact ⟨((hB.set 0 rfl 6 _).drew.get0 rfl).cell (j := 0) rfl, ((hB.set 0 rfl 6 _).drew.get 1 rfl).cell (j := 1) rfl⟩ | exact ⟨(((hB.set 0 rfl 6 _).set 0 rfl 7 _).drew.get0 rfl).cell (j := 0) rfl, (((hB.set 0 rfl 6 _).set 0 rfl 7 _).drew.get 1 rfl).cell (j := 1) rfl⟩))
        clear hK K
        try simp only [Act.put, la, lz, ls]
        refine wpAnyH_done (by kernel_rfl) ?_ _
        go_wp2
        go_meet
        rw [hS2, hy1, hy2, hy3]
        exact ((hB.set 0 rfl 6 _).set 0 rfl 7 _).drew
      | false =>
        refine wp_region_held_drew (S := (fun w' : World => w'.cell? ⟨w.heap.size, 0, none⟩ = some (.string r.game) ∧ w'.cell? ⟨w.heap.size + 1, 1, none⟩ = some (.string x.kind))) (by kernel_rfl) ?q2xstart (fun hHeld => ?_)
        case q2xstart => first | exact ⟨(hB.get0 rfl).cell (j := 0) rfl, (hB.get 1 rfl).cell (j := 1) rfl⟩ | exact ⟨(hB.drew.get0 rfl).cell (j := 0) rfl, (hB.drew.get 1 rfl).cell (j := 1) rfl⟩ | exact ⟨((hB.set 0 rfl 6 _).drew.get0 rfl).cell (j := 0) rfl, ((hB.set 0 rfl 6 _).drew.get 1 rfl).cell (j := 1) rfl⟩ | exact ⟨(((hB.set 0 rfl 6 _).set 0 rfl 7 _).drew.get0 rfl).cell (j := 0) rfl, (((hB.set 0 rfl 6 _).set 0 rfl 7 _).drew.get 1 rfl).cell (j := 1) rfl⟩
        refine wpAnyH_take (i := 0) (oi := _) (v := ?q2xv0) (ga rfl) (by kernel_rfl) (by kernel_rfl) (by kernel_rfl) (fun _ _ _ h => h) (Or.inl ⟨by rfl, ?q2xy0⟩) (by assumption) ?_
        case q2xy0 => (intro w hSw; (try dsimp only at hSw); go_simp; try with_reducible rfl)
        try simp only [Act.put, la, lz, ls]
        refine wpAnyH_take (i := 1) (oi := _) (v := ?q2xv1) (ga rfl) (by kernel_rfl) (by kernel_rfl) (by kernel_rfl) (fun _ _ _ h => h) (Or.inl ⟨by rfl, ?q2xy1⟩) (by assumption) ?_
        case q2xy1 => (intro w hSw; (try dsimp only at hSw); go_simp; try with_reducible rfl)
        try simp only [Act.put, la, lz, ls]
        refine wpAnyH_take (i := 2) (oi := _) (v := ?q2xv2) (ga rfl) (by kernel_rfl) (by kernel_rfl) (by kernel_rfl) (fun _ _ _ h => h) (Or.inl ⟨by rfl, ?q2xy2⟩) (by assumption) ?_
        case q2xy2 => (intro w hSw; (try dsimp only at hSw); go_simp; try with_reducible rfl)
        try simp only [Act.put, la, lz, ls]
        refine wpAnyH_take (i := 3) (oi := _) (v := ?q2xv3) (ga rfl) (by kernel_rfl) (by kernel_rfl) (by kernel_rfl) (fun _ _ _ h => h) (Or.inl ⟨by rfl, ?q2xy3⟩) (by assumption) ?_
        case q2xy3 => (intro w hSw; (try dsimp only at hSw); go_simp; try with_reducible rfl)
        try simp only [Act.put, la, lz, ls]
        refine wpAnyH_take (i := 4) (oi := _) (v := ?q2xv4) (ga rfl) (by kernel_rfl) (by kernel_rfl) (by kernel_rfl) (fun _ _ _ h => h) (Or.inl ⟨by rfl, ?q2xy4⟩) (by assumption) ?_
        case q2xy4 => (intro w hSw; (try dsimp only at hSw); go_simp; try with_reducible rfl)
        try simp only [Act.put, la, lz, ls]
        refine wpAnyH_take (i := 5) (oi := _) (v := undef) (ga rfl) (by kernel_rfl) (by kernel_rfl) (by kernel_rfl) (fun _ _ _ h => h) (Or.inr ⟨by rfl, rfl⟩) (by assumption) ?_
        try simp only [Act.put, la, lz, ls]
        refine wpAnyH_take (i := 6) (oi := _) (v := undef) (ga rfl) (by kernel_rfl) (by kernel_rfl) (by kernel_rfl) (fun _ _ _ h => h) (Or.inr ⟨by rfl, rfl⟩) (by assumption) ?_
        try simp only [Act.put, la, lz, ls]
        refine wpAnyH_take (i := 7) (oi := _) (v := undef) (ga rfl) (by kernel_rfl) (by kernel_rfl) (by kernel_rfl) (fun _ _ _ h => h) (Or.inr ⟨by rfl, rfl⟩) (by assumption) ?_
        try simp only [Act.put, la, lz, ls]
        refine wpAnyH_take (i := 8) (oi := _) (v := ?q2xv8) (ga rfl) (by kernel_rfl) (by kernel_rfl) (by kernel_rfl) (fun _ _ _ h => h) (Or.inl ⟨by rfl, ?q2xy8⟩) (by assumption) ?_
        case q2xy8 => (intro w hSw; (try dsimp only at hSw); go_simp; try with_reducible rfl)
        try simp only [Act.put, la, lz, ls]
        refine wpAnyH_take (i := 9) (oi := _) (v := ?q2xv9) (ga rfl) (by kernel_rfl) (by kernel_rfl) (by kernel_rfl) (fun _ _ _ h => h) (Or.inl ⟨by rfl, ?q2xy9⟩) (by assumption) ?_
        case q2xy9 => (intro w hSw; (try dsimp only at hSw); go_simp; try with_reducible rfl)
        try simp only [Act.put, la, lz, ls]
        refine wpAnyH_take (i := 10) (oi := _) (v := ?q2xv10) (ga rfl) (by kernel_rfl) (by kernel_rfl) (by kernel_rfl) (fun _ _ _ h => h) (Or.inl ⟨by rfl, ?q2xy10⟩) (by assumption) ?_
        case q2xy10 => (intro w hSw; (try dsimp only at hSw); go_simp; try with_reducible rfl)
        try simp only [Act.put, la, lz, ls]
        refine wpAnyH_take (i := 11) (oi := _) (v := ?q2xv11) (ga rfl) (by kernel_rfl) (by kernel_rfl) (by kernel_rfl) (fun _ _ _ h => h) (Or.inl ⟨by rfl, ?q2xy11⟩) (by assumption) ?_
        case q2xy11 => (intro w hSw; (try dsimp only at hSw); go_simp; try with_reducible rfl)
        try simp only [Act.put, la, lz, ls]
        refine wpAnyH_take (i := 12) (oi := _) (v := ?q2xv12) (ga rfl) (by kernel_rfl) (by kernel_rfl) (by kernel_rfl) (fun _ _ _ h => h) (Or.inl ⟨by rfl, ?q2xy12⟩) (by assumption) ?_
        case q2xy12 => (intro w hSw; (try dsimp only at hSw); go_simp; try with_reducible rfl)
        try simp only [Act.put, la, lz, ls]
        refine wpAnyH_take (i := 13) (oi := _) (v := ?q2xv13) (ga rfl) (by kernel_rfl) (by kernel_rfl) (by kernel_rfl) (fun _ _ _ h => h) (Or.inl ⟨by rfl, ?q2xy13⟩) (by assumption) ?_
        case q2xy13 => (intro w hSw; (try dsimp only at hSw); go_simp; try with_reducible rfl)
        try simp only [Act.put, la, lz, ls]
        refine wpAnyH_ready (rs := [14]) (by kernel_rfl) (by simp) ?_
        refine AllReadyH.cons (o := _) (ga rfl) (fun K hK => ?_) AllReadyH.nil
        go_simp
        refine hK.out _ _ ?q2xh14 (fun hHeld => ?_)
        case q2xh14 => (first | (first | exact ⟨(hB.get0 rfl).cell (j := 0) rfl, (hB.get 1 rfl).cell (j := 1) rfl⟩ | exact ⟨(hB.drew.get0 rfl).cell (j := 0) rfl, (hB.drew.get 1 rfl).cell (j := 1) rfl⟩ | exact ⟨((hB.set 0 rfl 6 _).drew.get0 rfl).cell (j := 0) rfl, ((hB.set 0 rfl 6 _).drew.get 1 rfl).cell (j := 1) rfl⟩ | exact ⟨(((hB.set 0 rfl 6 _).set 0 rfl 7 _).drew.get0 rfl).cell (j := 0) rfl, (((hB.set 0 rfl 6 _).set 0 rfl 7 _).drew.get 1 rfl).cell (j := 1) rfl⟩) | (dsimp only; first | exact ⟨(hB.get0 rfl).cell (j := 0) rfl, (hB.get 1 rfl).cell (j := 1) rfl⟩ | exact ⟨(hB.drew.get0 rfl).cell (j := 0) rfl, (hB.drew.get 1 rfl).cell (j := 1) rfl⟩ | exact ⟨((hB.set 0 rfl 6 _).drew.get0 rfl).cell (j := 0) rfl, ((hB.set 0 rfl 6 _).drew.get 1 rfl).cell (j := 1) rfl⟩ | exact ⟨(((hB.set 0 rfl 6 _).set 0 rfl 7 _).drew.get0 rfl).cell (j := 0) rfl, (((hB.set 0 rfl 6 _).set 0 rfl 7 _).drew.get 1 rfl).cell (j := 1) rfl⟩))
        clear hK K
        try simp only [Act.put, la, lz, ls]
        refine wpAnyH_take (i := 15) (oi := _) (v := ?q2xv15) (ga rfl) (by kernel_rfl) (by kernel_rfl) (by kernel_rfl) (fun _ _ _ h => h) (Or.inl ⟨by rfl, ?q2xy15⟩) (by assumption) ?_
        case q2xy15 => (intro w hSw; (try dsimp only at hSw); go_simp; try with_reducible rfl)
        try simp only [Act.put, la, lz, ls]
        refine wpAnyH_take (i := 16) (oi := _) (v := ?q2xv16) (ga rfl) (by kernel_rfl) (by kernel_rfl) (by kernel_rfl) (fun _ _ _ h => h) (Or.inl ⟨by rfl, ?q2xy16⟩) (by assumption) ?_
        case q2xy16 => (intro w hSw; (try dsimp only at hSw); go_simp; try with_reducible rfl)
        try simp only [Act.put, la, lz, ls]
        refine wpAnyH_ready (rs := [17]) (by kernel_rfl) (by simp) ?_
        refine AllReadyH.cons (o := _) (ga rfl) (fun K hK => ?_) AllReadyH.nil
        go_simp
        refine hK.out _ _ ?q2xh17 (fun hHeld => ?_)
        case q2xh17 => (first | (first | exact ⟨(hB.get0 rfl).cell (j := 0) rfl, (hB.get 1 rfl).cell (j := 1) rfl⟩ | exact ⟨(hB.drew.get0 rfl).cell (j := 0) rfl, (hB.drew.get 1 rfl).cell (j := 1) rfl⟩ | exact ⟨((hB.set 0 rfl 6 _).drew.get0 rfl).cell (j := 0) rfl, ((hB.set 0 rfl 6 _).drew.get 1 rfl).cell (j := 1) rfl⟩ | exact ⟨(((hB.set 0 rfl 6 _).set 0 rfl 7 _).drew.get0 rfl).cell (j := 0) rfl, (((hB.set 0 rfl 6 _).set 0 rfl 7 _).drew.get 1 rfl).cell (j := 1) rfl⟩) | (dsimp only; first | exact ⟨(hB.get0 rfl).cell (j := 0) rfl, (hB.get 1 rfl).cell (j := 1) rfl⟩ | exact ⟨(hB.drew.get0 rfl).cell (j := 0) rfl, (hB.drew.get 1 rfl).cell (j := 1) rfl⟩ | exact ⟨((hB.set 0 rfl 6 _).drew.get0 rfl).cell (j := 0) rfl, ((hB.set 0 rfl 6 _).drew.get 1 rfl).cell (j := 1) rfl⟩ | exact ⟨(((hB.set 0 rfl 6 _).set 0 rfl 7 _).drew.get0 rfl).cell (j := 0) rfl, (((hB.set 0 rfl 6 _).set 0 rfl 7 _).drew.get 1 rfl).cell (j := 1) rfl⟩))
        clear hK K
        try simp only [Act.put, la, lz, ls]
        refine wpAnyH_done (by kernel_rfl) ?_ _
        go_wp2
        go_meet
        rw [hS2, hy1, hy2, hy3]
        exact ((hB.set 0 rfl 6 _).set 0 rfl 7 _).drew
    case rest =>
      have hC := hcut
      clear hF hX k0 kf0 k6 kf6 k7 kf7 x1 xf1 hB hcut
      have hFC := hC.get0 rfl
      have k9 := hFC.cell (j := 9) rfl
      have kf9 := hFC.frozen 9
      go_wp2_with (first | (go_at_call 141; refine (clonedInt_any S A c s.balls _ (hp.below hC.bw)).mono ?_; rintro e w1 ⟨A1, c1, rfl, hr1, hb1⟩; have hD := hC.call (by simp) hb1; have hFD := hD.get0 rfl; have q9 := hFD.cell (j := 9) rfl; have qf9 := hFD.frozen 9; have hE : Blks w (w1.setCell ⟨w.heap.size, 9, none⟩ (.slice A1 s.balls.length c1)) [(frameCells r (M.calm r s x) A1 c1, 127), (shCells ⟨x, P, d⟩, 66), (zeroFrame, 127)] := (hD.set 0 rfl 9 _)) | (refine held_load (hE.get0 rfl) Tryz.underlying127 rfl frame_info rfl (.tmp 2) rfl rfl ?_) | (refine held_store (hE.get 2 rfl) (frameCells r (M.calm r s x) A1 c1) rfl frame_info (frame_one _ _ _ _) rfl (.tmp 4) (.tmp 31) rfl rfl rfl ?_))
      have hZ := hE.put 2 rfl (frameCells r (M.calm r s x) A1 c1) rfl
      refine bodyPost_ret (held_ret (p := 4) (hZ.get 2 rfl) Tryz.underlying127 rfl frame_info rfl _ rfl) rfl ⟨A1, c1, rfl, ?_, hZ.bw⟩
      have hsz := hC.size (by simp)
      simp only [List.length_cons, List.length_nil] at hsz
      exact (hr1.above (D := w.heap.size + 3) (fun b h => Nat.le_trans hsz h) (Above.setCells (by omega) _ _ _ ((Above.refl _ _).setCell (by omega) _ _))).more (fun b _ h => by omega)
end Go.Proofs.YtelpepbpdojikaaGreatDoor
namespace Go.Proofs.YtelpepbpdojikaaGreatDoor
open Go.RowKit
set_option maxRecDepth 100000 in
set_option maxHeartbeats 800000 in
theorem limited_0 (r : M.Rules) (s : M.State) (A : Option Addr) (c : Nat) (w : World) (h0 : -1000000 ≤ s.s0) (h1 : s.s0 ≤ 1000000) (h2 : 0 ≤ s.racks) (h3 : s.racks ≤ 1000000) :
    Calls Tryz.prog 165 #[frameV ⟨M.gStraight, r.target, r.fouls⟩ s A c, .int .i64 0] w fun e w' => ∃ A' c', e = .returned (frameV ⟨M.gStraight, r.target, r.fouls⟩ ({ s with s0 := s.s0 - 15, f0 := 0, brk := true, balls := M.rack ⟨M.gStraight, r.target, r.fouls⟩, racks := s.racks + 1 }) A' c') ∧ RdI w' (fun b => w.heap.size ≤ b) A' c' (M.rack ⟨M.gStraight, r.target, r.fouls⟩) ∧ Below w.heap.size w w' := by
  go_enter Tryz.func165, Tryz.ntmps165
  go_upto_region 0 with (fail)
  go_cut [2, 4] (fun v1 v2 wx => v1 = ptr w.heap.size ∧ v2 = ptr (w.heap.size + 1) ∧ Blks w wx [(frameCells ⟨M.gStraight, r.target, r.fouls⟩ (s) A c, 127), (zeroFrame, 127)])
  case first =>
    go_wp2
    go_meet
    exact ⟨rfl, rfl, (((Blks.nil w).new (by simp) (frameCells ⟨M.gStraight, r.target, r.fouls⟩ (s) A c) _).new (by simp) (zeroFrame) _)⟩
  case rest =>
    obtain ⟨rfl, rfl, hB⟩ := hcut
    have hF := hB.get0 rfl
    have k0 := hF.cell (j := 0) rfl
    have kf0 := hF.frozen 0
    have k4 := hF.cell (j := 4) rfl
    have kf4 := hF.frozen 4
    have k10 := hF.cell (j := 10) rfl
    have kf10 := hF.frozen 10
    have k12 := hF.cell (j := 12) rfl
    have kf12 := hF.frozen 12
    have hC : Blks w (((wc.setCell ⟨w.heap.size, 10, none⟩ (.int .i64 (s.s0 - 15))).setCell ⟨w.heap.size, 12, none⟩ (.int .i64 0)).setCell ⟨w.heap.size, 4, none⟩ (.bool true)) [(frameCells ⟨M.gStraight, r.target, r.fouls⟩ ({ s with s0 := s.s0 - 15, f0 := 0, brk := true }) A c, 127), (zeroFrame, 127)] := (((hB.set 0 rfl 10 _).set 0 rfl 12 _).set 0 rfl 4 _)
    go_wp2_with (first | (refine is_load 127 (.tmp 2) rfl ?_; refine next_load (hC.get0 rfl) Tryz.underlying127 rfl frame_info rfl (.tmp 2) rfl rfl ?_) | (go_at_call 166; refine (racked_any ⟨M.gStraight, r.target, r.fouls⟩ ({ s with s0 := s.s0 - 15, f0 := 0, brk := true }) A c _ h2 h3).mono ?_; rintro e w1 ⟨A1, c1, rfl, hr1, hb1⟩; have hD := hC.call (by simp) hb1) | (refine is_store 127 (.tmp 4) (.tmp 32) rfl ?_; refine next_store (hD.get 1 rfl) (frameCells ⟨M.gStraight, r.target, r.fouls⟩ ({ s with s0 := s.s0 - 15, f0 := 0, brk := true, balls := M.rack ⟨M.gStraight, r.target, r.fouls⟩, racks := s.racks + 1 }) A1 c1) rfl frame_info (frame_one _ _ _ _) rfl (.tmp 4) (.tmp 32) rfl rfl rfl ?_))
    have hZ := hD.put 1 rfl (frameCells ⟨M.gStraight, r.target, r.fouls⟩ ({ s with s0 := s.s0 - 15, f0 := 0, brk := true, balls := M.rack ⟨M.gStraight, r.target, r.fouls⟩, racks := s.racks + 1 }) A1 c1) rfl
    refine bodyPost_ret (held_ret (p := 4) (hZ.get 1 rfl) Tryz.underlying127 rfl frame_info rfl _ rfl) rfl ⟨A1, c1, rfl, ?_, hZ.bw⟩
    have hsz := hC.size (by simp)
    simp only [List.length_cons, List.length_nil] at hsz
    exact (hr1.above (D := w.heap.size + 2) (fun b h => Nat.le_trans hsz h) (Above.setCells (by omega) _ _ _ (Above.refl _ _))).more (fun b _ h => by omega)
set_option maxRecDepth 100000 in
set_option maxHeartbeats 800000 in
theorem limited_1 (r : M.Rules) (s : M.State) (A : Option Addr) (c : Nat) (w : World) (h0 : -1000000 ≤ s.s1) (h1 : s.s1 ≤ 1000000) (h2 : 0 ≤ s.racks) (h3 : s.racks ≤ 1000000) :
    Calls Tryz.prog 165 #[frameV ⟨M.gStraight, r.target, r.fouls⟩ s A c, .int .i64 1] w fun e w' => ∃ A' c', e = .returned (frameV ⟨M.gStraight, r.target, r.fouls⟩ ({ s with s1 := s.s1 - 15, f1 := 0, brk := true, balls := M.rack ⟨M.gStraight, r.target, r.fouls⟩, racks := s.racks + 1 }) A' c') ∧ RdI w' (fun b => w.heap.size ≤ b) A' c' (M.rack ⟨M.gStraight, r.target, r.fouls⟩) ∧ Below w.heap.size w w' := by
  go_enter Tryz.func165, Tryz.ntmps165
  go_upto_region 0 with (fail)
  go_cut [2, 4] (fun v1 v2 wx => v1 = ptr w.heap.size ∧ v2 = ptr (w.heap.size + 1) ∧ Blks w wx [(frameCells ⟨M.gStraight, r.target, r.fouls⟩ (s) A c, 127), (zeroFrame, 127)])
  case first =>
    go_wp2
    go_meet
    exact ⟨rfl, rfl, (((Blks.nil w).new (by simp) (frameCells ⟨M.gStraight, r.target, r.fouls⟩ (s) A c) _).new (by simp) (zeroFrame) _)⟩
  case rest =>
    obtain ⟨rfl, rfl, hB⟩ := hcut
    have hF := hB.get0 rfl
    have k0 := hF.cell (j := 0) rfl
    have kf0 := hF.frozen 0
    have k4 := hF.cell (j := 4) rfl
    have kf4 := hF.frozen 4
    have k11 := hF.cell (j := 11) rfl
    have kf11 := hF.frozen 11
    have k13 := hF.cell (j := 13) rfl
    have kf13 := hF.frozen 13
    have hC : Blks w (((wc.setCell ⟨w.heap.size, 11, none⟩ (.int .i64 (s.s1 - 15))).setCell ⟨w.heap.size, 13, none⟩ (.int .i64 0)).setCell ⟨w.heap.size, 4, none⟩ (.bool true)) [(frameCells ⟨M.gStraight, r.target, r.fouls⟩ ({ s with s1 := s.s1 - 15, f1 := 0, brk := true }) A c, 127), (zeroFrame, 127)] := (((hB.set 0 rfl 11 _).set 0 rfl 13 _).set 0 rfl 4 _)
    go_wp2_with (first | (refine is_load 127 (.tmp 2) rfl ?_; refine next_load (hC.get0 rfl) Tryz.underlying127 rfl frame_info rfl (.tmp 2) rfl rfl ?_) | (go_at_call 166; refine (racked_any ⟨M.gStraight, r.target, r.fouls⟩ ({ s with s1 := s.s1 - 15, f1 := 0, brk := true }) A c _ h2 h3).mono ?_; rintro e w1 ⟨A1, c1, rfl, hr1, hb1⟩; have hD := hC.call (by simp) hb1) | (refine is_store 127 (.tmp 4) (.tmp 32) rfl ?_; refine next_store (hD.get 1 rfl) (frameCells ⟨M.gStraight, r.target, r.fouls⟩ ({ s with s1 := s.s1 - 15, f1 := 0, brk := true, balls := M.rack ⟨M.gStraight, r.target, r.fouls⟩, racks := s.racks + 1 }) A1 c1) rfl frame_info (frame_one _ _ _ _) rfl (.tmp 4) (.tmp 32) rfl rfl rfl ?_))
    have hZ := hD.put 1 rfl (frameCells ⟨M.gStraight, r.target, r.fouls⟩ ({ s with s1 := s.s1 - 15, f1 := 0, brk := true, balls := M.rack ⟨M.gStraight, r.target, r.fouls⟩, racks := s.racks + 1 }) A1 c1) rfl
    refine bodyPost_ret (held_ret (p := 4) (hZ.get 1 rfl) Tryz.underlying127 rfl frame_info rfl _ rfl) rfl ⟨A1, c1, rfl, ?_, hZ.bw⟩
    have hsz := hC.size (by simp)
    simp only [List.length_cons, List.length_nil] at hsz
    exact (hr1.above (D := w.heap.size + 2) (fun b h => Nat.le_trans hsz h) (Above.setCells (by omega) _ _ _ (Above.refl _ _))).more (fun b _ h => by omega)
set_option maxRecDepth 100000 in
set_option maxHeartbeats 800000 in
theorem limited_over (r : M.Rules) (s : M.State) (p : Int) (A : Option Addr) (c : Nat) (w : World) (hg : ¬ r.game = M.gStraight) (h0 : 0 ≤ p) (h1 : p ≤ 1) :
    Calls Tryz.prog 165 #[frameV r s A c, .int .i64 p] w fun e w' => e = .returned (frameV r ({ s with over := true, winner := 1 - p }) A c) ∧ Below w.heap.size w w' := by
  have hg' : (r.game.toList == [115, 116, 114, 97, 105, 103, 104, 116]) = false := beq_eq_false_iff_ne.2 (bytes_toList_ne hg)
  have hg2 : (r.game.toList != [115, 116, 114, 97, 105, 103, 104, 116]) = true := by simp [bne, hg']
  go_enter Tryz.func165, Tryz.ntmps165
  go_upto_region 2 with (fail)
  go_cut [2, 4] (fun v1 v2 wx => v1 = ptr w.heap.size ∧ v2 = ptr (w.heap.size + 1) ∧ Blks w wx [(frameCells r ({ s with over := true, winner := 1 - p }) A c, 127), (zeroFrame, 127)])
  case first =>
    go_wp2
    go_meet
    exact ⟨rfl, rfl, (((Blks.nil w).new (by simp) (frameCells r ({ s with over := true, winner := 1 - p }) A c) _).new (by simp) (zeroFrame) _)⟩
  case rest =>
    obtain ⟨rfl, rfl, hB⟩ := hcut
    go_wp2_with (first | (refine is_load 127 (.tmp 2) rfl ?_; refine next_load (hB.get0 rfl) Tryz.underlying127 rfl frame_info rfl (.tmp 2) rfl rfl ?_) | (refine is_store 127 (.tmp 4) (.tmp 15) rfl ?_; refine next_store (hB.get 1 rfl) (frameCells r ({ s with over := true, winner := 1 - p }) A c) rfl frame_info (frame_one _ _ _ _) rfl (.tmp 4) (.tmp 15) rfl rfl rfl ?_))
    have hZ := hB.put 1 rfl (frameCells r ({ s with over := true, winner := 1 - p }) A c) rfl
    exact bodyPost_ret (held_ret (p := 4) (hZ.get 1 rfl) Tryz.underlying127 rfl frame_info rfl _ rfl) rfl ⟨rfl, hZ.bw⟩
theorem limited_any (S : Nat → Prop) (r : M.Rules) (s : M.State) (p : Int) (A : Option Addr) (c : Nat) (w : World) (hp : RdI w S A c s.balls) (h : p = 0 ∨ p = 1) (h0 : -1000000 ≤ s.s0) (h1 : s.s0 ≤ 1000000) (k0 : -1000000 ≤ s.s1) (k1 : s.s1 ≤ 1000000) (h2 : 0 ≤ s.racks) (h3 : s.racks ≤ 1000000) :
    Calls Tryz.prog 165 #[frameV r s A c, .int .i64 p] w fun e w' => ∃ A' c', e = .returned (frameV r (M.limit r s p) A' c') ∧ RdI w' (fun b => S b ∨ w.heap.size ≤ b) A' c' (M.limit r s p).balls ∧ Below w.heap.size w w' := by
  by_cases hg : r.game = M.gStraight
  · obtain ⟨g, tg, fo⟩ := r
    simp only at hg
    subst hg
    have hne : ¬ (M.gStraight ≠ M.gStraight) := fun h => h rfl
    rcases h with rfl | rfl
    · refine (limited_0 ⟨M.gStraight, tg, fo⟩ s A c w h0 h1 h2 h3).mono ?_
      rintro e w' ⟨A1, c1, rfl, hr, hb⟩
      have hl : M.limit ⟨M.gStraight, tg, fo⟩ s 0 = { s with s0 := s.s0 - 15, f0 := 0, brk := true, balls := M.rack ⟨M.gStraight, tg, fo⟩, racks := s.racks + 1 } := by
        unfold M.limit; rw [if_neg hne]; rfl
      rw [hl]
      exact ⟨A1, c1, rfl, hr.more (fun b _ h => .inr h), hb⟩
    · refine (limited_1 ⟨M.gStraight, tg, fo⟩ s A c w k0 k1 h2 h3).mono ?_
      rintro e w' ⟨A1, c1, rfl, hr, hb⟩
      have hl : M.limit ⟨M.gStraight, tg, fo⟩ s 1 = { s with s1 := s.s1 - 15, f1 := 0, brk := true, balls := M.rack ⟨M.gStraight, tg, fo⟩, racks := s.racks + 1 } := by
        unfold M.limit; rw [if_neg hne]; rfl
      rw [hl]
      exact ⟨A1, c1, rfl, hr.more (fun b _ h => .inr h), hb⟩
  · refine (limited_over r s p A c w hg (by omega) (by omega)).mono ?_
    rintro e w' ⟨rfl, hb⟩
    have hl : M.limit r s p = { s with over := true, winner := 1 - p } := by unfold M.limit; rw [if_pos hg]
    rw [hl]
    exact ⟨A, c, rfl, (hp.below hb).more (fun b _ h => .inl h), hb⟩
end Go.Proofs.YtelpepbpdojikaaGreatDoor
namespace Go.Proofs.YtelpepbpdojikaaGreatDoor
open Go.RowKit
theorem play_prog {r : M.Rules} {s : M.State} {x : M.Shot} (hl : M.Lawful r s x) (hx : M.ShotOk x) (hc : x.kind ≠ M.kConcede) (hr : M.ckRules r = 0) :
    M.play r s x = if (winP r s x (M.good r s x) ((M.counted r s x).score x.player)).2 = true then { M.counted r s x with over := true, winner := (winP r s x (M.good r s x) ((M.counted r s x).score x.player)).1 }
      else if M.foul r s x ≠ 0 ∧ (M.counted r s x).foulsOf x.player = r.fouls then M.limit r (M.counted r s x) x.player
      else if M.good r s x = false then M.passed r s x (M.counted r s x) else M.reracked r (M.grouped r s x (M.counted r s x)) := by
  have ho : (M.counted r s x).over = false := (M.counted_over r s x).trans hl.over
  unfold M.play
  simp only
  generalize M.counted r s x = t at ho ⊢
  have fin : ∀ (v : Int) (b : Bool), M.ended r s x t = (if b = true then { t with over := true, winner := v } else t) →
      (if (M.ended r s x t).over = true then M.ended r s x t else if M.foul r s x ≠ 0 ∧ (M.ended r s x t).foulsOf x.player = r.fouls then M.limit r (M.ended r s x t) x.player else if M.good r s x = false then M.passed r s x (M.ended r s x t) else M.reracked r (M.grouped r s x (M.ended r s x t))) =
      (if b = true then { t with over := true, winner := v } else if M.foul r s x ≠ 0 ∧ t.foulsOf x.player = r.fouls then M.limit r t x.player else if M.good r s x = false then M.passed r s x t else M.reracked r (M.grouped r s x t)) := by
    intro v b h
    rw [h]
    cases b with
    | true => simp only [if_true]
    | false =>
      simp only [Bool.false_eq_true, if_false]
      rw [if_neg (by rw [ho]; decide)]
  refine fin _ _ ?_
  unfold M.ended winP M.won
  rcases M.rules_game hr with h | h | h
  · have h1 : ¬ M.gStraight = M.gNine := by decide
    have h2 : ¬ M.gStraight = M.gEight := by decide
    rw [h]
    by_cases hg : M.good r s x = true <;> by_cases hs : r.target ≤ t.score x.player <;> simp [h1, h2, hg, hs]
  · have h1 : ¬ M.gEight = M.gNine := by decide
    have h2 : ¬ M.gEight = M.gStraight := by decide
    rw [h]
    by_cases hb : x.kind = M.kBreak
    · simp [h1, h2, hb]
    · by_cases h8 : (8 : Int) ∈ M.objects x
      · by_cases hw : M.good r s x = true ∧ x.ball = 8 ∧ M.targets r s = [8]
        · simp [h1, h2, hb, h8, hw]
        · have e1 : (if M.good r s x = true ∧ x.ball = 8 ∧ M.targets r s = [8] then (x.player, true) else (1 - x.player, true)) = ((1 - x.player, true) : Int × Bool) := if_neg hw
          have e2 : decide (M.good r s x = true ∧ x.ball = 8 ∧ M.targets r s = [8]) = false := decide_eq_false hw
          simp only [h1, h2, hb, h8, if_false, false_and, ne_eq, not_true, not_false_eq_true, and_self, or_self, if_true, e1, e2, Bool.false_eq_true]
      · simp [h1, h2, hb, h8]
  · have h1 : ¬ M.gNine = M.gStraight := by decide
    have h2 : ¬ M.gNine = M.gEight := by decide
    rw [h]
    by_cases hg : M.good r s x = true <;> by_cases hs : (9 : Int) ∈ M.objects x <;> simp [h1, h2, hg, hs]
theorem Blks.cells {w W W' : World} {L : List (List Value × TypeId)} (h : Blks w W L) (hb : Below W.heap.size W W') : ∀ p q, p < w.heap.size + L.length → W'.cell? ⟨p, q, none⟩ = W.cell? ⟨p, q, none⟩ :=
  fun p q hp => hb.cell (p := ⟨p, q, none⟩) (by
    rcases Nat.eq_zero_or_pos L.length with h0 | h0
    · exact Nat.lt_of_lt_of_le (by rw [h0] at hp; simpa using hp) h.bw.size
    · exact Nat.lt_of_lt_of_le hp (h.size h0))
theorem foul_range (r : M.Rules) (s : M.State) (x : M.Shot) : 0 ≤ M.foul r s x ∧ M.foul r s x ≤ 4 := by
  unfold M.foul
  repeat' split
  all_goals omega
theorem RdI.sets {S : Nat → Prop} {A : Option Addr} {c : Nat} {zs : List Int} {g : Nat} (hg : ¬ S g) : ∀ (vs : List Value) (o : Nat) (W : World), RdI W S A c zs → RdI (W.setCells g o vs) S A c zs
  | [], _, _, h => h
  | v :: r, o, W, h => RdI.sets hg r (o + 1) _ (h.setCell (p := ⟨g, o, none⟩) hg v)
structure PlayAt (w W : World) (L : List (List Value × TypeId)) (D : Nat) (G : List Value) : Prop where
  b : Blks w W L
  g : Held W D G 127
section
variable {w W W' : World} {L : List (List Value × TypeId)} {D : Nat} {G : List Value}
theorem PlayAt.set (h : PlayAt w W L D G) (hD : w.heap.size + L.length ≤ D) (o : Nat) (v : Value) : PlayAt w (W.setCell ⟨D, o, none⟩ v) L D (G.set o v) := ⟨h.b.far hD o v, h.g.set o v⟩
theorem PlayAt.call (h : PlayAt w W L D G) (hL : 0 < L.length) (hb : Below W.heap.size W W') : PlayAt w W' L D G := ⟨h.b.call hL hb, h.g.below hb⟩
theorem PlayAt.drew (h : PlayAt w W L D G) : PlayAt w W.drew L D G := ⟨h.b.drew, h.g⟩
theorem PlayAt.drewN (h : PlayAt w W L D G) (n : Nat) : PlayAt w (W.drewN n) L D G := ⟨h.b.drewN n, h.g⟩
end
end Go.Proofs.YtelpepbpdojikaaGreatDoor
