/- Parts of the proofs about chapter 5 (pool), joined by program. -/
import Derived.IntWalk
import Derived.Test.YtelpepbpdojikaaGreatDoorKe25
import Derived.Test.YtelpepbpdojikaaGreatDoorKe26
set_option linter.unusedVariables false
set_option linter.unusedSimpArgs false
namespace Go.Proofs.YtelpepbpdojikaaGreatDoor
open Go.RowKit
theorem play_any (S : Nat → Prop) (n : Int) (r : M.Rules) (s : M.State) (x : M.Shot) (A P : Option Addr) (c d : Nat) (w : World) (hp : RdI w S A c s.balls) (hpp : RdP w S P d x.pots) (hck : M.ckShot x = 0) (hr : M.ckRules r = 0) (hk : M.Ok r n s) (hn : 0 ≤ n ∧ n ≤ 500000) (hl : M.Lawful r s x) (hc : x.kind ≠ M.kConcede) :
    Calls Tryz.prog 144 #[frameV r s A c, shotV x P d] w fun e w' => ∃ A' c', e = .returned (frameV r (M.play r s x) A' c') ∧ RdI w' (fun b => w.heap.size ≤ b) A' c' (M.play r s x).balls ∧ Below w.heap.size w w' := by
  rcases (M.shotOk hck).player with h | h
  · exact play_0 S n r s x A P c d w hp hpp hck hr hk hn h hl hc
  · exact play_1 S n r s x A P c d w hp hpp hck hr hk hn h hl hc
set_option maxRecDepth 100000 in
set_option maxHeartbeats 3000000 in
theorem next_any (S : Nat → Prop) (n : Int) (r : M.Rules) (s : M.State) (x : M.Shot) (A P : Option Addr) (c d : Nat) (w : World) (hp : RdI w S A c s.balls) (hpp : RdP w S P d x.pots) (hck : M.ckShot x = 0) (hr : M.ckRules r = 0) (hk : M.Ok r n s) (hn : 0 ≤ n ∧ n ≤ 500000) (hl : M.Lawful r s x) :
    Calls Tryz.prog 97 #[frameV r s A c, shotV x P d] w fun e w' => ∃ A' c', e = .returned (frameV r (M.next r s x) A' c') ∧ RdI w' (fun b => w.heap.size ≤ b) A' c' (M.next r s x).balls ∧ Below w.heap.size w w' := by
  have hsx := M.shotOk hck
  have hpr : 0 ≤ x.player ∧ x.player ≤ 1 := by have := hsx.player; omega
  have htn : 0 ≤ s.turn ∧ s.turn ≤ 1 := by have := hk.turn; omega
  have e1 := toList_beq x.kind [99, 111, 110, 99, 101, 100, 101]
  have e2 := toList_beq x.kind [112, 97, 115, 115]
  have E1 := hide e1
  have E2 := hide e2
  clear e1 e2
  go_enter Tryz.func97, Tryz.ntmps97
  go_upto_region 1 with (fail)
  go_cut [2, 3, 4, 6] (fun v2 v3 v4 v6 wx => v2 = ptr w.heap.size ∧ v3 = ptr (w.heap.size + 1) ∧ v4 = ptr (w.heap.size + 2) ∧ v6 = .string x.kind ∧ Blks w wx [(frameCells r (s) A c, 127), (shCells ⟨x, P, d⟩, 66), (zeroFrame, 127)])
  case first =>
    go_wp2
    go_meet
    exact ⟨rfl, rfl, rfl, rfl, ((((Blks.nil w).new (by simp) (frameCells r (s) A c) _).new (by simp) (shCells ⟨x, P, d⟩) _).new (by simp) (zeroFrame) _)⟩
  case rest =>
    obtain ⟨rfl, rfl, rfl, rfl, hB⟩ := hcut
    have hszc := hB.size (by simp)
    simp only [List.length_cons, List.length_nil] at hszc
    rcases y1 : (x.kind.toList == [99, 111, 110, 99, 101, 100, 101]) with _ | _
    · have hc : x.kind ≠ M.kConcede := by have := E1.out; rw [y1] at this; simpa using this.symm
      rcases y2 : (x.kind.toList == [112, 97, 115, 115]) with _ | _
      · have hps : x.kind ≠ M.kPass := by have := E2.out; rw [y2] at this; simpa using this.symm
        have hnx : M.next r s x = M.play r s x := by unfold M.next; rw [if_neg hc, if_neg hps]
        have HN := hide hnx
        have HC := hide hc
        clear hnx hps hc
        go_wp2_with (first | (refine is_load 127 (.tmp 2) rfl ?_; refine next_load (hB.get0 rfl) Tryz.underlying127 rfl frame_info rfl (.tmp 2) rfl rfl ?_) | (refine is_load 66 (.tmp 3) rfl ?_; refine next_load (hB.get 1 rfl) Tryz.underlying66 rfl shot_info rfl (.tmp 3) rfl rfl ?_) | (go_at_call 144; refine (play_any S n r s x A P c d _ (hp.below hB.bw) (hpp.below hB.bw) hck hr hk hn hl HC.out).mono ?_; rintro e w5 ⟨A4, c4, rfl, hr4, hb5⟩; have hQ5 := hB.call (by simp) hb5) | (refine is_store 127 (.tmp 4) (.tmp 31) rfl ?_; refine next_store (hQ5.get 2 rfl) (frameCells r (M.play r s x) A4 c4) rfl frame_info (frame_one _ _ _ _) rfl (.tmp 4) (.tmp 31) rfl rfl rfl ?_))
        have hZ := hQ5.put 2 rfl (frameCells r (M.play r s x) A4 c4) rfl
        refine bodyPost_ret (held_ret (p := 4) (hZ.get 2 rfl) Tryz.underlying127 rfl frame_info rfl _ rfl) rfl ⟨A4, c4, ?_, ?_, hZ.bw⟩
        · rw [HN.out]; rfl
        · rw [HN.out]
          have hg3 : ¬ (fun b => wc.heap.size ≤ b) (w.heap.size + 2) := fun h => by
            have h : wc.heap.size ≤ w.heap.size + 2 := h
            omega
          exact (RdI.sets hg3 _ 0 _ hr4).more (fun b _ h => by omega)
      · have hps : x.kind = M.kPass := by have := E2.out; rw [y2] at this; simpa using this.symm
        have hnx : M.next r s x = { M.calm r s x with turn := 1 - s.turn, run := 0 } := by unfold M.next; rw [if_neg hc, if_pos hps, hl.turn hc]
        have HN := hide hnx
        clear hnx hps hc
        go_wp2_with (first | (refine is_load 127 (.tmp 2) rfl ?_; refine next_load (hB.get0 rfl) Tryz.underlying127 rfl frame_info rfl (.tmp 2) rfl rfl ?_) | (refine is_load 66 (.tmp 3) rfl ?_; refine next_load (hB.get 1 rfl) Tryz.underlying66 rfl shot_info rfl (.tmp 3) rfl rfl ?_) | (go_at_call 142; refine (calm_any S r s x A P c d _ (hp.below hB.bw)).mono ?_; rintro e w4 ⟨A4, c4, rfl, hr4, hb4⟩; have hQ4 := hB.call (by simp) hb4) | (go_at_call 143; refine (changed_any r (M.calm r s x) A4 c4 _ htn.1 htn.2).mono ?_; rintro e w5 ⟨rfl, hb5⟩; have hQ5 := hQ4.call (by simp) hb5) | (refine is_store 127 (.tmp 4) (.tmp 28) rfl ?_; refine next_store (hQ5.get 2 rfl) (frameCells r ({ M.calm r s x with turn := 1 - s.turn, run := 0 }) A4 c4) rfl frame_info (frame_one _ _ _ _) rfl (.tmp 4) (.tmp 28) rfl rfl rfl ?_))
        have hZ := hQ5.put 2 rfl (frameCells r ({ M.calm r s x with turn := 1 - s.turn, run := 0 }) A4 c4) rfl
        refine bodyPost_ret (held_ret (p := 4) (hZ.get 2 rfl) Tryz.underlying127 rfl frame_info rfl _ rfl) rfl ⟨A4, c4, ?_, ?_, hZ.bw⟩
        · rw [HN.out]; rfl
        · rw [HN.out]
          have hg3 : ¬ (fun b => wc.heap.size ≤ b) (w.heap.size + 2) := fun h => by
            have h : wc.heap.size ≤ w.heap.size + 2 := h
            omega
          exact (RdI.sets hg3 _ 0 _ (hr4.below hb5)).more (fun b _ h => by omega)
    · have hc : x.kind = M.kConcede := by have := E1.out; rw [y1] at this; simpa using this.symm
      have hnx : M.next r s x = { s with over := true, winner := 1 - x.player } := by unfold M.next; rw [if_pos hc]
      have HN := hide hnx
      clear hnx hc
      have k9 := (hB.get0 rfl).cell (j := 9) rfl
      go_upto_region 3 with (fail)
      go_cut [] (fun wx => ∃ A1 c1, Blks w wx [(frameCells r (s) A1 c1, 127), (shCells ⟨x, P, d⟩, 66), (zeroFrame, 127)] ∧ RdI wx (fun b => w.heap.size + 3 ≤ b) A1 c1 s.balls)
      case first =>
        go_wp2_with (go_at_call 141; refine (clonedInt_any S A c s.balls _ (hp.below hB.bw)).mono ?_; rintro e w1 ⟨A1, c1, rfl, hr1, hb1⟩; have hD := hB.call (by simp) hb1; have hFD := hD.get0 rfl; have q9 := hFD.cell (j := 9) rfl; have qf9 := hFD.frozen 9)
        go_meet
        exact ⟨A1, c1, hD.set 0 rfl 9 _, (hr1.more (fun b _ h => by omega)).setCell (fun h => by have h : w.heap.size + 3 ≤ w.heap.size := h; omega) _⟩
      case rest =>
        clear hB k9 hszc
        obtain ⟨A1, c1, hB, hr1⟩ := hcut
        have hFC := hB.get0 rfl
        have hXC := hB.get 1 rfl
        have k16 := hFC.cell (j := 16) rfl
        have kf16 := hFC.frozen 16
        have k17 := hFC.cell (j := 17) rfl
        have kf17 := hFC.frozen 17
        have x0 := hXC.cell (j := 0) rfl
        have xf0 := hXC.frozen 0
        have hwr : IntKind.i64.wrap (1 - x.player) = 1 - x.player := IntWalk.i64_in _ (by omega)
        go_upto_region 4 with (fail)
        go_cut [] (fun wx => Blks w wx [(frameCells r ({ s with over := true, winner := 1 - x.player }) A1 c1, 127), (shCells ⟨x, P, d⟩, 66), (zeroFrame, 127)] ∧ RdI wx (fun b => w.heap.size + 3 ≤ b) A1 c1 s.balls)
        case first =>
          refine wp_region_held_drew (S := (fun w' : World => w'.cell? ⟨w.heap.size + 1, 0, none⟩ = some (.int .i64 x.player))) (by kernel_rfl) ?q5xstart (fun hHeld => ?_)
          case q5xstart => first | exact (hB.get 1 rfl).cell (j := 0) rfl | exact (hB.drew.get 1 rfl).cell (j := 0) rfl | exact ((hB.set 0 rfl 16 _).drew.get 1 rfl).cell (j := 0) rfl | exact (((hB.set 0 rfl 16 _).set 0 rfl 17 _).drew.get 1 rfl).cell (j := 0) rfl
          refine wpAnyH_take (i := 0) (oi := _) (v := ?q5xv0) (ga rfl) (by kernel_rfl) (by kernel_rfl) (by kernel_rfl) (fun _ _ _ h => h) (Or.inl ⟨by rfl, ?q5xy0⟩) (by assumption) ?_
          case q5xy0 => (intro w hSw; (try dsimp only at hSw); go_simp; try with_reducible rfl)
          try simp only [Act.put, la, lz, ls]
          refine wpAnyH_take (i := 1) (oi := _) (v := ?q5xv1) (ga rfl) (by kernel_rfl) (by kernel_rfl) (by kernel_rfl) (fun _ _ _ h => h) (Or.inl ⟨by rfl, ?q5xy1⟩) (by assumption) ?_
          case q5xy1 => (intro w hSw; (try dsimp only at hSw); go_simp; try with_reducible rfl)
          try simp only [Act.put, la, lz, ls]
          refine wpAnyH_take (i := 2) (oi := _) (v := ?q5xv2) (ga rfl) (by kernel_rfl) (by kernel_rfl) (by kernel_rfl) (fun _ _ _ h => h) (Or.inl ⟨by rfl, ?q5xy2⟩) (by assumption) ?_
          case q5xy2 => (intro w hSw; (try dsimp only at hSw); go_simp; try with_reducible rfl)
          try simp only [Act.put, la, lz, ls]
          refine wpAnyH_take (i := 3) (oi := _) (v := ?q5xv3) (ga rfl) (by kernel_rfl) (by kernel_rfl) (by kernel_rfl) (fun _ _ _ h => h) (Or.inl ⟨by rfl, ?q5xy3⟩) (by assumption) ?_
          case q5xy3 => (intro w hSw; (try dsimp only at hSw); go_simp; try with_reducible rfl)
          try simp only [Act.put, la, lz, ls]
          refine wpAnyH_take (i := 4) (oi := _) (v := ?q5xv4) (ga rfl) (by kernel_rfl) (by kernel_rfl) (by kernel_rfl) (fun _ _ _ h => h) (Or.inl ⟨by rfl, ?q5xy4⟩) (by assumption) ?_
          case q5xy4 => (intro w hSw; (try dsimp only at hSw); go_simp; try with_reducible rfl)
          try simp only [Act.put, la, lz, ls]
          refine wpAnyH_ready (rs := [5]) (by kernel_rfl) (by simp) ?_
          refine AllReadyH.cons (o := _) (ga rfl) (fun K hK => ?_) AllReadyH.nil
          go_simp
          refine hK.out _ _ ?q5xh5 (fun hHeld => ?_)
          case q5xh5 => (first | (first | exact (hB.get 1 rfl).cell (j := 0) rfl | exact (hB.drew.get 1 rfl).cell (j := 0) rfl | exact ((hB.set 0 rfl 16 _).drew.get 1 rfl).cell (j := 0) rfl | exact (((hB.set 0 rfl 16 _).set 0 rfl 17 _).drew.get 1 rfl).cell (j := 0) rfl) | (dsimp only; first | exact (hB.get 1 rfl).cell (j := 0) rfl | exact (hB.drew.get 1 rfl).cell (j := 0) rfl | exact ((hB.set 0 rfl 16 _).drew.get 1 rfl).cell (j := 0) rfl | exact (((hB.set 0 rfl 16 _).set 0 rfl 17 _).drew.get 1 rfl).cell (j := 0) rfl))
          clear hK K
          try simp only [Act.put, la, lz, ls]
          refine wpAnyH_take (i := 6) (oi := _) (v := ?q5xv6) (ga rfl) (by kernel_rfl) (by kernel_rfl) (by kernel_rfl) (fun _ _ _ h => h) (Or.inl ⟨by rfl, ?q5xy6⟩) (by assumption) ?_
          case q5xy6 => (intro w hSw; (try dsimp only at hSw); go_simp; try with_reducible rfl)
          try simp only [Act.put, la, lz, ls]
          refine wpAnyH_take (i := 7) (oi := _) (v := ?q5xv7) (ga rfl) (by kernel_rfl) (by kernel_rfl) (by kernel_rfl) (fun _ _ _ h => h) (Or.inl ⟨by rfl, ?q5xy7⟩) (by assumption) ?_
          case q5xy7 => (intro w hSw; (try dsimp only at hSw); go_simp; try with_reducible rfl)
          try simp only [Act.put, la, lz, ls]
          refine wpAnyH_ready (rs := [8]) (by kernel_rfl) (by simp) ?_
          refine AllReadyH.cons (o := _) (ga rfl) (fun K hK => ?_) AllReadyH.nil
          go_simp
          refine hK.out _ _ ?q5xh8 (fun hHeld => ?_)
          case q5xh8 => (first | (first | exact (hB.get 1 rfl).cell (j := 0) rfl | exact (hB.drew.get 1 rfl).cell (j := 0) rfl | exact ((hB.set 0 rfl 16 _).drew.get 1 rfl).cell (j := 0) rfl | exact (((hB.set 0 rfl 16 _).set 0 rfl 17 _).drew.get 1 rfl).cell (j := 0) rfl) | (dsimp only; first | exact (hB.get 1 rfl).cell (j := 0) rfl | exact (hB.drew.get 1 rfl).cell (j := 0) rfl | exact ((hB.set 0 rfl 16 _).drew.get 1 rfl).cell (j := 0) rfl | exact (((hB.set 0 rfl 16 _).set 0 rfl 17 _).drew.get 1 rfl).cell (j := 0) rfl))
          clear hK K
          try simp only [Act.put, la, lz, ls]
          refine wpAnyH_done (by kernel_rfl) ?_ _
          go_wp2
          go_meet
          exact ⟨((hB.set 0 rfl 16 _).set 0 rfl 17 _).drew, (hr1.setCell (fun h => by have h : w.heap.size + 3 ≤ w.heap.size := h; omega) _).setCell (fun h => by have h : w.heap.size + 3 ≤ w.heap.size := h; omega) _⟩
        case rest =>
          clear hB hr1 hFC hXC k16 k17 x0 kf16 kf17 xf0
          obtain ⟨hB, hr1⟩ := hcut
          go_wp2_with (first | (refine is_load 127 (.tmp 2) rfl ?_; refine next_load (hB.get0 rfl) Tryz.underlying127 rfl frame_info rfl (.tmp 2) rfl rfl ?_) | (refine is_store 127 (.tmp 4) (.tmp 22) rfl ?_; refine next_store (hB.get 2 rfl) (frameCells r ({ s with over := true, winner := 1 - x.player }) A1 c1) rfl frame_info (frame_one _ _ _ _) rfl (.tmp 4) (.tmp 22) rfl rfl rfl ?_))
          have hZ := hB.put 2 rfl (frameCells r ({ s with over := true, winner := 1 - x.player }) A1 c1) rfl
          refine bodyPost_ret (held_ret (p := 4) (hZ.get 2 rfl) Tryz.underlying127 rfl frame_info rfl _ rfl) rfl ⟨A1, c1, ?_, ?_, hZ.bw⟩
          · rw [HN.out]; rfl
          · rw [HN.out]
            have hg3 : ¬ (fun b => w.heap.size + 3 ≤ b) (w.heap.size + 2) := fun h => by
              have h : w.heap.size + 3 ≤ w.heap.size + 2 := h
              omega
            exact (RdI.sets hg3 _ 0 _ hr1).more (fun b _ h => by omega)
end Go.Proofs.YtelpepbpdojikaaGreatDoor
