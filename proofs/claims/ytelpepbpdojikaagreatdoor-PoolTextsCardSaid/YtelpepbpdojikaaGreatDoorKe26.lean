/- Parts of the proofs about chapter 5 (pool), joined by program. -/
import Derived.Test.YtelpepbpdojikaaGreatDoorKe24
set_option linter.unusedVariables false
set_option linter.unusedSimpArgs false
namespace Go.Proofs.YtelpepbpdojikaaGreatDoor
open Go.RowKit
set_option maxRecDepth 100000 in
set_option maxHeartbeats 12000000 in
theorem play_1 (S : Nat → Prop) (n : Int) (r : M.Rules) (s : M.State) (x : M.Shot) (A P : Option Addr) (c d : Nat) (w : World) (hp : RdI w S A c s.balls) (hpp : RdP w S P d x.pots) (hck : M.ckShot x = 0) (hr : M.ckRules r = 0) (hk : M.Ok r n s) (hn : 0 ≤ n ∧ n ≤ 500000) (hpl : x.player = 1) (hl : M.Lawful r s x) (hc : x.kind ≠ M.kConcede) :
    Calls Tryz.prog 144 #[frameV r s A c, shotV x P d] w fun e w' => ∃ A' c', e = .returned (frameV r (M.play r s x) A' c') ∧ RdI w' (fun b => w.heap.size ≤ b) A' c' (M.play r s x).balls ∧ Below w.heap.size w w' := by
  obtain ⟨hx, hpots, _⟩ := ckShot0 hck
  have hsx := M.shotOk hck
  have hobj := hsx.objs
  have hpos : ∀ p ∈ x.pots, 0 ≤ p.ball := fun p h => (hpots p h).1.1
  have hg := hk.group
  have hF := fun W h h' => foul_any S r s x A P c d W h h' hx hpos hr hg
  have hG := fun W h h' => good_any S r s x A P c d W h h' hx hpos hr hg
  have hL := fun W h h' => left_any S r s x A P c d (M.good r s x) W h h' hpos
  rw [← left_keep hr] at hL
  obtain ⟨fl, hfl⟩ : ∃ q, M.foul r s x = q := ⟨_, rfl⟩
  obtain ⟨gd, hgd⟩ : ∃ q, M.good r s x = q := ⟨_, rfl⟩
  rw [hfl] at hF
  rw [hgd] at hG hL
  obtain ⟨pu, hpu⟩ : ∃ q, decide (r.game = M.gNine ∧ x.kind = M.kBreak) = q := ⟨_, rfl⟩
  obtain ⟨pd, hpd⟩ : ∃ q, decide (x.kind = M.kPush) = q := ⟨_, rfl⟩
  have hcm : M.calm r s x = { s with brk := false, hand := false, push := pu, pushed := pd } := by unfold M.calm; rw [hpu, hpd]
  have hC := fun W h => calm_any S r s x A P c d W h
  simp only [hcm] at hC
  have HC := hide hC
  have HCM := hide hcm
  clear hC hcm hpu hpd
  have HF := hide hF
  have HG := hide hG
  have HL := hide hL
  have HFL := hide hfl
  have HGD := hide hgd
  clear hF hG hL hfl hgd
  have HPL := hide hpl
  clear hpl
  go_enter Tryz.func144, Tryz.ntmps144
  go_upto_region 0 with (fail)
  go_cut [2, 3, 4] (fun v2 v3 v4 wx => v2 = ptr w.heap.size ∧ v3 = ptr (w.heap.size + 1) ∧ v4 = ptr (w.heap.size + 2) ∧ Blks w wx [(frameCells r (s) A c, 127), (shCells ⟨x, P, d⟩, 66), (zeroFrame, 127)])
  case first =>
    as_aux_lemma =>
      go_wp2
      go_meet
      exact ⟨rfl, rfl, rfl, ((((Blks.nil w).new (by simp) (frameCells r (s) A c) _).new (by simp) (shCells ⟨x, P, d⟩) _).new (by simp) (zeroFrame) _)⟩
  case rest =>
    obtain ⟨rfl, rfl, rfl, hB⟩ := hcut
    go_upto_region 1 with (fail)
    go_cut [5, 6] (fun v5 v6 wx => v5 = .int .i64 fl ∧ v6 = .bool gd ∧ Blks w wx [(frameCells r (s) A c, 127), (shCells ⟨x, P, d⟩, 66), (zeroFrame, 127)])
    case first =>
      as_aux_lemma =>
        have hrF : ∀ W : World, (fun w' : World => ∀ p q, p < w.heap.size + 3 → w'.cell? ⟨p, q, none⟩ = wc.cell? ⟨p, q, none⟩) W → W.rangeAt w.heap.size 0 (frameCells r (s) A c) := fun W h j v hj => by rw [h _ _ (by omega)]; exact (hB.get0 rfl).range j v hj
        have hrX : ∀ W : World, (fun w' : World => ∀ p q, p < w.heap.size + 3 → w'.cell? ⟨p, q, none⟩ = wc.cell? ⟨p, q, none⟩) W → W.rangeAt (w.heap.size + 1) 0 (shCells ⟨x, P, d⟩) := fun W h j v hj => by rw [h _ _ (by omega)]; exact (hB.get 1 rfl).range j v hj
        refine wp_region_held_drew (S := (fun w' : World => ∀ p q, p < w.heap.size + 3 → w'.cell? ⟨p, q, none⟩ = wc.cell? ⟨p, q, none⟩)) (by kernel_rfl) ?q4xstart (fun hHeld => ?_)
        case q4xstart => first | exact fun p q h => rfl | exact fun p q h => hB.drew.cells hb1 p q h | exact fun p q h => (hB1.cells hb2 p q h).trans (hB.drew.cells hb1 p q h)
        refine wpAnyH_take (i := 0) (oi := _) (v := _) (ga rfl) (by kernel_rfl) (by kernel_rfl) (by kernel_rfl) (fun _ _ _ h => h) (yieldsIf_load_mid (by rfl) _ _ (by rfl) _ _ (by rfl) _ _ hrF Tryz.underlying127 rfl (by kernel_rfl)) (by assumption) ?_
        try simp only [Act.put, la, lz, ls]
        refine wpAnyH_take (i := 1) (oi := _) (v := _) (ga rfl) (by kernel_rfl) (by kernel_rfl) (by kernel_rfl) (fun _ _ _ h => h) (yieldsIf_load_mid (by rfl) _ _ (by rfl) _ _ (by rfl) _ _ hrX Tryz.underlying66 rfl (by kernel_rfl)) (by assumption) ?_
        try simp only [Act.put, la, lz, ls]
        refine wpAnyH_take (i := 3) (oi := _) (v := _) (ga rfl) (by kernel_rfl) (by kernel_rfl) (by kernel_rfl) (fun _ _ _ h => h) (yieldsIf_load_mid (by rfl) _ _ (by rfl) _ _ (by rfl) _ _ hrF Tryz.underlying127 rfl (by kernel_rfl)) (by assumption) ?_
        try simp only [Act.put, la, lz, ls]
        refine wpAnyH_take (i := 4) (oi := _) (v := _) (ga rfl) (by kernel_rfl) (by kernel_rfl) (by kernel_rfl) (fun _ _ _ h => h) (yieldsIf_load_mid (by rfl) _ _ (by rfl) _ _ (by rfl) _ _ hrX Tryz.underlying66 rfl (by kernel_rfl)) (by assumption) ?_
        try simp only [Act.put, la, lz, ls]
        refine wpAnyH_ready (rs := [2]) (by kernel_rfl) (by simp) ?_
        refine AllReadyH.cons (o := _) (ga rfl) (fun K hK => ?_) AllReadyH.nil
        go_simp
        (first | (go_at_call 66; refine (HF.out _ (hp.below hB.drew.bw) (hpp.below hB.drew.bw)).mono ?_; rintro e w1 ⟨rfl, hb1⟩; have hB1 := hB.drew.call (by simp) hb1) | (go_at_call 69; refine (HG.out _ (hp.below hB1.bw) (hpp.below hB1.bw)).mono ?_; rintro e w2 ⟨rfl, hb2⟩; have hB2 := hB1.call (by simp) hb2))
        refine hK.out _ _ ?q4xh2 (fun hHeld => ?_)
        case q4xh2 => (first | (first | exact fun p q h => rfl | exact fun p q h => hB.drew.cells hb1 p q h | exact fun p q h => (hB1.cells hb2 p q h).trans (hB.drew.cells hb1 p q h)) | (dsimp only; first | exact fun p q h => rfl | exact fun p q h => hB.drew.cells hb1 p q h | exact fun p q h => (hB1.cells hb2 p q h).trans (hB.drew.cells hb1 p q h)))
        clear hK K
        try simp only [Act.put, la, lz, ls]
        refine wpAnyH_ready (rs := [5]) (by kernel_rfl) (by simp) ?_
        refine AllReadyH.cons (o := _) (ga rfl) (fun K hK => ?_) AllReadyH.nil
        go_simp
        (first | (go_at_call 66; refine (HF.out _ (hp.below hB.drew.bw) (hpp.below hB.drew.bw)).mono ?_; rintro e w1 ⟨rfl, hb1⟩; have hB1 := hB.drew.call (by simp) hb1) | (go_at_call 69; refine (HG.out _ (hp.below hB1.bw) (hpp.below hB1.bw)).mono ?_; rintro e w2 ⟨rfl, hb2⟩; have hB2 := hB1.call (by simp) hb2))
        refine hK.out _ _ ?q4xh5 (fun hHeld => ?_)
        case q4xh5 => (first | (first | exact fun p q h => rfl | exact fun p q h => hB.drew.cells hb1 p q h | exact fun p q h => (hB1.cells hb2 p q h).trans (hB.drew.cells hb1 p q h)) | (dsimp only; first | exact fun p q h => rfl | exact fun p q h => hB.drew.cells hb1 p q h | exact fun p q h => (hB1.cells hb2 p q h).trans (hB.drew.cells hb1 p q h)))
        clear hK K
        try simp only [Act.put, la, lz, ls]
        refine wpAnyH_take (i := 6) (oi := _) (v := ?q4xv6) (ga rfl) (by kernel_rfl) (by kernel_rfl) (by kernel_rfl) (fun _ _ _ h => h) (Or.inl ⟨by rfl, ?q4xy6⟩) (by assumption) ?_
        case q4xy6 => (intro w hSw; (try dsimp only at hSw); go_simp; try with_reducible rfl)
        try simp only [Act.put, la, lz, ls]
        refine wpAnyH_take (i := 7) (oi := _) (v := ?q4xv7) (ga rfl) (by kernel_rfl) (by kernel_rfl) (by kernel_rfl) (fun _ _ _ h => h) (Or.inl ⟨by rfl, ?q4xy7⟩) (by assumption) ?_
        case q4xy7 => (intro w hSw; (try dsimp only at hSw); go_simp; try with_reducible rfl)
        try simp only [Act.put, la, lz, ls]
        refine wpAnyH_done (by kernel_rfl) ?_ _
        go_wp2
        go_meet
        exact ⟨rfl, rfl, hB2⟩
    case rest =>
      obtain ⟨rfl, rfl, hB⟩ := hcut
      have hXC := hB.get 1 rfl
      have x0 := hXC.cell (j := 0) rfl
      rw [HPL.out] at x0
      go_upto_region 3 with (fail)
      go_cut [8] (fun v8 wx => ∃ D A1 c1, v8 = ptr D ∧ w.heap.size + 3 ≤ D ∧ PlayAt w wx [(frameCells r (s) A c, 127), (shCells ⟨x, P, d⟩, 66), (zeroFrame, 127)] D (frameCells r ({ s with brk := false, hand := false, push := pu, pushed := pd }) A1 c1))
      case first =>
        as_aux_lemma =>
          go_wp2_with (first | (refine is_load 127 (.tmp 2) rfl ?_; refine next_load (hB.get0 rfl) Tryz.underlying127 rfl frame_info rfl (.tmp 2) rfl rfl ?_) | (refine is_load 66 (.tmp 3) rfl ?_; refine next_load (hB.get 1 rfl) Tryz.underlying66 rfl shot_info rfl (.tmp 3) rfl rfl ?_) | (go_at_call 142; refine (HC.out _ (hp.below hB.bw)).mono ?_; rintro e w1 ⟨A1, c1, rfl, hr1, hb1⟩; have hB1 := hB.call (by simp) hb1; have hB2 := hB1.alloc (by simp) (.cells zeroFrame.toArray 127); have hG1 := Held.new w1 zeroFrame 127) | (refine is_store 127 (.tmp 8) (.tmp 22) rfl ?_; refine next_store hG1 (frameCells r ({ s with brk := false, hand := false, push := pu, pushed := pd }) A1 c1) rfl frame_info (frame_one _ _ _ _) rfl (.tmp 8) (.tmp 22) rfl rfl rfl ?_))
          go_meet
          have hsz := hB1.size (by simp)
          simp only [List.length_cons, List.length_nil] at hsz
          exact ⟨w1.heap.size, A1, c1, rfl, hsz, hB2.fars hsz _ 0, hG1.whole _ rfl⟩
      case rest =>
        obtain ⟨D, A1, c1, rfl, hD, hQ⟩ := hcut
        clear hB hXC x0
        go_upto_region 4 with (fail)
        go_cut [] (fun wx => ∃ A2 c2, PlayAt w wx [(frameCells r (s) A c, 127), (shCells ⟨x, P, d⟩, 66), (zeroFrame, 127)] D (frameCells r ({ s with brk := false, hand := false, push := pu, pushed := pd, balls := M.left r s x }) A2 c2) ∧ RdI wx (fun b => w.heap.size + 3 ≤ b ∧ b ≠ D) A2 c2 (M.left r s x))
        case first =>
          as_aux_lemma =>
            go_wp2_with (first | (refine is_load 127 (.tmp 2) rfl ?_; refine next_load (hQ.b.get0 rfl) Tryz.underlying127 rfl frame_info rfl (.tmp 2) rfl rfl ?_) | (refine is_load 66 (.tmp 3) rfl ?_; refine next_load (hQ.b.get 1 rfl) Tryz.underlying66 rfl shot_info rfl (.tmp 3) rfl rfl ?_) | (go_at_call 163; refine (HL.out _ (hp.below hQ.b.bw) (hpp.below hQ.b.bw)).mono ?_; rintro e w1 ⟨A2, c2, rfl, hr1, hb1⟩; have hQ1 := hQ.call (by simp) hb1; have q9 := hQ1.g.cell (j := 9) rfl; have qf9 := hQ1.g.frozen 9))
            go_meet
            have hsz := hQ.b.size (by simp)
            have hDl := hQ.g.lt
            simp only [List.length_cons, List.length_nil] at hsz
            exact ⟨A2, c2, hQ1.set hD 9 _, (hr1.more (fun b _ h => ⟨by omega, by omega⟩)).setCell (fun h => h.2 rfl) _⟩
        case rest =>
          obtain ⟨A2, c2, hQ, hrk⟩ := hcut
          have qs := hQ.g.cell (j := 11) rfl
          have qf := hQ.g.cell (j := 13) rfl
          have qr := hQ.g.cell (j := 14) rfl
          have hb0 := hk.s1
          have hb1 := hk.run
          have hb2 := hk.f1
          have hb3 := hk.racks
          go_upto_if 29 with (fail)
          go_cut [] (fun wx => PlayAt w wx [(frameCells r (s) A c, 127), (shCells ⟨x, P, d⟩, 66), (zeroFrame, 127)] D (frameCells r ({ s with brk := false, hand := false, push := pu, pushed := pd, balls := M.left r s x, s1 := (if gd = true then s.s1 + (M.objects x).length else s.s1), run := (if gd = true then s.run + (M.objects x).length else s.run) }) A2 c2) ∧ RdI wx (fun b => w.heap.size + 3 ≤ b ∧ b ≠ D) A2 c2 (M.left r s x))
          case first =>
            as_aux_lemma =>
              rcases gd with _ | _
              · go_wp2
                go_meet
                exact ⟨hQ, hrk⟩
              · go_wp2_with (first | (refine is_load 66 (.tmp 3) rfl ?_; refine next_load (hQ.b.get 1 rfl) Tryz.underlying66 rfl shot_info rfl (.tmp 3) rfl rfl ?_) | (go_at_call 70; refine (objects_any S x P d _ (hpp.below hQ.b.bw) hpos).mono ?_; rintro e w1 ⟨A3, c3, rfl, hr3, hb1⟩; have hQ1 := hQ.call (by simp) hb1; have hrk1 := hrk.below hb1; have u11 := hQ1.g.cell (j := 11) rfl; have uf11 := hQ1.g.frozen 11; have u14 := hQ1.g.cell (j := 14) rfl; have uf14 := hQ1.g.frozen 14))
                go_meet
                exact ⟨(hQ1.set hD 11 _).set hD 14 _, (hrk1.setCell (fun h => h.2 rfl) _).setCell (fun h => h.2 rfl) _⟩
          case rest =>
            clear hQ hrk qs qf qr
            obtain ⟨hQ, hrk⟩ := hcut
            obtain ⟨a2, ha2⟩ : ∃ q, (if gd = true then s.s1 + (M.objects x).length else s.s1) = q := ⟨_, rfl⟩
            obtain ⟨b2, hb2'⟩ : ∃ q, (if gd = true then s.run + (M.objects x).length else s.run) = q := ⟨_, rfl⟩
            rw [ha2, hb2'] at hQ
            have va2 : -500000 ≤ a2 ∧ a2 ≤ 500016 := by rw [← ha2]; split <;> omega
            have vb2 : 0 ≤ b2 ∧ b2 ≤ 500016 := by rw [← hb2']; split <;> omega
            have HA2 := hide ha2
            have HB2 := hide hb2'
            clear ha2 hb2'
            have qs := hQ.g.cell (j := 11) rfl
            have qf := hQ.g.cell (j := 13) rfl
            have qr := hQ.g.cell (j := 14) rfl
            have zs := hQ.g.frozen 11
            have zf := hQ.g.frozen 13
            have zr := hQ.g.frozen 14
            have k0 := (hQ.b.get0 rfl).cell (j := 0) rfl
            go_upto_if 51 with (fail)
            go_cut [] (fun wx => PlayAt w wx [(frameCells r (s) A c, 127), (shCells ⟨x, P, d⟩, 66), (zeroFrame, 127)] D (frameCells r ({ s with brk := false, hand := false, push := pu, pushed := pd, balls := M.left r s x, s1 := (if fl = 0 then a2 else if r.game = M.gStraight then a2 - 1 else a2), run := (if fl = 0 then b2 else 0), f1 := (if fl = 0 then 0 else s.f1 + 1) }) A2 c2) ∧ RdI wx (fun b => w.heap.size + 3 ≤ b ∧ b ≠ D) A2 c2 (M.left r s x))
            case first =>
              as_aux_lemma =>
                rcases zq : (fl == 0) with _ | _
                · have zn : ¬ fl = 0 := by simpa using zq
                  have Hn := hide zn
                  clear zn
                  rcases zg : (r.game.toList == [115, 116, 114, 97, 105, 103, 104, 116]) with _ | _
                  · have zgg : ¬ r.game = M.gStraight := by rw [toList_beq r.game [115, 116, 114, 97, 105, 103, 104, 116]] at zg; simpa using zg
                    have Hgg := hide zgg
                    clear zgg
                    go_wp2
                    go_meet
                    rw [if_neg Hn.out, if_neg Hn.out, if_neg Hn.out, if_neg Hgg.out]
                    exact ⟨(hQ.set hD 13 _).set hD 14 _, (hrk.setCell (fun h => h.2 rfl) _).setCell (fun h => h.2 rfl) _⟩
                  · have zgg : r.game = M.gStraight := by rw [toList_beq r.game [115, 116, 114, 97, 105, 103, 104, 116]] at zg; simpa using zg
                    have Hgg := hide zgg
                    clear zgg
                    go_wp2
                    go_meet
                    rw [if_neg Hn.out, if_neg Hn.out, if_neg Hn.out, if_pos Hgg.out]
                    exact ⟨((hQ.set hD 13 _).set hD 14 _).set hD 11 _, ((hrk.setCell (fun h => h.2 rfl) _).setCell (fun h => h.2 rfl) _).setCell (fun h => h.2 rfl) _⟩
                · have zn : fl = 0 := by simpa using zq
                  have Hn := hide zn
                  clear zn
                  go_wp2
                  go_meet
                  rw [if_pos Hn.out, if_pos Hn.out, if_pos Hn.out]
                  exact ⟨hQ.set hD 13 _, hrk.setCell (fun h => h.2 rfl) _⟩
            case rest =>
              clear hQ hrk qs qf qr zs zf zr k0
              obtain ⟨hQ, hrk⟩ := hcut
              obtain ⟨a3, ha3⟩ : ∃ q, (if fl = 0 then a2 else if r.game = M.gStraight then a2 - 1 else a2) = q := ⟨_, rfl⟩
              obtain ⟨b3, hb3'⟩ : ∃ q, (if fl = 0 then b2 else 0) = q := ⟨_, rfl⟩
              obtain ⟨f3, hf3⟩ : ∃ q, (if fl = 0 then 0 else s.f1 + 1) = q := ⟨_, rfl⟩
              rw [ha3, hb3', hf3] at hQ
              have va3 : -500001 ≤ a3 ∧ a3 ≤ 500016 := by rw [← ha3]; split <;> first | omega | (split <;> omega)
              have vf3 : 0 ≤ f3 ∧ f3 ≤ 500001 := by rw [← hf3]; split <;> omega
              have hct : M.counted r s x = { s with brk := false, hand := false, push := pu, pushed := pd, balls := M.left r s x, s1 := a3, run := b3, f1 := f3 } := by
                have e1 := HA2.out
                have e2 := HB2.out
                rw [M.counted_eq, HCM.out]
                unfold M.sc M.fc M.rc
                simp only [HPL.out, HFL.out, HGD.out, show ¬ (1 : Int) = 0 by decide, if_false]
                rw [← ha3, ← hb3', ← hf3, ← e1, ← e2]
              have HCT := hide hct
              clear ha3 hb3' hf3 hct
              have hpl2 := HPL.out
              have hkey := play_prog (r := r) (s := s) (x := x) hl hsx hc hr
              have hscr : (M.counted r s x).score x.player = a3 := by rw [HCT.out, HPL.out]; rfl
              have hfor : (M.counted r s x).foulsOf x.player = f3 := by rw [HCT.out, HPL.out]; rfl
              rw [hscr, hfor, HFL.out, HGD.out, HCT.out] at hkey
              obtain ⟨wn, hwn⟩ : ∃ q, (winP r s x gd a3).1 = q := ⟨_, rfl⟩
              obtain ⟨ov, hov⟩ : ∃ q, (winP r s x gd a3).2 = q := ⟨_, rfl⟩
              rw [hwn, hov] at hkey
              have hWW := fun W h h' => winner_any S r s x A P c d gd a3 W h h' hpos hr hg (by omega) (by omega)
              rw [hwn, hov] at hWW
              have HW := hide hWW
              have HK := hide hkey
              clear hWW hkey hwn hov hscr hfor hpl2
              have qs := hQ.g.cell (j := 11) rfl
              go_upto_region 15 with (fail)
              go_cut [10, 11] (fun v10 v11 wx => v10 = .int .i64 wn ∧ v11 = .bool ov ∧ PlayAt w wx [(frameCells r (s) A c, 127), (shCells ⟨x, P, d⟩, 66), (zeroFrame, 127)] D (frameCells r ({ s with brk := false, hand := false, push := pu, pushed := pd, balls := M.left r s x, s1 := a3, run := b3, f1 := f3 }) A2 c2) ∧ RdI wx (fun b => w.heap.size + 3 ≤ b ∧ b ≠ D) A2 c2 (M.left r s x))
              case first =>
                as_aux_lemma =>
                  have hrF : ∀ W : World, (fun w' : World => (∀ p q, p < w.heap.size + 3 → w'.cell? ⟨p, q, none⟩ = wc.cell? ⟨p, q, none⟩) ∧ w'.cell? ⟨D, 11, none⟩ = some (.int .i64 a3)) W → W.rangeAt w.heap.size 0 (frameCells r (s) A c) := fun W h j v hj => by rw [h.1 _ _ (by omega)]; exact (hQ.b.get0 rfl).range j v hj
                  have hrX : ∀ W : World, (fun w' : World => (∀ p q, p < w.heap.size + 3 → w'.cell? ⟨p, q, none⟩ = wc.cell? ⟨p, q, none⟩) ∧ w'.cell? ⟨D, 11, none⟩ = some (.int .i64 a3)) W → W.rangeAt (w.heap.size + 1) 0 (shCells ⟨x, P, d⟩) := fun W h j v hj => by rw [h.1 _ _ (by omega)]; exact (hQ.b.get 1 rfl).range j v hj
                  refine wp_region_held_drew (S := (fun w' : World => (∀ p q, p < w.heap.size + 3 → w'.cell? ⟨p, q, none⟩ = wc.cell? ⟨p, q, none⟩) ∧ w'.cell? ⟨D, 11, none⟩ = some (.int .i64 a3))) (by kernel_rfl) ?q5xstart (fun hHeld => ?_)
                  case q5xstart => first | exact ⟨fun p q h => rfl, qs⟩ | exact ⟨fun p q h => hQ.drew.b.cells hb1 p q h, (hb1.cell (p := ⟨D, _, none⟩) hQ.drew.g.lt).trans qs⟩
                  refine wpAnyH_take (i := 0) (oi := _) (v := _) (ga rfl) (by kernel_rfl) (by kernel_rfl) (by kernel_rfl) (fun _ _ _ h => h) (yieldsIf_load_mid (by rfl) _ _ (by rfl) _ _ (by rfl) _ _ hrF Tryz.underlying127 rfl (by kernel_rfl)) (by assumption) ?_
                  try simp only [Act.put, la, lz, ls]
                  refine wpAnyH_take (i := 1) (oi := _) (v := _) (ga rfl) (by kernel_rfl) (by kernel_rfl) (by kernel_rfl) (fun _ _ _ h => h) (yieldsIf_load_mid (by rfl) _ _ (by rfl) _ _ (by rfl) _ _ hrX Tryz.underlying66 rfl (by kernel_rfl)) (by assumption) ?_
                  try simp only [Act.put, la, lz, ls]
                  refine wpAnyH_take (i := 2) (oi := _) (v := ?q5xv2) (ga rfl) (by kernel_rfl) (by kernel_rfl) (by kernel_rfl) (fun _ _ _ h => h) (Or.inl ⟨by rfl, ?q5xy2⟩) (by assumption) ?_
                  case q5xy2 => (intro w hSw; (try dsimp only at hSw); go_simp; try with_reducible rfl)
                  try simp only [Act.put, la, lz, ls]
                  refine wpAnyH_take (i := 3) (oi := _) (v := ?q5xv3) (ga rfl) (by kernel_rfl) (by kernel_rfl) (by kernel_rfl) (fun _ _ _ h => h) (Or.inl ⟨by rfl, ?q5xy3⟩) (by assumption) ?_
                  case q5xy3 => (intro w hSw; (try dsimp only at hSw); go_simp; try with_reducible rfl)
                  try simp only [Act.put, la, lz, ls]
                  refine wpAnyH_take (i := 4) (oi := _) (v := ?q5xv4) (ga rfl) (by kernel_rfl) (by kernel_rfl) (by kernel_rfl) (fun _ _ _ h => h) (Or.inl ⟨by rfl, ?q5xy4⟩) (by assumption) ?_
                  case q5xy4 => (intro w hSw; (try dsimp only at hSw); go_simp; try with_reducible rfl)
                  try simp only [Act.put, la, lz, ls]
                  refine wpAnyH_take (i := 5) (oi := _) (v := ?q5xv5) (ga rfl) (by kernel_rfl) (by kernel_rfl) (by kernel_rfl) (fun _ _ _ h => h) (Or.inl ⟨by rfl, ?q5xy5⟩) (by assumption) ?_
                  case q5xy5 => (intro w hSw; (try dsimp only at hSw); go_simp; try with_reducible rfl)
                  try simp only [Act.put, la, lz, ls]
                  refine wpAnyH_take (i := 6) (oi := _) (v := ?q5xv6) (ga rfl) (by kernel_rfl) (by kernel_rfl) (by kernel_rfl) (fun _ _ _ h => h) (Or.inl ⟨by rfl, ?q5xy6⟩) (by assumption) ?_
                  case q5xy6 => (intro w hSw; (try dsimp only at hSw); go_simp; try with_reducible rfl)
                  try simp only [Act.put, la, lz, ls]
                  refine wpAnyH_take (i := 7) (oi := _) (v := ?q5xv7) (ga rfl) (by kernel_rfl) (by kernel_rfl) (by kernel_rfl) (fun _ _ _ h => h) (Or.inl ⟨by rfl, ?q5xy7⟩) (by assumption) ?_
                  case q5xy7 => (intro w hSw; (try dsimp only at hSw); go_simp; try with_reducible rfl)
                  try simp only [Act.put, la, lz, ls]
                  refine wpAnyH_ready (rs := [8]) (by kernel_rfl) (by simp) ?_
                  refine AllReadyH.cons (o := _) (ga rfl) (fun K hK => ?_) AllReadyH.nil
                  go_simp
                  (go_at_call 164; refine (HW.out _ (hp.below hQ.drew.b.bw) (hpp.below hQ.drew.b.bw)).mono ?_; rintro e w1 ⟨rfl, hb1⟩; have hQ1 := hQ.drew.call (by simp) hb1)
                  refine hK.out _ _ ?q5xh8 (fun hHeld => ?_)
                  case q5xh8 => (first | (first | exact ⟨fun p q h => rfl, qs⟩ | exact ⟨fun p q h => hQ.drew.b.cells hb1 p q h, (hb1.cell (p := ⟨D, _, none⟩) hQ.drew.g.lt).trans qs⟩) | (dsimp only; first | exact ⟨fun p q h => rfl, qs⟩ | exact ⟨fun p q h => hQ.drew.b.cells hb1 p q h, (hb1.cell (p := ⟨D, _, none⟩) hQ.drew.g.lt).trans qs⟩))
                  clear hK K
                  try simp only [Act.put, la, lz, ls]
                  refine wpAnyH_take (i := 9) (oi := _) (v := ?q5xv9) (ga rfl) (by kernel_rfl) (by kernel_rfl) (by kernel_rfl) (fun _ _ _ h => h) (Or.inl ⟨by rfl, ?q5xy9⟩) (by assumption) ?_
                  case q5xy9 => (intro w hSw; (try dsimp only at hSw); go_simp; try with_reducible rfl)
                  try simp only [Act.put, la, lz, ls]
                  refine wpAnyH_take (i := 10) (oi := _) (v := ?q5xv10) (ga rfl) (by kernel_rfl) (by kernel_rfl) (by kernel_rfl) (fun _ _ _ h => h) (Or.inl ⟨by rfl, ?q5xy10⟩) (by assumption) ?_
                  case q5xy10 => (intro w hSw; (try dsimp only at hSw); go_simp; try with_reducible rfl)
                  try simp only [Act.put, la, lz, ls]
                  refine wpAnyH_take (i := 11) (oi := _) (v := ?q5xv11) (ga rfl) (by kernel_rfl) (by kernel_rfl) (by kernel_rfl) (fun _ _ _ h => h) (Or.inl ⟨by rfl, ?q5xy11⟩) (by assumption) ?_
                  case q5xy11 => (intro w hSw; (try dsimp only at hSw); go_simp; try with_reducible rfl)
                  try simp only [Act.put, la, lz, ls]
                  refine wpAnyH_take (i := 12) (oi := _) (v := ?q5xv12) (ga rfl) (by kernel_rfl) (by kernel_rfl) (by kernel_rfl) (fun _ _ _ h => h) (Or.inl ⟨by rfl, ?q5xy12⟩) (by assumption) ?_
                  case q5xy12 => (intro w hSw; (try dsimp only at hSw); go_simp; try with_reducible rfl)
                  try simp only [Act.put, la, lz, ls]
                  refine wpAnyH_take (i := 13) (oi := _) (v := ?q5xv13) (ga rfl) (by kernel_rfl) (by kernel_rfl) (by kernel_rfl) (fun _ _ _ h => h) (Or.inl ⟨by rfl, ?q5xy13⟩) (by assumption) ?_
                  case q5xy13 => (intro w hSw; (try dsimp only at hSw); go_simp; try with_reducible rfl)
                  try simp only [Act.put, la, lz, ls]
                  refine wpAnyH_done (by kernel_rfl) ?_ _
                  go_wp2
                  go_meet
                  exact ⟨rfl, rfl, hQ1, RdI.below (show RdI wc.drew _ _ _ _ from hrk) hb1⟩
              case rest =>
                clear hQ hrk qs
                obtain ⟨rfl, rfl, hQ, hrk⟩ := hcut
                cases ov with
                | true =>
                  as_aux_lemma =>
                    have hS := (hQ.set hD 16 (.bool true)).set hD 17 (.int .i64 wn)
                    have hSS : PlayAt w ((wc.setCell ⟨D, 16, none⟩ (.bool true)).setCell ⟨D, 17, none⟩ (.int .i64 wn)) [(frameCells r (s) A c, 127), (shCells ⟨x, P, d⟩, 66), (zeroFrame, 127)] D (frameCells r ({ s with brk := false, hand := false, push := pu, pushed := pd, balls := M.left r s x, s1 := a3, run := b3, f1 := f3, over := true, winner := wn }) A2 c2) := hS
                    have hrk2 := (hrk.setCell (p := ⟨D, 16, none⟩) (fun h => h.2 rfl) (.bool true)).setCell (p := ⟨D, 17, none⟩) (fun h => h.2 rfl) (.int .i64 wn)
                    have o16 := hQ.g.cell (j := 16) rfl
                    have o17 := hQ.g.cell (j := 17) rfl
                    have of16 := hQ.g.frozen 16
                    have of17 := hQ.g.frozen 17
                    have hpm : M.play r s x = { s with brk := false, hand := false, push := pu, pushed := pd, balls := M.left r s x, s1 := a3, run := b3, f1 := f3, over := true, winner := wn } := HK.out
                    have HPM := hide hpm
                    clear hpm hS
                    go_wp2_with (first | (refine is_load 127 (.tmp 8) rfl ?_; refine next_load (hSS.g) Tryz.underlying127 rfl frame_info rfl (.tmp 8) rfl rfl ?_) | (refine is_store 127 (.tmp 4) (.tmp 98) rfl ?_; refine next_store (hSS.b.get 2 rfl) (frameCells r ({ s with brk := false, hand := false, push := pu, pushed := pd, balls := M.left r s x, s1 := a3, run := b3, f1 := f3, over := true, winner := wn }) A2 c2) rfl frame_info (frame_one _ _ _ _) rfl (.tmp 4) (.tmp 98) rfl rfl rfl ?_))
                    have hZ := hSS.b.put 2 rfl (frameCells r ({ s with brk := false, hand := false, push := pu, pushed := pd, balls := M.left r s x, s1 := a3, run := b3, f1 := f3, over := true, winner := wn }) A2 c2) rfl
                    refine bodyPost_ret (held_ret (p := 4) (hZ.get 2 rfl) Tryz.underlying127 rfl frame_info rfl _ rfl) rfl ⟨A2, c2, ?_, ?_, hZ.bw⟩
                    · rw [HPM.out]; rfl
                    · rw [HPM.out]
                      have hg2 : ¬ (fun b => w.heap.size + 3 ≤ b ∧ b ≠ D) (w.heap.size + 2) := fun h => by have h1 : w.heap.size + 3 ≤ w.heap.size + 2 := h.1; omega
                      exact (RdI.sets hg2 _ 0 _ hrk2).more (fun b _ h => Nat.le_trans (by omega) h.1)
                | false =>
                  as_aux_lemma =>
                    have qf := hQ.g.cell (j := 13) rfl
                    have k2 := (hQ.b.get0 rfl).cell (j := 2) rfl
                    have hk1 := HK.out
                    rw [if_neg (by decide)] at hk1
                    have HK1 := hide hk1
                    clear hk1
                    go_upto_region 19 with (fail)
                    go_cut [99] (fun v wx => v = .bool (decide (fl ≠ 0 ∧ f3 = r.fouls)) ∧ PlayAt w wx [(frameCells r (s) A c, 127), (shCells ⟨x, P, d⟩, 66), (zeroFrame, 127)] D (frameCells r ({ s with brk := false, hand := false, push := pu, pushed := pd, balls := M.left r s x, s1 := a3, run := b3, f1 := f3 }) A2 c2) ∧ RdI wx (fun b => w.heap.size + 3 ≤ b ∧ b ≠ D) A2 c2 (M.left r s x))
                    case first =>
                      as_aux_lemma =>
                        rcases zq : (fl == 0) with _ | _
                        · have zn : (fl != 0) = true := by simp [bne, zq]
                          have zm : ¬ fl = 0 := by simpa using zq
                          have Hm := hide zm
                          clear zm
                          rcases ze : (f3 == r.fouls) with _ | _
                          all_goals
                            go_wp2
                            go_quiet (fail)
                            go_wp2
                            go_meet
                            exact ⟨by rw [ibeq] at ze; simp [Hm.out, ze], hQ.drewN _, hrk.drewN _⟩
                        · have zn : (fl != 0) = false := by simp [bne, zq]
                          have zm : fl = 0 := by simpa using zq
                          have Hm := hide zm
                          clear zm
                          go_wp2
                          go_quiet (fail)
                          go_wp2
                          go_meet
                          exact ⟨by simp [Hm.out], hQ.drewN _, hrk.drewN _⟩
                    case rest =>
                      clear hQ hrk qf k2
                      obtain ⟨rfl, hQ, hrk⟩ := hcut
                      have hszc := hQ.b.size (by simp)
                      simp only [List.length_cons, List.length_nil] at hszc
                      obtain ⟨lm, hlm⟩ : ∃ q, decide (fl ≠ 0 ∧ f3 = r.fouls) = q := ⟨_, rfl⟩
                      rw [hlm]
                      cases lm with
                      | true =>
                        as_aux_lemma =>
                          have hpm : M.play r s x = M.limit r ({ s with brk := false, hand := false, push := pu, pushed := pd, balls := M.left r s x, s1 := a3, run := b3, f1 := f3 }) 1 := by have := HK1.out; rw [if_pos (of_decide_eq_true hlm), HPL.out] at this; exact this
                          have HPM := hide hpm
                          clear hpm hlm
                          go_wp2_with (first | (refine is_load 127 (.tmp 8) rfl ?_; refine next_load (hQ.g) Tryz.underlying127 rfl frame_info rfl (.tmp 8) rfl rfl ?_) | (go_at_call 165; refine (limited_any (fun b => w.heap.size + 3 ≤ b ∧ b ≠ D) r ({ s with brk := false, hand := false, push := pu, pushed := pd, balls := M.left r s x, s1 := a3, run := b3, f1 := f3 }) 1 A2 c2 _ hrk (by omega) (by show -1000000 ≤ s.s0; have := hk.s0; omega) (by show s.s0 ≤ 1000000; have := hk.s0; omega) (by show -1000000 ≤ a3; omega) (by show a3 ≤ 1000000; omega) (by show 0 ≤ s.racks; omega) (by show s.racks ≤ 1000000; omega)).mono ?_; rintro e w5 ⟨A4, c4, rfl, hr4, hb5⟩; have hQ5 := hQ.call (by simp) hb5) | (refine is_store 127 (.tmp 4) (.tmp 115) rfl ?_; refine next_store (hQ5.b.get 2 rfl) (frameCells r (M.limit r ({ s with brk := false, hand := false, push := pu, pushed := pd, balls := M.left r s x, s1 := a3, run := b3, f1 := f3 }) 1) A4 c4) rfl frame_info (frame_one _ _ _ _) rfl (.tmp 4) (.tmp 115) rfl rfl rfl ?_))
                          have hZ := hQ5.b.put 2 rfl (frameCells r (M.limit r ({ s with brk := false, hand := false, push := pu, pushed := pd, balls := M.left r s x, s1 := a3, run := b3, f1 := f3 }) 1) A4 c4) rfl
                          refine bodyPost_ret (held_ret (p := 4) (hZ.get 2 rfl) Tryz.underlying127 rfl frame_info rfl _ rfl) rfl ⟨A4, c4, ?_, ?_, hZ.bw⟩
                          · rw [HPM.out]; rfl
                          · rw [HPM.out]
                            have hg2 : ¬ (fun b => ((fun b => w.heap.size + 3 ≤ b ∧ b ≠ D) b) ∨ wc.heap.size ≤ b) (w.heap.size + 2) := fun h => by
                              rcases h with h | h
                              · have h1 : w.heap.size + 3 ≤ w.heap.size + 2 := h.1
                                omega
                              · omega
                            exact (RdI.sets hg2 _ 0 _ hr4).more (fun b _ h => by
                              rcases h with h | h
                              · exact Nat.le_trans (by omega) h.1
                              · omega)
                      | false =>
                        as_aux_lemma =>
                          have hk2 := HK1.out
                          rw [if_neg (of_decide_eq_false hlm)] at hk2
                          have HK2 := hide hk2
                          clear hk2 hlm
                          have hg2 : ¬ (fun b => w.heap.size + 3 ≤ b ∧ b ≠ D) (w.heap.size + 2) := fun h => by have h1 : w.heap.size + 3 ≤ w.heap.size + 2 := h.1; omega
                          have k0 := (hQ.b.get0 rfl).cell (j := 0) rfl
                          cases gd with
                          | false =>
                            as_aux_lemma =>
                              have hpm : M.play r s x = M.passed r s x ({ s with brk := false, hand := false, push := pu, pushed := pd, balls := M.left r s x, s1 := a3, run := b3, f1 := f3 }) := by have := HK2.out; rw [if_pos rfl] at this; exact this
                              have hlt := hl.turn hc
                              have htn : 0 ≤ s.turn ∧ s.turn ≤ 1 := by have := hk.turn; omega
                              have hps : M.passed r s x ({ s with brk := false, hand := false, push := pu, pushed := pd, balls := M.left r s x, s1 := a3, run := b3, f1 := f3 }) = { s with turn := 1 - s.turn, brk := false, hand := decide (M.foul r s x ≠ 0 ∧ (r.game ≠ M.gStraight ∨ M.foul r s x = 1)), push := pu, pushed := pd, balls := M.left r s x, s1 := a3, run := 0, f1 := f3 } := by unfold M.passed; rw [hlt]
                              have hfr := foul_range r s x
                              rw [HFL.out] at hps hfr
                              rw [hps] at hpm
                              have HPM := hide hpm
                              clear hpm hps hlt
                              have g5 := hQ.g.cell (j := 5) rfl
                              have gf5 := hQ.g.frozen 5
                              have hset := fun hb : Bool => hQ.set hD 5 (.bool hb)
                              have HSET := hide hset
                              clear hset
                              have hhand : ∀ z1 z2 z3 : Bool, z1 = (fl == 1) → z2 = decide (1 < fl) → z3 = (r.game.toList == [115, 116, 114, 97, 105, 103, 104, 116]) → decide (fl ≠ 0 ∧ (r.game ≠ M.gStraight ∨ fl = 1)) = (z1 || (z2 && !z3)) := by
                                rintro z1 z2 z3 rfl rfl rfl
                                rw [toList_beq r.game [115, 116, 114, 97, 105, 103, 104, 116], ibeq]
                                by_cases q1 : fl = 1
                                · simp [q1]
                                · by_cases q2 : 1 < fl
                                  · by_cases q3 : r.game = M.gStraight <;> simp [q1, q2, q3] <;> omega
                                  · have : fl = 0 := by omega
                                    simp [this]
                              have HH := hide hhand
                              clear hhand
                              rcases z1 : (fl == 1) with _ | _
                              · rcases z2 : decide (1 < fl) with _ | _
                                · have hhb : decide (fl ≠ 0 ∧ (r.game ≠ M.gStraight ∨ fl = 1)) = false := by rw [HH.out _ _ _ z1.symm z2.symm rfl]; rfl
                                  have hS : PlayAt w (wc.setCell ⟨D, 5, none⟩ (.bool false)) [(frameCells r (s) A c, 127), (shCells ⟨x, P, d⟩, 66), (zeroFrame, 127)] D (frameCells r ({ s with brk := false, hand := false, push := pu, pushed := pd, balls := M.left r s x, s1 := a3, run := b3, f1 := f3 }) A2 c2) := HSET.out false
                                  have hrk2 := hrk.setCell (p := ⟨D, 5, none⟩) (fun h => h.2 rfl) (.bool false)
                                  have HHB := hide hhb
                                  clear hhb
                                  go_wp2_with (first | (refine is_load 127 (.tmp 8) rfl ?_; refine next_load (hS.g) Tryz.underlying127 rfl frame_info rfl (.tmp 8) rfl rfl ?_) | (go_at_call 143; refine (changed_any r ({ s with brk := false, hand := false, push := pu, pushed := pd, balls := M.left r s x, s1 := a3, run := b3, f1 := f3 }) A2 c2 _ htn.1 htn.2).mono ?_; rintro e w5 ⟨rfl, hb5⟩; have hQ5 := hS.call (by simp) hb5) | (refine is_store 127 (.tmp 4) (.tmp 134) rfl ?_; refine next_store (hQ5.b.get 2 rfl) (frameCells r ({ s with turn := 1 - s.turn, brk := false, hand := false, push := pu, pushed := pd, balls := M.left r s x, s1 := a3, run := 0, f1 := f3 }) A2 c2) rfl frame_info (frame_one _ _ _ _) rfl (.tmp 4) (.tmp 134) rfl rfl rfl ?_))
                                  have hZ := hQ5.b.put 2 rfl (frameCells r ({ s with turn := 1 - s.turn, brk := false, hand := false, push := pu, pushed := pd, balls := M.left r s x, s1 := a3, run := 0, f1 := f3 }) A2 c2) rfl
                                  refine bodyPost_ret (held_ret (p := 4) (hZ.get 2 rfl) Tryz.underlying127 rfl frame_info rfl _ rfl) rfl ⟨A2, c2, ?_, ?_, hZ.bw⟩
                                  · rw [HPM.out, HHB.out]; rfl
                                  · rw [HPM.out]; exact (RdI.sets hg2 _ 0 _ (RdI.below hrk2 hb5)).more (fun b _ h => Nat.le_trans (by omega) h.1)
                                · rcases z3 : (r.game.toList == [115, 116, 114, 97, 105, 103, 104, 116]) with _ | _
                                  · have hhb : decide (fl ≠ 0 ∧ (r.game ≠ M.gStraight ∨ fl = 1)) = true := by rw [HH.out _ _ _ z1.symm z2.symm z3.symm]; rfl
                                    have hS : PlayAt w (wc.setCell ⟨D, 5, none⟩ (.bool true)) [(frameCells r (s) A c, 127), (shCells ⟨x, P, d⟩, 66), (zeroFrame, 127)] D (frameCells r ({ s with brk := false, hand := true, push := pu, pushed := pd, balls := M.left r s x, s1 := a3, run := b3, f1 := f3 }) A2 c2) := HSET.out true
                                    have hrk2 := hrk.setCell (p := ⟨D, 5, none⟩) (fun h => h.2 rfl) (.bool true)
                                    have HHB := hide hhb
                                    clear hhb
                                    go_wp2_with (first | (refine is_load 127 (.tmp 8) rfl ?_; refine next_load (hS.g) Tryz.underlying127 rfl frame_info rfl (.tmp 8) rfl rfl ?_) | (go_at_call 143; refine (changed_any r ({ s with brk := false, hand := true, push := pu, pushed := pd, balls := M.left r s x, s1 := a3, run := b3, f1 := f3 }) A2 c2 _ htn.1 htn.2).mono ?_; rintro e w5 ⟨rfl, hb5⟩; have hQ5 := hS.call (by simp) hb5) | (refine is_store 127 (.tmp 4) (.tmp 134) rfl ?_; refine next_store (hQ5.b.get 2 rfl) (frameCells r ({ s with turn := 1 - s.turn, brk := false, hand := true, push := pu, pushed := pd, balls := M.left r s x, s1 := a3, run := 0, f1 := f3 }) A2 c2) rfl frame_info (frame_one _ _ _ _) rfl (.tmp 4) (.tmp 134) rfl rfl rfl ?_))
                                    have hZ := hQ5.b.put 2 rfl (frameCells r ({ s with turn := 1 - s.turn, brk := false, hand := true, push := pu, pushed := pd, balls := M.left r s x, s1 := a3, run := 0, f1 := f3 }) A2 c2) rfl
                                    refine bodyPost_ret (held_ret (p := 4) (hZ.get 2 rfl) Tryz.underlying127 rfl frame_info rfl _ rfl) rfl ⟨A2, c2, ?_, ?_, hZ.bw⟩
                                    · rw [HPM.out, HHB.out]; rfl
                                    · rw [HPM.out]; exact (RdI.sets hg2 _ 0 _ (RdI.below hrk2 hb5)).more (fun b _ h => Nat.le_trans (by omega) h.1)
                                  · have hhb : decide (fl ≠ 0 ∧ (r.game ≠ M.gStraight ∨ fl = 1)) = false := by rw [HH.out _ _ _ z1.symm z2.symm z3.symm]; rfl
                                    have hS : PlayAt w (wc.setCell ⟨D, 5, none⟩ (.bool false)) [(frameCells r (s) A c, 127), (shCells ⟨x, P, d⟩, 66), (zeroFrame, 127)] D (frameCells r ({ s with brk := false, hand := false, push := pu, pushed := pd, balls := M.left r s x, s1 := a3, run := b3, f1 := f3 }) A2 c2) := HSET.out false
                                    have hrk2 := hrk.setCell (p := ⟨D, 5, none⟩) (fun h => h.2 rfl) (.bool false)
                                    have HHB := hide hhb
                                    clear hhb
                                    go_wp2_with (first | (refine is_load 127 (.tmp 8) rfl ?_; refine next_load (hS.g) Tryz.underlying127 rfl frame_info rfl (.tmp 8) rfl rfl ?_) | (go_at_call 143; refine (changed_any r ({ s with brk := false, hand := false, push := pu, pushed := pd, balls := M.left r s x, s1 := a3, run := b3, f1 := f3 }) A2 c2 _ htn.1 htn.2).mono ?_; rintro e w5 ⟨rfl, hb5⟩; have hQ5 := hS.call (by simp) hb5) | (refine is_store 127 (.tmp 4) (.tmp 134) rfl ?_; refine next_store (hQ5.b.get 2 rfl) (frameCells r ({ s with turn := 1 - s.turn, brk := false, hand := false, push := pu, pushed := pd, balls := M.left r s x, s1 := a3, run := 0, f1 := f3 }) A2 c2) rfl frame_info (frame_one _ _ _ _) rfl (.tmp 4) (.tmp 134) rfl rfl rfl ?_))
                                    have hZ := hQ5.b.put 2 rfl (frameCells r ({ s with turn := 1 - s.turn, brk := false, hand := false, push := pu, pushed := pd, balls := M.left r s x, s1 := a3, run := 0, f1 := f3 }) A2 c2) rfl
                                    refine bodyPost_ret (held_ret (p := 4) (hZ.get 2 rfl) Tryz.underlying127 rfl frame_info rfl _ rfl) rfl ⟨A2, c2, ?_, ?_, hZ.bw⟩
                                    · rw [HPM.out, HHB.out]; rfl
                                    · rw [HPM.out]; exact (RdI.sets hg2 _ 0 _ (RdI.below hrk2 hb5)).more (fun b _ h => Nat.le_trans (by omega) h.1)
                              · have hhb : decide (fl ≠ 0 ∧ (r.game ≠ M.gStraight ∨ fl = 1)) = true := by rw [HH.out _ _ _ z1.symm rfl rfl]; rfl
                                have hS : PlayAt w (wc.setCell ⟨D, 5, none⟩ (.bool true)) [(frameCells r (s) A c, 127), (shCells ⟨x, P, d⟩, 66), (zeroFrame, 127)] D (frameCells r ({ s with brk := false, hand := true, push := pu, pushed := pd, balls := M.left r s x, s1 := a3, run := b3, f1 := f3 }) A2 c2) := HSET.out true
                                have hrk2 := hrk.setCell (p := ⟨D, 5, none⟩) (fun h => h.2 rfl) (.bool true)
                                have HHB := hide hhb
                                clear hhb
                                go_wp2_with (first | (refine is_load 127 (.tmp 8) rfl ?_; refine next_load (hS.g) Tryz.underlying127 rfl frame_info rfl (.tmp 8) rfl rfl ?_) | (go_at_call 143; refine (changed_any r ({ s with brk := false, hand := true, push := pu, pushed := pd, balls := M.left r s x, s1 := a3, run := b3, f1 := f3 }) A2 c2 _ htn.1 htn.2).mono ?_; rintro e w5 ⟨rfl, hb5⟩; have hQ5 := hS.call (by simp) hb5) | (refine is_store 127 (.tmp 4) (.tmp 134) rfl ?_; refine next_store (hQ5.b.get 2 rfl) (frameCells r ({ s with turn := 1 - s.turn, brk := false, hand := true, push := pu, pushed := pd, balls := M.left r s x, s1 := a3, run := 0, f1 := f3 }) A2 c2) rfl frame_info (frame_one _ _ _ _) rfl (.tmp 4) (.tmp 134) rfl rfl rfl ?_))
                                have hZ := hQ5.b.put 2 rfl (frameCells r ({ s with turn := 1 - s.turn, brk := false, hand := true, push := pu, pushed := pd, balls := M.left r s x, s1 := a3, run := 0, f1 := f3 }) A2 c2) rfl
                                refine bodyPost_ret (held_ret (p := 4) (hZ.get 2 rfl) Tryz.underlying127 rfl frame_info rfl _ rfl) rfl ⟨A2, c2, ?_, ?_, hZ.bw⟩
                                · rw [HPM.out, HHB.out]; rfl
                                · rw [HPM.out]; exact (RdI.sets hg2 _ 0 _ (RdI.below hrk2 hb5)).more (fun b _ h => Nat.le_trans (by omega) h.1)
                          | true =>
                            as_aux_lemma =>
                              have hpm : M.play r s x = M.reracked r (M.grouped r s x ({ s with brk := false, hand := false, push := pu, pushed := pd, balls := M.left r s x, s1 := a3, run := b3, f1 := f3 })) := by have := HK2.out; rw [if_neg (by decide)] at this; exact this
                              have HP0 := hide hpm
                              clear hpm
                              have xk := (hQ.b.get 1 rfl).cell (j := 1) rfl
                              have xb := (hQ.b.get 1 rfl).cell (j := 2) rfl
                              have kg := (hQ.b.get0 rfl).cell (j := 8) rfl
                              have g8 := hQ.g.cell (j := 8) rfl
                              have gf8 := hQ.g.frozen 8
                              have g9 := hQ.g.cell (j := 9) rfl
                              have e1 := toList_beq r.game [101, 105, 103, 104, 116]
                              have e2 := toList_beq x.kind [112, 108, 97, 121]
                              have e3 := toList_beq r.game [115, 116, 114, 97, 105, 103, 104, 116]
                              have E1 := hide e1
                              have E2 := hide e2
                              have E3 := hide e3
                              clear e1 e2 e3
                              have hsd := M.side_le x.ball
                              rcases y8 : (r.game.toList == [101, 105, 103, 104, 116]) with _ | _
                              · have hng : ¬ r.game = M.gEight := by have := E1.out; rw [y8] at this; simpa using this.symm
                                have hgp : M.grouped r s x ({ s with brk := false, hand := false, push := pu, pushed := pd, balls := M.left r s x, s1 := a3, run := b3, f1 := f3 }) = { s with brk := false, hand := false, push := pu, pushed := pd, balls := M.left r s x, s1 := a3, run := b3, f1 := f3 } := by unfold M.grouped; rw [if_neg (fun h => hng h.1)]
                                have HGP := hide hgp
                                clear hgp hng
                                rcases zs : (r.game.toList == [115, 116, 114, 97, 105, 103, 104, 116]) with _ | _
                                · have hns : ¬ r.game = M.gStraight := by have := E3.out; rw [zs] at this; simpa using this.symm
                                  have hpm : M.play r s x = { s with brk := false, hand := false, push := pu, pushed := pd, balls := M.left r s x, s1 := a3, run := b3, f1 := f3 } := by rw [HP0.out, HGP.out]; unfold M.reracked; rw [if_neg (fun h => hns h.1)]
                                  have HPM := hide hpm
                                  have hnm0 := hide hns
                                  clear hpm hns
                                  go_wp2_with (first | (refine is_load 127 (.tmp 8) rfl ?_; refine next_load (hQ.g) Tryz.underlying127 rfl frame_info rfl (.tmp 8) rfl rfl ?_) | (refine is_store 127 (.tmp 4) (.tmp 176) rfl ?_; refine next_store (hQ.b.get 2 rfl) (frameCells r ({ s with brk := false, hand := false, push := pu, pushed := pd, balls := M.left r s x, s1 := a3, run := b3, f1 := f3 }) A2 c2) rfl frame_info (frame_one _ _ _ _) rfl (.tmp 4) (.tmp 176) rfl rfl rfl ?_))
                                  have hZ := hQ.b.put 2 rfl (frameCells r ({ s with brk := false, hand := false, push := pu, pushed := pd, balls := M.left r s x, s1 := a3, run := b3, f1 := f3 }) A2 c2) rfl
                                  refine bodyPost_ret (held_ret (p := 4) (hZ.get 2 rfl) Tryz.underlying127 rfl frame_info rfl _ rfl) rfl ⟨A2, c2, ?_, ?_, hZ.bw⟩
                                  · rw [HPM.out]; rfl
                                  · rw [HPM.out]; exact (RdI.sets hg2 _ 0 _ hrk).more (fun b _ h => Nat.le_trans (by omega) h.1)
                                · have hns : r.game = M.gStraight := by have := E3.out; rw [zs] at this; simpa using this.symm
                                  have Hns := hide hns
                                  clear hns
                                  by_cases hln : (M.left r s x).length ≤ 1
                                  · have d2 : decide (((M.left r s x).length : Int) ≤ 1) = true := by rw [decide_eq_true_eq]; omega
                                    have hpm : M.play r s x = { s with brk := false, hand := false, push := pu, pushed := pd, balls := M.rack r, s1 := a3, run := b3, f1 := f3, racks := s.racks + 1 } := by rw [HP0.out, HGP.out]; unfold M.reracked; rw [if_pos ⟨Hns.out, hln⟩]
                                    have HPM := hide hpm
                                    clear hpm
                                    go_wp2_with (first | (refine is_load 127 (.tmp 8) rfl ?_; refine next_load (hQ.g) Tryz.underlying127 rfl frame_info rfl (.tmp 8) rfl rfl ?_) | (go_at_call 166; refine (racked_any r ({ s with brk := false, hand := false, push := pu, pushed := pd, balls := M.left r s x, s1 := a3, run := b3, f1 := f3 }) A2 c2 _ (by show 0 ≤ s.racks; omega) (by show s.racks ≤ 1000000; omega)).mono ?_; rintro e w5 ⟨A4, c4, rfl, hr4, hb5⟩; have hQ5 := hQ.call (by simp) hb5) | (refine is_store 127 (.tmp 4) (.tmp 175) rfl ?_; refine next_store (hQ5.b.get 2 rfl) (frameCells r ({ s with brk := false, hand := false, push := pu, pushed := pd, balls := M.rack r, s1 := a3, run := b3, f1 := f3, racks := s.racks + 1 }) A4 c4) rfl frame_info (frame_one _ _ _ _) rfl (.tmp 4) (.tmp 175) rfl rfl rfl ?_))
                                    have hZ := hQ5.b.put 2 rfl (frameCells r ({ s with brk := false, hand := false, push := pu, pushed := pd, balls := M.rack r, s1 := a3, run := b3, f1 := f3, racks := s.racks + 1 }) A4 c4) rfl
                                    refine bodyPost_ret (held_ret (p := 4) (hZ.get 2 rfl) Tryz.underlying127 rfl frame_info rfl _ rfl) rfl ⟨A4, c4, ?_, ?_, hZ.bw⟩
                                    · rw [HPM.out]; rfl
                                    · rw [HPM.out]
                                      have hg3 : ¬ (fun b => wc.heap.size ≤ b) (w.heap.size + 2) := fun h => by
                                        have h : wc.heap.size ≤ w.heap.size + 2 := h
                                        omega
                                      exact (RdI.sets hg3 _ 0 _ hr4).more (fun b _ h => by omega)
                                  · have d2 : decide (((M.left r s x).length : Int) ≤ 1) = false := by rw [decide_eq_false_iff_not]; omega
                                    have hpm : M.play r s x = { s with brk := false, hand := false, push := pu, pushed := pd, balls := M.left r s x, s1 := a3, run := b3, f1 := f3 } := by rw [HP0.out, HGP.out]; unfold M.reracked; rw [if_neg (fun h => hln h.2)]
                                    have HPM := hide hpm
                                    have hnm0 := hide hln
                                    clear hpm hln
                                    go_wp2_with (first | (refine is_load 127 (.tmp 8) rfl ?_; refine next_load (hQ.g) Tryz.underlying127 rfl frame_info rfl (.tmp 8) rfl rfl ?_) | (refine is_store 127 (.tmp 4) (.tmp 176) rfl ?_; refine next_store (hQ.b.get 2 rfl) (frameCells r ({ s with brk := false, hand := false, push := pu, pushed := pd, balls := M.left r s x, s1 := a3, run := b3, f1 := f3 }) A2 c2) rfl frame_info (frame_one _ _ _ _) rfl (.tmp 4) (.tmp 176) rfl rfl rfl ?_))
                                    have hZ := hQ.b.put 2 rfl (frameCells r ({ s with brk := false, hand := false, push := pu, pushed := pd, balls := M.left r s x, s1 := a3, run := b3, f1 := f3 }) A2 c2) rfl
                                    refine bodyPost_ret (held_ret (p := 4) (hZ.get 2 rfl) Tryz.underlying127 rfl frame_info rfl _ rfl) rfl ⟨A2, c2, ?_, ?_, hZ.bw⟩
                                    · rw [HPM.out]; rfl
                                    · rw [HPM.out]; exact (RdI.sets hg2 _ 0 _ hrk).more (fun b _ h => Nat.le_trans (by omega) h.1)
                              · have hgy : r.game = M.gEight := by have := E1.out; rw [y8] at this; simpa using this.symm
                                have zs : (r.game.toList == [115, 116, 114, 97, 105, 103, 104, 116]) = false := by rw [E3.out, hgy]; decide
                                have hns : ¬ r.game = M.gStraight := by rw [hgy]; decide
                                have Hgy := hide hgy
                                clear hgy
                                rcases yp : (x.kind.toList == [112, 108, 97, 121]) with _ | _
                                · have hgp : M.grouped r s x ({ s with brk := false, hand := false, push := pu, pushed := pd, balls := M.left r s x, s1 := a3, run := b3, f1 := f3 }) = { s with brk := false, hand := false, push := pu, pushed := pd, balls := M.left r s x, s1 := a3, run := b3, f1 := f3 } := by unfold M.grouped; rw [if_neg (fun h => by have := E2.out; rw [yp] at this; simp [h.2.1] at this)]
                                  have HGP := hide hgp
                                  clear hgp
                                  have hpm : M.play r s x = { s with brk := false, hand := false, push := pu, pushed := pd, balls := M.left r s x, s1 := a3, run := b3, f1 := f3 } := by rw [HP0.out, HGP.out]; unfold M.reracked; rw [if_neg (fun h => hns h.1)]
                                  have HPM := hide hpm
                                  have hnm0 := hide hns
                                  clear hpm hns
                                  go_wp2_with (first | (refine is_load 127 (.tmp 8) rfl ?_; refine next_load (hQ.g) Tryz.underlying127 rfl frame_info rfl (.tmp 8) rfl rfl ?_) | (refine is_store 127 (.tmp 4) (.tmp 176) rfl ?_; refine next_store (hQ.b.get 2 rfl) (frameCells r ({ s with brk := false, hand := false, push := pu, pushed := pd, balls := M.left r s x, s1 := a3, run := b3, f1 := f3 }) A2 c2) rfl frame_info (frame_one _ _ _ _) rfl (.tmp 4) (.tmp 176) rfl rfl rfl ?_))
                                  have hZ := hQ.b.put 2 rfl (frameCells r ({ s with brk := false, hand := false, push := pu, pushed := pd, balls := M.left r s x, s1 := a3, run := b3, f1 := f3 }) A2 c2) rfl
                                  refine bodyPost_ret (held_ret (p := 4) (hZ.get 2 rfl) Tryz.underlying127 rfl frame_info rfl _ rfl) rfl ⟨A2, c2, ?_, ?_, hZ.bw⟩
                                  · rw [HPM.out]; rfl
                                  · rw [HPM.out]; exact (RdI.sets hg2 _ 0 _ hrk).more (fun b _ h => Nat.le_trans (by omega) h.1)
                                · rcases yg : (s.group == 0) with _ | _
                                  · have hgp : M.grouped r s x ({ s with brk := false, hand := false, push := pu, pushed := pd, balls := M.left r s x, s1 := a3, run := b3, f1 := f3 }) = { s with brk := false, hand := false, push := pu, pushed := pd, balls := M.left r s x, s1 := a3, run := b3, f1 := f3 } := by unfold M.grouped; rw [if_neg (fun h => by rw [ibeq] at yg; simp [h.2.2] at yg)]
                                    have HGP := hide hgp
                                    clear hgp
                                    have hpm : M.play r s x = { s with brk := false, hand := false, push := pu, pushed := pd, balls := M.left r s x, s1 := a3, run := b3, f1 := f3 } := by rw [HP0.out, HGP.out]; unfold M.reracked; rw [if_neg (fun h => hns h.1)]
                                    have HPM := hide hpm
                                    have hnm0 := hide hns
                                    clear hpm hns
                                    go_wp2_with (first | (refine is_load 127 (.tmp 8) rfl ?_; refine next_load (hQ.g) Tryz.underlying127 rfl frame_info rfl (.tmp 8) rfl rfl ?_) | (refine is_store 127 (.tmp 4) (.tmp 176) rfl ?_; refine next_store (hQ.b.get 2 rfl) (frameCells r ({ s with brk := false, hand := false, push := pu, pushed := pd, balls := M.left r s x, s1 := a3, run := b3, f1 := f3 }) A2 c2) rfl frame_info (frame_one _ _ _ _) rfl (.tmp 4) (.tmp 176) rfl rfl rfl ?_))
                                    have hZ := hQ.b.put 2 rfl (frameCells r ({ s with brk := false, hand := false, push := pu, pushed := pd, balls := M.left r s x, s1 := a3, run := b3, f1 := f3 }) A2 c2) rfl
                                    refine bodyPost_ret (held_ret (p := 4) (hZ.get 2 rfl) Tryz.underlying127 rfl frame_info rfl _ rfl) rfl ⟨A2, c2, ?_, ?_, hZ.bw⟩
                                    · rw [HPM.out]; rfl
                                    · rw [HPM.out]; exact (RdI.sets hg2 _ 0 _ hrk).more (fun b _ h => Nat.le_trans (by omega) h.1)
                                  · have hgp : M.play r s x = { s with brk := false, hand := false, push := pu, pushed := pd, group := 3 - M.side x.ball, balls := M.left r s x, s1 := a3, run := b3, f1 := f3 } := by
                                      have q1 := E2.out
                                      rw [yp] at q1
                                      have q2 : x.kind = M.kPlay := by simpa using q1.symm
                                      have q3 : s.group = 0 := by rw [ibeq] at yg; simpa using yg
                                      rw [HP0.out]
                                      unfold M.grouped
                                      rw [if_pos ⟨Hgy.out, q2, q3⟩]
                                      unfold M.reracked
                                      rw [if_neg (fun h => hns h.1), HPL.out]
                                      rfl
                                    have HPM := hide hgp
                                    have hns0 := hide hns
                                    clear hgp hns
                                    have hS : PlayAt w ((wc.setCell ⟨D, 8, none⟩ (.int .i64 (M.side x.ball))).setCell ⟨D, 8, none⟩ (.int .i64 (3 - M.side x.ball))) [(frameCells r (s) A c, 127), (shCells ⟨x, P, d⟩, 66), (zeroFrame, 127)] D (frameCells r ({ s with brk := false, hand := false, push := pu, pushed := pd, group := 3 - M.side x.ball, balls := M.left r s x, s1 := a3, run := b3, f1 := f3 }) A2 c2) := (hQ.set hD 8 _).set hD 8 _
                                    have hrk2 := (hrk.setCell (p := ⟨D, 8, none⟩) (fun h => h.2 rfl) (.int .i64 (M.side x.ball))).setCell (p := ⟨D, 8, none⟩) (fun h => h.2 rfl) (.int .i64 (3 - M.side x.ball))
                                    go_wp2_with (first | (go_at_call 146; refine (side_any _ _).mono ?_; rintro e w99 ⟨rfl, rfl⟩) | (refine is_load 127 (.tmp 8) rfl ?_; refine next_load (hS.g) Tryz.underlying127 rfl frame_info rfl (.tmp 8) rfl rfl ?_) | (refine is_store 127 (.tmp 4) (.tmp 176) rfl ?_; refine next_store (hS.b.get 2 rfl) (frameCells r ({ s with brk := false, hand := false, push := pu, pushed := pd, group := 3 - M.side x.ball, balls := M.left r s x, s1 := a3, run := b3, f1 := f3 }) A2 c2) rfl frame_info (frame_one _ _ _ _) rfl (.tmp 4) (.tmp 176) rfl rfl rfl ?_))
                                    have hZ := hS.b.put 2 rfl (frameCells r ({ s with brk := false, hand := false, push := pu, pushed := pd, group := 3 - M.side x.ball, balls := M.left r s x, s1 := a3, run := b3, f1 := f3 }) A2 c2) rfl
                                    refine bodyPost_ret (held_ret (p := 4) (hZ.get 2 rfl) Tryz.underlying127 rfl frame_info rfl _ rfl) rfl ⟨A2, c2, ?_, ?_, hZ.bw⟩
                                    · rw [HPM.out]; rfl
                                    · rw [HPM.out]; exact (RdI.sets hg2 _ 0 _ hrk2).more (fun b _ h => Nat.le_trans (by omega) h.1)
end Go.Proofs.YtelpepbpdojikaaGreatDoor
