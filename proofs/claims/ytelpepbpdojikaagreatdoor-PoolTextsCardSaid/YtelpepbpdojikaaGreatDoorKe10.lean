/- Parts of the proofs about chapter 5 (pool), joined by program. -/
import Derived.Test.YtelpepbpdojikaaGreatDoorKe9
set_option linter.unusedVariables false
set_option linter.unusedSimpArgs false
namespace Go.Proofs.YtelpepbpdojikaaGreatDoor
open Go.RowKit
theorem ckHead_unknown (x : M.Shot) (h : M.isKind x.kind = false) : M.ckHead x ≠ 0 := by
  intro h0
  have := (headOk h0).kind
  rw [h] at this; cases this
theorem played_not {k : ByteArray} (h : M.played k = true) : ¬ (k = M.kPass ∨ k = M.kConcede) := by
  unfold M.played at h
  rw [decide_eq_true_eq] at h
  exact not_or.2 h
theorem played_is {k : ByteArray} (h : M.played k = false) : k = M.kPass ∨ k = M.kConcede := by
  unfold M.played at h
  rw [decide_eq_false_iff_not] at h
  by_cases h1 : k = M.kPass
  · exact .inl h1
  · by_cases h2 : k = M.kConcede
    · exact .inr h2
    · exact absurd ⟨h1, h2⟩ h
theorem tail_wh {x : M.Shot} {b : Bool} (h : x.kind = M.kPass ∨ x.kind = M.kConcede) (hb : b = decide (x.ball ≠ 0 ∨ x.first ≠ 0 ∨ x.cushion ∨ x.pots ≠ [])) : wh b 1 = M.ckTail x := by
  subst hb
  unfold M.ckTail wh
  simp only [h, true_and, decide_eq_true_eq]
set_option maxRecDepth 100000 in
set_option maxHeartbeats 1600000 in
theorem ckShot_any (S : Nat → Prop) (x : M.Shot) (A : Option Addr) (c : Nat) (w : World) (hp : RdP w S A c x.pots) :
    Calls Tryz.prog 35 #[shotV x A c] w fun e w' => e = .returned (.int .i64 (M.ckShot x)) ∧ Below w.heap.size w w' := by
  obtain ⟨b1, b2, b3⟩ := hp.bd
  obtain ⟨pl, kd, ba, po, fi, cu, pots⟩ := x
  simp only at hp b1 b3
  have K0 : Keeps w (w.alloc (.cells #[.int .i64 pl, .string kd, .int .i64 ba, .int .i64 po, .int .i64 fi, .bool cu, .slice A pots.length c] 66)) 1 (w.alloc (.cells #[.int .i64 pl, .string kd, .int .i64 ba, .int .i64 po, .int .i64 fi, .bool cu, .slice A pots.length c] 66)) := Keeps.of1 w _
  by_cases hk : M.isKind kd = true
  · have hl0 := lookup_known hk (w := ((w.alloc (.cells #[.int .i64 pl, .string kd, .int .i64 ba, .int .i64 po, .int .i64 fi, .bool cu, .slice A pots.length c] 66)).alloc (.map (kE 6) 6)).drew) (heap_new1 w _ _) true
    have hl1 := lookup_known hk (w := (((w.alloc (.cells #[.int .i64 pl, .string kd, .int .i64 ba, .int .i64 po, .int .i64 fi, .bool cu, .slice A pots.length c] 66)).alloc (.map (kE 6) 6)).alloc (.cells #[.bool false, .bool false, .nilFunc] 158)).drew) (heap_new1' w _ _ _) true
    have hl2 := lookup_known hk (w := (((w.alloc (.cells #[.int .i64 pl, .string kd, .int .i64 ba, .int .i64 po, .int .i64 fi, .bool cu, .slice A pots.length c] 66)).alloc (.cells #[.bool false, .bool false, .nilFunc] 158)).alloc (.map (kE 6) 6)).drew) (heap_new2 w _ _ _) true
    go_enter Tryz.func35, Tryz.ntmps35
    go_upto_region 1 with (fail)
    go_cut [3, 4] (fun v3 v4 wx => ∃ D, v3 = .pointer (some ⟨D, 0, none⟩) ∧ v4 = .bool true ∧ w.heap.size + 1 ≤ D ∧ D < wx.heap.size ∧ wx.cell? ⟨D, 0, none⟩ = some (.bool (M.played kd)) ∧ Keeps w (w.alloc (.cells #[.int .i64 pl, .string kd, .int .i64 ba, .int .i64 po, .int .i64 fi, .bool cu, .slice A pots.length c] 66)) 1 wx)
    case first =>
      go_region_held3 (fun w' => ∀ p q, p < w.heap.size + 1 → w'.cell? ⟨p, q, none⟩ = (w.alloc (.cells #[.int .i64 pl, .string kd, .int .i64 ba, .int .i64 po, .int .i64 fi, .bool cu, .slice A pots.length c] 66)).cell? ⟨p, q, none⟩) (first | exact K0.cell | exact (K0.alloc _).cell | exact ((K0.alloc _).alloc _).cell) (first | (go_at_call 84; refine (kinds_any _).mono ?_; rintro e w1 ⟨rfl, rfl⟩))
      all_goals go_wp2
      all_goals go_meet
      all_goals exact ⟨_, rfl, rfl, by omega, by simp, by first | exact cell_last _ [_, _, _] _ _ (by simp) 0 _ rfl | exact cell_last1 _ [_, _, _] _ _ _ (by simp) 0 _ rfl, ((K0.alloc _).alloc _).drew⟩
    case rest =>
      obtain ⟨D, rfl, rfl, hD, hD1, hDc, K1⟩ := hcut
      clear hl0 hl1 hl2
      go_upto_region 2 with (fail)
      go_cut [5] (fun v5 wy => v5 = .int .i64 (M.ckHead ⟨pl, kd, ba, po, fi, cu, pots⟩) ∧ Below wc.heap.size wc wy)
      case first =>
        go_region_held3 (fun w' => ∀ p q, p < w.heap.size + 1 → w'.cell? ⟨p, q, none⟩ = (w.alloc (.cells #[.int .i64 pl, .string kd, .int .i64 ba, .int .i64 po, .int .i64 fi, .bool cu, .slice A pots.length c] 66)).cell? ⟨p, q, none⟩) (first | exact K1.cell | exact (K1.alloc _).cell) (first | (go_at_call 86; refine (within_any _ _ _ _).mono ?_; rintro e w99 ⟨rfl, rfl⟩) | (go_at_call 87; refine (when_any _ _ _).mono ?_; rintro e w99 ⟨rfl, rfl⟩) | (go_at_call 85; refine (first_any (fun _ => True) _ _ [wi pl 0 1, wh false 13, wi ba 0 15, wi po 0 6, wi fi 0 15, wh _ 2, wh _ 5] _ (RdI.drewN (RdI.lit _ _ [wi pl 0 1, wh false 13, wi ba 0 15, wi po 0 6, wi fi 0 15, wh _ 2, wh _ 5] (by simp) _ trivial) 1)).mono ?_; rintro e w99 ⟨rfl, rfl⟩))
        all_goals go_wp2
        all_goals go_meet
        all_goals exact ⟨congrArg _ (ckHead_first pl ba po fi kd cu pots _ _ _ (by rw [hk]; rfl) (by by_cases h5 : ba = 0 <;> by_cases h6 : po = 0 <;> simp [ibeq, h5, h6]) (decide_eq_decide.2 (by omega))), ((Below.refl _ _).alloc (Nat.le_refl _) _).drew⟩
      case rest =>
        obtain ⟨rfl, hb2⟩ := hcut
        have K2 := K1.call hb2
        have hc2 := K2.cell
        have hD2 := (hb2.cell (p := ⟨D, 0, none⟩) hD1).trans hDc
        have hD3 : D < wc.heap.size := Nat.lt_of_lt_of_le hD1 hb2.size
        have HCK := hide (ckShot_head ⟨pl, kd, ba, po, fi, cu, pots⟩)
        by_cases hz : M.ckHead ⟨pl, kd, ba, po, fi, cu, pots⟩ = 0
        · have hz' : (M.ckHead ⟨pl, kd, ba, po, fi, cu, pots⟩ != 0) = false := by simp [hz]
          have HZ := hide hz
          clear hz
          clear hDc hD1 hb2 K1
          go_wp2
          go_loopw [53] (fun i wr => ∃ k : Nat, k ≤ pots.length ∧ i = .int .i64 k ∧ M.ckPots [] pots = M.ckPots (pots.take k) (pots.drop k) ∧ Keeps w (w.alloc (.cells #[.int .i64 pl, .string kd, .int .i64 ba, .int .i64 po, .int .i64 fi, .bool cu, .slice A pots.length c] 66)) 1 wr ∧ D < wr.heap.size ∧ wr.cell? ⟨D, 0, none⟩ = some (.bool (M.played kd))) (fun i _ => pots.length - (intOf i).toNat)
          case atStart => exact ⟨0, Nat.zero_le _, rfl, by simp, K2, hD3, hD2⟩
          case round =>
            clear hc2 hD2 hD3 K2
            obtain ⟨k, hkl, rfl, hx1, KR, hDr, hDc⟩ := hrel
            have hcR := KR.cell
            have hszr : w.heap.size < wr.heap.size := by have := KR.sz; omega
            by_cases hlt : k < pots.length
            · obtain ⟨b, o, rfl, _, hbl, hc⟩ := hp.at_ k hlt
              obtain ⟨hck1, hck2⟩ := hc k hlt
              have hbl1 : b < w.heap.size + 1 := by omega
              have hlen : (pots.take k).length = k := by rw [List.length_take]; omega
              have hcf := cfPot_any S _ c (pots.take k) _ _ _ (wr.alloc (.cells #[.int .i64 pots[k].ball, .int .i64 pots[k].pocket] 107)) ((RdP.take (hp.below KR.bw) k (by omega)).alloc _) (twice_tells wr.heap.size pots[k].ball _ (by simp) (cell_last _ [_, _] _ _ rfl 0 _ rfl))
              have hst := hx1.trans (ckPots_first hlt)
              rw [hlen] at hcf
              obtain ⟨tw, htw⟩ : ∃ t, ((pots.take k).any fun o => decide (o.ball = pots[k].ball)) = t := ⟨_, rfl⟩
              rw [htw] at hcf hst
              clear hc hx1 hlen htw
              by_cases he : firstOf [wi pots[k].ball 0 15, wi pots[k].pocket 1 6, wh tw 9] = 0
              · have he' : (firstOf [wi pots[k].ball 0 15, wi pots[k].pocket 1 6, wh tw 9] != 0) = false := by simp [he]
                rw [if_neg (by simp [he])] at hst
                have HX := hide hst
                clear hst he
                go_wp2_with (go_at_call 88; refine hcf.mono ?_; rintro e w2 ⟨rfl, hb2⟩; have KP : Keeps wr (wr.alloc (.cells #[.int .i64 pots[k].ball, .int .i64 pots[k].pocket] 107)) 1 w2 := (Keeps.of1 wr _).call hb2; have hcP := KP.cell)
                go_wp2
                go_region_held3 (fun w' => ∀ p q, p < wr.heap.size + 1 → w'.cell? ⟨p, q, none⟩ = (wr.alloc (.cells #[.int .i64 pots[k].ball, .int .i64 pots[k].pocket] 107)).cell? ⟨p, q, none⟩) (first | exact KP.cell | exact (KP.alloc _).cell) (first | (go_at_call 86; refine (within_any _ _ _ _).mono ?_; rintro e w99 ⟨rfl, rfl⟩) | (go_at_call 87; refine (when_any _ _ _).mono ?_; rintro e w99 ⟨rfl, rfl⟩) | (go_at_call 85; refine (first_any (fun _ => True) _ _ [wi pots[k].ball 0 15, wi pots[k].pocket 1 6, wh tw 9] _ (RdI.drewN (RdI.lit _ _ [wi pots[k].ball 0 15, wi pots[k].pocket 1 6, wh tw 9] (by simp) _ trivial) 1)).mono ?_; rintro e w99 ⟨rfl, rfl⟩))
                clear hcP
                go_wp2
                go_roundw
                case rel => exact ⟨k + 1, by omega, by go_num, HX.out, KR.call (KP.alloc _).drew.bw, Nat.lt_of_lt_of_le hDr (KP.alloc _).drew.bw.size, ((KP.alloc _).drew.bw.cell (p := ⟨D, 0, none⟩) hDr).trans hDc⟩
                case measure => simp [intOf]; omega
              · have he' : (firstOf [wi pots[k].ball 0 15, wi pots[k].pocket 1 6, wh tw 9] != 0) = true := by simp [he]
                rw [if_pos he] at hst
                have HX := hide hst
                have HE := hide he
                clear hst he
                go_wp2_with (go_at_call 88; refine hcf.mono ?_; rintro e w2 ⟨rfl, hb2⟩; have KP : Keeps wr (wr.alloc (.cells #[.int .i64 pots[k].ball, .int .i64 pots[k].pocket] 107)) 1 w2 := (Keeps.of1 wr _).call hb2; have hcP := KP.cell)
                go_wp2
                go_region_held3 (fun w' => ∀ p q, p < wr.heap.size + 1 → w'.cell? ⟨p, q, none⟩ = (wr.alloc (.cells #[.int .i64 pots[k].ball, .int .i64 pots[k].pocket] 107)).cell? ⟨p, q, none⟩) (first | exact KP.cell | exact (KP.alloc _).cell) (first | (go_at_call 86; refine (within_any _ _ _ _).mono ?_; rintro e w99 ⟨rfl, rfl⟩) | (go_at_call 87; refine (when_any _ _ _).mono ?_; rintro e w99 ⟨rfl, rfl⟩) | (go_at_call 85; refine (first_any (fun _ => True) _ _ [wi pots[k].ball 0 15, wi pots[k].pocket 1 6, wh tw 9] _ (RdI.drewN (RdI.lit _ _ [wi pots[k].ball 0 15, wi pots[k].pocket 1 6, wh tw 9] (by simp) _ trivial) 1)).mono ?_; rintro e w99 ⟨rfl, rfl⟩))
                clear hcP
                go_wp2
                go_ret
                exact ⟨ret_int (by rw [HCK.out, if_neg (by simp [HZ.out]), if_pos (by rw [HX.out]; exact HE.out)]; exact HX.out.symm), (KR.call (KP.alloc _).drew.bw).bw⟩
            · have hz0 : M.ckPots [] pots = 0 := by rw [hx1, List.drop_of_length_le (by omega), M.ckPots]
              have HF := hide (show M.ckShot ⟨pl, kd, ba, po, fi, cu, pots⟩ = M.ckTail ⟨pl, kd, ba, po, fi, cu, pots⟩ by rw [HCK.out, if_neg (by simp [HZ.out]), if_neg (by simp [hz0])])
              clear hx1 hz0
              cases hpl : M.played kd with
              | true =>
                rw [hpl] at hDc
                have HP := hide (played_not hpl)
                clear hpl
                go_wp2_with (go_at_call 87; refine (when_any _ _ _).mono ?_; rintro e w99 ⟨rfl, rfl⟩)
                all_goals
                  go_ret
                  exact ⟨ret_int (by rw [HF.out]; unfold M.ckTail; rw [if_neg (fun h => HP.out h.1)]; rfl), KR.bw⟩
              | false =>
                rw [hpl] at hDc
                have HP := hide (played_is hpl)
                clear hpl
                go_wp2_with (go_at_call 87; refine (when_any _ _ _).mono ?_; rintro e w99 ⟨rfl, rfl⟩)
                all_goals
                  go_ret
                  exact ⟨ret_int (by rw [HF.out]; exact tail_wh HP.out (by first | (simp [*, List.length_pos_iff]; done) | (simp_all [List.length_pos_iff]; done))), KR.bw⟩
        · have hz' : (M.ckHead ⟨pl, kd, ba, po, fi, cu, pots⟩ != 0) = true := by simp [hz]
          have HZ := hide hz
          clear hz
          go_wp2
          go_ret
          exact ⟨ret_int (by rw [HCK.out, if_pos HZ.out]), K2.bw⟩
  · have hk : M.isKind kd = false := by simpa using hk
    have hl0 := lookup_unknown hk (w := ((w.alloc (.cells #[.int .i64 pl, .string kd, .int .i64 ba, .int .i64 po, .int .i64 fi, .bool cu, .slice A pots.length c] 66)).alloc (.map (kE 6) 6)).drew) (heap_new1 w _ _) true
    have hl1 := lookup_unknown hk (w := (((w.alloc (.cells #[.int .i64 pl, .string kd, .int .i64 ba, .int .i64 po, .int .i64 fi, .bool cu, .slice A pots.length c] 66)).alloc (.map (kE 6) 6)).alloc (.cells #[.bool false, .bool false, .nilFunc] 158)).drew) (heap_new1' w _ _ _) true
    have hl2 := lookup_unknown hk (w := (((w.alloc (.cells #[.int .i64 pl, .string kd, .int .i64 ba, .int .i64 po, .int .i64 fi, .bool cu, .slice A pots.length c] 66)).alloc (.cells #[.bool false, .bool false, .nilFunc] 158)).alloc (.map (kE 6) 6)).drew) (heap_new2 w _ _ _) true
    go_enter Tryz.func35, Tryz.ntmps35
    go_upto_region 1 with (fail)
    go_cut [3, 4] (fun v3 v4 wx => ∃ D, v3 = .pointer (some ⟨D, 0, none⟩) ∧ v4 = .bool false ∧ w.heap.size + 1 ≤ D ∧ D < wx.heap.size ∧ True ∧ Keeps w (w.alloc (.cells #[.int .i64 pl, .string kd, .int .i64 ba, .int .i64 po, .int .i64 fi, .bool cu, .slice A pots.length c] 66)) 1 wx)
    case first =>
      go_region_held3 (fun w' => ∀ p q, p < w.heap.size + 1 → w'.cell? ⟨p, q, none⟩ = (w.alloc (.cells #[.int .i64 pl, .string kd, .int .i64 ba, .int .i64 po, .int .i64 fi, .bool cu, .slice A pots.length c] 66)).cell? ⟨p, q, none⟩) (first | exact K0.cell | exact (K0.alloc _).cell | exact ((K0.alloc _).alloc _).cell) (first | (go_at_call 84; refine (kinds_any _).mono ?_; rintro e w1 ⟨rfl, rfl⟩))
      all_goals go_wp2
      all_goals go_meet
      all_goals exact ⟨_, rfl, rfl, by omega, by simp, trivial, ((K0.alloc _).alloc _).drew⟩
    case rest =>
      obtain ⟨D, rfl, rfl, hD, hD1, _, K1⟩ := hcut
      clear hl0 hl1 hl2
      go_upto_region 2 with (fail)
      go_cut [5] (fun v5 wy => v5 = .int .i64 (M.ckHead ⟨pl, kd, ba, po, fi, cu, pots⟩) ∧ Below wc.heap.size wc wy)
      case first =>
        go_region_held3 (fun w' => ∀ p q, p < w.heap.size + 1 → w'.cell? ⟨p, q, none⟩ = (w.alloc (.cells #[.int .i64 pl, .string kd, .int .i64 ba, .int .i64 po, .int .i64 fi, .bool cu, .slice A pots.length c] 66)).cell? ⟨p, q, none⟩) (first | exact K1.cell | exact (K1.alloc _).cell) (first | (go_at_call 86; refine (within_any _ _ _ _).mono ?_; rintro e w99 ⟨rfl, rfl⟩) | (go_at_call 87; refine (when_any _ _ _).mono ?_; rintro e w99 ⟨rfl, rfl⟩) | (go_at_call 85; refine (first_any (fun _ => True) _ _ [wi pl 0 1, wh true 13, wi ba 0 15, wi po 0 6, wi fi 0 15, wh _ 2, wh _ 5] _ (RdI.drewN (RdI.lit _ _ [wi pl 0 1, wh true 13, wi ba 0 15, wi po 0 6, wi fi 0 15, wh _ 2, wh _ 5] (by simp) _ trivial) 1)).mono ?_; rintro e w99 ⟨rfl, rfl⟩))
        all_goals go_wp2
        all_goals go_meet
        all_goals exact ⟨congrArg _ (ckHead_first pl ba po fi kd cu pots _ _ _ (by rw [hk]; rfl) (by by_cases h5 : ba = 0 <;> by_cases h6 : po = 0 <;> simp [ibeq, h5, h6]) (decide_eq_decide.2 (by omega))), ((Below.refl _ _).alloc (Nat.le_refl _) _).drew⟩
      case rest =>
        obtain ⟨rfl, hb2⟩ := hcut
        have K2 := K1.call hb2
        have HZ := hide (ckHead_unknown ⟨pl, kd, ba, po, fi, cu, pots⟩ hk)
        have hz' : (M.ckHead ⟨pl, kd, ba, po, fi, cu, pots⟩ != 0) = true := by simp [HZ.out]
        have HCK := hide (ckShot_head ⟨pl, kd, ba, po, fi, cu, pots⟩)
        go_wp2
        go_ret
        exact ⟨ret_int (by rw [HCK.out, if_pos HZ.out]), K2.bw⟩
end Go.Proofs.YtelpepbpdojikaaGreatDoor
