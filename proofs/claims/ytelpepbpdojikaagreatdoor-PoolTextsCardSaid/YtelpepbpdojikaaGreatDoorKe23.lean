/- Parts of the proofs about chapter 5 (pool), joined by program. -/
import Derived.Test.YtelpepbpdojikaaGreatDoorKe10
import Derived.Test.YtelpepbpdojikaaGreatDoorKe20
set_option linter.unusedVariables false
set_option linter.unusedSimpArgs false
namespace Go.Proofs.YtelpepbpdojikaaGreatDoor
open Go.RowKit
theorem Keeps.box {w B W : World} {nb b : Nat} {cs : List Value} (h : Keeps w B nb W) (hb : Box B b cs) (hl : b < w.heap.size + nb) : Box W b cs :=
  ⟨Nat.lt_of_lt_of_le hl h.sz, fun j v hj => (h.cell b j hl).trans (hb.2 j v hj)⟩
def lgG : Nat → Nat := fun j => [132, 133, 134, 135, 136, 137, 138].getD j 0
def lgL (N D L : Nat) : Nat → Array Value := fun j => [#[ptr N], #[ptr (N + 3), ptr (N + 1), ptr N], #[ptr (N + 3), ptr N, ptr (N + 1)], #[ptr D, ptr N], #[ptr L, ptr (N + 2), ptr (N + 1)], #[ptr (N + 1), ptr (N + 2)], #[ptr (N + 1), ptr (N + 2)]].getD j #[]
set_option maxRecDepth 100000 in
set_option maxHeartbeats 2000000 in
theorem legal_any (S : Nat → Prop) (r : M.Rules) (s : M.State) (x : M.Shot) (A P : Option Addr) (c d : Nat) (w : World) (hp : RdI w S A c s.balls) (hpp : RdP w S P d x.pots) (hx : HeadOk x) (hpos : ∀ p ∈ x.pots, 0 ≤ p.ball) :
    Calls Tryz.prog 96 #[frameV r s A c, shotV x P d] w fun e w' => e = .returned (.int .i64 (M.legal r s x)) ∧ Below w.heap.size w w' := by
  obtain ⟨e1, e2, e3⟩ := hpp.bd
  obtain ⟨e4, e5, e6⟩ := hp.bd
  rw [M.legal_ask r s x (out_of hx.first).1]
  have hk := hx.kind
  obtain ⟨g, tg, fo⟩ := r
  obtain ⟨a0, a1, a2, a3, a4, gr, bl, b0, b1, b2, b3, b4, b5, b6, b7⟩ := s
  obtain ⟨pl, kd, ba, po, fi, cu, pots⟩ := x
  simp only at hp hpp e1 e3 e4 e6 hk hpos
  have K0 : Keeps w ((((w.alloc (.cells #[.string g, .int .i64 tg, .int .i64 fo, .int .i64 a0, .bool a1, .bool a2, .bool a3, .bool a4, .int .i64 gr, .slice A bl.length c, .int .i64 b0, .int .i64 b1, .int .i64 b2, .int .i64 b3, .int .i64 b4, .int .i64 b5, .bool b6, .int .i64 b7] 127)).alloc (.cells #[.int .i64 pl, .string kd, .int .i64 ba, .int .i64 po, .int .i64 fi, .bool cu, .slice P pots.length d] 66)).alloc (.cells #[.func (.func 131) #[] #[ptr w.heap.size]] 202)).alloc (.cells #[.bool (decide (kd = M.kConcede))] 4)) 4 ((((w.alloc (.cells #[.string g, .int .i64 tg, .int .i64 fo, .int .i64 a0, .bool a1, .bool a2, .bool a3, .bool a4, .int .i64 gr, .slice A bl.length c, .int .i64 b0, .int .i64 b1, .int .i64 b2, .int .i64 b3, .int .i64 b4, .int .i64 b5, .bool b6, .int .i64 b7] 127)).alloc (.cells #[.int .i64 pl, .string kd, .int .i64 ba, .int .i64 po, .int .i64 fi, .bool cu, .slice P pots.length d] 66)).alloc (.cells #[.func (.func 131) #[] #[ptr w.heap.size]] 202)).alloc (.cells #[.bool (decide (kd = M.kConcede))] 4)) := Keeps.of ((((Below.refl _ _).alloc (Nat.le_refl _) _).alloc (by simp) _).alloc (by simp; omega) _ |>.alloc (by simp; omega) _) (by simp)
  have hsz : ((((w.alloc (.cells #[.string g, .int .i64 tg, .int .i64 fo, .int .i64 a0, .bool a1, .bool a2, .bool a3, .bool a4, .int .i64 gr, .slice A bl.length c, .int .i64 b0, .int .i64 b1, .int .i64 b2, .int .i64 b3, .int .i64 b4, .int .i64 b5, .bool b6, .int .i64 b7] 127)).alloc (.cells #[.int .i64 pl, .string kd, .int .i64 ba, .int .i64 po, .int .i64 fi, .bool cu, .slice P pots.length d] 66)).alloc (.cells #[.func (.func 131) #[] #[ptr w.heap.size]] 202)).alloc (.cells #[.bool (decide (kd = M.kConcede))] 4)).heap.size = w.heap.size + 4 := by simp
  have hl0 := lookup_known hk (w := (((((w.alloc (.cells #[.string g, .int .i64 tg, .int .i64 fo, .int .i64 a0, .bool a1, .bool a2, .bool a3, .bool a4, .int .i64 gr, .slice A bl.length c, .int .i64 b0, .int .i64 b1, .int .i64 b2, .int .i64 b3, .int .i64 b4, .int .i64 b5, .bool b6, .int .i64 b7] 127)).alloc (.cells #[.int .i64 pl, .string kd, .int .i64 ba, .int .i64 po, .int .i64 fi, .bool cu, .slice P pots.length d] 66)).alloc (.cells #[.func (.func 131) #[] #[ptr w.heap.size]] 202)).alloc (.cells #[.bool (decide (kd = M.kConcede))] 4)).alloc (.map (kE 6) 6)).drew) (g := w.heap.size + 4) (by have h := heap_alloc_new ((((w.alloc (.cells #[.string g, .int .i64 tg, .int .i64 fo, .int .i64 a0, .bool a1, .bool a2, .bool a3, .bool a4, .int .i64 gr, .slice A bl.length c, .int .i64 b0, .int .i64 b1, .int .i64 b2, .int .i64 b3, .int .i64 b4, .int .i64 b5, .bool b6, .int .i64 b7] 127)).alloc (.cells #[.int .i64 pl, .string kd, .int .i64 ba, .int .i64 po, .int .i64 fi, .bool cu, .slice P pots.length d] 66)).alloc (.cells #[.func (.func 131) #[] #[ptr w.heap.size]] 202)).alloc (.cells #[.bool (decide (kd = M.kConcede))] 4)) (.map (kE 6) 6); rwa [hsz] at h) false
  have hl1 := lookup_known hk (w := ((((((w.alloc (.cells #[.string g, .int .i64 tg, .int .i64 fo, .int .i64 a0, .bool a1, .bool a2, .bool a3, .bool a4, .int .i64 gr, .slice A bl.length c, .int .i64 b0, .int .i64 b1, .int .i64 b2, .int .i64 b3, .int .i64 b4, .int .i64 b5, .bool b6, .int .i64 b7] 127)).alloc (.cells #[.int .i64 pl, .string kd, .int .i64 ba, .int .i64 po, .int .i64 fi, .bool cu, .slice P pots.length d] 66)).alloc (.cells #[.func (.func 131) #[] #[ptr w.heap.size]] 202)).alloc (.cells #[.bool (decide (kd = M.kConcede))] 4)).alloc (.map (kE 6) 6)).alloc (.cells #[.bool false, .bool false, .nilFunc] 158)).drew) (g := w.heap.size + 4) (by have h := heap_alloc_new ((((w.alloc (.cells #[.string g, .int .i64 tg, .int .i64 fo, .int .i64 a0, .bool a1, .bool a2, .bool a3, .bool a4, .int .i64 gr, .slice A bl.length c, .int .i64 b0, .int .i64 b1, .int .i64 b2, .int .i64 b3, .int .i64 b4, .int .i64 b5, .bool b6, .int .i64 b7] 127)).alloc (.cells #[.int .i64 pl, .string kd, .int .i64 ba, .int .i64 po, .int .i64 fi, .bool cu, .slice P pots.length d] 66)).alloc (.cells #[.func (.func 131) #[] #[ptr w.heap.size]] 202)).alloc (.cells #[.bool (decide (kd = M.kConcede))] 4)) (.map (kE 6) 6); rw [hsz] at h; exact (heap_alloc_old _ _ (by simp)).trans h) false
  have hl2 := lookup_known hk (w := ((((((w.alloc (.cells #[.string g, .int .i64 tg, .int .i64 fo, .int .i64 a0, .bool a1, .bool a2, .bool a3, .bool a4, .int .i64 gr, .slice A bl.length c, .int .i64 b0, .int .i64 b1, .int .i64 b2, .int .i64 b3, .int .i64 b4, .int .i64 b5, .bool b6, .int .i64 b7] 127)).alloc (.cells #[.int .i64 pl, .string kd, .int .i64 ba, .int .i64 po, .int .i64 fi, .bool cu, .slice P pots.length d] 66)).alloc (.cells #[.func (.func 131) #[] #[ptr w.heap.size]] 202)).alloc (.cells #[.bool (decide (kd = M.kConcede))] 4)).alloc (.cells #[.bool false, .bool false, .nilFunc] 158)).alloc (.map (kE 6) 6)).drew) (g := w.heap.size + 5) (by have h := heap_alloc_new (((((w.alloc (.cells #[.string g, .int .i64 tg, .int .i64 fo, .int .i64 a0, .bool a1, .bool a2, .bool a3, .bool a4, .int .i64 gr, .slice A bl.length c, .int .i64 b0, .int .i64 b1, .int .i64 b2, .int .i64 b3, .int .i64 b4, .int .i64 b5, .bool b6, .int .i64 b7] 127)).alloc (.cells #[.int .i64 pl, .string kd, .int .i64 ba, .int .i64 po, .int .i64 fi, .bool cu, .slice P pots.length d] 66)).alloc (.cells #[.func (.func 131) #[] #[ptr w.heap.size]] 202)).alloc (.cells #[.bool (decide (kd = M.kConcede))] 4)).alloc (.cells #[.bool false, .bool false, .nilFunc] 158)) (.map (kE 6) 6); rwa [show (((((w.alloc (.cells #[.string g, .int .i64 tg, .int .i64 fo, .int .i64 a0, .bool a1, .bool a2, .bool a3, .bool a4, .int .i64 gr, .slice A bl.length c, .int .i64 b0, .int .i64 b1, .int .i64 b2, .int .i64 b3, .int .i64 b4, .int .i64 b5, .bool b6, .int .i64 b7] 127)).alloc (.cells #[.int .i64 pl, .string kd, .int .i64 ba, .int .i64 po, .int .i64 fi, .bool cu, .slice P pots.length d] 66)).alloc (.cells #[.func (.func 131) #[] #[ptr w.heap.size]] 202)).alloc (.cells #[.bool (decide (kd = M.kConcede))] 4)).alloc (.cells #[.bool false, .bool false, .nilFunc] 158)).heap.size = w.heap.size + 5 by simp] at h) false
  have hcc : (kd.toList == [99, 111, 110, 99, 101, 100, 101]) = decide (kd = M.kConcede) := by
    rw [Bool.eq_iff_iff, beq_iff_eq, decide_eq_true_eq]; exact ⟨fun e => bytes_ext (by rw [e, ByteArray.toList_eq]), fun e => by subst e; rw [ByteArray.toList_eq]⟩
  clear hsz
  go_enter Tryz.func96, Tryz.ntmps96
  go_upto_region 3 with (fail)
  go_cut [7] (fun v7 wx => ∃ D, v7 = ptr D ∧ Box wx D [.bool (M.played kd), .bool (kCa kd), .func (.func (kFn kd)) #[] #[]] ∧ Keeps w ((((w.alloc (.cells #[.string g, .int .i64 tg, .int .i64 fo, .int .i64 a0, .bool a1, .bool a2, .bool a3, .bool a4, .int .i64 gr, .slice A bl.length c, .int .i64 b0, .int .i64 b1, .int .i64 b2, .int .i64 b3, .int .i64 b4, .int .i64 b5, .bool b6, .int .i64 b7] 127)).alloc (.cells #[.int .i64 pl, .string kd, .int .i64 ba, .int .i64 po, .int .i64 fi, .bool cu, .slice P pots.length d] 66)).alloc (.cells #[.func (.func 131) #[] #[ptr w.heap.size]] 202)).alloc (.cells #[.bool (decide (kd = M.kConcede))] 4)) 4 wx)
  case first =>
    go_region_held3 (fun w' => ∀ p q, p < w.heap.size + 4 → w'.cell? ⟨p, q, none⟩ = ((((w.alloc (.cells #[.string g, .int .i64 tg, .int .i64 fo, .int .i64 a0, .bool a1, .bool a2, .bool a3, .bool a4, .int .i64 gr, .slice A bl.length c, .int .i64 b0, .int .i64 b1, .int .i64 b2, .int .i64 b3, .int .i64 b4, .int .i64 b5, .bool b6, .int .i64 b7] 127)).alloc (.cells #[.int .i64 pl, .string kd, .int .i64 ba, .int .i64 po, .int .i64 fi, .bool cu, .slice P pots.length d] 66)).alloc (.cells #[.func (.func 131) #[] #[ptr w.heap.size]] 202)).alloc (.cells #[.bool (decide (kd = M.kConcede))] 4)).cell? ⟨p, q, none⟩) (first | exact K0.cell | exact (K0.alloc _).cell | exact ((K0.alloc _).alloc _).cell) (first | (go_at_call 84; refine (kinds_any _).mono ?_; rintro e w1 ⟨rfl, rfl⟩))
    all_goals go_wp2
    all_goals go_meet
    all_goals exact ⟨_, rfl, by first | exact (Box.newAt _ [_, _, _] _ _ (by simp)) | exact (Box.newAt _ [_, _, _] _ _ (by simp)).alloc _, ((K0.alloc _).alloc _).drew⟩
  case rest =>
    obtain ⟨D, rfl, hkb, K1⟩ := hcut
    clear hl0 hl1 hl2
    have hbf : Box wc w.heap.size (frameCells ⟨g, tg, fo⟩ ⟨a0, a1, a2, a3, a4, gr, bl, b0, b1, b2, b3, b4, b5, b6, b7⟩ A c) := K1.box ((((Box.new w (frameCells ⟨g, tg, fo⟩ ⟨a0, a1, a2, a3, a4, gr, bl, b0, b1, b2, b3, b4, b5, b6, b7⟩ A c) _).alloc _).alloc _).alloc _) (by omega)
    have hbx : Box wc (w.heap.size + 1) (shCells ⟨⟨pl, kd, ba, po, fi, cu, pots⟩, P, d⟩) := K1.box (((Box.newAt _ (shCells ⟨⟨pl, kd, ba, po, fi, cu, pots⟩, P, d⟩) _ _ (by simp)).alloc _).alloc _) (by omega)
    have hbo : Box wc (w.heap.size + 2) [.func (.func 131) #[] #[ptr w.heap.size]] := K1.box ((Box.newAt _ [_] _ _ (by simp)).alloc _) (by omega)
    have hbc : Box wc (w.heap.size + 3) [.bool (decide (kd = M.kConcede))] := K1.box (Box.newAt _ [_] _ _ (by simp)) (by omega)
    have hp1 := hp.below K1.bw
    have hpp1 := hpp.below K1.bw
    have hask : ∀ v : Bool, v = M.calls ⟨g, tg, fo⟩ ⟨pl, kd, ba, po, fi, cu, pots⟩ → Calls Tryz.prog 111 #[.slice (some ⟨wc.heap.size + 1, 0, none⟩) 7 7] ((wc.alloc (.cells #[.bool v] 4)).alloc (.cells #[.func (.func 132) #[] #[ptr w.heap.size], .func (.func 133) #[] #[ptr (w.heap.size + 3), ptr (w.heap.size + 1), ptr w.heap.size], .func (.func 134) #[] #[ptr (w.heap.size + 3), ptr w.heap.size, ptr (w.heap.size + 1)], .func (.func 135) #[] #[ptr D, ptr w.heap.size], .func (.func 136) #[] #[ptr wc.heap.size, ptr (w.heap.size + 2), ptr (w.heap.size + 1)], .func (.func 137) #[] #[ptr (w.heap.size + 1), ptr (w.heap.size + 2)], .func (.func 138) #[] #[ptr (w.heap.size + 1), ptr (w.heap.size + 2)]] 29)) fun e w' => e = .returned (.int .i64 (M.askFrom 1 (M.legalQ ⟨g, tg, fo⟩ ⟨a0, a1, a2, a3, a4, gr, bl, b0, b1, b2, b3, b4, b5, b6, b7⟩ ⟨pl, kd, ba, po, fi, cu, pots⟩))) ∧ Below wc.heap.size wc w' := by
      intro v hv
      subst hv
      refine (ask_any (wc.heap.size + 1) 0 7 7 lgG (lgL w.heap.size D wc.heap.size) (M.legalQ ⟨g, tg, fo⟩ ⟨a0, a1, a2, a3, a4, gr, bl, b0, b1, b2, b3, b4, b5, b6, b7⟩ ⟨pl, kd, ba, po, fi, cu, pots⟩) _ rfl (by omega) (by simp) ?_ ?_).mono ?_
      · intro j hj
        rw [Nat.zero_add]
        match j, hj with
        | 0, _ => exact cell_last _ [_, _, _, _, _, _, _] _ _ (by simp) 0 _ rfl
        | 1, _ => exact cell_last _ [_, _, _, _, _, _, _] _ _ (by simp) 1 _ rfl
        | 2, _ => exact cell_last _ [_, _, _, _, _, _, _] _ _ (by simp) 2 _ rfl
        | 3, _ => exact cell_last _ [_, _, _, _, _, _, _] _ _ (by simp) 3 _ rfl
        | 4, _ => exact cell_last _ [_, _, _, _, _, _, _] _ _ (by simp) 4 _ rfl
        | 5, _ => exact cell_last _ [_, _, _, _, _, _, _] _ _ (by simp) 5 _ rfl
        | 6, _ => exact cell_last _ [_, _, _, _, _, _, _] _ _ (by simp) 6 _ rfl
      · intro j hj _
        match j, hj with
        | 0, _ => exact ask_over ((hbf.alloc _).alloc _)
        | 1, _ => exact ask_turn (x := ⟨pl, kd, ba, po, fi, cu, pots⟩) ((hbc.alloc _).alloc _) ((hbx.alloc _).alloc _) ((hbf.alloc _).alloc _)
        | 2, _ => exact ask_break (x := ⟨pl, kd, ba, po, fi, cu, pots⟩) ((hbc.alloc _).alloc _) ((hbf.alloc _).alloc _) ((hbx.alloc _).alloc _)
        | 3, _ => exact ask_permitted kd _ _ ((hkb.alloc _).alloc _) ((hbf.alloc _).alloc _)
        | 4, _ => exact ask_ball (x := ⟨pl, kd, ba, po, fi, cu, pots⟩) ((Box.new wc [_] _).alloc _) ((hbo.alloc _).alloc _) ((hbx.alloc _).alloc _) ((hbf.alloc _).alloc _) ((hp1.alloc _).alloc _)
        | 5, _ => exact ask_first (x := ⟨pl, kd, ba, po, fi, cu, pots⟩) ((hbx.alloc _).alloc _) ((hbo.alloc _).alloc _) ((hbf.alloc _).alloc _) ((hp1.alloc _).alloc _)
        | 6, _ => exact ask_objects (x := ⟨pl, kd, ba, po, fi, cu, pots⟩) ((hbx.alloc _).alloc _) ((hbo.alloc _).alloc _) ((hbf.alloc _).alloc _) ((hp1.alloc _).alloc _) ((hpp1.alloc _).alloc _) hpos
      · rintro e w' ⟨rfl, hb'⟩
        exact ⟨rfl, (((Below.refl _ _).alloc (Nat.le_refl _) _).alloc (by simp) _).trans (hb'.mono (by simp; omega))⟩
    have HA := hide hask
    have hk1 := hkb.2 1 _ rfl
    have hc1 := K1.cell
    obtain ⟨y1, hy1⟩ : ∃ y, kCa kd = y := ⟨_, rfl⟩
    obtain ⟨y2, hy2⟩ : ∃ y, (g.toList == [110, 105, 110, 101]) = y := ⟨_, rfl⟩
    have hcl : M.calls ⟨g, tg, fo⟩ ⟨pl, kd, ba, po, fi, cu, pots⟩ = (y1 && !y2) := by
      rw [← hy1, ← hy2, beq_nine']; unfold M.calls kCa; rw [Bool.eq_iff_iff]; simp
    have HC := hide hcl
    rw [hy1] at hk1
    clear hask hcl hy1 hbf hbx hbo hbc hkb hp1 hpp1 hcc
    cases y1 <;> cases y2
    all_goals
      go_wp2_with (go_at_call 111; refine (HA.out _ (by rw [HC.out]; rfl)).mono ?_; rintro e w2 ⟨rfl, hb2⟩)
      go_ret
      exact ⟨rfl, (K1.call hb2).bw⟩
end Go.Proofs.YtelpepbpdojikaaGreatDoor
namespace Go.Proofs.YtelpepbpdojikaaGreatDoor
open Go.RowKit
section
variable {w : World} {Bf Bx Bp : Nat} {r : M.Rules} {s : M.State} {x : M.Shot} {A P : Option Addr} {c d : Nat} {S : Nat → Prop}
set_option maxRecDepth 100000 in
set_option maxHeartbeats 800000 in
theorem fask_scratch (hx : Box w Bx (shCells ⟨x, P, d⟩)) (hpp : RdP w S P d x.pots) : Asks 112 #[ptr Bx] (!M.scratched x) w := by
  refine ⟨enters_of Tryz.func112 (by kernel_rfl) rfl, fun W hb => ?_⟩
  have kx := hx.below hb
  have kx0 := kx.2 0 _ rfl
  have kx1 := kx.2 1 _ rfl
  have kx2 := kx.2 2 _ rfl
  have kx3 := kx.2 3 _ rfl
  have kx4 := kx.2 4 _ rfl
  have kx5 := kx.2 5 _ rfl
  have kx6 := kx.2 6 _ rfl
  go_enter Tryz.func112, Tryz.ntmps112
  go_wp2_with (go_at_call 113; refine (scratched_any S x P d _ (hpp.below hb)).mono ?_; rintro e w1 ⟨rfl, hb1⟩)
  go_ret
  exact ⟨rfl, hb.trans (hb1.mono hb.size)⟩
set_option maxRecDepth 100000 in
set_option maxHeartbeats 800000 in
theorem fask_first (hx : Box w Bx (shCells ⟨x, P, d⟩)) : Asks 114 #[ptr Bx] (decide (0 < x.first)) w := by
  refine ⟨enters_of Tryz.func114 (by kernel_rfl) rfl, fun W hb => ?_⟩
  have kx := hx.below hb
  have kx4 := kx.2 4 _ rfl
  go_enter Tryz.func114, Tryz.ntmps114
  go_wp2
  go_ret
  exact ⟨rfl, hb⟩
set_option maxRecDepth 100000 in
set_option maxHeartbeats 1600000 in
theorem fask_target (hq : Box w Bp [.bool (decide (x.kind = M.kPush))]) (hf : Box w Bf (frameCells r s A c)) (hx : Box w Bx (shCells ⟨x, P, d⟩)) (hp : RdI w S A c s.balls) (hr : M.ckRules r = 0) (hg : 0 ≤ s.group ∧ s.group ≤ 2) :
    Asks 115 #[ptr Bp, ptr Bf, ptr Bx] (decide (x.kind = M.kPush ∨ x.first ∈ M.targets r s)) w := by
  refine ⟨enters_of Tryz.func115 (by kernel_rfl) rfl, fun W hb => ?_⟩
  have kq := hq.below hb
  have kq0 := kq.2 0 _ rfl
  have kx := hx.below hb
  have kx4 := kx.2 4 _ rfl
  have kf := hf.below hb
  have hT := fun W h => targets_any S r s A c W h hr hg
  have HT := hide hT
  have hrng : ∀ w' : World, (fun w' : World => ∀ p q, p < W.heap.size → w'.cell? ⟨p, q, none⟩ = W.cell? ⟨p, q, none⟩) w' → w'.rangeAt Bf 0 [.string r.game, .int .i64 r.target, .int .i64 r.fouls, .int .i64 s.turn, .bool s.brk, .bool s.hand, .bool s.push, .bool s.pushed, .int .i64 s.group, .slice A s.balls.length c, .int .i64 s.s0, .int .i64 s.s1, .int .i64 s.f0, .int .i64 s.f1, .int .i64 s.run, .int .i64 s.racks, .bool s.over, .int .i64 s.winner] := fun w' h j v hj => by rw [Nat.zero_add, h _ _ kf.1]; exact kf.2 j v hj
  have hun := Tryz.underlying127
  have hbx := kx.1
  have hbq := kq.1
  rw [show decide (x.kind = M.kPush ∨ x.first ∈ M.targets r s) = (decide (x.kind = M.kPush) || decide (x.first ∈ M.targets r s)) by rw [Bool.eq_iff_iff]; simp]
  clear hT
  cases hy : decide (x.kind = M.kPush) with
  | true =>
    rw [hy] at kq0
    have HY := hide hy
    clear hy
    go_enter Tryz.func115, Tryz.ntmps115
    go_wp2
    go_quiet (fail)
    go_wp2
    go_ret
    exact ⟨ret_bool (by simp), below_drewN hb _⟩
  | false =>
    rw [hy] at kq0
    have HY := hide hy
    clear hy
    go_enter Tryz.func115, Tryz.ntmps115
    go_wp2
    refine wp_region_held_drew (S := (fun w' : World => ∀ p q, p < W.heap.size → w'.cell? ⟨p, q, none⟩ = W.cell? ⟨p, q, none⟩)) (by kernel_rfl) ?q1xstart (fun hHeld => ?_)
    case q1xstart => first | exact fun p q h => K1.cell p q (by omega) | exact fun p q h => rfl
    refine wpAnyH_take (i := 0) (oi := _) (v := ?q1xv0) (ga rfl) (by kernel_rfl) (by kernel_rfl) (by kernel_rfl) (fun _ _ _ h => h) (Or.inl ⟨by rfl, ?q1xy0⟩) (by assumption) ?_
    case q1xy0 => (intro w hSw; (try dsimp only at hSw); go_simp; try with_reducible rfl)
    try simp only [Act.put, la, lz, ls]
    refine wpAnyH_take (i := 1) (oi := _) (v := ?q1xv1) (ga rfl) (by kernel_rfl) (by kernel_rfl) (by kernel_rfl) (fun _ _ _ h => h) (Or.inl ⟨by rfl, ?q1xy1⟩) (by assumption) ?_
    case q1xy1 => (intro w hSw; (try dsimp only at hSw); go_simp; try with_reducible rfl)
    try simp only [Act.put, la, lz, ls]
    refine wpAnyH_take (i := 2) (oi := _) (v := _) (ga rfl) (by kernel_rfl) (by kernel_rfl) (by kernel_rfl) (fun _ _ _ h => h) (yieldsIf_load_mid (by rfl) _ _ (by rfl) _ _ (by rfl) _ _ hrng hun rfl (by kernel_rfl)) (by assumption) ?_
    try simp only [Act.put, la, lz, ls]
    refine wpAnyH_take (i := 4) (oi := _) (v := ?q1xv4) (ga rfl) (by kernel_rfl) (by kernel_rfl) (by kernel_rfl) (fun _ _ _ h => h) (Or.inl ⟨by rfl, ?q1xy4⟩) (by assumption) ?_
    case q1xy4 => (intro w hSw; (try dsimp only at hSw); go_simp; try with_reducible rfl)
    try simp only [Act.put, la, lz, ls]
    refine wpAnyH_take (i := 5) (oi := _) (v := ?q1xv5) (ga rfl) (by kernel_rfl) (by kernel_rfl) (by kernel_rfl) (fun _ _ _ h => h) (Or.inl ⟨by rfl, ?q1xy5⟩) (by assumption) ?_
    case q1xy5 => (intro w hSw; (try dsimp only at hSw); go_simp; try with_reducible rfl)
    try simp only [Act.put, la, lz, ls]
    refine wpAnyH_ready (rs := [3]) (by kernel_rfl) (by simp) ?_
    refine AllReadyH.cons (o := _) (ga rfl) (fun K hK => ?_) AllReadyH.nil
    go_simp
    (first | (go_at_call 103; refine (HT.out W.drew (RdI.drewN (hp.below hb) 1)).mono ?_; rintro e w1 ⟨A1, c1, rfl, hr1, hb1⟩; have K1 : Keeps W W 0 w1 := (Keeps.of0 W).drew.call hb1) | (go_at_call 95; refine (inInt_any _ A1 c1 _ _ _ hr1).mono ?_; rintro e w99 ⟨rfl, rfl⟩))
    refine hK.out _ _ ?q1xh3 (fun hHeld => ?_)
    case q1xh3 => (first | (first | exact fun p q h => K1.cell p q (by omega) | exact fun p q h => rfl) | (dsimp only; first | exact fun p q h => K1.cell p q (by omega) | exact fun p q h => rfl))
    clear hK K
    try simp only [Act.put, la, lz, ls]
    refine wpAnyH_ready (rs := [6]) (by kernel_rfl) (by simp) ?_
    refine AllReadyH.cons (o := _) (ga rfl) (fun K hK => ?_) AllReadyH.nil
    go_simp
    (first | (go_at_call 103; refine (HT.out W.drew (RdI.drewN (hp.below hb) 1)).mono ?_; rintro e w1 ⟨A1, c1, rfl, hr1, hb1⟩; have K1 : Keeps W W 0 w1 := (Keeps.of0 W).drew.call hb1) | (go_at_call 95; refine (inInt_any _ A1 c1 _ _ _ hr1).mono ?_; rintro e w99 ⟨rfl, rfl⟩))
    refine hK.out _ _ ?q1xh6 (fun hHeld => ?_)
    case q1xh6 => (first | (first | exact fun p q h => K1.cell p q (by omega) | exact fun p q h => rfl) | (dsimp only; first | exact fun p q h => K1.cell p q (by omega) | exact fun p q h => rfl))
    clear hK K
    try simp only [Act.put, la, lz, ls]
    refine wpAnyH_take (i := 7) (oi := _) (v := ?q1xv7) (ga rfl) (by kernel_rfl) (by kernel_rfl) (by kernel_rfl) (fun _ _ _ h => h) (Or.inl ⟨by rfl, ?q1xy7⟩) (by assumption) ?_
    case q1xy7 => (intro w hSw; (try dsimp only at hSw); go_simp; try with_reducible rfl)
    try simp only [Act.put, la, lz, ls]
    refine wpAnyH_take (i := 8) (oi := _) (v := ?q1xv8) (ga rfl) (by kernel_rfl) (by kernel_rfl) (by kernel_rfl) (fun _ _ _ h => h) (Or.inl ⟨by rfl, ?q1xy8⟩) (by assumption) ?_
    case q1xy8 => (intro w hSw; (try dsimp only at hSw); go_simp; try with_reducible rfl)
    try simp only [Act.put, la, lz, ls]
    refine wpAnyH_done (by kernel_rfl) ?_ _
    go_wp2
    go_ret
    exact ⟨ret_bool (by simp), hb.trans (K1.bw.mono hb.size)⟩
set_option maxRecDepth 100000 in
set_option maxHeartbeats 800000 in
theorem fask_ball (hq : Box w Bp [.bool (decide (x.kind = M.kPush))]) (hx : Box w Bx (shCells ⟨x, P, d⟩)) (hpp : RdP w S P d x.pots) (hpos : ∀ p ∈ x.pots, 0 ≤ p.ball) :
    Asks 116 #[ptr Bp, ptr Bx] (decide (x.kind = M.kPush ∨ x.cushion = true ∨ 0 < (M.objects x).length)) w := by
  refine ⟨enters_of Tryz.func116 (by kernel_rfl) rfl, fun W hb => ?_⟩
  have kq := hq.below hb
  have kq0 := kq.2 0 _ rfl
  have kx := hx.below hb
  have kx0 := kx.2 0 _ rfl
  have kx1 := kx.2 1 _ rfl
  have kx2 := kx.2 2 _ rfl
  have kx3 := kx.2 3 _ rfl
  have kx4 := kx.2 4 _ rfl
  have kx5 := kx.2 5 _ rfl
  have kx6 := kx.2 6 _ rfl
  have hobj := objects_any S { x with cushion := false } P d W (hpp.below hb) hpos
  rw [show M.objects { x with cushion := false } = M.objects x from rfl] at hobj
  have HO := hide hobj
  rw [show decide (x.kind = M.kPush ∨ x.cushion = true ∨ 0 < (M.objects x).length) = (decide (x.kind = M.kPush) || (x.cushion || decide (0 < (M.objects x).length))) by rw [Bool.eq_iff_iff]; simp]
  clear hobj
  cases hy : decide (x.kind = M.kPush) with
  | true =>
    rw [hy] at kq0
    have HY := hide hy
    clear hy
    go_enter Tryz.func116, Tryz.ntmps116
    go_wp2
    go_ret
    exact ⟨ret_bool (by simp), hb⟩
  | false =>
    rw [hy] at kq0
    have HY := hide hy
    clear hy
    cases hc : x.cushion with
    | true =>
      rw [hc] at kx5
      go_enter Tryz.func116, Tryz.ntmps116
      go_wp2
      go_ret
      exact ⟨ret_bool (by simp), hb⟩
    | false =>
      rw [hc] at kx5
      go_enter Tryz.func116, Tryz.ntmps116
      go_wp2_with (go_at_call 70; refine HO.out.mono ?_; rintro e w1 ⟨A1, c1, rfl, hr1, hb1⟩)
      go_ret
      exact ⟨ret_bool (by simp), hb.trans (hb1.mono hb.size)⟩
end
end Go.Proofs.YtelpepbpdojikaaGreatDoor
namespace Go.Proofs.YtelpepbpdojikaaGreatDoor
open Go.RowKit
def flG : Nat → Nat := fun j => [112, 114, 115, 116].getD j 0
def flL (N L : Nat) : Nat → Array Value := fun j => [#[ptr (N + 1)], #[ptr (N + 1)], #[ptr L, ptr N, ptr (N + 1)], #[ptr L, ptr (N + 1)]].getD j #[]
set_option maxRecDepth 100000 in
set_option maxHeartbeats 2000000 in
theorem foul_any (S : Nat → Prop) (r : M.Rules) (s : M.State) (x : M.Shot) (A P : Option Addr) (c d : Nat) (w : World) (hp : RdI w S A c s.balls) (hpp : RdP w S P d x.pots) (hx : HeadOk x) (hpos : ∀ p ∈ x.pots, 0 ≤ p.ball) (hr : M.ckRules r = 0) (hg : 0 ≤ s.group ∧ s.group ≤ 2) :
    Calls Tryz.prog 66 #[frameV r s A c, shotV x P d] w fun e w' => e = .returned (.int .i64 (M.foul r s x)) ∧ Below w.heap.size w w' := by
  obtain ⟨e1, e2, e3⟩ := hpp.bd
  obtain ⟨e4, e5, e6⟩ := hp.bd
  rw [M.foul_ask r s x (out_of hx.first).1]
  have hk := hx.kind
  obtain ⟨g, tg, fo⟩ := r
  obtain ⟨a0, a1, a2, a3, a4, gr, bl, b0, b1, b2, b3, b4, b5, b6, b7⟩ := s
  obtain ⟨pl, kd, ba, po, fi, cu, pots⟩ := x
  simp only at hp hpp e1 e3 e4 e6 hk hpos hg
  have K0 : Keeps w ((w.alloc (.cells #[.string g, .int .i64 tg, .int .i64 fo, .int .i64 a0, .bool a1, .bool a2, .bool a3, .bool a4, .int .i64 gr, .slice A bl.length c, .int .i64 b0, .int .i64 b1, .int .i64 b2, .int .i64 b3, .int .i64 b4, .int .i64 b5, .bool b6, .int .i64 b7] 127)).alloc (.cells #[.int .i64 pl, .string kd, .int .i64 ba, .int .i64 po, .int .i64 fi, .bool cu, .slice P pots.length d] 66)) 2 ((w.alloc (.cells #[.string g, .int .i64 tg, .int .i64 fo, .int .i64 a0, .bool a1, .bool a2, .bool a3, .bool a4, .int .i64 gr, .slice A bl.length c, .int .i64 b0, .int .i64 b1, .int .i64 b2, .int .i64 b3, .int .i64 b4, .int .i64 b5, .bool b6, .int .i64 b7] 127)).alloc (.cells #[.int .i64 pl, .string kd, .int .i64 ba, .int .i64 po, .int .i64 fi, .bool cu, .slice P pots.length d] 66)) := Keeps.of2 w _ _
  have hsz : ((w.alloc (.cells #[.string g, .int .i64 tg, .int .i64 fo, .int .i64 a0, .bool a1, .bool a2, .bool a3, .bool a4, .int .i64 gr, .slice A bl.length c, .int .i64 b0, .int .i64 b1, .int .i64 b2, .int .i64 b3, .int .i64 b4, .int .i64 b5, .bool b6, .int .i64 b7] 127)).alloc (.cells #[.int .i64 pl, .string kd, .int .i64 ba, .int .i64 po, .int .i64 fi, .bool cu, .slice P pots.length d] 66)).heap.size = w.heap.size + 2 := by simp
  have hl0 := lookup_known hk (w := (((w.alloc (.cells #[.string g, .int .i64 tg, .int .i64 fo, .int .i64 a0, .bool a1, .bool a2, .bool a3, .bool a4, .int .i64 gr, .slice A bl.length c, .int .i64 b0, .int .i64 b1, .int .i64 b2, .int .i64 b3, .int .i64 b4, .int .i64 b5, .bool b6, .int .i64 b7] 127)).alloc (.cells #[.int .i64 pl, .string kd, .int .i64 ba, .int .i64 po, .int .i64 fi, .bool cu, .slice P pots.length d] 66)).alloc (.map (kE 6) 6)).drew) (g := w.heap.size + 2) (by have h := heap_alloc_new ((w.alloc (.cells #[.string g, .int .i64 tg, .int .i64 fo, .int .i64 a0, .bool a1, .bool a2, .bool a3, .bool a4, .int .i64 gr, .slice A bl.length c, .int .i64 b0, .int .i64 b1, .int .i64 b2, .int .i64 b3, .int .i64 b4, .int .i64 b5, .bool b6, .int .i64 b7] 127)).alloc (.cells #[.int .i64 pl, .string kd, .int .i64 ba, .int .i64 po, .int .i64 fi, .bool cu, .slice P pots.length d] 66)) (.map (kE 6) 6); rwa [hsz] at h) false
  have hpu : (kd.toList == [112, 117, 115, 104]) = decide (kd = M.kPush) := by
    rw [Bool.eq_iff_iff, beq_iff_eq, decide_eq_true_eq]; exact ⟨fun e => bytes_ext (by rw [e, ByteArray.toList_eq]), fun e => by subst e; rw [ByteArray.toList_eq]⟩
  clear hsz
  have hfd : ∀ (a b : Bool) (f : Value) (w : World), (Instr.field 158 (.agg #[.bool a, .bool b, f]) 0).run Tryz.prog w = .ok (.bool a) w := fun _ _ _ _ => by kernel_rfl
  go_enter Tryz.func66, Tryz.ntmps66
  go_upto_region 1 with (fail)
  go_cut [11] (fun v wx => v = .bool (!M.played kd) ∧ Keeps w ((w.alloc (.cells #[.string g, .int .i64 tg, .int .i64 fo, .int .i64 a0, .bool a1, .bool a2, .bool a3, .bool a4, .int .i64 gr, .slice A bl.length c, .int .i64 b0, .int .i64 b1, .int .i64 b2, .int .i64 b3, .int .i64 b4, .int .i64 b5, .bool b6, .int .i64 b7] 127)).alloc (.cells #[.int .i64 pl, .string kd, .int .i64 ba, .int .i64 po, .int .i64 fi, .bool cu, .slice P pots.length d] 66)) 2 wx)
  case first =>
    refine wp_region_held_drew (S := (fun w' => ∀ p q, p < w.heap.size + 2 → w'.cell? ⟨p, q, none⟩ = ((w.alloc (.cells #[.string g, .int .i64 tg, .int .i64 fo, .int .i64 a0, .bool a1, .bool a2, .bool a3, .bool a4, .int .i64 gr, .slice A bl.length c, .int .i64 b0, .int .i64 b1, .int .i64 b2, .int .i64 b3, .int .i64 b4, .int .i64 b5, .bool b6, .int .i64 b7] 127)).alloc (.cells #[.int .i64 pl, .string kd, .int .i64 ba, .int .i64 po, .int .i64 fi, .bool cu, .slice P pots.length d] 66)).cell? ⟨p, q, none⟩)) (by kernel_rfl) ?q1xstart (fun hHeld => ?_)
    case q1xstart => first | exact K0.cell | exact (K0.alloc _).cell
    refine wpAnyH_take (i := 1) (oi := _) (v := ?q1xv1) (ga rfl) (by kernel_rfl) (by kernel_rfl) (by kernel_rfl) (fun _ _ _ h => h) (Or.inl ⟨by rfl, ?q1xy1⟩) (by assumption) ?_
    case q1xy1 => (intro w hSw; (try dsimp only at hSw); go_simp; try with_reducible rfl)
    try simp only [Act.put, la, lz, ls]
    refine wpAnyH_take (i := 2) (oi := _) (v := ?q1xv2) (ga rfl) (by kernel_rfl) (by kernel_rfl) (by kernel_rfl) (fun _ _ _ h => h) (Or.inl ⟨by rfl, ?q1xy2⟩) (by assumption) ?_
    case q1xy2 => (intro w hSw; (try dsimp only at hSw); go_simp; try with_reducible rfl)
    try simp only [Act.put, la, lz, ls]
    refine wpAnyH_ready (rs := [0]) (by kernel_rfl) (by simp) ?_
    refine AllReadyH.cons (o := _) (ga rfl) (fun K hK => ?_) AllReadyH.nil
    go_simp
    (go_at_call 84; refine (kinds_any _).mono ?_; rintro e w1 ⟨rfl, rfl⟩)
    refine hK.out _ _ ?q1xh0 (fun hHeld => ?_)
    case q1xh0 => (first | (first | exact K0.cell | exact (K0.alloc _).cell) | (dsimp only; first | exact K0.cell | exact (K0.alloc _).cell))
    clear hK K
    try simp only [Act.put, la, lz, ls]
    refine wpAnyH_ready (rs := [3]) (by kernel_rfl) (by simp) ?_
    refine AllReadyH.cons (o := _) (ga rfl) (fun K hK => ?_) AllReadyH.nil
    go_simp
    refine hK.out _ _ ?q1xh3 (fun hHeld => ?_)
    case q1xh3 => (first | (first | exact K0.cell | exact (K0.alloc _).cell) | (dsimp only; first | exact K0.cell | exact (K0.alloc _).cell))
    clear hK K
    try simp only [Act.put, la, lz, ls]
    refine wpAnyH_take (i := 4) (oi := _) (v := ?q1xv4) (ga rfl) (by kernel_rfl) (by kernel_rfl) (by kernel_rfl) (fun _ _ _ h => h) (Or.inl ⟨by rfl, ?q1xy4⟩) (by assumption) ?_
    case q1xy4 => (intro w hSw; (try dsimp only at hSw); go_simp; try with_reducible rfl)
    try simp only [Act.put, la, lz, ls]
    refine wpAnyH_take (i := 5) (oi := _) (v := ?q1xv5) (ga rfl) (by kernel_rfl) (by kernel_rfl) (by kernel_rfl) (fun _ _ _ h => h) (Or.inl ⟨by rfl, ?q1xy5⟩) (by assumption) ?_
    case q1xy5 => (intro w hSw; (try dsimp only at hSw); go_simp; try with_reducible rfl)
    try simp only [Act.put, la, lz, ls]
    refine wpAnyH_done (by kernel_rfl) ?_ _
    go_wp2
    go_meet
    exact ⟨rfl, (K0.alloc _).drew⟩
  case rest =>
    obtain ⟨rfl, K1⟩ := hcut
    clear hl0
    have hbf : Box wc w.heap.size (frameCells ⟨g, tg, fo⟩ ⟨a0, a1, a2, a3, a4, gr, bl, b0, b1, b2, b3, b4, b5, b6, b7⟩ A c) := K1.box ((Box.new w (frameCells ⟨g, tg, fo⟩ ⟨a0, a1, a2, a3, a4, gr, bl, b0, b1, b2, b3, b4, b5, b6, b7⟩ A c) _).alloc _) (by omega)
    have hbx : Box wc (w.heap.size + 1) (shCells ⟨⟨pl, kd, ba, po, fi, cu, pots⟩, P, d⟩) := K1.box (Box.newAt _ (shCells ⟨⟨pl, kd, ba, po, fi, cu, pots⟩, P, d⟩) _ _ (by simp)) (by omega)
    have hp1 := hp.below K1.bw
    have hpp1 := hpp.below K1.bw
    have hask : Calls Tryz.prog 111 #[.slice (some ⟨wc.heap.size + 1, 0, none⟩) 4 4] ((wc.alloc (.cells #[.bool (decide (kd = M.kPush))] 4)).alloc (.cells #[.func (.func 112) #[] #[ptr (w.heap.size + 1)], .func (.func 114) #[] #[ptr (w.heap.size + 1)], .func (.func 115) #[] #[ptr wc.heap.size, ptr w.heap.size, ptr (w.heap.size + 1)], .func (.func 116) #[] #[ptr wc.heap.size, ptr (w.heap.size + 1)]] 29)) fun e w' => e = .returned (.int .i64 (M.askFrom 1 (M.foulQ ⟨g, tg, fo⟩ ⟨a0, a1, a2, a3, a4, gr, bl, b0, b1, b2, b3, b4, b5, b6, b7⟩ ⟨pl, kd, ba, po, fi, cu, pots⟩))) ∧ Below wc.heap.size wc w' := by
      refine (ask_any (wc.heap.size + 1) 0 4 4 flG (flL w.heap.size wc.heap.size) (M.foulQ ⟨g, tg, fo⟩ ⟨a0, a1, a2, a3, a4, gr, bl, b0, b1, b2, b3, b4, b5, b6, b7⟩ ⟨pl, kd, ba, po, fi, cu, pots⟩) _ rfl (by omega) (by simp) ?_ ?_).mono ?_
      · intro j hj
        rw [Nat.zero_add]
        match j, hj with
        | 0, _ => exact cell_last _ [_, _, _, _] _ _ (by simp) 0 _ rfl
        | 1, _ => exact cell_last _ [_, _, _, _] _ _ (by simp) 1 _ rfl
        | 2, _ => exact cell_last _ [_, _, _, _] _ _ (by simp) 2 _ rfl
        | 3, _ => exact cell_last _ [_, _, _, _] _ _ (by simp) 3 _ rfl
      · intro j hj _
        match j, hj with
        | 0, _ => exact fask_scratch (x := ⟨pl, kd, ba, po, fi, cu, pots⟩) ((hbx.alloc _).alloc _) ((hpp1.alloc _).alloc _)
        | 1, _ => exact fask_first (x := ⟨pl, kd, ba, po, fi, cu, pots⟩) ((hbx.alloc _).alloc _)
        | 2, _ => exact fask_target (x := ⟨pl, kd, ba, po, fi, cu, pots⟩) ((Box.new wc [_] _).alloc _) ((hbf.alloc _).alloc _) ((hbx.alloc _).alloc _) ((hp1.alloc _).alloc _) hr hg
        | 3, _ => exact fask_ball (x := ⟨pl, kd, ba, po, fi, cu, pots⟩) ((Box.new wc [_] _).alloc _) ((hbx.alloc _).alloc _) ((hpp1.alloc _).alloc _) hpos
      · rintro e w' ⟨rfl, hb'⟩
        exact ⟨rfl, (((Below.refl _ _).alloc (Nat.le_refl _) _).alloc (by simp) _).trans (hb'.mono (by simp; omega))⟩
    have HA := hide hask
    have hc1 := K1.cell
    clear hask hbf hbx hp1 hpp1
    cases hpl : M.played kd with
    | true =>
      have HP := hide hpl
      clear hpl
      go_wp2_with (go_at_call 111; refine HA.out.mono ?_; rintro e w2 ⟨rfl, hb2⟩)
      go_ret
      exact ⟨rfl, (K1.call hb2).bw⟩
    | false =>
      have HP := hide hpl
      clear hpl
      have hpn : (!false) = true := rfl
      go_wp2
      all_goals first | (go_ret; exact ⟨rfl, K1.bw⟩) | (exfalso; have := HP.out; simp_all; done)
end Go.Proofs.YtelpepbpdojikaaGreatDoor
