/- Parts of the proofs about chapter 5 (pool), joined by program. -/
import Derived.Test.YtelpepbpdojikaaGreatDoorKe11
import Derived.Test.YtelpepbpdojikaaGreatDoorKe19
set_option linter.unusedVariables false
set_option linter.unusedSimpArgs false
namespace Go.Proofs.YtelpepbpdojikaaGreatDoor
open Go.RowKit
theorem rng_box (w : World) (us : List Value) (t : TypeId) : ∀ W : World, (∀ p q, p < w.heap.size + 1 → W.cell? ⟨p, q, none⟩ = (w.alloc (.cells us.toArray t)).cell? ⟨p, q, none⟩) → W.rangeAt w.heap.size 0 us := by
  intro W h j v hj
  rw [h _ _ (by omega), Nat.zero_add]
  have := cells_new w t us w.heap.size rfl j v hj
  rwa [add_at, Nat.zero_add] at this
theorem own_zero (s : M.State) (hg : 0 ≤ s.group ∧ s.group ≤ 2) : M.own s = 0 ↔ s.group = 0 := by
  unfold M.own
  split
  · exact Iff.rfl
  · next h => rw [not_or] at h; constructor <;> intro h1 <;> omega
set_option maxRecDepth 100000 in
set_option maxHeartbeats 1600000 in
theorem targets_easy (S : Nat → Prop) (r : M.Rules) (s : M.State) (A : Option Addr) (c : Nat) (w : World) (hp : RdI w S A c s.balls) (h : r.game = M.gStraight ∨ r.game = M.gNine ∨ (r.game = M.gEight ∧ s.brk = true)) :
    Calls Tryz.prog 103 #[frameV r s A c] w fun e w' => ∃ A' c', e = .returned (.slice A' (M.targets r s).length c') ∧ RdI w' (fun b => w.heap.size ≤ b) A' c' (M.targets r s) ∧ Below w.heap.size w w' := by
  obtain ⟨c1, c2, c3⟩ := hp.bd
  obtain ⟨g, tg, fo⟩ := r
  obtain ⟨a0, a1, a2, a3, a4, gr, bl, b0, b1, b2, b3, b4, b5, b6, b7⟩ := s
  simp only at h c1 c3 hp
  rcases h with rfl | rfl | ⟨rfl, rfl⟩
  · have ht : M.targets ⟨M.gStraight, tg, fo⟩ ⟨a0, a1, a2, a3, a4, gr, bl, b0, b1, b2, b3, b4, b5, b6, b7⟩ = bl := by simp [M.targets]
    rw [ht]
    have K0 : Keeps w (w.alloc (.cells #[.string M.gStraight, .int .i64 tg, .int .i64 fo, .int .i64 a0, .bool a1, .bool a2, .bool a3, .bool a4, .int .i64 gr, .slice A bl.length c, .int .i64 b0, .int .i64 b1, .int .i64 b2, .int .i64 b3, .int .i64 b4, .int .i64 b5, .bool b6, .int .i64 b7] 127)) 1 (w.alloc (.cells #[.string M.gStraight, .int .i64 tg, .int .i64 fo, .int .i64 a0, .bool a1, .bool a2, .bool a3, .bool a4, .int .i64 gr, .slice A bl.length c, .int .i64 b0, .int .i64 b1, .int .i64 b2, .int .i64 b3, .int .i64 b4, .int .i64 b5, .bool b6, .int .i64 b7] 127)) := Keeps.of1 w _
    go_enter Tryz.func103, Tryz.ntmps103
    go_wp2_with (go_at_call 141; refine (clonedInt_any S A c bl _ (hp.below K0.bw)).mono ?_; rintro e w1 ⟨A1, c1', rfl, hr1, hb1⟩; have K1 := K0.call hb1)
    go_ret
    exact ⟨A1, c1', rfl, hr1.more (fun b _ h => Nat.le_trans (Nat.le_trans (by omega) K0.sz) h), K1.bw⟩
  · have ht : M.targets ⟨M.gNine, tg, fo⟩ ⟨a0, a1, a2, a3, a4, gr, bl, b0, b1, b2, b3, b4, b5, b6, b7⟩ = bl.take 1 := by simp [M.targets]
    rw [ht]
    have K0 : Keeps w (w.alloc (.cells #[.string M.gNine, .int .i64 tg, .int .i64 fo, .int .i64 a0, .bool a1, .bool a2, .bool a3, .bool a4, .int .i64 gr, .slice A bl.length c, .int .i64 b0, .int .i64 b1, .int .i64 b2, .int .i64 b3, .int .i64 b4, .int .i64 b5, .bool b6, .int .i64 b7] 127)) 1 (w.alloc (.cells #[.string M.gNine, .int .i64 tg, .int .i64 fo, .int .i64 a0, .bool a1, .bool a2, .bool a3, .bool a4, .int .i64 gr, .slice A bl.length c, .int .i64 b0, .int .i64 b1, .int .i64 b2, .int .i64 b3, .int .i64 b4, .int .i64 b5, .bool b6, .int .i64 b7] 127)) := Keeps.of1 w _
    by_cases hl : bl = []
    · subst hl
      go_enter Tryz.func103, Tryz.ntmps103
      go_wp2_with (go_at_call 141; refine (clonedInt_any S A c [] _ (hp.below K0.bw)).mono ?_; rintro e w1 ⟨A1, c1', rfl, hr1, hb1⟩; have K1 := K0.call hb1)
      go_ret
      exact ⟨A1, c1', rfl, hr1.more (fun b _ h => Nat.le_trans (Nat.le_trans (by omega) K0.sz) h), K1.bw⟩
    · have hl2 : 1 ≤ bl.length := by cases bl with | nil => exact absurd rfl hl | cons a l => simp
      have hc1 : 1 ≤ c := by omega
      have hlen : (bl.take 1).length = 1 := by rw [List.length_take]; omega
      have hcl := clonedInt_any S A c (bl.take 1) (w.alloc (.cells #[.string M.gNine, .int .i64 tg, .int .i64 fo, .int .i64 a0, .bool a1, .bool a2, .bool a3, .bool a4, .int .i64 gr, .slice A bl.length c, .int .i64 b0, .int .i64 b1, .int .i64 b2, .int .i64 b3, .int .i64 b4, .int .i64 b5, .bool b6, .int .i64 b7] 127)) (by unfold RdI; rw [hlen, List.map_take]; exact (Reads.take (k := 1) (hp.below K0.bw) hl2))
      rw [hlen] at hcl
      clear hl
      go_enter Tryz.func103, Tryz.ntmps103
      go_wp2_with (go_at_call 141; refine (hcl).mono ?_; rintro e w1 ⟨A1, c1', rfl, hr1, hb1⟩; have K1 := K0.call hb1)
      go_ret
      exact ⟨A1, c1', by rw [hlen]; rfl, hr1.more (fun b _ h => Nat.le_trans (Nat.le_trans (by omega) K0.sz) h), K1.bw⟩
  · have ht : M.targets ⟨M.gEight, tg, fo⟩ ⟨a0, true, a2, a3, a4, gr, bl, b0, b1, b2, b3, b4, b5, b6, b7⟩ = bl := by simp [M.targets]
    rw [ht]
    have K0 : Keeps w (w.alloc (.cells #[.string M.gEight, .int .i64 tg, .int .i64 fo, .int .i64 a0, .bool true, .bool a2, .bool a3, .bool a4, .int .i64 gr, .slice A bl.length c, .int .i64 b0, .int .i64 b1, .int .i64 b2, .int .i64 b3, .int .i64 b4, .int .i64 b5, .bool b6, .int .i64 b7] 127)) 1 (w.alloc (.cells #[.string M.gEight, .int .i64 tg, .int .i64 fo, .int .i64 a0, .bool true, .bool a2, .bool a3, .bool a4, .int .i64 gr, .slice A bl.length c, .int .i64 b0, .int .i64 b1, .int .i64 b2, .int .i64 b3, .int .i64 b4, .int .i64 b5, .bool b6, .int .i64 b7] 127)) := Keeps.of1 w _
    go_enter Tryz.func103, Tryz.ntmps103
    go_wp2_with (go_at_call 141; refine (clonedInt_any S A c bl _ (hp.below K0.bw)).mono ?_; rintro e w1 ⟨A1, c1', rfl, hr1, hb1⟩; have K1 := K0.call hb1)
    go_ret
    exact ⟨A1, c1', rfl, hr1.more (fun b _ h => Nat.le_trans (Nat.le_trans (by omega) K0.sz) h), K1.bw⟩
set_option maxRecDepth 100000 in
set_option maxHeartbeats 4000000 in
theorem targets_colours (S : Nat → Prop) (tg fo : Int) (s : M.State) (A : Option Addr) (c : Nat) (w : World) (hp : RdI w S A c s.balls) (hk : s.brk = false) (hg : 0 ≤ s.group ∧ s.group ≤ 2) :
    Calls Tryz.prog 103 #[frameV ⟨M.gEight, tg, fo⟩ s A c] w fun e w' => ∃ A' c', e = .returned (.slice A' (M.targets ⟨M.gEight, tg, fo⟩ s).length c') ∧ RdI w' (fun b => w.heap.size ≤ b) A' c' (M.targets ⟨M.gEight, tg, fo⟩ s) ∧ Below w.heap.size w w' := by
  obtain ⟨i0, hi, hz0, hz1, hz2⟩ := info_parts int_info
  obtain ⟨c1, c2, c3⟩ := hp.bd
  obtain ⟨a0, a1, a2, a3, a4, gr, bl, b0, b1, b2, b3, b4, b5, b6, b7⟩ := s
  simp only at hk c1 c3 hp hg
  subst hk
  have ht : M.targets ⟨M.gEight, tg, fo⟩ ⟨a0, false, a2, a3, a4, gr, bl, b0, b1, b2, b3, b4, b5, b6, b7⟩ = if bl.filter (colour ⟨a0, false, a2, a3, a4, gr, bl, b0, b1, b2, b3, b4, b5, b6, b7⟩) = [] ∧ (8 : Int) ∈ bl then [8] else bl.filter (colour ⟨a0, false, a2, a3, a4, gr, bl, b0, b1, b2, b3, b4, b5, b6, b7⟩) := by
    simp [M.targets, colours_eq]
  have HT := hide ht
  clear ht
  have K0 : Keeps w (w.alloc (.cells #[.string M.gEight, .int .i64 tg, .int .i64 fo, .int .i64 a0, .bool false, .bool a2, .bool a3, .bool a4, .int .i64 gr, .slice A bl.length c, .int .i64 b0, .int .i64 b1, .int .i64 b2, .int .i64 b3, .int .i64 b4, .int .i64 b5, .bool b6, .int .i64 b7] 127)) 1 (w.alloc (.cells #[.string M.gEight, .int .i64 tg, .int .i64 fo, .int .i64 a0, .bool false, .bool a2, .bool a3, .bool a4, .int .i64 gr, .slice A bl.length c, .int .i64 b0, .int .i64 b1, .int .i64 b2, .int .i64 b3, .int .i64 b4, .int .i64 b5, .bool b6, .int .i64 b7] 127)) := Keeps.of1 w _
  have hown0 := own_zero ⟨a0, false, a2, a3, a4, gr, bl, b0, b1, b2, b3, b4, b5, b6, b7⟩ hg
  have HO := hide hown0
  clear hown0
  go_enter Tryz.func103, Tryz.ntmps103
  go_wp2
  go_loopw [3, 39] (fun v i wr => ∃ k : Nat, k ≤ bl.length ∧ i = .int .i64 k ∧ (∃ A c, v = .slice A ((bl.take k).filter (colour ⟨a0, false, a2, a3, a4, gr, bl, b0, b1, b2, b3, b4, b5, b6, b7⟩)).length c) ∧ wr.ownsRow (w.heap.size + 1) 3 1 v ((bl.take k).filter (colour ⟨a0, false, a2, a3, a4, gr, bl, b0, b1, b2, b3, b4, b5, b6, b7⟩)).length (((bl.take k).filter (colour ⟨a0, false, a2, a3, a4, gr, bl, b0, b1, b2, b3, b4, b5, b6, b7⟩)).map (Value.int .i64)) ∧ Keeps w (w.alloc (.cells #[.string M.gEight, .int .i64 tg, .int .i64 fo, .int .i64 a0, .bool false, .bool a2, .bool a3, .bool a4, .int .i64 gr, .slice A bl.length c, .int .i64 b0, .int .i64 b1, .int .i64 b2, .int .i64 b3, .int .i64 b4, .int .i64 b5, .bool b6, .int .i64 b7] 127)) 1 wr)
    (fun _ i _ => bl.length - (intOf i).toNat)
  case atStart => exact ⟨0, by omega, rfl, ⟨_, _, rfl⟩, World.ownsRow_nil _ _ _ _, K0⟩
  case round =>
    obtain ⟨k, hk, rfl, ⟨A1, c1', rfl⟩, hown, KR⟩ := hrel
    have hcR := KR.cell
    have hszr := KR.sz
    have hfl := filter_le (colour ⟨a0, false, a2, a3, a4, gr, bl, b0, b1, b2, b3, b4, b5, b6, b7⟩) bl k
    by_cases hlt : k < bl.length
    · obtain ⟨b, o, rfl, _, hbl, hc⟩ := hp.at_ k hlt
      have hck := hc k hlt
      clear hc
      have hbl1 : b < w.heap.size + 1 := by omega
      by_cases h8 : bl[k] = 8
      · have h8' : (bl[k] != 8) = false := by simp [h8]
        have HS := hide (filter_no (p := (colour ⟨a0, false, a2, a3, a4, gr, bl, b0, b1, b2, b3, b4, b5, b6, b7⟩)) hlt (by simp [colour, h8]))
        clear h8
        go_wp2
        have hrng : ∀ W : World, (fun w' : World => ∀ p q, p < w.heap.size + 1 → w'.cell? ⟨p, q, none⟩ = (w.alloc (.cells #[.string M.gEight, .int .i64 tg, .int .i64 fo, .int .i64 a0, .bool false, .bool a2, .bool a3, .bool a4, .int .i64 gr, .slice (some ⟨b, o, none⟩) bl.length c, .int .i64 b0, .int .i64 b1, .int .i64 b2, .int .i64 b3, .int .i64 b4, .int .i64 b5, .bool b6, .int .i64 b7] 127)).cell? ⟨p, q, none⟩) W → W.rangeAt w.heap.size 0 [.string M.gEight, .int .i64 tg, .int .i64 fo, .int .i64 a0, .bool false, .bool a2, .bool a3, .bool a4, .int .i64 gr, .slice (some ⟨b, o, none⟩) bl.length c, .int .i64 b0, .int .i64 b1, .int .i64 b2, .int .i64 b3, .int .i64 b4, .int .i64 b5, .bool b6, .int .i64 b7] := rng_box w _ _
        have hun := Tryz.underlying127
        refine wp_region_held_drew (S := (fun w' => ∀ p q, p < w.heap.size + 1 → w'.cell? ⟨p, q, none⟩ = (w.alloc (.cells #[.string M.gEight, .int .i64 tg, .int .i64 fo, .int .i64 a0, .bool false, .bool a2, .bool a3, .bool a4, .int .i64 gr, .slice (some ⟨b, o, none⟩) bl.length c, .int .i64 b0, .int .i64 b1, .int .i64 b2, .int .i64 b3, .int .i64 b4, .int .i64 b5, .bool b6, .int .i64 b7] 127)).cell? ⟨p, q, none⟩)) (by kernel_rfl) ?q5xstart (fun hHeld => ?_)
        case q5xstart => first | exact K2.cell | exact K1.cell | exact KR.cell
        refine wpAnyH_take (i := 0) (oi := _) (v := ?q5xv0) (ga rfl) (by kernel_rfl) (by kernel_rfl) (by kernel_rfl) (fun _ _ _ h => h) (Or.inl ⟨by rfl, ?q5xy0⟩) (by assumption) ?_
        case q5xy0 => (intro w hSw; (try dsimp only at hSw); go_simp; try with_reducible rfl)
        try simp only [Act.put, la, lz, ls]
        refine wpAnyH_take (i := 1) (oi := _) (v := ?q5xv1) (ga rfl) (by kernel_rfl) (by kernel_rfl) (by kernel_rfl) (fun _ _ _ h => h) (Or.inl ⟨by rfl, ?q5xy1⟩) (by assumption) ?_
        case q5xy1 => (intro w hSw; (try dsimp only at hSw); go_simp; try with_reducible rfl)
        try simp only [Act.put, la, lz, ls]
        refine wpAnyH_take (i := 2) (oi := _) (v := ?q5xv2) (ga rfl) (by kernel_rfl) (by kernel_rfl) (by kernel_rfl) (fun _ _ _ h => h) (Or.inl ⟨by rfl, ?q5xy2⟩) (by assumption) ?_
        case q5xy2 => (intro w hSw; (try dsimp only at hSw); go_simp; try with_reducible rfl)
        try simp only [Act.put, la, lz, ls]
        refine wpAnyH_take (i := 3) (oi := _) (v := undef) (ga rfl) (by kernel_rfl) (by kernel_rfl) (by kernel_rfl) (fun _ _ _ h => h) (Or.inr ⟨by rfl, rfl⟩) (by assumption) ?_
        try simp only [Act.put, la, lz, ls]
        refine wpAnyH_take (i := 4) (oi := _) (v := undef) (ga rfl) (by kernel_rfl) (by kernel_rfl) (by kernel_rfl) (fun _ _ _ h => h) (Or.inr ⟨by rfl, rfl⟩) (by assumption) ?_
        try simp only [Act.put, la, lz, ls]
        refine wpAnyH_take (i := 5) (oi := _) (v := undef) (ga rfl) (by kernel_rfl) (by kernel_rfl) (by kernel_rfl) (fun _ _ _ h => h) (Or.inr ⟨by rfl, rfl⟩) (by assumption) ?_
        try simp only [Act.put, la, lz, ls]
        refine wpAnyH_take (i := 6) (oi := _) (v := undef) (ga rfl) (by kernel_rfl) (by kernel_rfl) (by kernel_rfl) (fun _ _ _ h => h) (Or.inr ⟨by rfl, rfl⟩) (by assumption) ?_
        try simp only [Act.put, la, lz, ls]
        refine wpAnyH_take (i := 7) (oi := _) (v := undef) (ga rfl) (by kernel_rfl) (by kernel_rfl) (by kernel_rfl) (fun _ _ _ h => h) (Or.inr ⟨by rfl, rfl⟩) (by assumption) ?_
        try simp only [Act.put, la, lz, ls]
        refine wpAnyH_take (i := 8) (oi := _) (v := undef) (ga rfl) (by kernel_rfl) (by kernel_rfl) (by kernel_rfl) (fun _ _ _ h => h) (Or.inr ⟨by rfl, rfl⟩) (by assumption) ?_
        try simp only [Act.put, la, lz, ls]
        refine wpAnyH_take (i := 9) (oi := _) (v := undef) (ga rfl) (by kernel_rfl) (by kernel_rfl) (by kernel_rfl) (fun _ _ _ h => h) (Or.inr ⟨by rfl, rfl⟩) (by assumption) ?_
        try simp only [Act.put, la, lz, ls]
        refine wpAnyH_take (i := 10) (oi := _) (v := undef) (ga rfl) (by kernel_rfl) (by kernel_rfl) (by kernel_rfl) (fun _ _ _ h => h) (Or.inr ⟨by rfl, rfl⟩) (by assumption) ?_
        try simp only [Act.put, la, lz, ls]
        refine wpAnyH_take (i := 11) (oi := _) (v := undef) (ga rfl) (by kernel_rfl) (by kernel_rfl) (by kernel_rfl) (fun _ _ _ h => h) (Or.inr ⟨by rfl, rfl⟩) (by assumption) ?_
        try simp only [Act.put, la, lz, ls]
        refine wpAnyH_take (i := 12) (oi := _) (v := undef) (ga rfl) (by kernel_rfl) (by kernel_rfl) (by kernel_rfl) (fun _ _ _ h => h) (Or.inr ⟨by rfl, rfl⟩) (by assumption) ?_
        try simp only [Act.put, la, lz, ls]
        refine wpAnyH_take (i := 13) (oi := _) (v := ?q5xv13) (ga rfl) (by kernel_rfl) (by kernel_rfl) (by kernel_rfl) (fun _ _ _ h => h) (Or.inl ⟨by rfl, ?q5xy13⟩) (by assumption) ?_
        case q5xy13 => (intro w hSw; (try dsimp only at hSw); go_simp; try with_reducible rfl)
        try simp only [Act.put, la, lz, ls]
        refine wpAnyH_done (by kernel_rfl) ?_ _
        go_wp2
        go_roundw
        case rel => exact ⟨k + 1, by omega, by go_num, by rw [HS.out]; exact ⟨⟨_, _, rfl⟩, own_drewN hown 1, KR.drew⟩⟩
        case measure => simp [intOf]; omega
      · have h8' : (bl[k] != 8) = true := by simp [h8]
        by_cases hgr : gr = 0
        · have hgr' : (M.own ⟨a0, false, a2, a3, a4, gr, bl, b0, b1, b2, b3, b4, b5, b6, b7⟩ == 0) = true := by simp [HO.out.2 hgr]
          have HS := hide (filter_yes (p := (colour ⟨a0, false, a2, a3, a4, gr, bl, b0, b1, b2, b3, b4, b5, b6, b7⟩)) hlt (by simp [colour, h8, hgr]))
          clear hgr h8
          go_wp2
          have hrng : ∀ W : World, (fun w' : World => ∀ p q, p < w.heap.size + 1 → w'.cell? ⟨p, q, none⟩ = (w.alloc (.cells #[.string M.gEight, .int .i64 tg, .int .i64 fo, .int .i64 a0, .bool false, .bool a2, .bool a3, .bool a4, .int .i64 gr, .slice (some ⟨b, o, none⟩) bl.length c, .int .i64 b0, .int .i64 b1, .int .i64 b2, .int .i64 b3, .int .i64 b4, .int .i64 b5, .bool b6, .int .i64 b7] 127)).cell? ⟨p, q, none⟩) W → W.rangeAt w.heap.size 0 [.string M.gEight, .int .i64 tg, .int .i64 fo, .int .i64 a0, .bool false, .bool a2, .bool a3, .bool a4, .int .i64 gr, .slice (some ⟨b, o, none⟩) bl.length c, .int .i64 b0, .int .i64 b1, .int .i64 b2, .int .i64 b3, .int .i64 b4, .int .i64 b5, .bool b6, .int .i64 b7] := rng_box w _ _
          have hun := Tryz.underlying127
          refine wp_region_held_drew (S := (fun w' => ∀ p q, p < w.heap.size + 1 → w'.cell? ⟨p, q, none⟩ = (w.alloc (.cells #[.string M.gEight, .int .i64 tg, .int .i64 fo, .int .i64 a0, .bool false, .bool a2, .bool a3, .bool a4, .int .i64 gr, .slice (some ⟨b, o, none⟩) bl.length c, .int .i64 b0, .int .i64 b1, .int .i64 b2, .int .i64 b3, .int .i64 b4, .int .i64 b5, .bool b6, .int .i64 b7] 127)).cell? ⟨p, q, none⟩)) (by kernel_rfl) ?q6xstart (fun hHeld => ?_)
          case q6xstart => first | exact K2.cell | exact K1.cell | exact KR.cell
          refine wpAnyH_take (i := 0) (oi := _) (v := ?q6xv0) (ga rfl) (by kernel_rfl) (by kernel_rfl) (by kernel_rfl) (fun _ _ _ h => h) (Or.inl ⟨by rfl, ?q6xy0⟩) (by assumption) ?_
          case q6xy0 => (intro w hSw; (try dsimp only at hSw); go_simp; try with_reducible rfl)
          try simp only [Act.put, la, lz, ls]
          refine wpAnyH_take (i := 1) (oi := _) (v := ?q6xv1) (ga rfl) (by kernel_rfl) (by kernel_rfl) (by kernel_rfl) (fun _ _ _ h => h) (Or.inl ⟨by rfl, ?q6xy1⟩) (by assumption) ?_
          case q6xy1 => (intro w hSw; (try dsimp only at hSw); go_simp; try with_reducible rfl)
          try simp only [Act.put, la, lz, ls]
          refine wpAnyH_take (i := 2) (oi := _) (v := ?q6xv2) (ga rfl) (by kernel_rfl) (by kernel_rfl) (by kernel_rfl) (fun _ _ _ h => h) (Or.inl ⟨by rfl, ?q6xy2⟩) (by assumption) ?_
          case q6xy2 => (intro w hSw; (try dsimp only at hSw); go_simp; try with_reducible rfl)
          try simp only [Act.put, la, lz, ls]
          refine wpAnyH_take (i := 3) (oi := _) (v := _) (ga rfl) (by kernel_rfl) (by kernel_rfl) (by kernel_rfl) (fun _ _ _ h => h) (yieldsIf_load_mid (by rfl) _ _ (by rfl) _ _ (by rfl) _ _ hrng hun rfl (by kernel_rfl)) (by assumption) ?_
          try simp only [Act.put, la, lz, ls]
          refine wpAnyH_ready (rs := [4]) (by kernel_rfl) (by simp) ?_
          refine AllReadyH.cons (o := _) (ga rfl) (fun K hK => ?_) AllReadyH.nil
          go_simp
          (first | (go_at_call 145; refine (own_any ⟨M.gEight, tg, fo⟩ ⟨a0, false, a2, a3, a4, gr, bl, b0, b1, b2, b3, b4, b5, b6, b7⟩ _ _ _ hg).mono ?_; rintro e w2 ⟨rfl, hb2⟩; have K2 := K1.call hb2) | (go_at_call 145; refine (own_any ⟨M.gEight, tg, fo⟩ ⟨a0, false, a2, a3, a4, gr, bl, b0, b1, b2, b3, b4, b5, b6, b7⟩ _ _ _ hg).mono ?_; rintro e w1 ⟨rfl, hb1⟩; have K1 := KR.drew.call hb1) | (go_at_call 146; refine (side_any _ _).mono ?_; rintro e w99 ⟨rfl, rfl⟩))
          refine hK.out _ _ ?q6xh4 (fun hHeld => ?_)
          case q6xh4 => (first | (first | exact K2.cell | exact K1.cell | exact KR.cell) | (dsimp only; first | exact K2.cell | exact K1.cell | exact KR.cell))
          clear hK K
          try simp only [Act.put, la, lz, ls]
          refine wpAnyH_take (i := 5) (oi := _) (v := ?q6xv5) (ga rfl) (by kernel_rfl) (by kernel_rfl) (by kernel_rfl) (fun _ _ _ h => h) (Or.inl ⟨by rfl, ?q6xy5⟩) (by assumption) ?_
          case q6xy5 => (intro w hSw; (try dsimp only at hSw); go_simp; try with_reducible rfl)
          try simp only [Act.put, la, lz, ls]
          refine wpAnyH_take (i := 6) (oi := _) (v := ?q6xv6) (ga rfl) (by kernel_rfl) (by kernel_rfl) (by kernel_rfl) (fun _ _ _ h => h) (Or.inl ⟨by rfl, ?q6xy6⟩) (by assumption) ?_
          case q6xy6 => (intro w hSw; (try dsimp only at hSw); go_simp; try with_reducible rfl)
          try simp only [Act.put, la, lz, ls]
          refine wpAnyH_take (i := 7) (oi := _) (v := undef) (ga rfl) (by kernel_rfl) (by kernel_rfl) (by kernel_rfl) (fun _ _ _ h => h) (Or.inr ⟨by rfl, rfl⟩) (by assumption) ?_
          try simp only [Act.put, la, lz, ls]
          refine wpAnyH_take (i := 8) (oi := _) (v := undef) (ga rfl) (by kernel_rfl) (by kernel_rfl) (by kernel_rfl) (fun _ _ _ h => h) (Or.inr ⟨by rfl, rfl⟩) (by assumption) ?_
          try simp only [Act.put, la, lz, ls]
          refine wpAnyH_take (i := 9) (oi := _) (v := undef) (ga rfl) (by kernel_rfl) (by kernel_rfl) (by kernel_rfl) (fun _ _ _ h => h) (Or.inr ⟨by rfl, rfl⟩) (by assumption) ?_
          try simp only [Act.put, la, lz, ls]
          refine wpAnyH_take (i := 10) (oi := _) (v := undef) (ga rfl) (by kernel_rfl) (by kernel_rfl) (by kernel_rfl) (fun _ _ _ h => h) (Or.inr ⟨by rfl, rfl⟩) (by assumption) ?_
          try simp only [Act.put, la, lz, ls]
          refine wpAnyH_take (i := 11) (oi := _) (v := undef) (ga rfl) (by kernel_rfl) (by kernel_rfl) (by kernel_rfl) (fun _ _ _ h => h) (Or.inr ⟨by rfl, rfl⟩) (by assumption) ?_
          try simp only [Act.put, la, lz, ls]
          refine wpAnyH_take (i := 12) (oi := _) (v := ?q6xv12) (ga rfl) (by kernel_rfl) (by kernel_rfl) (by kernel_rfl) (fun _ _ _ h => h) (Or.inl ⟨by rfl, ?q6xy12⟩) (by assumption) ?_
          case q6xy12 => (intro w hSw; (try dsimp only at hSw); go_simp; try with_reducible rfl)
          try simp only [Act.put, la, lz, ls]
          refine wpAnyH_take (i := 13) (oi := _) (v := ?q6xv13) (ga rfl) (by kernel_rfl) (by kernel_rfl) (by kernel_rfl) (fun _ _ _ h => h) (Or.inl ⟨by rfl, ?q6xy13⟩) (by assumption) ?_
          case q6xy13 => (intro w hSw; (try dsimp only at hSw); go_simp; try with_reducible rfl)
          try simp only [Act.put, la, lz, ls]
          refine wpAnyH_done (by kernel_rfl) ?_ _
          have hownZ := (own_keep hown hb1 hszr)
          have KZ := K1
          have hszZ := KZ.sz
          go_wp2_with (at_builtin; refine wpList_append_lies _ rfl _ _ _ rfl (w.heap.size + 1) 3 i0 (.int .i64 0) 1 8 Tryz.underlying30 hi hz0 hz1 hz2 rfl (by omega) _ _ _ rfl (hownZ.alloc _) ⟨w1.heap.size, 0, none⟩ 1 1 [.int .i64 bl[k]] rfl rfl (cells_new _ _ _ _ (by simp)) ?c1 (by omega) ?c2 ?c3 ?c4 (w1.heap.size + 1) (by simp) ?_)
          case c1 => simp [Value.oneCell']
          case c2 => simp only [maxLen]; omega
          case c3 => omega
          case c4 => first | omega | (simp; omega)
          intro g1 cap w9 hown1 hgrow _ _
          have hbd := below_own (B := w.heap.size + 1) (hownZ.alloc _) hgrow (by omega) (by simp; omega)
          have hb9 := ((Below.refl (w.heap.size + 1) w1).alloc (by omega) _).trans hbd
          have hown2 : w9.ownsRow (w.heap.size + 1) 3 1 (.slice (some ⟨g1, 0, none⟩) ((bl.take (k + 1)).filter (colour ⟨a0, false, a2, a3, a4, gr, bl, b0, b1, b2, b3, b4, b5, b6, b7⟩)).length cap) ((bl.take (k + 1)).filter (colour ⟨a0, false, a2, a3, a4, gr, bl, b0, b1, b2, b3, b4, b5, b6, b7⟩)).length (((bl.take (k + 1)).filter (colour ⟨a0, false, a2, a3, a4, gr, bl, b0, b1, b2, b3, b4, b5, b6, b7⟩)).map (Value.int .i64)) := by rw [HS.out]; simpa using hown1
          have hv : ((bl.take k).filter (colour ⟨a0, false, a2, a3, a4, gr, bl, b0, b1, b2, b3, b4, b5, b6, b7⟩)).length + 1 = ((bl.take (k + 1)).filter (colour ⟨a0, false, a2, a3, a4, gr, bl, b0, b1, b2, b3, b4, b5, b6, b7⟩)).length := by rw [HS.out]; simp
          have KY := (KZ.alloc _).upto hbd (by omega)
          rw [hv]
          clear hownZ hgrow hown1 hbd hb9 hv HS
          go_wp2
          go_roundw
          case rel => exact ⟨k + 1, by omega, by go_num, ⟨_, _, rfl⟩, hown2, KY⟩
          case measure => simp [intOf]; omega
        · have hgr' : (M.own ⟨a0, false, a2, a3, a4, gr, bl, b0, b1, b2, b3, b4, b5, b6, b7⟩ == 0) = false := by simp; exact fun h => hgr (HO.out.1 h)
          by_cases hsd : M.side bl[k] = M.own ⟨a0, false, a2, a3, a4, gr, bl, b0, b1, b2, b3, b4, b5, b6, b7⟩
          · have hsd' : (M.side bl[k] == M.own ⟨a0, false, a2, a3, a4, gr, bl, b0, b1, b2, b3, b4, b5, b6, b7⟩) = true := by simp [hsd]
            have HS := hide (filter_yes (p := (colour ⟨a0, false, a2, a3, a4, gr, bl, b0, b1, b2, b3, b4, b5, b6, b7⟩)) hlt (by simp [colour, h8, hsd]))
            clear hgr h8 hsd
            go_wp2
            have hrng : ∀ W : World, (fun w' : World => ∀ p q, p < w.heap.size + 1 → w'.cell? ⟨p, q, none⟩ = (w.alloc (.cells #[.string M.gEight, .int .i64 tg, .int .i64 fo, .int .i64 a0, .bool false, .bool a2, .bool a3, .bool a4, .int .i64 gr, .slice (some ⟨b, o, none⟩) bl.length c, .int .i64 b0, .int .i64 b1, .int .i64 b2, .int .i64 b3, .int .i64 b4, .int .i64 b5, .bool b6, .int .i64 b7] 127)).cell? ⟨p, q, none⟩) W → W.rangeAt w.heap.size 0 [.string M.gEight, .int .i64 tg, .int .i64 fo, .int .i64 a0, .bool false, .bool a2, .bool a3, .bool a4, .int .i64 gr, .slice (some ⟨b, o, none⟩) bl.length c, .int .i64 b0, .int .i64 b1, .int .i64 b2, .int .i64 b3, .int .i64 b4, .int .i64 b5, .bool b6, .int .i64 b7] := rng_box w _ _
            have hun := Tryz.underlying127
            refine wp_region_held_drew (S := (fun w' => ∀ p q, p < w.heap.size + 1 → w'.cell? ⟨p, q, none⟩ = (w.alloc (.cells #[.string M.gEight, .int .i64 tg, .int .i64 fo, .int .i64 a0, .bool false, .bool a2, .bool a3, .bool a4, .int .i64 gr, .slice (some ⟨b, o, none⟩) bl.length c, .int .i64 b0, .int .i64 b1, .int .i64 b2, .int .i64 b3, .int .i64 b4, .int .i64 b5, .bool b6, .int .i64 b7] 127)).cell? ⟨p, q, none⟩)) (by kernel_rfl) ?q7xstart (fun hHeld => ?_)
            case q7xstart => first | exact K2.cell | exact K1.cell | exact KR.cell
            refine wpAnyH_take (i := 0) (oi := _) (v := ?q7xv0) (ga rfl) (by kernel_rfl) (by kernel_rfl) (by kernel_rfl) (fun _ _ _ h => h) (Or.inl ⟨by rfl, ?q7xy0⟩) (by assumption) ?_
            case q7xy0 => (intro w hSw; (try dsimp only at hSw); go_simp; try with_reducible rfl)
            try simp only [Act.put, la, lz, ls]
            refine wpAnyH_take (i := 1) (oi := _) (v := ?q7xv1) (ga rfl) (by kernel_rfl) (by kernel_rfl) (by kernel_rfl) (fun _ _ _ h => h) (Or.inl ⟨by rfl, ?q7xy1⟩) (by assumption) ?_
            case q7xy1 => (intro w hSw; (try dsimp only at hSw); go_simp; try with_reducible rfl)
            try simp only [Act.put, la, lz, ls]
            refine wpAnyH_take (i := 2) (oi := _) (v := ?q7xv2) (ga rfl) (by kernel_rfl) (by kernel_rfl) (by kernel_rfl) (fun _ _ _ h => h) (Or.inl ⟨by rfl, ?q7xy2⟩) (by assumption) ?_
            case q7xy2 => (intro w hSw; (try dsimp only at hSw); go_simp; try with_reducible rfl)
            try simp only [Act.put, la, lz, ls]
            refine wpAnyH_take (i := 3) (oi := _) (v := _) (ga rfl) (by kernel_rfl) (by kernel_rfl) (by kernel_rfl) (fun _ _ _ h => h) (yieldsIf_load_mid (by rfl) _ _ (by rfl) _ _ (by rfl) _ _ hrng hun rfl (by kernel_rfl)) (by assumption) ?_
            try simp only [Act.put, la, lz, ls]
            refine wpAnyH_ready (rs := [4]) (by kernel_rfl) (by simp) ?_
            refine AllReadyH.cons (o := _) (ga rfl) (fun K hK => ?_) AllReadyH.nil
            go_simp
            (first | (go_at_call 145; refine (own_any ⟨M.gEight, tg, fo⟩ ⟨a0, false, a2, a3, a4, gr, bl, b0, b1, b2, b3, b4, b5, b6, b7⟩ _ _ _ hg).mono ?_; rintro e w2 ⟨rfl, hb2⟩; have K2 := K1.call hb2) | (go_at_call 145; refine (own_any ⟨M.gEight, tg, fo⟩ ⟨a0, false, a2, a3, a4, gr, bl, b0, b1, b2, b3, b4, b5, b6, b7⟩ _ _ _ hg).mono ?_; rintro e w1 ⟨rfl, hb1⟩; have K1 := KR.drew.call hb1) | (go_at_call 146; refine (side_any _ _).mono ?_; rintro e w99 ⟨rfl, rfl⟩))
            refine hK.out _ _ ?q7xh4 (fun hHeld => ?_)
            case q7xh4 => (first | (first | exact K2.cell | exact K1.cell | exact KR.cell) | (dsimp only; first | exact K2.cell | exact K1.cell | exact KR.cell))
            clear hK K
            try simp only [Act.put, la, lz, ls]
            refine wpAnyH_take (i := 5) (oi := _) (v := ?q7xv5) (ga rfl) (by kernel_rfl) (by kernel_rfl) (by kernel_rfl) (fun _ _ _ h => h) (Or.inl ⟨by rfl, ?q7xy5⟩) (by assumption) ?_
            case q7xy5 => (intro w hSw; (try dsimp only at hSw); go_simp; try with_reducible rfl)
            try simp only [Act.put, la, lz, ls]
            refine wpAnyH_take (i := 6) (oi := _) (v := ?q7xv6) (ga rfl) (by kernel_rfl) (by kernel_rfl) (by kernel_rfl) (fun _ _ _ h => h) (Or.inl ⟨by rfl, ?q7xy6⟩) (by assumption) ?_
            case q7xy6 => (intro w hSw; (try dsimp only at hSw); go_simp; try with_reducible rfl)
            try simp only [Act.put, la, lz, ls]
            refine wpAnyH_take (i := 7) (oi := _) (v := ?q7xv7) (ga rfl) (by kernel_rfl) (by kernel_rfl) (by kernel_rfl) (fun _ _ _ h => h) (Or.inl ⟨by rfl, ?q7xy7⟩) (by assumption) ?_
            case q7xy7 => (intro w hSw; (try dsimp only at hSw); go_simp; try with_reducible rfl)
            try simp only [Act.put, la, lz, ls]
            refine wpAnyH_take (i := 9) (oi := _) (v := _) (ga rfl) (by kernel_rfl) (by kernel_rfl) (by kernel_rfl) (fun _ _ _ h => h) (yieldsIf_load_mid (by rfl) _ _ (by rfl) _ _ (by rfl) _ _ hrng hun rfl (by kernel_rfl)) (by assumption) ?_
            try simp only [Act.put, la, lz, ls]
            refine wpAnyH_ready (rs := [8]) (by kernel_rfl) (by simp) ?_
            refine AllReadyH.cons (o := _) (ga rfl) (fun K hK => ?_) AllReadyH.nil
            go_simp
            (first | (go_at_call 145; refine (own_any ⟨M.gEight, tg, fo⟩ ⟨a0, false, a2, a3, a4, gr, bl, b0, b1, b2, b3, b4, b5, b6, b7⟩ _ _ _ hg).mono ?_; rintro e w2 ⟨rfl, hb2⟩; have K2 := K1.call hb2) | (go_at_call 145; refine (own_any ⟨M.gEight, tg, fo⟩ ⟨a0, false, a2, a3, a4, gr, bl, b0, b1, b2, b3, b4, b5, b6, b7⟩ _ _ _ hg).mono ?_; rintro e w1 ⟨rfl, hb1⟩; have K1 := KR.drew.call hb1) | (go_at_call 146; refine (side_any _ _).mono ?_; rintro e w99 ⟨rfl, rfl⟩))
            refine hK.out _ _ ?q7xh8 (fun hHeld => ?_)
            case q7xh8 => (first | (first | exact K2.cell | exact K1.cell | exact KR.cell) | (dsimp only; first | exact K2.cell | exact K1.cell | exact KR.cell))
            clear hK K
            try simp only [Act.put, la, lz, ls]
            refine wpAnyH_ready (rs := [10]) (by kernel_rfl) (by simp) ?_
            refine AllReadyH.cons (o := _) (ga rfl) (fun K hK => ?_) AllReadyH.nil
            go_simp
            (first | (go_at_call 145; refine (own_any ⟨M.gEight, tg, fo⟩ ⟨a0, false, a2, a3, a4, gr, bl, b0, b1, b2, b3, b4, b5, b6, b7⟩ _ _ _ hg).mono ?_; rintro e w2 ⟨rfl, hb2⟩; have K2 := K1.call hb2) | (go_at_call 145; refine (own_any ⟨M.gEight, tg, fo⟩ ⟨a0, false, a2, a3, a4, gr, bl, b0, b1, b2, b3, b4, b5, b6, b7⟩ _ _ _ hg).mono ?_; rintro e w1 ⟨rfl, hb1⟩; have K1 := KR.drew.call hb1) | (go_at_call 146; refine (side_any _ _).mono ?_; rintro e w99 ⟨rfl, rfl⟩))
            refine hK.out _ _ ?q7xh10 (fun hHeld => ?_)
            case q7xh10 => (first | (first | exact K2.cell | exact K1.cell | exact KR.cell) | (dsimp only; first | exact K2.cell | exact K1.cell | exact KR.cell))
            clear hK K
            try simp only [Act.put, la, lz, ls]
            refine wpAnyH_take (i := 11) (oi := _) (v := ?q7xv11) (ga rfl) (by kernel_rfl) (by kernel_rfl) (by kernel_rfl) (fun _ _ _ h => h) (Or.inl ⟨by rfl, ?q7xy11⟩) (by assumption) ?_
            case q7xy11 => (intro w hSw; (try dsimp only at hSw); go_simp; try with_reducible rfl)
            try simp only [Act.put, la, lz, ls]
            refine wpAnyH_take (i := 12) (oi := _) (v := ?q7xv12) (ga rfl) (by kernel_rfl) (by kernel_rfl) (by kernel_rfl) (fun _ _ _ h => h) (Or.inl ⟨by rfl, ?q7xy12⟩) (by assumption) ?_
            case q7xy12 => (intro w hSw; (try dsimp only at hSw); go_simp; try with_reducible rfl)
            try simp only [Act.put, la, lz, ls]
            refine wpAnyH_take (i := 13) (oi := _) (v := ?q7xv13) (ga rfl) (by kernel_rfl) (by kernel_rfl) (by kernel_rfl) (fun _ _ _ h => h) (Or.inl ⟨by rfl, ?q7xy13⟩) (by assumption) ?_
            case q7xy13 => (intro w hSw; (try dsimp only at hSw); go_simp; try with_reducible rfl)
            try simp only [Act.put, la, lz, ls]
            refine wpAnyH_done (by kernel_rfl) ?_ _
            have hownZ := (own_call (own_keep hown hb1 hszr) hb2)
            have KZ := K2
            have hszZ := KZ.sz
            go_wp2_with (at_builtin; refine wpList_append_lies _ rfl _ _ _ rfl (w.heap.size + 1) 3 i0 (.int .i64 0) 1 8 Tryz.underlying30 hi hz0 hz1 hz2 rfl (by omega) _ _ _ rfl (hownZ.alloc _) ⟨w2.heap.size, 0, none⟩ 1 1 [.int .i64 bl[k]] rfl rfl (cells_new _ _ _ _ (by simp)) ?c1 (by omega) ?c2 ?c3 ?c4 (w2.heap.size + 1) (by simp) ?_)
            case c1 => simp [Value.oneCell']
            case c2 => simp only [maxLen]; omega
            case c3 => omega
            case c4 => first | omega | (simp; omega)
            intro g1 cap w9 hown1 hgrow _ _
            have hbd := below_own (B := w.heap.size + 1) (hownZ.alloc _) hgrow (by omega) (by simp; omega)
            have hb9 := ((Below.refl (w.heap.size + 1) w2).alloc (by omega) _).trans hbd
            have hown2 : w9.ownsRow (w.heap.size + 1) 3 1 (.slice (some ⟨g1, 0, none⟩) ((bl.take (k + 1)).filter (colour ⟨a0, false, a2, a3, a4, gr, bl, b0, b1, b2, b3, b4, b5, b6, b7⟩)).length cap) ((bl.take (k + 1)).filter (colour ⟨a0, false, a2, a3, a4, gr, bl, b0, b1, b2, b3, b4, b5, b6, b7⟩)).length (((bl.take (k + 1)).filter (colour ⟨a0, false, a2, a3, a4, gr, bl, b0, b1, b2, b3, b4, b5, b6, b7⟩)).map (Value.int .i64)) := by rw [HS.out]; simpa using hown1
            have hv : ((bl.take k).filter (colour ⟨a0, false, a2, a3, a4, gr, bl, b0, b1, b2, b3, b4, b5, b6, b7⟩)).length + 1 = ((bl.take (k + 1)).filter (colour ⟨a0, false, a2, a3, a4, gr, bl, b0, b1, b2, b3, b4, b5, b6, b7⟩)).length := by rw [HS.out]; simp
            have KY := (KZ.alloc _).upto hbd (by omega)
            rw [hv]
            clear hownZ hgrow hown1 hbd hb9 hv HS
            go_wp2
            go_roundw
            case rel => exact ⟨k + 1, by omega, by go_num, ⟨_, _, rfl⟩, hown2, KY⟩
            case measure => simp [intOf]; omega
          · have hsd' : (M.side bl[k] == M.own ⟨a0, false, a2, a3, a4, gr, bl, b0, b1, b2, b3, b4, b5, b6, b7⟩) = false := by simp [hsd]
            have HS := hide (filter_no (p := (colour ⟨a0, false, a2, a3, a4, gr, bl, b0, b1, b2, b3, b4, b5, b6, b7⟩)) hlt (by simp [colour, h8, hgr, hsd]))
            clear hgr h8 hsd
            go_wp2
            have hrng : ∀ W : World, (fun w' : World => ∀ p q, p < w.heap.size + 1 → w'.cell? ⟨p, q, none⟩ = (w.alloc (.cells #[.string M.gEight, .int .i64 tg, .int .i64 fo, .int .i64 a0, .bool false, .bool a2, .bool a3, .bool a4, .int .i64 gr, .slice (some ⟨b, o, none⟩) bl.length c, .int .i64 b0, .int .i64 b1, .int .i64 b2, .int .i64 b3, .int .i64 b4, .int .i64 b5, .bool b6, .int .i64 b7] 127)).cell? ⟨p, q, none⟩) W → W.rangeAt w.heap.size 0 [.string M.gEight, .int .i64 tg, .int .i64 fo, .int .i64 a0, .bool false, .bool a2, .bool a3, .bool a4, .int .i64 gr, .slice (some ⟨b, o, none⟩) bl.length c, .int .i64 b0, .int .i64 b1, .int .i64 b2, .int .i64 b3, .int .i64 b4, .int .i64 b5, .bool b6, .int .i64 b7] := rng_box w _ _
            have hun := Tryz.underlying127
            refine wp_region_held_drew (S := (fun w' => ∀ p q, p < w.heap.size + 1 → w'.cell? ⟨p, q, none⟩ = (w.alloc (.cells #[.string M.gEight, .int .i64 tg, .int .i64 fo, .int .i64 a0, .bool false, .bool a2, .bool a3, .bool a4, .int .i64 gr, .slice (some ⟨b, o, none⟩) bl.length c, .int .i64 b0, .int .i64 b1, .int .i64 b2, .int .i64 b3, .int .i64 b4, .int .i64 b5, .bool b6, .int .i64 b7] 127)).cell? ⟨p, q, none⟩)) (by kernel_rfl) ?q8xstart (fun hHeld => ?_)
            case q8xstart => first | exact K2.cell | exact K1.cell | exact KR.cell
            refine wpAnyH_take (i := 0) (oi := _) (v := ?q8xv0) (ga rfl) (by kernel_rfl) (by kernel_rfl) (by kernel_rfl) (fun _ _ _ h => h) (Or.inl ⟨by rfl, ?q8xy0⟩) (by assumption) ?_
            case q8xy0 => (intro w hSw; (try dsimp only at hSw); go_simp; try with_reducible rfl)
            try simp only [Act.put, la, lz, ls]
            refine wpAnyH_take (i := 1) (oi := _) (v := ?q8xv1) (ga rfl) (by kernel_rfl) (by kernel_rfl) (by kernel_rfl) (fun _ _ _ h => h) (Or.inl ⟨by rfl, ?q8xy1⟩) (by assumption) ?_
            case q8xy1 => (intro w hSw; (try dsimp only at hSw); go_simp; try with_reducible rfl)
            try simp only [Act.put, la, lz, ls]
            refine wpAnyH_take (i := 2) (oi := _) (v := ?q8xv2) (ga rfl) (by kernel_rfl) (by kernel_rfl) (by kernel_rfl) (fun _ _ _ h => h) (Or.inl ⟨by rfl, ?q8xy2⟩) (by assumption) ?_
            case q8xy2 => (intro w hSw; (try dsimp only at hSw); go_simp; try with_reducible rfl)
            try simp only [Act.put, la, lz, ls]
            refine wpAnyH_take (i := 3) (oi := _) (v := _) (ga rfl) (by kernel_rfl) (by kernel_rfl) (by kernel_rfl) (fun _ _ _ h => h) (yieldsIf_load_mid (by rfl) _ _ (by rfl) _ _ (by rfl) _ _ hrng hun rfl (by kernel_rfl)) (by assumption) ?_
            try simp only [Act.put, la, lz, ls]
            refine wpAnyH_ready (rs := [4]) (by kernel_rfl) (by simp) ?_
            refine AllReadyH.cons (o := _) (ga rfl) (fun K hK => ?_) AllReadyH.nil
            go_simp
            (first | (go_at_call 145; refine (own_any ⟨M.gEight, tg, fo⟩ ⟨a0, false, a2, a3, a4, gr, bl, b0, b1, b2, b3, b4, b5, b6, b7⟩ _ _ _ hg).mono ?_; rintro e w2 ⟨rfl, hb2⟩; have K2 := K1.call hb2) | (go_at_call 145; refine (own_any ⟨M.gEight, tg, fo⟩ ⟨a0, false, a2, a3, a4, gr, bl, b0, b1, b2, b3, b4, b5, b6, b7⟩ _ _ _ hg).mono ?_; rintro e w1 ⟨rfl, hb1⟩; have K1 := KR.drew.call hb1) | (go_at_call 146; refine (side_any _ _).mono ?_; rintro e w99 ⟨rfl, rfl⟩))
            refine hK.out _ _ ?q8xh4 (fun hHeld => ?_)
            case q8xh4 => (first | (first | exact K2.cell | exact K1.cell | exact KR.cell) | (dsimp only; first | exact K2.cell | exact K1.cell | exact KR.cell))
            clear hK K
            try simp only [Act.put, la, lz, ls]
            refine wpAnyH_take (i := 5) (oi := _) (v := ?q8xv5) (ga rfl) (by kernel_rfl) (by kernel_rfl) (by kernel_rfl) (fun _ _ _ h => h) (Or.inl ⟨by rfl, ?q8xy5⟩) (by assumption) ?_
            case q8xy5 => (intro w hSw; (try dsimp only at hSw); go_simp; try with_reducible rfl)
            try simp only [Act.put, la, lz, ls]
            refine wpAnyH_take (i := 6) (oi := _) (v := ?q8xv6) (ga rfl) (by kernel_rfl) (by kernel_rfl) (by kernel_rfl) (fun _ _ _ h => h) (Or.inl ⟨by rfl, ?q8xy6⟩) (by assumption) ?_
            case q8xy6 => (intro w hSw; (try dsimp only at hSw); go_simp; try with_reducible rfl)
            try simp only [Act.put, la, lz, ls]
            refine wpAnyH_take (i := 7) (oi := _) (v := ?q8xv7) (ga rfl) (by kernel_rfl) (by kernel_rfl) (by kernel_rfl) (fun _ _ _ h => h) (Or.inl ⟨by rfl, ?q8xy7⟩) (by assumption) ?_
            case q8xy7 => (intro w hSw; (try dsimp only at hSw); go_simp; try with_reducible rfl)
            try simp only [Act.put, la, lz, ls]
            refine wpAnyH_take (i := 9) (oi := _) (v := _) (ga rfl) (by kernel_rfl) (by kernel_rfl) (by kernel_rfl) (fun _ _ _ h => h) (yieldsIf_load_mid (by rfl) _ _ (by rfl) _ _ (by rfl) _ _ hrng hun rfl (by kernel_rfl)) (by assumption) ?_
            try simp only [Act.put, la, lz, ls]
            refine wpAnyH_ready (rs := [8]) (by kernel_rfl) (by simp) ?_
            refine AllReadyH.cons (o := _) (ga rfl) (fun K hK => ?_) AllReadyH.nil
            go_simp
            (first | (go_at_call 145; refine (own_any ⟨M.gEight, tg, fo⟩ ⟨a0, false, a2, a3, a4, gr, bl, b0, b1, b2, b3, b4, b5, b6, b7⟩ _ _ _ hg).mono ?_; rintro e w2 ⟨rfl, hb2⟩; have K2 := K1.call hb2) | (go_at_call 145; refine (own_any ⟨M.gEight, tg, fo⟩ ⟨a0, false, a2, a3, a4, gr, bl, b0, b1, b2, b3, b4, b5, b6, b7⟩ _ _ _ hg).mono ?_; rintro e w1 ⟨rfl, hb1⟩; have K1 := KR.drew.call hb1) | (go_at_call 146; refine (side_any _ _).mono ?_; rintro e w99 ⟨rfl, rfl⟩))
            refine hK.out _ _ ?q8xh8 (fun hHeld => ?_)
            case q8xh8 => (first | (first | exact K2.cell | exact K1.cell | exact KR.cell) | (dsimp only; first | exact K2.cell | exact K1.cell | exact KR.cell))
            clear hK K
            try simp only [Act.put, la, lz, ls]
            refine wpAnyH_ready (rs := [10]) (by kernel_rfl) (by simp) ?_
            refine AllReadyH.cons (o := _) (ga rfl) (fun K hK => ?_) AllReadyH.nil
            go_simp
            (first | (go_at_call 145; refine (own_any ⟨M.gEight, tg, fo⟩ ⟨a0, false, a2, a3, a4, gr, bl, b0, b1, b2, b3, b4, b5, b6, b7⟩ _ _ _ hg).mono ?_; rintro e w2 ⟨rfl, hb2⟩; have K2 := K1.call hb2) | (go_at_call 145; refine (own_any ⟨M.gEight, tg, fo⟩ ⟨a0, false, a2, a3, a4, gr, bl, b0, b1, b2, b3, b4, b5, b6, b7⟩ _ _ _ hg).mono ?_; rintro e w1 ⟨rfl, hb1⟩; have K1 := KR.drew.call hb1) | (go_at_call 146; refine (side_any _ _).mono ?_; rintro e w99 ⟨rfl, rfl⟩))
            refine hK.out _ _ ?q8xh10 (fun hHeld => ?_)
            case q8xh10 => (first | (first | exact K2.cell | exact K1.cell | exact KR.cell) | (dsimp only; first | exact K2.cell | exact K1.cell | exact KR.cell))
            clear hK K
            try simp only [Act.put, la, lz, ls]
            refine wpAnyH_take (i := 11) (oi := _) (v := ?q8xv11) (ga rfl) (by kernel_rfl) (by kernel_rfl) (by kernel_rfl) (fun _ _ _ h => h) (Or.inl ⟨by rfl, ?q8xy11⟩) (by assumption) ?_
            case q8xy11 => (intro w hSw; (try dsimp only at hSw); go_simp; try with_reducible rfl)
            try simp only [Act.put, la, lz, ls]
            refine wpAnyH_take (i := 12) (oi := _) (v := ?q8xv12) (ga rfl) (by kernel_rfl) (by kernel_rfl) (by kernel_rfl) (fun _ _ _ h => h) (Or.inl ⟨by rfl, ?q8xy12⟩) (by assumption) ?_
            case q8xy12 => (intro w hSw; (try dsimp only at hSw); go_simp; try with_reducible rfl)
            try simp only [Act.put, la, lz, ls]
            refine wpAnyH_take (i := 13) (oi := _) (v := ?q8xv13) (ga rfl) (by kernel_rfl) (by kernel_rfl) (by kernel_rfl) (fun _ _ _ h => h) (Or.inl ⟨by rfl, ?q8xy13⟩) (by assumption) ?_
            case q8xy13 => (intro w hSw; (try dsimp only at hSw); go_simp; try with_reducible rfl)
            try simp only [Act.put, la, lz, ls]
            refine wpAnyH_done (by kernel_rfl) ?_ _
            go_wp2
            go_roundw
            case rel => exact ⟨k + 1, by omega, by go_num, by rw [HS.out]; exact ⟨⟨_, _, rfl⟩, (own_call (own_keep hown hb1 hszr) hb2), K2⟩⟩
            case measure => simp [intOf]; omega
    · obtain rfl : k = bl.length := by omega
      rw [List.take_length] at hown ⊢
      have hfl := List.length_filter_le (colour ⟨a0, false, a2, a3, a4, gr, bl, b0, b1, b2, b3, b4, b5, b6, b7⟩) bl
      by_cases hz : bl.filter (colour ⟨a0, false, a2, a3, a4, gr, bl, b0, b1, b2, b3, b4, b5, b6, b7⟩) = []
      · have hz' : (((bl.filter (colour ⟨a0, false, a2, a3, a4, gr, bl, b0, b1, b2, b3, b4, b5, b6, b7⟩)).length : Int) == 0) = true := by rw [hz]; rfl
        by_cases h8 : (8 : Int) ∈ bl
        · have HR := hide (HT.out.trans (if_pos ⟨hz, h8⟩))
          have h8' : decide ((8 : Int) ∈ bl) = true := decide_eq_true h8
          have hl8 := (RdI.lit wr 3 [8] (by simp) (fun b => w.heap.size ≤ b) (by omega))
          clear HT hz h8
          go_wp2_with (go_at_call 95; refine (inInt_any S A c bl _ _ (hp.below KR.bw)).mono ?_; rintro e w99 ⟨rfl, rfl⟩)
          go_ret
          rw [HR.out]
          exact ⟨_, _, rfl, hl8, (KR.alloc _).bw⟩
        · have HR := hide (HT.out.trans (if_neg (fun h => h8 h.2)))
          have h8' : decide ((8 : Int) ∈ bl) = false := decide_eq_false h8
          clear HT hz h8
          go_wp2_with (go_at_call 95; refine (inInt_any S A c bl _ _ (hp.below KR.bw)).mono ?_; rintro e w99 ⟨rfl, rfl⟩)
          go_ret
          rw [HR.out]
          exact ⟨A1, c1', rfl, Reads.of_own hown (fun b h => by omega) (by omega), KR.bw⟩
      · have HR := hide (HT.out.trans (if_neg (fun h => hz h.1)))
        have hz' : (((bl.filter (colour ⟨a0, false, a2, a3, a4, gr, bl, b0, b1, b2, b3, b4, b5, b6, b7⟩)).length : Int) == 0) = false := by simpa using hz
        clear HT hz
        go_wp2
        go_ret
        rw [HR.out]
        exact ⟨A1, c1', rfl, Reads.of_own hown (fun b h => by omega) (by omega), KR.bw⟩
theorem targets_any (S : Nat → Prop) (r : M.Rules) (s : M.State) (A : Option Addr) (c : Nat) (w : World) (hp : RdI w S A c s.balls) (hr : M.ckRules r = 0) (hg : 0 ≤ s.group ∧ s.group ≤ 2) :
    Calls Tryz.prog 103 #[frameV r s A c] w fun e w' => ∃ A' c', e = .returned (.slice A' (M.targets r s).length c') ∧ RdI w' (fun b => w.heap.size ≤ b) A' c' (M.targets r s) ∧ Below w.heap.size w w' := by
  rcases game_of hr with h | h | h
  · exact targets_easy S r s A c w hp (.inl h)
  · rcases Bool.eq_false_or_eq_true s.brk with hb | hb
    · exact targets_easy S r s A c w hp (.inr (.inr ⟨h, hb⟩))
    · obtain ⟨g, tg, fo⟩ := r
      simp only at h
      subst h
      exact targets_colours S tg fo s A c w hp hb hg
  · exact targets_easy S r s A c w hp (.inr (.inl h))
theorem ckState0 {r : M.Rules} {s : M.State} (h : M.ckState r s = 0) : M.ckStateHead r s = 0 := by
  unfold M.ckState at h
  by_cases h1 : M.ckStateHead r s = 0
  · exact h1
  · rw [if_pos h1] at h; exact h
theorem out_of {n a b : Int} (h : M.out n a b = false) : a ≤ n ∧ n ≤ b := by
  unfold M.out at h
  rw [decide_eq_false_iff_not] at h
  omega
set_option maxRecDepth 100000 in
set_option maxHeartbeats 1600000 in
theorem pTargets_any (S : Nat → Prop) (r : M.Rules) (s : M.State) (A : Option Addr) (c : Nat) (w : World) (hp : RdI w S A c s.balls) :
    Calls Tryz.prog 48 #[rulesV r, stateV s A c] w fun e w' => ∃ A' c', e = .returned (.tuple #[.slice A' (if M.ckState r s = 0 then M.targets r s else []).length c', .int .i64 (M.ckState r s)]) ∧ RdI w' (fun b => w.heap.size ≤ b) A' c' (if M.ckState r s = 0 then M.targets r s else []) ∧ Below w.heap.size w w' := by
  obtain ⟨c1, c2, c3⟩ := hp.bd
  by_cases hz : M.ckState r s = 0
  · have hh := headOk2 (ckState0 hz)
    have hr := hh.rules
    have hg := out_of hh.group
    rw [if_pos hz, hz]
    have HZ := hide hz
    clear hz hh
    have hT := fun W h => targets_any S r s A c W h hr hg
    obtain ⟨g, tg, fo⟩ := r
    obtain ⟨a0, a1, a2, a3, a4, gr, bl, b0, b1, b2, b3, b4, b5, b6, b7⟩ := s
    simp only at hp c1 c3
    have HT := hide hT
    clear hT hr hg
    have K0 : Keeps w ((w.alloc (.cells #[.string g, .int .i64 tg, .int .i64 fo] 23)).alloc (.cells #[.int .i64 a0, .bool a1, .bool a2, .bool a3, .bool a4, .int .i64 gr, .slice A bl.length c, .int .i64 b0, .int .i64 b1, .int .i64 b2, .int .i64 b3, .int .i64 b4, .int .i64 b5, .bool b6, .int .i64 b7] 33)) 2 ((w.alloc (.cells #[.string g, .int .i64 tg, .int .i64 fo] 23)).alloc (.cells #[.int .i64 a0, .bool a1, .bool a2, .bool a3, .bool a4, .int .i64 gr, .slice A bl.length c, .int .i64 b0, .int .i64 b1, .int .i64 b2, .int .i64 b3, .int .i64 b4, .int .i64 b5, .bool b6, .int .i64 b7] 33)) := Keeps.of2 w _ _
    go_enter Tryz.func48, Tryz.ntmps48
    go_wp2_with (first | (go_at_call 42; refine (ckState_any S ⟨g, tg, fo⟩ ⟨a0, a1, a2, a3, a4, gr, bl, b0, b1, b2, b3, b4, b5, b6, b7⟩ A c _ (hp.below K0.bw)).mono ?_; rintro e w1 ⟨rfl, hb1⟩; rw [HZ.out]; have K1 := K0.call hb1; have hc1 := K1.cell) | (go_at_call 103; refine (HT.out _ (hp.below K1.bw)).mono ?_; rintro e w2 ⟨A2, c2', rfl, hr2, hb2⟩; have K2 := K1.call hb2))
    go_ret2
    exact ⟨_, _, rfl, hr2.more (fun b _ h => Nat.le_trans (Nat.le_trans (by omega) K1.sz) h), K2.bw⟩
  · rw [if_neg hz]
    have hz' : (M.ckState r s != 0) = true := by simp [hz]
    clear hz
    obtain ⟨g, tg, fo⟩ := r
    obtain ⟨a0, a1, a2, a3, a4, gr, bl, b0, b1, b2, b3, b4, b5, b6, b7⟩ := s
    simp only at hp c1 c3
    have K0 : Keeps w ((w.alloc (.cells #[.string g, .int .i64 tg, .int .i64 fo] 23)).alloc (.cells #[.int .i64 a0, .bool a1, .bool a2, .bool a3, .bool a4, .int .i64 gr, .slice A bl.length c, .int .i64 b0, .int .i64 b1, .int .i64 b2, .int .i64 b3, .int .i64 b4, .int .i64 b5, .bool b6, .int .i64 b7] 33)) 2 ((w.alloc (.cells #[.string g, .int .i64 tg, .int .i64 fo] 23)).alloc (.cells #[.int .i64 a0, .bool a1, .bool a2, .bool a3, .bool a4, .int .i64 gr, .slice A bl.length c, .int .i64 b0, .int .i64 b1, .int .i64 b2, .int .i64 b3, .int .i64 b4, .int .i64 b5, .bool b6, .int .i64 b7] 33)) := Keeps.of2 w _ _
    go_enter Tryz.func48, Tryz.ntmps48
    go_wp2_with (go_at_call 42; refine (ckState_any S ⟨g, tg, fo⟩ ⟨a0, a1, a2, a3, a4, gr, bl, b0, b1, b2, b3, b4, b5, b6, b7⟩ A c _ (hp.below K0.bw)).mono ?_; rintro e w1 ⟨rfl, hb1⟩; have K1 := K0.call hb1)
    go_ret2
    exact ⟨none, 0, rfl, Reads.none_ _ _ _, K1.bw⟩
end Go.Proofs.YtelpepbpdojikaaGreatDoor
namespace Go.Proofs.YtelpepbpdojikaaGreatDoor
theorem ckPots_ok : ∀ (l seen : List M.Pot), M.ckPots seen l = 0 → ∀ p ∈ l, (0 ≤ p.ball ∧ p.ball ≤ 15) ∧ (1 ≤ p.pocket ∧ p.pocket ≤ 6)
  | [], _, _, p, hp => by cases hp
  | q :: l, seen, h, p, hp => by
    rw [M.ckPots] at h
    split at h
    · cases h
    · next h1 =>
      split at h
      · cases h
      · rw [not_or] at h1
        rcases List.mem_cons.1 hp with rfl | hp
        · exact ⟨out_of (by simpa using h1.1), out_of (by simpa using h1.2)⟩
        · exact ckPots_ok l _ h p hp
theorem ckShot0 {x : M.Shot} (h : M.ckShot x = 0) : HeadOk x ∧ (∀ p ∈ x.pots, (0 ≤ p.ball ∧ p.ball ≤ 15) ∧ (1 ≤ p.pocket ∧ p.pocket ≤ 6)) ∧ M.ckTail x = 0 := by
  unfold M.ckShot at h
  by_cases h1 : M.ckHead x = 0
  · rw [if_neg (by simp [h1])] at h
    by_cases h2 : M.ckPots [] x.pots = 0
    · rw [if_neg (by simp [h2])] at h
      exact ⟨headOk h1, ckPots_ok _ _ h2, h⟩
    · rw [if_pos h2] at h; exact absurd h h2
  · rw [if_pos h1] at h; exact absurd h h1
end Go.Proofs.YtelpepbpdojikaaGreatDoor
namespace Go.Proofs.YtelpepbpdojikaaGreatDoor
open Go.RowKit
theorem kinds_1_any (r : M.Rules) (s : M.State) (A : Option Addr) (c : Nat) (w : World) : Calls Tryz.prog 126 #[frameV r s A c] w fun e w' => e = .returned (.bool (true)) ∧ Below w.heap.size w w' := by
  go_enter Tryz.func126, Tryz.ntmps126
  go_wp2
  go_ret
  exact ⟨rfl, (Below.refl _ _).alloc (Nat.le_refl _) _⟩
theorem kinds_2_any (r : M.Rules) (s : M.State) (A : Option Addr) (c : Nat) (w : World) : Calls Tryz.prog 127 #[frameV r s A c] w fun e w' => e = .returned (.bool (s.push)) ∧ Below w.heap.size w w' := by
  go_enter Tryz.func127, Tryz.ntmps127
  go_wp2
  go_ret
  exact ⟨rfl, (Below.refl _ _).alloc (Nat.le_refl _) _⟩
theorem kinds_3_any (r : M.Rules) (s : M.State) (A : Option Addr) (c : Nat) (w : World) : Calls Tryz.prog 128 #[frameV r s A c] w fun e w' => e = .returned (.bool (s.pushed)) ∧ Below w.heap.size w w' := by
  go_enter Tryz.func128, Tryz.ntmps128
  go_wp2
  go_ret
  exact ⟨rfl, (Below.refl _ _).alloc (Nat.le_refl _) _⟩
theorem kFn_enters (k : ByteArray) : ∀ args w, (callFunc (kFn k) args).run Tryz.prog w = .ok (.enter (kFn k) args) w := by
  unfold kFn
  split
  · exact enters_of Tryz.func127 (by kernel_rfl) rfl
  split
  · exact enters_of Tryz.func128 (by kernel_rfl) rfl
  · exact enters_of Tryz.func126 (by kernel_rfl) rfl
theorem kFn_any (k : ByteArray) (r : M.Rules) (s : M.State) (A : Option Addr) (c : Nat) (w : World) : Calls Tryz.prog (kFn k) #[frameV r s A c] w fun e w' => e = .returned (.bool (M.permitted s k)) ∧ Below w.heap.size w w' := by
  unfold kFn M.permitted
  split
  · exact kinds_2_any r s A c w
  split
  · exact kinds_3_any r s A c w
  · exact kinds_1_any r s A c w
section
variable {w : World} {Bf Bx Bc Bo Bk Bl : Nat} {r : M.Rules} {s : M.State} {x : M.Shot} {A P : Option Addr} {c d : Nat} {S : Nat → Prop}
set_option maxRecDepth 100000 in
set_option maxHeartbeats 800000 in
theorem ask_permitted (k : ByteArray) (b1 b2 : Bool) (hk : Box w Bk [.bool b1, .bool b2, .func (.func (kFn k)) #[] #[]]) (hf : Box w Bf (frameCells r s A c)) : Asks 135 #[ptr Bk, ptr Bf] (M.permitted s k) w := by
  refine ⟨enters_of Tryz.func135 (by kernel_rfl) rfl, fun W hb => ?_⟩
  have kk := hk.below hb
  have kk2 := kk.2 2 _ rfl
  have kf := hf.below hb
  have hrg : W.rangeAt Bf 0 [.string r.game, .int .i64 r.target, .int .i64 r.fouls, .int .i64 s.turn, .bool s.brk, .bool s.hand, .bool s.push, .bool s.pushed, .int .i64 s.group, .slice A s.balls.length c, .int .i64 s.s0, .int .i64 s.s1, .int .i64 s.f0, .int .i64 s.f1, .int .i64 s.run, .int .i64 s.racks, .bool s.over, .int .i64 s.winner] := fun j v hj => by rw [Nat.zero_add]; exact kf.2 j v hj
  have hun := Tryz.underlying127
  have HR := hide hrg
  clear hrg kf
  have eg := kFn_enters k
  have hcall := fun W' => kFn_any k r s A c W'
  obtain ⟨n, hn⟩ : ∃ n, kFn k = n := ⟨_, rfl⟩
  rw [hn] at kk2 eg
  simp only [hn] at hcall
  have HC := hide hcall
  clear hn hcall
  go_enter Tryz.func135, Tryz.ntmps135
  go_wp2_with (first | (go_at_fn n; refine (HC.out W).mono ?_; rintro e w2 ⟨rfl, hb2⟩) | (refine wpList_load_mid rfl 127 (.tmp 1) rfl Bf 0 rfl _ _ HR.out hun rfl (by kernel_rfl) ?_))
  go_ret
  exact ⟨rfl, hb.trans (hb2.mono hb.size)⟩
set_option maxRecDepth 100000 in
set_option maxHeartbeats 800000 in
theorem off_tells (ho : Box w Bo [.func (.func 131) #[] #[ptr Bf]]) (hf : Box w Bf (frameCells r s A c)) (hp : RdI w S A c s.balls) : Tells 140 #[ptr Bo] intV (fun b => decide (b ∉ s.balls)) w := by
  refine ⟨enters_of Tryz.func140 (by kernel_rfl) rfl, fun W b hb => ?_⟩
  have ko := ho.below hb
  have ko0 := ko.2 0 _ rfl
  go_enter Tryz.func140, Tryz.ntmps140
  go_wp2_with (go_at_call 131; refine (on_any hf hp _ _ hb).mono ?_; rintro e w99 ⟨rfl, rfl⟩)
  go_ret
  exact ⟨ret_bool (by simp), hb⟩
set_option maxRecDepth 100000 in
set_option maxHeartbeats 800000 in
theorem ask_objects (hx : Box w Bx (shCells ⟨x, P, d⟩)) (ho : Box w Bo [.func (.func 131) #[] #[ptr Bf]]) (hf : Box w Bf (frameCells r s A c)) (hp : RdI w S A c s.balls) (hpp : RdP w S P d x.pots) (hpos : ∀ p ∈ x.pots, 0 ≤ p.ball) :
    Asks 138 #[ptr Bx, ptr Bo] (M.q7 s x) w := by
  refine ⟨enters_of Tryz.func138 (by kernel_rfl) rfl, fun W hb => ?_⟩
  have kx := hx.below hb
  have kx0 := kx.2 0 _ rfl
  have kx1 := kx.2 1 _ rfl
  have kx2 := kx.2 2 _ rfl
  have kx3 := kx.2 3 _ rfl
  have kx4 := kx.2 4 _ rfl
  have kx5 := kx.2 5 _ rfl
  have kx6 := kx.2 6 _ rfl
  have hobj := objects_any S x P d W (hpp.below hb) hpos
  have hq : M.q7 s x = (!((M.objects x).any fun b => decide (b ∉ s.balls)) && (decide (0 < x.first) || decide (M.objects x = []))) := by
    unfold M.q7; rw [Bool.eq_iff_iff]; simp only [Bool.and_eq_true, Bool.not_eq_true', Bool.or_eq_true, decide_eq_true_eq]
  rw [hq]
  obtain ⟨zs, hzs⟩ : ∃ z, M.objects x = z := ⟨_, rfl⟩
  simp only [hzs] at hobj ⊢
  clear hq hzs
  obtain ⟨b1, h1⟩ : ∃ b, (zs.any fun b => decide (b ∉ s.balls)) = b := ⟨_, rfl⟩
  rw [h1]
  have H1 := hide h1
  clear h1
  have HO := hide hobj
  clear hobj
  have hz0 : decide (zs = []) = ((zs.length : Int) == 0) := by cases zs with | nil => rfl | cons a l => simp; omega
  rw [hz0]
  clear hz0
  obtain ⟨b3, h3⟩ : ∃ b, ((zs.length : Int) == 0) = b := ⟨_, rfl⟩
  rw [h3]
  obtain ⟨b2, h2⟩ : ∃ b, decide (0 < x.first) = b := ⟨_, rfl⟩
  rw [h2]
  have CF : ∀ A1 c1 W1, RdI W1 (fun b => W.heap.size ≤ b) A1 c1 zs → Below w.heap.size w W1 → Calls Tryz.prog 139 #[.slice A1 zs.length c1, .func (.func 140) #[] #[ptr Bo]] W1 fun e w' => e = .returned (.bool b1) ∧ Below W1.heap.size W1 w' := fun A1 c1 W1 h hb1 => by
    have := cfInt_any _ A1 c1 zs _ _ _ W1 h (off_tells (ho.below hb1) (hf.below hb1) (hp.below hb1))
    rwa [H1.out] at this
  have HCF := hide CF
  clear CF
  cases b1 with
  | true =>
    go_enter Tryz.func138, Tryz.ntmps138
    go_wp2_with (first | (go_at_call 70; refine HO.out.mono ?_; rintro e w1 ⟨A1, c1, rfl, hr1, hb1⟩; have hb1' := hb.trans (hb1.mono hb.size); have kx4' := (hb1'.cell (p := ⟨Bx, 4, none⟩) hx.1).trans (hx.2 4 _ rfl)) | (go_at_call 139; refine (HCF.out _ _ _ hr1 hb1').mono ?_; rintro e w2 ⟨rfl, hb2⟩; have hb2' := hb1'.trans (hb2.mono hb1'.size); have kx4'' := (hb2'.cell (p := ⟨Bx, 4, none⟩) hx.1).trans (hx.2 4 _ rfl)))
    go_ret
    exact ⟨ret_bool (by simp), hb2'⟩
  | false =>
    cases b2 with
    | true =>
      go_enter Tryz.func138, Tryz.ntmps138
      go_wp2_with (first | (go_at_call 70; refine HO.out.mono ?_; rintro e w1 ⟨A1, c1, rfl, hr1, hb1⟩; have hb1' := hb.trans (hb1.mono hb.size); have kx4' := (hb1'.cell (p := ⟨Bx, 4, none⟩) hx.1).trans (hx.2 4 _ rfl)) | (go_at_call 139; refine (HCF.out _ _ _ hr1 hb1').mono ?_; rintro e w2 ⟨rfl, hb2⟩; have hb2' := hb1'.trans (hb2.mono hb1'.size); have kx4'' := (hb2'.cell (p := ⟨Bx, 4, none⟩) hx.1).trans (hx.2 4 _ rfl)))
      go_ret
      exact ⟨ret_bool (by simp), hb2'⟩
    | false =>
      cases b3
      all_goals
        go_enter Tryz.func138, Tryz.ntmps138
        go_wp2_with (first | (go_at_call 70; refine HO.out.mono ?_; rintro e w1 ⟨A1, c1, rfl, hr1, hb1⟩; have hb1' := hb.trans (hb1.mono hb.size); have kx4' := (hb1'.cell (p := ⟨Bx, 4, none⟩) hx.1).trans (hx.2 4 _ rfl)) | (go_at_call 139; refine (HCF.out _ _ _ hr1 hb1').mono ?_; rintro e w2 ⟨rfl, hb2⟩; have hb2' := hb1'.trans (hb2.mono hb1'.size); have kx4'' := (hb2'.cell (p := ⟨Bx, 4, none⟩) hx.1).trans (hx.2 4 _ rfl)))
        go_ret
        exact ⟨ret_bool (by simp), hb2'⟩
end
end Go.Proofs.YtelpepbpdojikaaGreatDoor
