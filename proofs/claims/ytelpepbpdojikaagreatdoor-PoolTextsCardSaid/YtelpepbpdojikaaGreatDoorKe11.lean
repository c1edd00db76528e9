/- Parts of the proofs about chapter 5 (pool), joined by program. -/
import Derived.Shelf.Abstract
import Derived.Test.YtelpepbpdojikaaGreatDoorKe7
import Derived.Test.YtelpepbpdojikaaGreatDoorKe9
import Derived.Test.YtelpepbpdojikaaGreatDoorKe10
import Derived.Test.YtelpepbpdojikaaGreatDoorKe12
set_option linter.unusedVariables false
set_option linter.unusedSimpArgs false
namespace Go.Proofs.YtelpepbpdojikaaGreatDoor
open Go.RowKit
set_option maxRecDepth 100000 in
set_option maxHeartbeats 800000 in
theorem ckLog_any (S : Nat → Prop) (l : List Sh) (A : Option Addr) (c : Nat) (w : World) (hp : RdS w S A c l) :
    Calls Tryz.prog 40 #[.slice A l.length c] w fun e w' => e = .returned (.int .i64 (M.ckLog (plain l))) ∧ Below w.heap.size w w' := by
  obtain ⟨b1, b2, b3⟩ := hp.bd
  by_cases hm : 1000 < l.length
  · have hck : M.ckLog (plain l) = 5 := by unfold M.ckLog; rw [if_pos (by rw [plain_length]; exact hm)]
    rw [hck]
    go_enter Tryz.func40, Tryz.ntmps40
    go_wp2
    go_ret
    exact ⟨rfl, Below.refl _ _⟩
  · have hck : M.ckLog (plain l) = M.ckShots (plain l) := by unfold M.ckLog; rw [if_neg (by rw [plain_length]; exact hm)]
    rw [hck]
    clear hck
    go_enter Tryz.func40, Tryz.ntmps40
    go_wp2
    go_loopw [11] (fun i wr => ∃ k : Nat, k ≤ l.length ∧ i = .int .i64 k ∧ M.ckShots (plain l) = M.ckShots ((plain l).drop k) ∧ Below w.heap.size w wr) (fun i _ => l.length - (intOf i).toNat)
    case atStart => exact ⟨0, Nat.zero_le _, rfl, by simp, Below.refl _ _⟩
    case round =>
      obtain ⟨k, hk, rfl, hx1, hb⟩ := hrel
      by_cases hlt : k < l.length
      · obtain ⟨b, o, rfl, _, hbl, hc⟩ := hp.at_ k hlt
        obtain ⟨e0, e1, e2, e3, e4, e5, e6⟩ := hc k hlt
        clear hc
        obtain ⟨hcb, hfb⟩ := bcell hb
        have hst := ckShots_step hlt
        have HP := hide ((hp.pots k hlt).below hb)
        have HX := hide (hx1.trans hst)
        clear hx1 hst
        have hcall := fun W : World => ckShot_any S l[k].x l[k].a l[k].c W
        have HC := hide hcall
        clear hcall
        by_cases hz : M.ckShot l[k].x = 0
        · have hz' : (M.ckShot l[k].x != 0) = false := by simp [hz]
          rw [if_neg (by simp [hz])] at HX
          have HZ := hide hz
          clear hz
          go_wp2_with (go_at_call 35; refine (HC.out _ (HP.out.alloc _)).mono ?_; rintro e w1 ⟨rfl, hb1⟩)
          go_roundw
          case rel => exact ⟨k + 1, by omega, by go_num, HX.out, (hb.alloc hb.size _).trans (hb1.mono (hb.alloc hb.size _).size)⟩
          case measure => simp [intOf]; omega
        · have hz' : (M.ckShot l[k].x != 0) = true := by simp [hz]
          rw [if_pos hz] at HX
          go_wp2_with (go_at_call 35; refine (HC.out _ (HP.out.alloc _)).mono ?_; rintro e w1 ⟨rfl, hb1⟩)
          go_ret
          exact ⟨ret_int HX.out.symm, (hb.alloc hb.size _).trans (hb1.mono (hb.alloc hb.size _).size)⟩
      · have hkk : k = l.length := by omega
        have hz : M.ckShots (plain l) = 0 := by rw [hx1, hkk, ← plain_length l, List.drop_length, M.ckShots]
        clear hx1 hkk
        go_wp2
        go_ret
        exact ⟨ret_int hz.symm, hb⟩
set_option maxRecDepth 100000 in
set_option maxHeartbeats 800000 in
theorem check_any (S : Nat → Prop) (r : M.Rules) (l : List Sh) (A : Option Addr) (c : Nat) (w : World) (hp : RdS w S A c l) :
    Calls Tryz.prog 63 #[rulesV r, .slice A l.length c] w fun e w' => e = .returned (.int .i64 (firstOf [M.ckRules r, M.ckLog (plain l)])) ∧ Below w.heap.size w w' := by
  obtain ⟨b1, b2, b3⟩ := hp.bd
  obtain ⟨g, tg, fo⟩ := r
  have K0 := Keeps.of1 w (.cells #[.string g, .int .i64 tg, .int .i64 fo] 23)
  go_enter Tryz.func63, Tryz.ntmps63
  go_wp2_with (first | (go_at_call 39; refine (ckRules_any ⟨g, tg, fo⟩ _).mono ?_; rintro e w1 ⟨rfl, hb1⟩; have K1 := K0.call hb1) | (go_at_call 40; refine (ckLog_any S l A c _ (hp.below K1.bw)).mono ?_; rintro e w2 ⟨rfl, hb2⟩; have K2 := K1.call hb2) | (go_at_call 85; refine (first_any (fun _ => True) _ _ [M.ckRules ⟨g, tg, fo⟩, M.ckLog (plain l)] _ (RdI.lit _ _ [M.ckRules ⟨g, tg, fo⟩, M.ckLog (plain l)] (by simp) _ trivial)).mono ?_; rintro e w99 ⟨rfl, rfl⟩))
  go_ret
  exact ⟨rfl, (K2.alloc _).bw⟩
set_option maxRecDepth 100000 in
set_option maxHeartbeats 800000 in
theorem rack_any (r : M.Rules) (w : World) : Calls Tryz.prog 92 #[rulesV r] w fun e w' =>
    ∃ A c, e = .returned (.slice A (M.rack r).length c) ∧ RdI w' (fun b => w.heap.size ≤ b) A c (M.rack r) ∧ Below w.heap.size w w' := by
  obtain ⟨i0, hi, hz0, hz1, hz2⟩ := info_parts int_info
  obtain ⟨g, tg, fo⟩ := r
  by_cases hg : g = M.gNine
  · subst hg
    go_enter Tryz.func92, Tryz.ntmps92
    go_wp2
    go_loopw [4, 10] (fun v i wr => ∃ k : Nat, k ≤ 9 ∧ i = .int .i64 k ∧ (∃ A c, v = .slice A k c) ∧ wr.ownsRow (w.heap.size + 1) 3 1 v k ((M.rackTo k).map (Value.int .i64)) ∧ Below (w.heap.size + 1) (w.alloc (.cells #[.string M.gNine, .int .i64 tg, .int .i64 fo] 23)) wr)
      (fun _ i _ => 9 - (intOf i).toNat)
    case atStart => exact ⟨0, by omega, rfl, ⟨_, _, rfl⟩, World.ownsRow_nil _ _ _ _, Below.refl _ _⟩
    case round =>
      obtain ⟨k, hk, rfl, ⟨A, c, rfl⟩, hown, hb⟩ := hrel
      have hszb := hb.size
      rw [World.size_alloc] at hszb
      by_cases hlt : k < 9
      · go_wp2_with (at_builtin; refine wpList_append_lies _ rfl _ _ _ rfl (w.heap.size + 1) 3 i0 (.int .i64 0) 1 8 Tryz.underlying30 hi hz0 hz1 hz2 rfl (by omega) _ _ _ rfl (hown.alloc _) ⟨wr.heap.size, 0, none⟩ 1 1 [.int .i64 ((k : Int) + 1)] rfl rfl (cells_new _ _ _ _ (by simp)) ?c1 (by omega) ?c2 ?c3 ?c4 (wr.heap.size + 1) (by simp) ?_)
        case c1 => simp [Value.oneCell']
        case c2 => simp only [maxLen]; omega
        case c3 => omega
        case c4 => first | omega | (simp; omega)
        intro g1 cap w1 hown1 hgrow _ _
        have hbd := below_own (B := w.heap.size + 1) (hown.alloc _) hgrow (by omega) (by simp; omega)
        have hb1 := (hb.alloc (by omega) _).trans hbd
        have hown2 : w1.ownsRow (w.heap.size + 1) 3 1 (.slice (some ⟨g1, 0, none⟩) (k + 1) cap) (k + 1) ((M.rackTo (k + 1)).map (Value.int .i64)) := by rw [rackTo_succ]; simpa using hown1
        clear hown hgrow hown1 hbd hb
        go_wp2
        go_roundw
        case rel => exact ⟨k + 1, by omega, by go_num, ⟨_, _, rfl⟩, hown2, hb1⟩
        case measure => simp [intOf]; omega
      · obtain rfl : k = 9 := by omega
        go_wp2
        go_ret
        have hr : M.rack ⟨M.gNine, tg, fo⟩ = M.rackTo 9 := by simp [M.rack, M.rackN]
        rw [hr, rackTo_length]
        refine ⟨A, c, rfl, ?_, ((Below.refl _ _).alloc (Nat.le_refl _) _).trans (hb.mono (by omega))⟩
        unfold RdI
        rw [rackTo_length]
        exact Reads.of_own hown (fun b h => by omega) (by omega)
  · have hg' : (g.toList == [110, 105, 110, 101]) = false := beq_eq_false_iff_ne.2 (bytes_toList_ne hg)
    go_enter Tryz.func92, Tryz.ntmps92
    go_wp2
    go_loopw [4, 10] (fun v i wr => ∃ k : Nat, k ≤ 15 ∧ i = .int .i64 k ∧ (∃ A c, v = .slice A k c) ∧ wr.ownsRow (w.heap.size + 1) 3 1 v k ((M.rackTo k).map (Value.int .i64)) ∧ Below (w.heap.size + 1) (w.alloc (.cells #[.string g, .int .i64 tg, .int .i64 fo] 23)) wr)
      (fun _ i _ => 15 - (intOf i).toNat)
    case atStart => exact ⟨0, by omega, rfl, ⟨_, _, rfl⟩, World.ownsRow_nil _ _ _ _, Below.refl _ _⟩
    case round =>
      obtain ⟨k, hk, rfl, ⟨A, c, rfl⟩, hown, hb⟩ := hrel
      have hszb := hb.size
      rw [World.size_alloc] at hszb
      by_cases hlt : k < 15
      · go_wp2_with (at_builtin; refine wpList_append_lies _ rfl _ _ _ rfl (w.heap.size + 1) 3 i0 (.int .i64 0) 1 8 Tryz.underlying30 hi hz0 hz1 hz2 rfl (by omega) _ _ _ rfl (hown.alloc _) ⟨wr.heap.size, 0, none⟩ 1 1 [.int .i64 ((k : Int) + 1)] rfl rfl (cells_new _ _ _ _ (by simp)) ?c1 (by omega) ?c2 ?c3 ?c4 (wr.heap.size + 1) (by simp) ?_)
        case c1 => simp [Value.oneCell']
        case c2 => simp only [maxLen]; omega
        case c3 => omega
        case c4 => first | omega | (simp; omega)
        intro g1 cap w1 hown1 hgrow _ _
        have hbd := below_own (B := w.heap.size + 1) (hown.alloc _) hgrow (by omega) (by simp; omega)
        have hb1 := (hb.alloc (by omega) _).trans hbd
        have hown2 : w1.ownsRow (w.heap.size + 1) 3 1 (.slice (some ⟨g1, 0, none⟩) (k + 1) cap) (k + 1) ((M.rackTo (k + 1)).map (Value.int .i64)) := by rw [rackTo_succ]; simpa using hown1
        clear hown hgrow hown1 hbd hb
        go_wp2
        go_roundw
        case rel => exact ⟨k + 1, by omega, by go_num, ⟨_, _, rfl⟩, hown2, hb1⟩
        case measure => simp [intOf]; omega
      · obtain rfl : k = 15 := by omega
        go_wp2
        go_ret
        have hr : M.rack ⟨g, tg, fo⟩ = M.rackTo 15 := by simp [M.rack, M.rackN, hg]
        rw [hr, rackTo_length]
        refine ⟨A, c, rfl, ?_, ((Below.refl _ _).alloc (Nat.le_refl _) _).trans (hb.mono (by omega))⟩
        unfold RdI
        rw [rackTo_length]
        exact Reads.of_own hown (fun b h => by omega) (by omega)
def need (g : ByteArray) : Int := if g = M.gEight then 8 else if g = M.gNine then 9 else 0
set_option maxRecDepth 100000 in
set_option maxHeartbeats 800000 in
theorem needed_any (r : M.Rules) (w : World) : Calls Tryz.prog 94 #[rulesV r] w fun e w' => e = .returned (.int .i64 (need r.game)) ∧ Below w.heap.size w w' := by
  obtain ⟨g, tg, fo⟩ := r
  by_cases h1 : g = M.gEight
  · subst h1
    go_enter Tryz.func94, Tryz.ntmps94
    go_wp2
    go_ret
    exact ⟨rfl, (Below.refl _ _).alloc (Nat.le_refl _) _⟩
  · have h1' : (g.toList == [101, 105, 103, 104, 116]) = false := beq_eq_false_iff_ne.2 (bytes_toList_ne h1)
    by_cases h2 : g = M.gNine
    · subst h2
      go_enter Tryz.func94, Tryz.ntmps94
      go_wp2
      go_ret
      exact ⟨rfl, (Below.refl _ _).alloc (Nat.le_refl _) _⟩
    · have h2' : (g.toList == [110, 105, 110, 101]) = false := beq_eq_false_iff_ne.2 (bytes_toList_ne h2)
      have hn : need g = 0 := by simp [need, h1, h2]
      simp only [hn]
      clear h1 h2 hn
      go_enter Tryz.func94, Tryz.ntmps94
      go_wp2
      go_ret
      exact ⟨rfl, (Below.refl _ _).alloc (Nat.le_refl _) _⟩
end Go.Proofs.YtelpepbpdojikaaGreatDoor
namespace Go.Proofs.YtelpepbpdojikaaGreatDoor
open Go.RowKit
set_option maxRecDepth 100000 in
set_option maxHeartbeats 800000 in
theorem clonedInt_any (S : Nat → Prop) (A : Option Addr) (c : Nat) (zs : List Int) (w : World) (h : RdI w S A c zs) :
    Calls Tryz.prog 141 #[.slice A zs.length c] w fun e w' => ∃ A' c', e = .returned (.slice A' zs.length c') ∧ RdI w' (fun b => w.heap.size ≤ b) A' c' zs ∧ Below w.heap.size w w' := by
  obtain ⟨i0, hi, hz0, hz1, hz2⟩ := info_parts int_info
  obtain ⟨b1, b2, b3⟩ := h.bd
  rcases Nat.eq_zero_or_pos zs.length with h0 | h0
  · obtain rfl := List.eq_nil_of_length_eq_zero h0
    cases A with
    | none =>
      go_enter Tryz.func141, Tryz.ntmps141
      go_wp2
      go_ret
      exact ⟨none, 0, rfl, Reads.none_ _ _ _, Below.refl _ _⟩
    | some a =>
      have hf := run_firstCells_some (P := Tryz.prog) w 1 0 a 0 c [] (by simp) (by intro j v h; simp at h)
      go_enter Tryz.func141, Tryz.ntmps141
      go_wp2
      go_ret
      exact ⟨none, 0, rfl, Reads.none_ _ _ _, Below.refl _ _⟩
  · obtain ⟨b, o, rfl, _, hbl, hc⟩ := h.at_ 0 h0
    have hnews : ∀ j u, (zs.map (Value.int .i64))[j]? = some u → w.cell? ((⟨b, o, none⟩ : Addr).add j) = some u := by
      intro j u hu
      rw [List.getElem?_map] at hu
      rcases hj : zs[j]? with _ | z
      · rw [hj] at hu; cases hu
      · rw [hj] at hu
        obtain ⟨hj1, hj2⟩ := List.getElem?_eq_some_iff.1 hj
        rw [add_at, hc j hj1, ← hu, hj2]; rfl
    have HC := hide hc
    clear hc
    go_enter Tryz.func141, Tryz.ntmps141
    go_wp2_with (at_builtin; go_loud (refine wpList_append_lies _ rfl _ _ _ rfl w.heap.size 3 i0 (.int .i64 0) 1 8 Tryz.underlying30 hi hz0 hz1 hz2 rfl (by omega) (.slice none 0 0) 0 [] rfl (World.ownsRow_nil _ _ _ _) ⟨b, o, none⟩ zs.length c (zs.map (Value.int .i64)) rfl (by simp) hnews ?c1 h0 ?c2 ?c3 (Nat.le_refl _) w.heap.size rfl ?_))
    case c1 => intro u hu; simp at hu; obtain ⟨z, _, rfl⟩ := hu; rfl
    case c2 => simp only [maxLen]; omega
    case c3 => omega
    intro g1 cap w1 hown1 hgrow _ _
    have hb1 : Below w.heap.size w w1 := below_own (World.ownsRow_nil _ w.heap.size 3 1) hgrow (Nat.le_refl _) (Nat.le_refl _)
    have HO := hide hown1
    clear hown1 hgrow
    go_wp2
    go_ret
    have hown2 := HO.out
    exact ⟨_, _, by simp, Reads.of_own hown2 (fun b h => h) (by omega), hb1⟩
set_option maxRecDepth 100000 in
set_option maxHeartbeats 800000 in
theorem objects_any (S : Nat → Prop) (x : M.Shot) (A : Option Addr) (c : Nat) (w : World) (hp : RdP w S A c x.pots) (hpos : ∀ p ∈ x.pots, 0 ≤ p.ball) :
    Calls Tryz.prog 70 #[shotV x A c] w fun e w' => ∃ A' c', e = .returned (.slice A' (M.objects x).length c') ∧ RdI w' (fun b => w.heap.size ≤ b) A' c' (M.objects x) ∧ Below w.heap.size w w' := by
  obtain ⟨i0, hi, hz0, hz1, hz2⟩ := info_parts int_info
  obtain ⟨b1, b2, b3⟩ := hp.bd
  obtain ⟨pl, kd, ba, po, fi, cu, pots⟩ := x
  simp only at hp hpos b1 b3
  have K0 : Keeps w (w.alloc (.cells #[.int .i64 pl, .string kd, .int .i64 ba, .int .i64 po, .int .i64 fi, .bool cu, .slice A pots.length c] 66)) 1 (w.alloc (.cells #[.int .i64 pl, .string kd, .int .i64 ba, .int .i64 po, .int .i64 fi, .bool cu, .slice A pots.length c] 66)) := Keeps.of1 w _
  go_enter Tryz.func70, Tryz.ntmps70
  go_wp2
  go_loopw [3, 9] (fun v i wr => ∃ k : Nat, k ≤ pots.length ∧ i = .int .i64 k ∧ (∃ A c, v = .slice A (objTo (pots.take k)).length c) ∧ wr.ownsRow (w.heap.size + 1) 3 1 v (objTo (pots.take k)).length ((objTo (pots.take k)).map (Value.int .i64)) ∧ Keeps w (w.alloc (.cells #[.int .i64 pl, .string kd, .int .i64 ba, .int .i64 po, .int .i64 fi, .bool cu, .slice A pots.length c] 66)) 1 wr)
    (fun _ i _ => pots.length - (intOf i).toNat)
  case atStart => exact ⟨0, by omega, rfl, ⟨_, _, rfl⟩, World.ownsRow_nil _ _ _ _, K0⟩
  case round =>
    obtain ⟨k, hk, rfl, ⟨A1, c1, rfl⟩, hown, KR⟩ := hrel
    have hcR := KR.cell
    have hszr := KR.sz
    by_cases hlt : k < pots.length
    · obtain ⟨b, o, rfl, _, hbl, hc⟩ := hp.at_ k hlt
      obtain ⟨hck1, hck2⟩ := hc k hlt
      have hbl1 : b < w.heap.size + 1 := by omega
      have hge := hpos _ (List.getElem_mem hlt)
      clear hc
      by_cases hz : pots[k].ball = 0
      · have hz' : decide (0 < pots[k].ball) = false := by simp [hz]
        have hs : objTo (pots.take (k + 1)) = objTo (pots.take k) := by rw [objTo_snoc hlt, if_pos hz]; simp
        have HS := hide hs
        clear hs hz hge
        go_wp2
        go_roundw
        case rel => exact ⟨k + 1, by omega, by go_num, by rw [HS.out]; exact ⟨⟨_, _, rfl⟩, hown.alloc _, KR.alloc _⟩⟩
        case measure => simp [intOf]; omega
      · have hz' : 0 < pots[k].ball := by omega
        have hs : objTo (pots.take (k + 1)) = objTo (pots.take k) ++ [pots[k].ball] := by rw [objTo_snoc hlt, if_neg hz]
        have hle := objTo_le (pots.take k)
        rw [List.length_take] at hle
        have HS := hide hs
        clear hs hz hge
        go_wp2_with (at_builtin; refine wpList_append_lies _ rfl _ _ _ rfl (w.heap.size + 1) 3 i0 (.int .i64 0) 1 8 Tryz.underlying30 hi hz0 hz1 hz2 rfl (by omega) _ _ _ rfl ((hown.alloc _).alloc _) ⟨(wr.heap.size + 1), 0, none⟩ 1 1 [.int .i64 pots[k].ball] rfl rfl (cells_new _ _ _ _ (by simp)) ?c1 (by omega) ?c2 ?c3 ?c4 (wr.heap.size + 1 + 1) (by simp) ?_)
        case c1 => simp [Value.oneCell']
        case c2 => simp only [maxLen]; omega
        case c3 => omega
        case c4 => simp; omega
        intro g1 cap w1 hown1 hgrow _ _
        have hbd := below_own (B := w.heap.size + 1) ((hown.alloc _).alloc _) hgrow (by omega) (by simp; omega)
        have K1 := ((KR.alloc _).alloc _).upto hbd (by omega)
        have hown2 : w1.ownsRow (w.heap.size + 1) 3 1 (.slice (some ⟨g1, 0, none⟩) (objTo (pots.take (k + 1))).length cap) (objTo (pots.take (k + 1))).length ((objTo (pots.take (k + 1))).map (Value.int .i64)) := by rw [HS.out]; simpa using hown1
        have hv : (objTo (pots.take k)).length + 1 = (objTo (pots.take (k + 1))).length := by rw [HS.out]; simp
        rw [hv]
        clear hown hgrow hown1 hbd hle hv HS hck1 hck2 hcR
        go_wp2
        go_roundw
        case rel => exact ⟨k + 1, by omega, by go_num, ⟨_, _, rfl⟩, hown2, K1⟩
        case measure => simp [intOf]; omega
    · obtain rfl : k = pots.length := by omega
      go_wp2
      go_ret
      have hr : M.objects ⟨pl, kd, ba, po, fi, cu, pots⟩ = objTo pots := rfl
      have hle := objTo_le pots
      rw [List.take_length] at hown ⊢
      rw [hr]
      exact ⟨A1, c1, rfl, Reads.of_own hown (fun b h => by omega) (by omega), KR.bw⟩
theorem scr_tells (w : World) : Tells 150 #[] potV (fun o => decide (o.ball = 0)) w := by
  refine ⟨enters_of Tryz.func150 (by kernel_rfl) rfl, fun W x hb => ?_⟩
  obtain ⟨xb, xp⟩ := x
  go_enter Tryz.func150, Tryz.ntmps150
  go_wp2
  go_ret
  exact ⟨ret_bool (by by_cases h : xb = 0 <;> simp [h]), hb.alloc hb.size _⟩
set_option maxRecDepth 100000 in
set_option maxHeartbeats 800000 in
theorem scratched_any (S : Nat → Prop) (x : M.Shot) (A : Option Addr) (c : Nat) (w : World) (hp : RdP w S A c x.pots) :
    Calls Tryz.prog 113 #[shotV x A c] w fun e w' => e = .returned (.bool (M.scratched x)) ∧ Below w.heap.size w w' := by
  obtain ⟨b1, b2, b3⟩ := hp.bd
  obtain ⟨pl, kd, ba, po, fi, cu, pots⟩ := x
  simp only at hp b1 b3
  have K0 : Keeps w (w.alloc (.cells #[.int .i64 pl, .string kd, .int .i64 ba, .int .i64 po, .int .i64 fi, .bool cu, .slice A pots.length c] 66)) 1 (w.alloc (.cells #[.int .i64 pl, .string kd, .int .i64 ba, .int .i64 po, .int .i64 fi, .bool cu, .slice A pots.length c] 66)) := Keeps.of1 w _
  go_enter Tryz.func113, Tryz.ntmps113
  go_wp2_with (go_at_call 88; refine (cfPot_any S A c pots _ _ _ _ (hp.below K0.bw) (scr_tells _)).mono ?_; rintro e w1 ⟨rfl, hb1⟩; have K1 := K0.call hb1)
  go_ret
  exact ⟨rfl, K1.bw⟩
theorem side_any (n : Int) (w : World) : Calls Tryz.prog 146 #[.int .i64 n] w fun r w' => r = .returned (.int .i64 (M.side n)) ∧ w = w' := by
  go_enter Tryz.func146, Tryz.ntmps146
  go_wp2
  all_goals
    go_ret
    exact ⟨ret_int (by simp [M.side, *]; try omega), rfl⟩
set_option maxRecDepth 100000 in
set_option maxHeartbeats 800000 in
theorem own_any (r : M.Rules) (s : M.State) (A : Option Addr) (c : Nat) (w : World) (hg : 0 ≤ s.group ∧ s.group ≤ 2) : Calls Tryz.prog 145 #[frameV r s A c] w fun e w' => e = .returned (.int .i64 (M.own s)) ∧ Below w.heap.size w w' := by
  obtain ⟨g, tg, fo⟩ := r
  obtain ⟨a0, a1, a2, a3, a4, gr, bl, b0, b1, b2, b3, b4, b5, b6, b7⟩ := s
  obtain ⟨hg1, hg2⟩ := hg
  simp only at hg1 hg2
  go_enter Tryz.func145, Tryz.ntmps145
  go_wp2
  all_goals
    go_ret
    exact ⟨ret_int (by first | (simp [M.own, *]; done) | (simp_all [M.own]; done)), (Below.refl _ _).alloc (Nat.le_refl _) _⟩
end Go.Proofs.YtelpepbpdojikaaGreatDoor
namespace Go.Proofs.YtelpepbpdojikaaGreatDoor
open Go.RowKit
def Box (w : World) (b : Nat) (cs : List Value) : Prop := b < w.heap.size ∧ ∀ j v, cs[j]? = some v → w.cell? ⟨b, j, none⟩ = some v
theorem Box.below {w W : World} {b : Nat} {cs : List Value} (h : Box w b cs) (hb : Below w.heap.size w W) : Box W b cs :=
  ⟨Nat.lt_of_lt_of_le h.1 hb.size, fun j v hj => (hb.cell (p := ⟨b, j, none⟩) h.1).trans (h.2 j v hj)⟩
theorem Box.alloc {w : World} {b : Nat} {cs : List Value} (h : Box w b cs) (o : Obj) : Box (w.alloc o) b cs := h.below ((Below.refl _ _).alloc (Nat.le_refl _) o)
theorem Box.new (w : World) (us : List Value) (t : TypeId) : Box (w.alloc (.cells us.toArray t)) w.heap.size us := ⟨by simp, fun j v h => cell_last w us t _ rfl j v h⟩
theorem Box.newAt (w : World) (us : List Value) (t : TypeId) (g : Nat) (hg : w.heap.size = g) : Box (w.alloc (.cells us.toArray t)) g us := by subst hg; exact Box.new w us t
def frameCells (r : M.Rules) (s : M.State) (A : Option Addr) (c : Nat) : List Value := [.string r.game, .int .i64 r.target, .int .i64 r.fouls, .int .i64 s.turn, .bool s.brk, .bool s.hand, .bool s.push, .bool s.pushed, .int .i64 s.group, .slice A s.balls.length c, .int .i64 s.s0, .int .i64 s.s1, .int .i64 s.f0, .int .i64 s.f1, .int .i64 s.run, .int .i64 s.racks, .bool s.over, .int .i64 s.winner]
@[reducible] def ptr (b : Nat) : Value := .pointer (some ⟨b, 0, none⟩)
section
variable {w : World} {Bf Bx Bc Bo Bk Bl : Nat} {r : M.Rules} {s : M.State} {x : M.Shot} {A P : Option Addr} {c d : Nat} {S : Nat → Prop}
set_option maxRecDepth 100000 in
set_option maxHeartbeats 800000 in
theorem ask_over (hf : Box w Bf (frameCells r s A c)) : Asks 132 #[ptr Bf] (!s.over) w := by
  refine ⟨enters_of Tryz.func132 (by kernel_rfl) rfl, fun W hb => ?_⟩
  have kf := hf.below hb
  have kf16 := kf.2 16 _ rfl
  go_enter Tryz.func132, Tryz.ntmps132
  go_wp2
  go_ret
  exact ⟨rfl, hb⟩
set_option maxRecDepth 100000 in
set_option maxHeartbeats 800000 in
theorem ask_turn (hc : Box w Bc [.bool (decide (x.kind = M.kConcede))]) (hx : Box w Bx (shCells ⟨x, P, d⟩)) (hf : Box w Bf (frameCells r s A c)) : Asks 133 #[ptr Bc, ptr Bx, ptr Bf] (M.q2 s x) w := by
  refine ⟨enters_of Tryz.func133 (by kernel_rfl) rfl, fun W hb => ?_⟩
  have kf := hf.below hb
  have kf3 := kf.2 3 _ rfl
  have kc := hc.below hb
  have kc0 := kc.2 0 _ rfl
  have kx := hx.below hb
  have kx0 := kx.2 0 _ rfl
  have hq : M.q2 s x = (decide (x.kind = M.kConcede) || decide (x.player = s.turn)) := by unfold M.q2; rw [Bool.eq_iff_iff]; simp
  rw [hq]
  obtain ⟨b1, h1⟩ : ∃ b, decide (x.kind = M.kConcede) = b := ⟨_, rfl⟩
  obtain ⟨p1, h2⟩ : ∃ b, x.player = b := ⟨_, rfl⟩
  obtain ⟨p2, h3⟩ : ∃ b, s.turn = b := ⟨_, rfl⟩
  rw [h1] at kc0
  simp only [h1, h2, h3] at kf3 kx0 ⊢
  obtain ⟨b2, h4⟩ : ∃ b, (p1 == p2) = b := ⟨_, rfl⟩
  have h5 : decide (p1 = p2) = b2 := by rw [← h4, ibeq]
  rw [h5]
  clear h1 h2 h3 h5 hq
  cases b1 <;> cases b2
  all_goals
    go_enter Tryz.func133, Tryz.ntmps133
    go_wp2
    go_ret
    exact ⟨rfl, hb⟩
set_option maxRecDepth 100000 in
set_option maxHeartbeats 800000 in
theorem ask_break (hc : Box w Bc [.bool (decide (x.kind = M.kConcede))]) (hf : Box w Bf (frameCells r s A c)) (hx : Box w Bx (shCells ⟨x, P, d⟩)) : Asks 134 #[ptr Bc, ptr Bf, ptr Bx] (M.q3 s x) w := by
  refine ⟨enters_of Tryz.func134 (by kernel_rfl) rfl, fun W hb => ?_⟩
  have kf := hf.below hb
  have kf4 := kf.2 4 _ rfl
  have kc := hc.below hb
  have kc0 := kc.2 0 _ rfl
  have kx := hx.below hb
  have kx1 := kx.2 1 _ rfl
  have hq : M.q3 s x = (decide (x.kind = M.kConcede) || (s.brk == decide (x.kind = M.kBreak))) := by unfold M.q3; rw [Bool.eq_iff_iff]; simp
  rw [hq]
  obtain ⟨b1, h1⟩ : ∃ b, decide (x.kind = M.kConcede) = b := ⟨_, rfl⟩
  obtain ⟨b3, h3⟩ : ∃ b, s.brk = b := ⟨_, rfl⟩
  obtain ⟨k, h2⟩ : ∃ b, x.kind = b := ⟨_, rfl⟩
  rw [h1] at kc0 ⊢
  rw [h2, h3]
  simp only [h2, h3] at kf4 kx1
  obtain ⟨b2, h4⟩ : ∃ b, (k.toList == [98, 114, 101, 97, 107]) = b := ⟨_, rfl⟩
  have h5 : decide (k = M.kBreak) = b2 := by rw [← h4, Bool.eq_iff_iff, beq_iff_eq, decide_eq_true_eq]; exact ⟨fun e => by subst e; rw [ByteArray.toList_eq], fun e => bytes_ext (by rw [e, ByteArray.toList_eq])⟩
  rw [h5]
  clear h1 h2 h3 h5 hq
  cases b1 <;> cases b2 <;> cases b3
  all_goals
    go_enter Tryz.func134, Tryz.ntmps134
    go_wp2
    go_ret
    first | exact ⟨rfl, hb⟩ | exact ⟨ret_bool (by simp), hb⟩ | exact ⟨ret_bool (by simp_all), hb⟩
set_option maxRecDepth 100000 in
set_option maxHeartbeats 800000 in
theorem on_any (hf : Box w Bf (frameCells r s A c)) (hp : RdI w S A c s.balls) (b : Int) (W : World) (hb : Below w.heap.size w W) :
    Calls Tryz.prog 131 #[.int .i64 b, ptr Bf] W fun e w' => e = .returned (.bool (decide (b ∈ s.balls))) ∧ W = w' := by
  have kf := hf.below hb
  have kf9 := kf.2 9 _ rfl
  go_enter Tryz.func131, Tryz.ntmps131
  go_wp2_with (go_at_call 95; refine (inInt_any S A c s.balls _ _ (hp.below hb)).mono ?_; rintro e w99 ⟨rfl, rfl⟩)
  go_ret
  exact ⟨rfl, rfl⟩
set_option maxRecDepth 100000 in
set_option maxHeartbeats 800000 in
theorem ask_ball (hl : Box w Bl [.bool (M.calls r x)]) (ho : Box w Bo [.func (.func 131) #[] #[ptr Bf]]) (hx : Box w Bx (shCells ⟨x, P, d⟩)) (hf : Box w Bf (frameCells r s A c)) (hp : RdI w S A c s.balls) : Asks 136 #[ptr Bl, ptr Bo, ptr Bx] (M.q5 r s x) w := by
  refine ⟨enters_of Tryz.func136 (by kernel_rfl) rfl, fun W hb => ?_⟩
  have kl := hl.below hb
  have kl0 := kl.2 0 _ rfl
  have ko := ho.below hb
  have ko0 := ko.2 0 _ rfl
  have kx := hx.below hb
  have kx2 := kx.2 2 _ rfl
  have hq : M.q5 r s x = if M.calls r x then decide (x.ball ∈ s.balls) else (x.ball == 0) := by unfold M.q5; rw [Bool.eq_iff_iff]; cases M.calls r x <;> simp
  rw [hq]
  clear hq
  cases hcl : M.calls r x with
  | true =>
    rw [hcl] at kl0
    have HCL := hide hcl
    clear hcl
    cases hm : decide (x.ball ∈ s.balls)
    all_goals
      go_enter Tryz.func136, Tryz.ntmps136
      go_wp2_with (go_at_call 131; refine (on_any hf hp _ _ hb).mono ?_; rintro e w99 ⟨rfl, rfl⟩)
      go_ret
      exact ⟨ret_bool (by simp_all), hb⟩
  | false =>
    rw [hcl] at kl0
    have HCL := hide hcl
    clear hcl
    go_enter Tryz.func136, Tryz.ntmps136
    go_wp2_with (go_at_call 131; refine (on_any hf hp _ _ hb).mono ?_; rintro e w99 ⟨rfl, rfl⟩)
    go_ret
    exact ⟨ret_bool (by simp), hb⟩
set_option maxRecDepth 100000 in
set_option maxHeartbeats 800000 in
theorem ask_first (hx : Box w Bx (shCells ⟨x, P, d⟩)) (ho : Box w Bo [.func (.func 131) #[] #[ptr Bf]]) (hf : Box w Bf (frameCells r s A c)) (hp : RdI w S A c s.balls) : Asks 137 #[ptr Bx, ptr Bo] (M.q6 s x) w := by
  refine ⟨enters_of Tryz.func137 (by kernel_rfl) rfl, fun W hb => ?_⟩
  have ko := ho.below hb
  have ko0 := ko.2 0 _ rfl
  have kx := hx.below hb
  have kx4 := kx.2 4 _ rfl
  have hq : M.q6 s x = ((x.first == 0) || decide (x.first ∈ s.balls)) := by unfold M.q6; rw [Bool.eq_iff_iff]; simp
  rw [hq]
  clear hq
  rcases Bool.eq_false_or_eq_true (x.first == 0) with h0 | h0
  all_goals
    rw [h0]
    go_enter Tryz.func137, Tryz.ntmps137
    go_wp2_with (go_at_call 131; refine (on_any hf hp _ _ hb).mono ?_; rintro e w99 ⟨rfl, rfl⟩)
    go_ret
    exact ⟨ret_bool (by simp), hb⟩
end
end Go.Proofs.YtelpepbpdojikaaGreatDoor
namespace Go.Proofs.YtelpepbpdojikaaGreatDoor
open Go.RowKit
def many (fo : Int) (over : Bool) (n : Int) : Bool := decide (0 < fo) && (decide (fo < n) || (decide (n = fo) && !over))
def fE (fo : Int) (over : Bool) (n : Int) : Int := firstOf [wi n 0 99999, wh (many fo over n) 3]
theorem fE_wh (r : M.Rules) (over : Bool) (n : Int) : fE r.fouls over n = wh (M.ckFouls r over n) 3 := by
  unfold fE M.ckFouls many
  by_cases h1 : M.out n 0 99999 = true
  · simp [wi, wh, firstOf, h1]
  · by_cases h2 : 0 < r.fouls <;> by_cases h3 : r.fouls < n <;> by_cases h4 : n = r.fouls <;> cases over <;> simp [wi, wh, firstOf, h1, h2, h3, h4]
theorem wh0 {b : Bool} {e : Int} (he : e ≠ 0) : (wh b e = 0 ↔ b = false) := by cases b <;> simp [wh, he]
theorem ckNumbers_bad {r : M.Rules} {s : M.State} (h : wi s.s0 (-99999) 99999 ≠ 0 ∨ wi s.s1 (-99999) 99999 ≠ 0 ∨ fE r.fouls s.over s.f0 ≠ 0 ∨ fE r.fouls s.over s.f1 ≠ 0) : M.ckNumbers r s = 3 := by
  unfold M.ckNumbers
  rw [if_pos]
  simp only [fE_wh, wi, ne_eq, wh0 (show (3 : Int) ≠ 0 by decide), Bool.not_eq_false] at h
  rcases h with h | h | h | h <;> simp [h]
theorem ckNumbers_last {r : M.Rules} {s : M.State} (h1 : wi s.s0 (-99999) 99999 = 0) (h2 : wi s.s1 (-99999) 99999 = 0) (h3 : fE r.fouls s.over s.f0 = 0) (h4 : fE r.fouls s.over s.f1 = 0) : M.ckNumbers r s = firstOf [wi s.run 0 99999, wi s.racks 1 1000] := by
  unfold M.ckNumbers
  simp only [fE_wh, wi, wh0 (show (3 : Int) ≠ 0 by decide)] at h1 h2 h3 h4
  by_cases h5 : M.out s.run 0 99999 = true <;> by_cases h6 : M.out s.racks 1 1000 = true <;> simp [wi, wh, firstOf, h1, h2, h3, h4, h5, h6]
theorem wi3 {n a b : Int} (h : wi n a b ≠ 0) : wi n a b = 3 := by unfold wi wh at *; split at h <;> simp_all
theorem fE3 {fo n : Int} {over : Bool} (h : fE fo over n ≠ 0) : fE fo over n = 3 := by
  have := fE_wh ⟨M.gNine, 0, fo⟩ over n
  simp only at this
  rw [this] at h ⊢
  unfold wh at *; split at h <;> simp_all
theorem val_bool' {a b : Bool} (h : a = b) : Value.bool a = Value.bool b := by rw [h]
set_option maxRecDepth 100000 in
set_option maxHeartbeats 1600000 in
theorem ckNumbers_any (r : M.Rules) (s : M.State) (A : Option Addr) (c : Nat) (w : World) :
    Calls Tryz.prog 93 #[rulesV r, stateV s A c] w fun e w' => e = .returned (.int .i64 (M.ckNumbers r s)) ∧ Below w.heap.size w w' := by
  obtain ⟨g, tg, fo⟩ := r
  obtain ⟨a0, a1, a2, a3, a4, gr, bl, b0, b1, b2, b3, b4, b5, b6, b7⟩ := s
  have K0 : Keeps w ((w.alloc (.cells #[.string g, .int .i64 tg, .int .i64 fo] 23)).alloc (.cells #[.int .i64 a0, .bool a1, .bool a2, .bool a3, .bool a4, .int .i64 gr, .slice A bl.length c, .int .i64 b0, .int .i64 b1, .int .i64 b2, .int .i64 b3, .int .i64 b4, .int .i64 b5, .bool b6, .int .i64 b7] 33)) 2 ((w.alloc (.cells #[.string g, .int .i64 tg, .int .i64 fo] 23)).alloc (.cells #[.int .i64 a0, .bool a1, .bool a2, .bool a3, .bool a4, .int .i64 gr, .slice A bl.length c, .int .i64 b0, .int .i64 b1, .int .i64 b2, .int .i64 b3, .int .i64 b4, .int .i64 b5, .bool b6, .int .i64 b7] 33)) := Keeps.of2 w _ _
  have i0 : ∀ w, (Instr.index 31 (.agg #[.int .i64 b0, .int .i64 b1]) (.int .i64 0)).run Tryz.prog w = .ok (.int .i64 b0) w := fun _ => by kernel_rfl
  have i1 : ∀ w, (Instr.index 31 (.agg #[.int .i64 b0, .int .i64 b1]) (.int .i64 1)).run Tryz.prog w = .ok (.int .i64 b1) w := fun _ => by kernel_rfl
  have i2 : ∀ w, (Instr.index 31 (.agg #[.int .i64 b2, .int .i64 b3]) (.int .i64 0)).run Tryz.prog w = .ok (.int .i64 b2) w := fun _ => by kernel_rfl
  have i3 : ∀ w, (Instr.index 31 (.agg #[.int .i64 b2, .int .i64 b3]) (.int .i64 1)).run Tryz.prog w = .ok (.int .i64 b3) w := fun _ => by kernel_rfl
  go_enter Tryz.func93, Tryz.ntmps93
  go_wp2
  go_loop [14] (fun i => i = .int .i64 0 ∨ (i = .int .i64 1 ∧ wi b0 (-99999) 99999 = 0) ∨ (i = .int .i64 2 ∧ wi b0 (-99999) 99999 = 0 ∧ wi b1 (-99999) 99999 = 0)) (fun i => 2 - (intOf i).toNat)
  case atStart => exact .inl rfl
  case round =>
    rcases hrel with rfl | ⟨rfl, H1⟩ | ⟨rfl, H1, H2⟩
    · by_cases hz : wi b0 (-99999) 99999 = 0
      · have hz' : (wi b0 (-99999) 99999 != 0) = false := by simp [hz]
        have HZ := hide hz
        clear hz
        go_wp2_with (go_at_call 86; refine (within_any _ _ _ _).mono ?_; rintro e w99 ⟨rfl, rfl⟩)
        go_round
        case rel => exact .inr (.inl ⟨by first | rfl | go_num, HZ.out⟩)
        case measure => simp [intOf]
      · have hz' : (wi b0 (-99999) 99999 != 0) = true := by simp [hz]
        have HZ := hide hz
        clear hz
        go_wp2_with (go_at_call 86; refine (within_any _ _ _ _).mono ?_; rintro e w99 ⟨rfl, rfl⟩)
        go_ret
        exact ⟨ret_int (by rw [wi3 HZ.out]; exact (ckNumbers_bad (r := ⟨g, tg, fo⟩) (s := ⟨a0, a1, a2, a3, a4, gr, bl, b0, b1, b2, b3, b4, b5, b6, b7⟩) (.inl HZ.out)).symm), K0.bw⟩
    · have H1 := hide H1
      by_cases hz : wi b1 (-99999) 99999 = 0
      · have hz' : (wi b1 (-99999) 99999 != 0) = false := by simp [hz]
        have HZ := hide hz
        clear hz
        go_wp2_with (go_at_call 86; refine (within_any _ _ _ _).mono ?_; rintro e w99 ⟨rfl, rfl⟩)
        go_round
        case rel => exact .inr (.inr ⟨by first | rfl | go_num, H1.out, HZ.out⟩)
        case measure => simp [intOf]
      · have hz' : (wi b1 (-99999) 99999 != 0) = true := by simp [hz]
        have HZ := hide hz
        clear hz
        go_wp2_with (go_at_call 86; refine (within_any _ _ _ _).mono ?_; rintro e w99 ⟨rfl, rfl⟩)
        go_ret
        exact ⟨ret_int (by rw [wi3 HZ.out]; exact (ckNumbers_bad (r := ⟨g, tg, fo⟩) (s := ⟨a0, a1, a2, a3, a4, gr, bl, b0, b1, b2, b3, b4, b5, b6, b7⟩) (.inr (.inl HZ.out))).symm), K0.bw⟩
    · have H1 := hide H1
      have H2 := hide H2
      go_wp2
      go_loopw [25] (fun i wr => Keeps w ((w.alloc (.cells #[.string g, .int .i64 tg, .int .i64 fo] 23)).alloc (.cells #[.int .i64 a0, .bool a1, .bool a2, .bool a3, .bool a4, .int .i64 gr, .slice A bl.length c, .int .i64 b0, .int .i64 b1, .int .i64 b2, .int .i64 b3, .int .i64 b4, .int .i64 b5, .bool b6, .int .i64 b7] 33)) 2 wr ∧ (i = .int .i64 0 ∨ (i = .int .i64 1 ∧ fE fo b6 b2 = 0) ∨ (i = .int .i64 2 ∧ fE fo b6 b2 = 0 ∧ fE fo b6 b3 = 0))) (fun i _ => 2 - (intOf i).toNat)
      case atStart => exact ⟨K0, .inl rfl⟩
      case round =>
        obtain ⟨KR, hrel⟩ := hrel
        have hcR := KR.cell
        rcases hrel with rfl | ⟨rfl, H3⟩ | ⟨rfl, H3, H4⟩
        · go_upto_region 11 with fail
          go_cut [10] (fun v wx => v = .bool (many fo b6 b2) ∧ Keeps w ((w.alloc (.cells #[.string g, .int .i64 tg, .int .i64 fo] 23)).alloc (.cells #[.int .i64 a0, .bool a1, .bool a2, .bool a3, .bool a4, .int .i64 gr, .slice A bl.length c, .int .i64 b0, .int .i64 b1, .int .i64 b2, .int .i64 b3, .int .i64 b4, .int .i64 b5, .bool b6, .int .i64 b7] 33)) 2 wx)
          case first =>
            all_goals rcases Bool.eq_false_or_eq_true (b2 == fo) with y0 | y0
            all_goals go_wp2
            all_goals go_meet
            all_goals
              refine ⟨?_, KR⟩
              exact val_bool' (by first | (simp [many, ibeq, *]; done) | (simp [many, ibeq, *]; intros; omega) | (simp [many, ibeq, *]; intros; exfalso; omega) | (simp_all [many, ibeq]; done))
          case rest =>
            obtain ⟨rfl, K1⟩ := hcut
            have hc1 := K1.cell
            by_cases hz : fE fo b6 b2 = 0
            · have hz' : (firstOf [wi b2 0 99999, wh (many fo b6 b2) 3] != 0) = false := by rw [show firstOf [wi b2 0 99999, wh (many fo b6 b2) 3] = 0 from hz]; rfl
              have HZ := hide hz
              clear hz
              go_wp2_with (first | (go_at_call 86; refine (within_any _ _ _ _).mono ?_; rintro e w99 ⟨rfl, rfl⟩) | (go_at_call 87; refine (when_any _ _ _).mono ?_; rintro e w99 ⟨rfl, rfl⟩) | (go_at_call 85; refine (first_any (fun _ => True) _ _ [wi b2 0 99999, wh (many fo b6 b2) 3] _ (RdI.lit _ _ [wi b2 0 99999, wh (many fo b6 b2) 3] (by simp) _ trivial)).mono ?_; rintro e w99 ⟨rfl, rfl⟩))
              go_roundw
              case rel => exact ⟨K1.alloc _, .inr (.inl ⟨by first | rfl | go_num, HZ.out⟩)⟩
              case measure => simp [intOf]
            · have hz' : (firstOf [wi b2 0 99999, wh (many fo b6 b2) 3] != 0) = true := by have : firstOf [wi b2 0 99999, wh (many fo b6 b2) 3] ≠ 0 := hz; simp [this]
              have HZ := hide hz
              clear hz
              go_wp2_with (first | (go_at_call 86; refine (within_any _ _ _ _).mono ?_; rintro e w99 ⟨rfl, rfl⟩) | (go_at_call 87; refine (when_any _ _ _).mono ?_; rintro e w99 ⟨rfl, rfl⟩) | (go_at_call 85; refine (first_any (fun _ => True) _ _ [wi b2 0 99999, wh (many fo b6 b2) 3] _ (RdI.lit _ _ [wi b2 0 99999, wh (many fo b6 b2) 3] (by simp) _ trivial)).mono ?_; rintro e w99 ⟨rfl, rfl⟩))
              go_ret
              exact ⟨ret_int (by rw [show firstOf [wi b2 0 99999, wh (many fo b6 b2) 3] = 3 from fE3 HZ.out]; exact (ckNumbers_bad (r := ⟨g, tg, fo⟩) (s := ⟨a0, a1, a2, a3, a4, gr, bl, b0, b1, b2, b3, b4, b5, b6, b7⟩) <| .inr (.inr (.inl HZ.out))).symm), (K1.alloc _).bw⟩
        · have H3 := hide H3
          go_upto_region 11 with fail
          go_cut [10] (fun v wx => v = .bool (many fo b6 b3) ∧ Keeps w ((w.alloc (.cells #[.string g, .int .i64 tg, .int .i64 fo] 23)).alloc (.cells #[.int .i64 a0, .bool a1, .bool a2, .bool a3, .bool a4, .int .i64 gr, .slice A bl.length c, .int .i64 b0, .int .i64 b1, .int .i64 b2, .int .i64 b3, .int .i64 b4, .int .i64 b5, .bool b6, .int .i64 b7] 33)) 2 wx)
          case first =>
            all_goals rcases Bool.eq_false_or_eq_true (b3 == fo) with y0 | y0
            all_goals go_wp2
            all_goals go_meet
            all_goals
              refine ⟨?_, KR⟩
              exact val_bool' (by first | (simp [many, ibeq, *]; done) | (simp [many, ibeq, *]; intros; omega) | (simp [many, ibeq, *]; intros; exfalso; omega) | (simp_all [many, ibeq]; done))
          case rest =>
            obtain ⟨rfl, K1⟩ := hcut
            have hc1 := K1.cell
            by_cases hz : fE fo b6 b3 = 0
            · have hz' : (firstOf [wi b3 0 99999, wh (many fo b6 b3) 3] != 0) = false := by rw [show firstOf [wi b3 0 99999, wh (many fo b6 b3) 3] = 0 from hz]; rfl
              have HZ := hide hz
              clear hz
              go_wp2_with (first | (go_at_call 86; refine (within_any _ _ _ _).mono ?_; rintro e w99 ⟨rfl, rfl⟩) | (go_at_call 87; refine (when_any _ _ _).mono ?_; rintro e w99 ⟨rfl, rfl⟩) | (go_at_call 85; refine (first_any (fun _ => True) _ _ [wi b3 0 99999, wh (many fo b6 b3) 3] _ (RdI.lit _ _ [wi b3 0 99999, wh (many fo b6 b3) 3] (by simp) _ trivial)).mono ?_; rintro e w99 ⟨rfl, rfl⟩))
              go_roundw
              case rel => exact ⟨K1.alloc _, .inr (.inr ⟨by first | rfl | go_num, H3.out, HZ.out⟩)⟩
              case measure => simp [intOf]
            · have hz' : (firstOf [wi b3 0 99999, wh (many fo b6 b3) 3] != 0) = true := by have : firstOf [wi b3 0 99999, wh (many fo b6 b3) 3] ≠ 0 := hz; simp [this]
              have HZ := hide hz
              clear hz
              go_wp2_with (first | (go_at_call 86; refine (within_any _ _ _ _).mono ?_; rintro e w99 ⟨rfl, rfl⟩) | (go_at_call 87; refine (when_any _ _ _).mono ?_; rintro e w99 ⟨rfl, rfl⟩) | (go_at_call 85; refine (first_any (fun _ => True) _ _ [wi b3 0 99999, wh (many fo b6 b3) 3] _ (RdI.lit _ _ [wi b3 0 99999, wh (many fo b6 b3) 3] (by simp) _ trivial)).mono ?_; rintro e w99 ⟨rfl, rfl⟩))
              go_ret
              exact ⟨ret_int (by rw [show firstOf [wi b3 0 99999, wh (many fo b6 b3) 3] = 3 from fE3 HZ.out]; exact (ckNumbers_bad (r := ⟨g, tg, fo⟩) (s := ⟨a0, a1, a2, a3, a4, gr, bl, b0, b1, b2, b3, b4, b5, b6, b7⟩) <| .inr (.inr (.inr HZ.out))).symm), (K1.alloc _).bw⟩
        · have H3 := hide H3
          have H4 := hide H4
          go_wp2
          go_region_held3 (fun w' => ∀ p q, p < w.heap.size + 2 → w'.cell? ⟨p, q, none⟩ = ((w.alloc (.cells #[.string g, .int .i64 tg, .int .i64 fo] 23)).alloc (.cells #[.int .i64 a0, .bool a1, .bool a2, .bool a3, .bool a4, .int .i64 gr, .slice A bl.length c, .int .i64 b0, .int .i64 b1, .int .i64 b2, .int .i64 b3, .int .i64 b4, .int .i64 b5, .bool b6, .int .i64 b7] 33)).cell? ⟨p, q, none⟩) (first | exact KR.cell | exact (KR.alloc _).cell) (first | (go_at_call 86; refine (within_any _ _ _ _).mono ?_; rintro e w99 ⟨rfl, rfl⟩) | (go_at_call 85; refine (first_any (fun _ => True) _ _ [wi b4 0 99999, wi b5 1 1000] _ (RdI.drewN (RdI.lit _ _ [wi b4 0 99999, wi b5 1 1000] (by simp) _ trivial) 1)).mono ?_; rintro e w99 ⟨rfl, rfl⟩))
          go_wp2
          go_ret
          exact ⟨ret_int (ckNumbers_last (r := ⟨g, tg, fo⟩) (s := ⟨a0, a1, a2, a3, a4, gr, bl, b0, b1, b2, b3, b4, b5, b6, b7⟩) H1.out H2.out H3.out H4.out).symm, (KR.alloc _).drew.bw⟩
end Go.Proofs.YtelpepbpdojikaaGreatDoor
