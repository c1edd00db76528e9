/- Parts of the proofs about chapter 5 (pool), joined by program. -/
import Derived.Below
import Derived.BigQuiet
import Derived.Deep.AppendLies
import Derived.Deep.DeepCutAuto
import Derived.Deep.Draws
import Derived.Deep.LoopGhost
import Derived.Deep.MidRow
import Derived.Deep.QuietTactic
import Derived.Deep.RegionHeld3
import Derived.Laws.EntriesVeiled
import Derived.Laws.OwnMore
import Derived.Laws.Rows
import Derived.Laws.Strings
import Derived.Lib.Hide
import Derived.LoopTactic
import Derived.Maps.Own
import Derived.Outline
import Derived.OwnWalk
import Derived.Shelf.Abstract
import Derived.Test.YtelpepbpdojikaaGreatDoorProg
import Derived.WalkKit
import Derived.WalkLawsBesides
import Derived.Test.YtelpepbpdojikaaGreatDoorKt0
import Derived.Test.YtelpepbpdojikaaGreatDoorKe13
import Derived.Test.YtelpepbpdojikaaGreatDoorKe14
import Derived.Test.YtelpepbpdojikaaGreatDoorKe15
import Derived.Test.YtelpepbpdojikaaGreatDoorKe4
set_option linter.unusedVariables false
set_option linter.unusedSimpArgs false
namespace Go.Proofs.YtelpepbpdojikaaGreatDoor
open Go.RowKit
theorem quiet_drew0 {P : Program} {f : FuncId} {args : Array Value} {v : Value} {w : World} {a : Nat} (h : Calls P f args (w.drewN a) fun e w' => e = .returned v ∧ ∃ n, w' = (w.drewN a).drewN n) : Calls P f args (w.drewN a) fun e w' => e = .returned v ∧ ∃ n, w' = w.drewN n :=
  h.mono (by rintro e w' ⟨rfl, n, rfl⟩; exact ⟨rfl, a + n, by rw [World.drewN_drewN]⟩)
theorem prK_zero (x : M.Shot) : prK x 0 = pr3 x := by simp [prK]
theorem prK_succ (x : M.Shot) (k : Nat) (h : k < x.pots.length) : prK x (k + 1) = prK x k ++ prPot x.pots[k] := by
  unfold prK
  rw [List.take_succ_eq_append_getElem h, List.flatMap_append, List.append_assoc]
  simp
set_option maxRecDepth 100000 in
set_option maxHeartbeats 1600000 in
theorem refPrint_any (S : Nat → Prop) (x : M.Shot) (P : Option Addr) (d : Nat) (w : World) (hp : RdP w S P d x.pots) (hx : M.ShotOk x) :
    Calls Tryz.prog 31 #[shotV x P d] w fun e w' => e = .returned (.string ⟨(M.print x).toArray⟩) ∧ Below w.heap.size w w' := by
  obtain ⟨b1, b2, b3⟩ := hp.bd
  obtain ⟨x1, x2⟩ := hx.ball
  obtain ⟨x3, x4⟩ := hx.pocket
  obtain ⟨x5, x6⟩ := hx.first
  have y2 : x.ball ≤ 99 := by omega
  have y4 : x.pocket ≤ 99 := by omega
  have y6 : x.first ≤ 99 := by omega
  have hpots := hide hx.pots
  obtain ⟨l0, l1, l2, l3, l4, l5⟩ := pr_len hx
  have l6 := M.dec_length x.ball
  have l7 := M.dec_length x.pocket
  have l8 := M.dec_length x.first
  go_enter Tryz.func31, Tryz.ntmps31
  have hrel := (Blks.nil w).new (by simp) (shCells ⟨x, P, d⟩) 69
  go_upto_region 2 with (fail)
  rename_i K4 hK4 K9 hK9
  have J0 : ∀ (z2 z3 z4 z5 z6 z7 z8 z9 z10 z11 z12 z13 z14 z15 z16 z17 z18 z19 z20 z21 z22 z23 z24 z25 z26 z27 z28 z29 z30 z31 z32 z33 z34 z35 z36 z37 z38 z39 z40 z41 z42 z43 z44 z45 z46 z47 z48 z49 z50 z51 z52 z53 z54 z55 z56 z57 z58 z59 z60 z61 z62 z63 z64 z65 : Value) (wx : World), z3 = .string ⟨(prL x).toArray⟩ → (Blks w wx [(shCells ⟨x, P, d⟩, 69)]) → K4 { tmps := #[shotV x P d, ptr w.heap.size, z2, z3, z4, z5, z6, z7, z8, z9, z10, z11, z12, z13, z14, z15, z16, z17, z18, z19, z20, z21, z22, z23, z24, z25, z26, z27, z28, z29, z30, z31, z32, z33, z34, z35, z36, z37, z38, z39, z40, z41, z42, z43, z44, z45, z46, z47, z48, z49, z50, z51, z52, z53, z54, z55, z56, z57, z58, z59, z60, z61, z62, z63, z64, z65], defers := [] } wx := by
    intro z2 z3 z4 z5 z6 z7 z8 z9 z10 z11 z12 z13 z14 z15 z16 z17 z18 z19 z20 z21 z22 z23 z24 z25 z26 z27 z28 z29 z30 z31 z32 z33 z34 z35 z36 z37 z38 z39 z40 z41 z42 z43 z44 z45 z46 z47 z48 z49 z50 z51 z52 z53 z54 z55 z56 z57 z58 z59 z60 z61 z62 z63 z64 z65 wx e3 hrel
    subst e3
    refine hK4 _ _ ?_
    try dsimp only
    have k1 := (hrel.get0 rfl).cell (j := 1) rfl
    go_upto_region 4 with (fail)
    go_cut [3] from 5 to 12 (fun v wy => v = .string ⟨(pr0 x).toArray⟩ ∧ wx = wy)
    case first =>
      go_wp2
      go_meet
      refine ⟨?_, rfl⟩
      conv => lhs; rw [ba_kind x.kind, ba_app]
      rfl
    case rest =>
      obtain ⟨rfl, rfl⟩ := hcut
      go_upto_region 5 with (fail)
      rename_i K3 hK3 K9 hK9
      have J1 : ∀ (z2 z3 z4 z5 z6 z7 z8 z9 z10 z11 z12 z13 z14 z15 z16 z17 z18 z19 z20 z21 z22 z23 z24 z25 z26 z27 z28 z29 z30 z31 z32 z33 z34 z35 z36 z37 z38 z39 z40 z41 z42 z43 z44 z45 z46 z47 z48 z49 z50 z51 z52 z53 z54 z55 z56 z57 z58 z59 z60 z61 z62 z63 z64 z65 : Value) (wx : World), z3 = .string ⟨(pr1 x).toArray⟩ → (Blks w wx [(shCells ⟨x, P, d⟩, 69)]) → K3 { tmps := #[shotV x P d, ptr w.heap.size, z2, z3, z4, z5, z6, z7, z8, z9, z10, z11, z12, z13, z14, z15, z16, z17, z18, z19, z20, z21, z22, z23, z24, z25, z26, z27, z28, z29, z30, z31, z32, z33, z34, z35, z36, z37, z38, z39, z40, z41, z42, z43, z44, z45, z46, z47, z48, z49, z50, z51, z52, z53, z54, z55, z56, z57, z58, z59, z60, z61, z62, z63, z64, z65], defers := [] } wx := by
        intro z2 z3 z4 z5 z6 z7 z8 z9 z10 z11 z12 z13 z14 z15 z16 z17 z18 z19 z20 z21 z22 z23 z24 z25 z26 z27 z28 z29 z30 z31 z32 z33 z34 z35 z36 z37 z38 z39 z40 z41 z42 z43 z44 z45 z46 z47 z48 z49 z50 z51 z52 z53 z54 z55 z56 z57 z58 z59 z60 z61 z62 z63 z64 z65 wx e3 hrel
        subst e3
        refine hK3 _ _ ?_
        try dsimp only
        go_upto_region 7 with (fail)
        rename_i K2 hK2 K9 hK9
        have J2 : ∀ (z2 z3 z4 z5 z6 z7 z8 z9 z10 z11 z12 z13 z14 z15 z16 z17 z18 z19 z20 z21 z22 z23 z24 z25 z26 z27 z28 z29 z30 z31 z32 z33 z34 z35 z36 z37 z38 z39 z40 z41 z42 z43 z44 z45 z46 z47 z48 z49 z50 z51 z52 z53 z54 z55 z56 z57 z58 z59 z60 z61 z62 z63 z64 z65 : Value) (wx : World), z3 = .string ⟨(pr2 x).toArray⟩ → (Blks w wx [(shCells ⟨x, P, d⟩, 69)]) → K2 { tmps := #[shotV x P d, ptr w.heap.size, z2, z3, z4, z5, z6, z7, z8, z9, z10, z11, z12, z13, z14, z15, z16, z17, z18, z19, z20, z21, z22, z23, z24, z25, z26, z27, z28, z29, z30, z31, z32, z33, z34, z35, z36, z37, z38, z39, z40, z41, z42, z43, z44, z45, z46, z47, z48, z49, z50, z51, z52, z53, z54, z55, z56, z57, z58, z59, z60, z61, z62, z63, z64, z65], defers := [] } wx := by
          intro z2 z3 z4 z5 z6 z7 z8 z9 z10 z11 z12 z13 z14 z15 z16 z17 z18 z19 z20 z21 z22 z23 z24 z25 z26 z27 z28 z29 z30 z31 z32 z33 z34 z35 z36 z37 z38 z39 z40 z41 z42 z43 z44 z45 z46 z47 z48 z49 z50 z51 z52 z53 z54 z55 z56 z57 z58 z59 z60 z61 z62 z63 z64 z65 wx e3 hrel
          subst e3
          refine hK2 _ _ ?_
          try dsimp only
          go_upto_region 9 with (fail)
          rename_i K1 hK1 K9 hK9
          have J3 : ∀ (z2 z3 z4 z5 z6 z7 z8 z9 z10 z11 z12 z13 z14 z15 z16 z17 z18 z19 z20 z21 z22 z23 z24 z25 z26 z27 z28 z29 z30 z31 z32 z33 z34 z35 z36 z37 z38 z39 z40 z41 z42 z43 z44 z45 z46 z47 z48 z49 z50 z51 z52 z53 z54 z55 z56 z57 z58 z59 z60 z61 z62 z63 z64 z65 : Value) (wx : World), z3 = .string ⟨(pr3 x).toArray⟩ → (Blks w wx [(shCells ⟨x, P, d⟩, 69)]) → K1 { tmps := #[shotV x P d, ptr w.heap.size, z2, z3, z4, z5, z6, z7, z8, z9, z10, z11, z12, z13, z14, z15, z16, z17, z18, z19, z20, z21, z22, z23, z24, z25, z26, z27, z28, z29, z30, z31, z32, z33, z34, z35, z36, z37, z38, z39, z40, z41, z42, z43, z44, z45, z46, z47, z48, z49, z50, z51, z52, z53, z54, z55, z56, z57, z58, z59, z60, z61, z62, z63, z64, z65], defers := [] } wx := by
            intro z2 z3 z4 z5 z6 z7 z8 z9 z10 z11 z12 z13 z14 z15 z16 z17 z18 z19 z20 z21 z22 z23 z24 z25 z26 z27 z28 z29 z30 z31 z32 z33 z34 z35 z36 z37 z38 z39 z40 z41 z42 z43 z44 z45 z46 z47 z48 z49 z50 z51 z52 z53 z54 z55 z56 z57 z58 z59 z60 z61 z62 z63 z64 z65 wx e3 hrel
            subst e3
            refine hK1 _ _ ?_
            try dsimp only
            have k6 := (hrel.get0 rfl).cell (j := 6) rfl
            go_wp2
            go_loopw [3, 4] (fun s i wr => ∃ k : Nat, k ≤ x.pots.length ∧ i = .int .i64 k ∧ s = .string ⟨(prK x k).toArray⟩ ∧ Blks w wr [(shCells ⟨x, P, d⟩, 69)]) (fun _ i _ => x.pots.length - (intOf i).toNat)
            case atStart => exact ⟨0, Nat.zero_le _, rfl, by rw [prK_zero], hrel⟩
            case round =>
              obtain ⟨k, hk, rfl, rfl, hB⟩ := hrel
              have k6 := (hB.get0 rfl).cell (j := 6) rfl
              by_cases hlt : k < x.pots.length
              · obtain ⟨b, o, rfl, hS, hb, hc⟩ := (hp.below hB.bw).at_ k hlt
                obtain ⟨c1, c2⟩ := hc k hlt
                clear hc
                obtain ⟨⟨p1, p2⟩, p3, p4⟩ := hpots.out _ (List.getElem_mem hlt)
                obtain ⟨pb, hpb⟩ : ∃ q, x.pots[k].ball = q := ⟨_, rfl⟩
                obtain ⟨pp, hpp⟩ : ∃ q, x.pots[k].pocket = q := ⟨_, rfl⟩
                have hnx := prK_succ x k hlt
                unfold prPot at hnx
                rw [hpb, hpp] at hnx
                rw [hpb] at p1 p2 c1
                rw [hpp] at p3 p4 c2
                have HNX := hide hnx
                clear hnx hpb hpp
                have p5 : pb ≤ 99 := by omega
                have p6 : pp ≤ 99 := by omega
                have p7 : 0 ≤ pp := by omega
                have m0 := prK_len hx k
                have m1 := M.dec_length pb
                have m2 := M.dec_length pp
                have q1 : (9223372036854775807 < (prK x k).length + 2) = False := eq_false (by omega)
                have q2 : (9223372036854775807 < (prK x k).length + 2 + (M.dec pb).length) = False := eq_false (by omega)
                have q3 : (9223372036854775807 < (prK x k).length + 2 + (M.dec pb).length + 1) = False := eq_false (by omega)
                have q4 : (9223372036854775807 < (prK x k).length + 2 + (M.dec pb).length + 1 + (M.dec pp).length) = False := eq_false (by omega)
                have i1 : (0 : Int) ≤ (k : Int) := by omega
                have i2 : (k : Int) < (x.pots.length : Int) := by omega
                go_wp2
                go_quiet ((go_at_call 80; exact quiet_drew0 (decimal_any _ _ (by assumption) (by assumption))))
                go_wp2
                go_roundw
                case rel => exact ⟨k + 1, by omega, by go_num, by simp only [ba_app]; rw [HNX.out]; simp, hB.drewN _⟩
                case measure => simp [intOf] <;> omega
              · have hke : k = x.pots.length := by omega
                subst hke
                go_wp2
                go_ret
                exact ⟨by rw [prK_print]; rfl, hB.bw⟩
          clear hK1
          have k5 := (hrel.get0 rfl).cell (j := 5) rfl
          have f5 := (hrel.get0 rfl).frozen 5
          by_cases hc : x.cushion = true
          · have hb : x.cushion = true := hc
            have HC := hide hc
            clear hc
            go_wp2
            exact J3 _ _ _ _ _ _ _ _ _ _ _ _ _ _ _ _ _ _ _ _ _ _ _ _ _ _ _ _ _ _ _ _ _ _ _ _ _ _ _ _ _ _ _ _ _ _ _ _ _ _ _ _ _ _ _ _ _ _ _ _ _ _ _ _ _ (by (try simp only [ba_app]); unfold pr3; rw [if_pos HC.out]; try (first | rfl | simp)) (hrel)
          · have hb : x.cushion = false := by simpa using hc
            have HC := hide hc
            clear hc
            go_wp2
            exact J3 _ _ _ _ _ _ _ _ _ _ _ _ _ _ _ _ _ _ _ _ _ _ _ _ _ _ _ _ _ _ _ _ _ _ _ _ _ _ _ _ _ _ _ _ _ _ _ _ _ _ _ _ _ _ _ _ _ _ _ _ _ _ _ _ _ (by unfold pr3; rw [if_neg HC.out]; try (first | rfl | simp)) (hrel)
        clear hK2
        have k4 := (hrel.get0 rfl).cell (j := 4) rfl
        have f4 := (hrel.get0 rfl).frozen 4
        by_cases hc : x.first ≠ 0
        · have hb : ((x.first : Int) != 0) = true := by simp [hc]
          have HC := hide hc
          clear hc
          go_wp2_with (go_at_call 80; refine (decimal_any _ _ (by assumption) (by assumption)).mono ?_; rintro e w' ⟨rfl, n, rfl⟩)
          exact J2 _ _ _ _ _ _ _ _ _ _ _ _ _ _ _ _ _ _ _ _ _ _ _ _ _ _ _ _ _ _ _ _ _ _ _ _ _ _ _ _ _ _ _ _ _ _ _ _ _ _ _ _ _ _ _ _ _ _ _ _ _ _ _ _ _ (by (try simp only [ba_app]); unfold pr2; rw [if_pos HC.out]; try (first | rfl | simp)) (hrel.drewN _)
        · have hb : ((x.first : Int) != 0) = false := by simpa using hc
          have HC := hide hc
          clear hc
          go_wp2
          exact J2 _ _ _ _ _ _ _ _ _ _ _ _ _ _ _ _ _ _ _ _ _ _ _ _ _ _ _ _ _ _ _ _ _ _ _ _ _ _ _ _ _ _ _ _ _ _ _ _ _ _ _ _ _ _ _ _ _ _ _ _ _ _ _ _ _ (by unfold pr2; rw [if_neg HC.out]; try (first | rfl | simp)) (hrel)
      clear hK3
      have k2 := (hrel.get0 rfl).cell (j := 2) rfl
      have f2 := (hrel.get0 rfl).frozen 2
      have k3 := (hrel.get0 rfl).cell (j := 3) rfl
      have f3 := (hrel.get0 rfl).frozen 3
      by_cases hc : x.ball ≠ 0
      · have hb : ((x.ball : Int) != 0) = true := by simp [hc]
        have HC := hide hc
        clear hc
        have q1 : (9223372036854775807 < (pr0 x).length + 2) = False := eq_false (by omega)
        have q2 : (9223372036854775807 < (pr0 x).length + 2 + (M.dec x.ball).length) = False := eq_false (by omega)
        have q3 : (9223372036854775807 < (pr0 x).length + 2 + (M.dec x.ball).length + 1) = False := eq_false (by omega)
        have q4 : (9223372036854775807 < (pr0 x).length + 2 + (M.dec x.ball).length + 1 + (M.dec x.pocket).length) = False := eq_false (by omega)
        go_wp2
        go_quiet ((go_at_call 80; exact quiet_drew0 (decimal_any _ _ (by assumption) (by assumption))))
        go_wp2
        exact J1 _ _ _ _ _ _ _ _ _ _ _ _ _ _ _ _ _ _ _ _ _ _ _ _ _ _ _ _ _ _ _ _ _ _ _ _ _ _ _ _ _ _ _ _ _ _ _ _ _ _ _ _ _ _ _ _ _ _ _ _ _ _ _ _ _ (by (try simp only [ba_app]); unfold pr1; rw [if_pos HC.out]; try (first | rfl | simp)) (hrel.drewN _)
      · have hb : ((x.ball : Int) != 0) = false := by simpa using hc
        have HC := hide hc
        clear hc
        go_wp2
        exact J1 _ _ _ _ _ _ _ _ _ _ _ _ _ _ _ _ _ _ _ _ _ _ _ _ _ _ _ _ _ _ _ _ _ _ _ _ _ _ _ _ _ _ _ _ _ _ _ _ _ _ _ _ _ _ _ _ _ _ _ _ _ _ _ _ _ (by unfold pr1; rw [if_neg HC.out]; try (first | rfl | simp)) (hrel)
  clear hK4
  have k0 := (hrel.get0 rfl).cell (j := 0) rfl
  have f0 := (hrel.get0 rfl).frozen 0
  by_cases hc : x.player = 1
  · have hb : ((x.player : Int) == 1) = true := by simp [hc]
    have HC := hide hc
    clear hc
    go_wp2
    exact J0 _ _ _ _ _ _ _ _ _ _ _ _ _ _ _ _ _ _ _ _ _ _ _ _ _ _ _ _ _ _ _ _ _ _ _ _ _ _ _ _ _ _ _ _ _ _ _ _ _ _ _ _ _ _ _ _ _ _ _ _ _ _ _ _ _ (by (try simp only [ba_app]); unfold prL; rw [if_pos HC.out]; try (first | rfl | simp)) (hrel)
  · have hb : ((x.player : Int) == 1) = false := by simp [hc]
    have HC := hide hc
    clear hc
    go_wp2
    exact J0 _ _ _ _ _ _ _ _ _ _ _ _ _ _ _ _ _ _ _ _ _ _ _ _ _ _ _ _ _ _ _ _ _ _ _ _ _ _ _ _ _ _ _ _ _ _ _ _ _ _ _ _ _ _ _ _ _ _ _ _ _ _ _ _ _ (by unfold prL; rw [if_neg HC.out]; try (first | rfl | simp)) (hrel)
end Go.Proofs.YtelpepbpdojikaaGreatDoor
