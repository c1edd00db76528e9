/- Parts of the proofs about chapter 5 (pool), joined by program. -/
import Derived.Below
import Derived.BigQuiet
import Derived.Deep.AppendLies
import Derived.Deep.Draws
import Derived.Deep.QuietTactic
import Derived.Laws.DeepStrings4
import Derived.Laws.OwnMore
import Derived.Laws.Rows
import Derived.Lib.Hide
import Derived.LoopTactic
import Derived.Outline
import Derived.OwnWalk
import Derived.Test.YtelpepbpdojikaaGreatDoorProg
import Derived.WalkKit
import Derived.WalkLawsBesides
import Derived.Test.YtelpepbpdojikaaGreatDoorKe0
import Derived.Test.YtelpepbpdojikaaGreatDoorKe2
import Derived.Test.YtelpepbpdojikaaGreatDoorKe4
set_option linter.unusedVariables false
set_option linter.unusedSimpArgs false
namespace Go.Proofs.YtelpepbpdojikaaGreatDoor
open Go.RowKit
theorem digits_cut : ∀ n : Fin 10, (ByteArray.mk #[48, 49, 50, 51, 52, 53, 54, 55, 56, 57]).extract n.val (n.val + 1) = ⟨#[M.dig n.val]⟩ := by decide
theorem digits_cut' {k : Nat} (h : k < 10) : (ByteArray.mk #[48, 49, 50, 51, 52, 53, 54, 55, 56, 57]).extract k (k + 1) = ⟨#[M.dig k]⟩ := digits_cut ⟨k, h⟩
set_option maxRecDepth 100000 in
set_option maxHeartbeats 400000 in
theorem decimal_any (n : Int) (w : World) (h0 : 0 ≤ n) (h1 : n ≤ 99) : Calls Tryz.prog 80 #[.int .i64 n] w fun e w' => e = .returned (.string ⟨(M.dec n).toArray⟩) ∧ ∃ n, w' = w.drewN n := by
  obtain ⟨k, rfl⟩ := Int.eq_ofNat_of_zero_le h0
  by_cases h : k < 10
  · go_enter Tryz.func80, Tryz.ntmps80
    have e : ((k : Int) + 1).toNat = k + 1 := by omega
    go_wp2
    go_ret
    refine ⟨?_, 0, rfl⟩
    have hc := digits_cut' h
    unfold M.dec
    rw [if_pos (by omega)]
    simp [hc]
  · go_enter Tryz.func80, Tryz.ntmps80
    obtain ⟨q, hq⟩ : ∃ q, k / 10 = q := ⟨_, rfl⟩
    obtain ⟨m, hm⟩ : ∃ m, k % 10 = m := ⟨_, rfl⟩
    have d1 : Int.tdiv (k : Int) 10 = (q : Int) := by rw [← hq]; rfl
    have d2 : Int.tmod (k : Int) 10 = (m : Int) := by rw [← hm]; rfl
    have hq9 : q < 10 := by omega
    have hm9 : m < 10 := by omega
    go_wp2
    go_quiet (fail)
    go_wp2
    go_ret
    refine ⟨?_, _, rfl⟩
    rw [digits_cut' hq9, digits_cut' hm9]
    unfold M.dec
    rw [if_neg (by omega), show (k : Int).toNat = k from rfl, hq, hm]
    rfl
end Go.Proofs.YtelpepbpdojikaaGreatDoor
