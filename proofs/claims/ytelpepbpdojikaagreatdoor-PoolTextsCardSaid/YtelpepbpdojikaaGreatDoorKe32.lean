/- Parts of the proofs about chapter 5 (pool), joined by program. -/
import Derived.ChangeKeysEq
import Derived.Test.YtelpepbpdojikaaGreatDoorKe0
import Derived.Test.YtelpepbpdojikaaGreatDoorKe28
import Derived.Test.YtelpepbpdojikaaGreatDoorKe31
set_option linter.unusedVariables false
set_option linter.unusedSimpArgs false
namespace Go.Proofs.YtelpepbpdojikaaGreatDoor
open Go.RowKit
set_option maxRecDepth 100000 in
set_option maxHeartbeats 800000 in
theorem shortShot_any (x : M.Shot) (P : Option Addr) (d : Nat) (w : World) (h : x.pots.length ≤ 17592186044416) :
    Calls Tryz.prog 27 #[shotV x P d] w fun e w' => e = .returned (.bool (decide (x.kind.size ≤ 60 ∧ x.pots.length ≤ 18))) ∧ Below w.heap.size w w' := by
  by_cases h1 : x.kind.size ≤ 60 <;> by_cases h2 : x.pots.length ≤ 18
  all_goals
    go_enter Tryz.func27, Tryz.ntmps27
    have hB := (Blks.nil w).new (by simp) (shCells ⟨x, P, d⟩) 69
    go_wp2
    go_ret
    exact ⟨by first | (simp [h1, h2]; done) | (simp [h1, h2]; omega), hB.bw⟩
end Go.Proofs.YtelpepbpdojikaaGreatDoor
