/- Parts of the proofs about chapter 5 (pool), joined by program. -/
import Derived.Test.YtelpepbpdojikaaGreatDoorKe0
import Derived.Test.YtelpepbpdojikaaGreatDoorKe20
import Derived.Test.YtelpepbpdojikaaGreatDoorKe23
import Derived.Test.YtelpepbpdojikaaGreatDoorKe27
import Derived.Test.YtelpepbpdojikaaGreatDoorKe28
set_option linter.unusedVariables false
set_option linter.unusedSimpArgs false
namespace Go.Proofs.YtelpepbpdojikaaGreatDoor
open Go.RowKit
theorem state_sub (r : M.Rules) (s : M.State) (A : Option Addr) (c : Nat) : ∀ j v, (stateCells s A c)[j]? = some v → (frameCells r s A c)[3 + j]? = some v := by
  intro j v hj
  rw [show frameCells r s A c = [.string r.game, .int .i64 r.target, .int .i64 r.fouls] ++ stateCells s A c from rfl, List.getElem?_append_right (by simp)]
  simpa using hj
end Go.Proofs.YtelpepbpdojikaaGreatDoor
