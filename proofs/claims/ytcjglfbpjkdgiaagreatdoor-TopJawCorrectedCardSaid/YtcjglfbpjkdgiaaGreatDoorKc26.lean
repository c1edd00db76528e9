/- Parts of a proof. -/
import Derived.Test.YtcjglfbpjkdgiaaGreatDoorKc16
import Derived.Test.YtcjglfbpjkdgiaaGreatDoorKc17
import Derived.Test.YtcjglfbpjkdgiaaGreatDoorKc20
set_option linter.unusedVariables false
set_option linter.unusedSimpArgs false
namespace Go.Proofs.YtcjglfbpjkdgiaaGreatDoor
open Go.RowKit
theorem yD (l:List UInt8):∀ w∈M.words l,w.length≤l.length:=by
 have key:∀ (l cur:List UInt8),∀ w∈M.eY cur l,w.length≤cur.length+l.length:=by
  intro l
  induction l with
  | nil=>intro cur w hw;rw [M.eY,List.mem_singleton] at hw;subst hw;simp
  | cons c l ih=>
    intro cur w hw;rw [M.eY] at hw
    split at hw
    · rcases List.mem_cons.1 hw with rfl | hw
      · omega
      · have:=ih [] w hw;simp at this ⊢;omega
    · have:=ih _ w hw;simp at this ⊢;omega
 intro w hw
 simpa using key l [] w hw
end Go.Proofs.YtcjglfbpjkdgiaaGreatDoor
