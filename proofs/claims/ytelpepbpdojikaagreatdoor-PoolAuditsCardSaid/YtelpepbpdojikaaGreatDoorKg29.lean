/- Parts of the proofs about chapter 5 (pool), joined by program. -/
import Derived.Test.YtelpepbpdojikaaGreatDoorKg20
import Derived.Test.YtelpepbpdojikaaGreatDoorKg21
set_option linter.unusedVariables false
set_option linter.unusedSimpArgs false
namespace Go.Proofs.YtelpepbpdojikaaGreatDoor
open Go.RowKit
theorem Jz (r:M.Rules) (s:M.State) (A:Option Addr) (c:Nat):∀ j v,(aW s A c)[j]? =some v→(ah r s A c)[3+j]? =some v:=by
 intro j v hj
 rw [show ah r s A c=[.string r.game,.int .i64 r.target,.int .i64 r.aY]++aW s A c from rfl,List.getElem?_append_right (by simp)]
 simpa using hj
end Go.Proofs.YtelpepbpdojikaaGreatDoor
