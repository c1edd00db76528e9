/- Parts of a proof. -/
import Derived.Test.YtcjglfbpjkdgiaaGreatDoorKc19
import Derived.Test.YtcjglfbpjkdgiaaGreatDoorKc20
set_option linter.unusedVariables false
set_option linter.unusedSimpArgs false
namespace Go.Proofs.YtcjglfbpjkdgiaaGreatDoor
open Go.RowKit
theorem Held.sub {W:World} {g:Nat} {cs:List Value} {t:TypeId} (h:Held W g cs t) (o:Nat) (mid:List Value) (hm:∀ j v,mid[j]? =some v→cs[o+j]? =some v):W.rangeAt g o mid:=fun j v hj=>h.cell (hm j v hj)
theorem CU (r:M.Rules) (s:M.State) (A:Option Addr) (c:Nat):∀ j v,(aO s A c)[j]? =some v→(aj r s A c)[3+j]? =some v:=by
 intro j v hj;rw [show aj r s A c=[.string r.game,.int .i64 r.target,.int .i64 r.bG]++aO s A c from rfl,List.getElem?_append_right (by simp)]
 simpa using hj
end Go.Proofs.YtcjglfbpjkdgiaaGreatDoor
