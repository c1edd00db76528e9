/- Parts of the proofs about chapter 5 (pool), joined by program. -/
import Derived.Test.YtelpepbpdojikaaGreatDoorKg21
import Derived.Test.YtelpepbpdojikaaGreatDoorKp0
import Derived.Test.YtelpepbpdojikaaGreatDoorKp2
set_option linter.unusedVariables false
set_option linter.unusedSimpArgs false
namespace Go.Proofs.YtelpepbpdojikaaGreatDoor
open Go.RowKit
theorem ajN {W:World} {g:Nat} {cs:List Value} {t:TypeId} {d:TypeDesc} {fn:Func} {p u:Tmp} (h:Held W g cs t) (hu:Tryz.prog.underlying t=some d) (hd:d.isRow=true) (hi:(Tryz.prog.info? t).map (·.size)=some cs.length) (hr:fn.results= #[.cell p t,.tmp u]) (tmps:Array Value) (hp:tmps.getD p undef= .pointer (some ⟨g,0,none⟩)):
 (results fn tmps).run Tryz.prog W= .ok (.tuple #[.agg cs.toArray,tmps.getD u undef]) W:=by
 rw [results_cell_tmp hr,hp]
 simp only [asAddr,Sem.run_pure,Result.andThen_ok,run_loadVar_row W g t t cs.toArray (0,0) d h hu (by cases d <;> first | rfl | cases hd) (by rw [jD rfl rfl];exact hi)]
end Go.Proofs.YtelpepbpdojikaaGreatDoor
