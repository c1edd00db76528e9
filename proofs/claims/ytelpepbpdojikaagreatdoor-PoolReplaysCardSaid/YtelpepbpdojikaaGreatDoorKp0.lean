/- Parts of the proofs about chapter 5 (pool), joined by program. -/
import Derived.Test.YtelpepbpdojikaaGreatDoorKg2
import Derived.Test.YtelpepbpdojikaaGreatDoorKq0
set_option linter.unusedVariables false
set_option linter.unusedSimpArgs false
namespace Go.Proofs.YtelpepbpdojikaaGreatDoor
open Go.RowKit
section
variable {w w':World} {S S':Nat→Prop} {A:Option Addr} {c:Nat} {l:List Sh}
end
section
variable {w w':World} {S S':Nat→Prop} {A:Option Addr} {c:Nat} {zs:List Int} {ps:List M.rD}
end
theorem abS {P:Program} {f:FuncId} {args:Array Value} {w:World} {a n:Nat} {v:Value}
 (h:Calls P f args (w.drewN (a+n)) fun e w'=>e= .returned v∧w.drewN (a+n)=w'):
 Calls P f args (w.drewN (a+n)) fun e w''=>e= .returned v∧∃ m,w''=w.drewN (a+m):=
 h.mono fun _ _ ⟨he,hm⟩=>⟨he,n,hm.symm⟩
end Go.Proofs.YtelpepbpdojikaaGreatDoor
