/- Parts of the proofs about chapter 5 (pool), joined by program. -/
import Derived.Test.YtelpepbpdojikaaGreatDoorKg2
import Derived.Test.YtelpepbpdojikaaGreatDoorKz0
set_option linter.unusedVariables false
set_option linter.unusedSimpArgs false
namespace Go.Proofs.YtelpepbpdojikaaGreatDoor
open Go.RowKit
section
variable {w w':World} {S S':Nat→Prop} {A:Option Addr} {c:Nat} {l:List Sh}
end
section
variable {w w':World} {S S':Nat→Prop} {A:Option Addr} {c:Nat} {zs:List Int} {ps:List M.rD}
end
theorem Zc {P:Program} {f:FuncId} {args:Array Value} {w:World} {a n:Nat} {v:Value}
 (h:Calls P f args (w.drewN (a+n)) fun e w'=>e= .returned v∧w.drewN (a+n)=w'):
 Calls P f args (w.drewN (a+n)) fun e w''=>e= .returned v∧∃ m,w''=w.drewN (a+m):=
 h.mono fun _ _ ⟨he,hm⟩=>⟨he,n,hm.symm⟩
section
variable {w B W W':World} {nb:Nat}
theorem Keeps.of3 (w:World) (o p q:Obj):Keeps w (((w.alloc o).alloc p).alloc q) 3 (((w.alloc o).alloc p).alloc q):= .of ((((Below.refl _ _).alloc (Nat.le_refl _) _).alloc (by simp) _).alloc (by simp;omega) _) (by simp)
end
end Go.Proofs.YtelpepbpdojikaaGreatDoor
