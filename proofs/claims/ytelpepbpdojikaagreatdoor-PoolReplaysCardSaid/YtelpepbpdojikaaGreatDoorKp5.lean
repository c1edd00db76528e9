/- Parts of the proofs about chapter 5 (pool), joined by program. -/
import Derived.Test.YtelpepbpdojikaaGreatDoorKq5
set_option linter.unusedVariables false
set_option linter.unusedSimpArgs false
namespace Go.Proofs.YtelpepbpdojikaaGreatDoor
namespace M
section
variable {r:Rules} {n:Int} {s:State} {x:aI}
theorem aoS (hl:¬ legal r s x=0):note r s n x=⟨n,x.aC,legal r s x,0,0,false⟩:=by unfold note;rw [if_pos hl]
def sumOf (p:Int):List Note→Int
 | []=>0
 | a::l=>(if a.aC=p then a.points else 0)+sumOf p l
theorem adO (r:Rules):∀ (l:List aI) (s:State) (n:Int),(notes r s n l).length=l.length
 | [],s,n=>rfl
 | x::l,s,n=>by rw [notes,List.length_cons,adO,List.length_cons]
end
end M
end Go.Proofs.YtelpepbpdojikaaGreatDoor
