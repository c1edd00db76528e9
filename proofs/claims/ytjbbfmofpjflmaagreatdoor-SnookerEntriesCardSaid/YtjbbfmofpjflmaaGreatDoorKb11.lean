/- Parts of a proof. -/
import Derived.Laws.Strings
import Derived.Test.YtjbbfmofpjflmaaGreatDoorKb0
set_option linter.unusedVariables false
set_option linter.unusedSimpArgs false
namespace Go.Proofs.YtjbbfmofpjflmaaGreatDoor
namespace M
theorem toList_mk (l:List UInt8):(ByteArray.mk l.toArray).toList=l:=by rw [ByteArray.toList_eq]
section
variable {x:gy}
theorem flat_length (l:List (List UInt8)) (h:∀ w∈l,w.length≤6):(l.flatMap fun b=>(32:UInt8)::b).length≤7*l.length:=by
 induction l with
 | nil=>simp
 | cons w l ih=>
   have h1:=h w List.mem_cons_self;have h2:=ih (fun v hv=>h v (List.mem_cons_of_mem _ hv))
   simp only [List.flatMap_cons,List.length_append,List.length_cons]
   omega
end
end M
end Go.Proofs.YtjbbfmofpjflmaaGreatDoor
