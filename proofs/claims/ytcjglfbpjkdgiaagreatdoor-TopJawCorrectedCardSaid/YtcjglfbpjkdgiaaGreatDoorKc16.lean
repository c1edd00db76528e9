/- Parts of a proof. -/
import Derived.Lib.SplitLaws
import Derived.Test.YtcjglfbpjkdgiaaGreatDoorKc14
set_option linter.unusedVariables false
set_option linter.unusedSimpArgs false
namespace Go.Proofs.YtcjglfbpjkdgiaaGreatDoor
open Go.RowKit
theorem Qa:(Tryz.prog.info? 71).map (fun i=>(i.zero,i.size,i.bytes))=some (some (.agg #[.int .i64 0,.int .i64 0]),2,16):=by kernel_rfl
theorem rX:∀ (l cur:List UInt8),(M.eY cur l).length=l.count 32+1
 | [],cur=>by simp [M.eY]
 | c::l,cur=>by
   rw [M.eY]
   by_cases h:c=32
   · subst h
     rw [if_pos rfl,List.length_cons,rX l,List.count_cons_self]
   · rw [if_neg h,rX l,List.count_cons_of_ne h]
end Go.Proofs.YtcjglfbpjkdgiaaGreatDoor
