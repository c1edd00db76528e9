/- Parts of a proof. -/
import Derived.Test.YtcjglfbpjkdgiaaGreatDoorKc16
import Derived.Test.YtcjglfbpjkdgiaaGreatDoorKc21
set_option linter.unusedVariables false
set_option linter.unusedSimpArgs false
namespace Go.Proofs.YtcjglfbpjkdgiaaGreatDoor
open Go.RowKit
def XU:List Value:=[.int .i64 0,.string ⟨#[]⟩,.int .i64 0,.int .i64 0,.int .i64 0,.bool false,.slice none 0 0]
theorem uj (x:M.aV) (A:Option Addr) (c:Nat):∀ v∈aB ⟨x,A,c⟩,v.oneCell'=true:=by simp [aB,Value.oneCell']
theorem xO:(Tryz.prog.info? 36).map (·.size)=some 7:=by kernel_rfl
theorem Jw:(Tryz.prog.info? 72).map (fun i=>(i.zero,i.size,i.bytes))=some (some (.agg #[.int .i64 0,.int .i64 0]),2,16):=by kernel_rfl
def wL (x:M.aV) (k:Nat):M.aV:={x with aF:=x.aF.take k }
theorem GX (x:M.aV):wL x x.aF.length=x:=by unfold wL;rw [List.take_length]
end Go.Proofs.YtcjglfbpjkdgiaaGreatDoor
