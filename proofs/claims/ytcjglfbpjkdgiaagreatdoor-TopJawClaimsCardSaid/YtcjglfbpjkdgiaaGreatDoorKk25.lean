/- Parts of a proof. -/
import Derived.Test.YtcjglfbpjkdgiaaGreatDoorKk16
import Derived.Test.YtcjglfbpjkdgiaaGreatDoorKk24
set_option linter.unusedVariables false
set_option linter.unusedSimpArgs false
namespace Go.Proofs.YtcjglfbpjkdgiaaGreatDoor
open Go.RowKit
def Zu:List Value:=[.int .i64 0,.string ⟨#[]⟩,.int .i64 0,.int .i64 0,.int .i64 0,.bool false,.slice none 0 0]
theorem uf (x:M.aV) (A:Option Addr) (c:Nat):∀ v∈aA ⟨x,A,c⟩,v.oneCell'=true:=by simp [aA,Value.oneCell']
theorem Ae:(Tryz.prog.info? 36).map (·.size)=some 7:=by kernel_rfl
theorem Og:(Tryz.prog.info? 72).map (fun i=>(i.zero,i.size,i.bytes))=some (some (.agg #[.int .i64 0,.int .i64 0]),2,16):=by kernel_rfl
def zo (x:M.aV) (k:Nat):M.aV:={x with aC:=x.aC.take k }
theorem KA (x:M.aV):zo x x.aC.length=x:=by unfold zo;rw [List.take_length]
end Go.Proofs.YtcjglfbpjkdgiaaGreatDoor
