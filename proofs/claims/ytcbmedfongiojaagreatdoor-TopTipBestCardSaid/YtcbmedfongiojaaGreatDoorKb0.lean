/- Parts of a proof. -/
import Derived.Test.YtcbmedfongiojaaGreatDoorKt3
set_option linter.unusedVariables false
set_option linter.unusedSimpArgs false
namespace Go.Proofs.YtcbmedfongiojaaGreatDoor
open Go.RowKit Go.ChangeShapes Go.WideShapes
section
variable {H:Type} {enc:TypeId × Value→H} {P:Program} {W:World}
theorem aaK {l m:List Nat} (h:(l++m).all (· ≤reachBytes)=true):m.all (· ≤reachBytes)=true:=by rw [List.all_append,Bool.and_eq_true] at h;exact h.2
theorem aae {l m:List Nat} (h:(l++m).all (· ≤reachBytes)=true):l.all (· ≤reachBytes)=true:=by rw [List.all_append,Bool.and_eq_true] at h;exact h.1
end
end Go.Proofs.YtcbmedfongiojaaGreatDoor
