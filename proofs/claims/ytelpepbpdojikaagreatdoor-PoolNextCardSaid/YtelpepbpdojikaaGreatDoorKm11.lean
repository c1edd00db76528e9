/- Parts of the proofs about chapter 5 (pool), joined by program. -/
import Derived.Test.YtelpepbpdojikaaGreatDoorKg15
import Derived.Test.YtelpepbpdojikaaGreatDoorKm5
set_option linter.unusedVariables false
set_option linter.unusedSimpArgs false
namespace Go.Proofs.YtelpepbpdojikaaGreatDoor
open Go.RowKit
theorem aCL (a b:Int):aU [a,b]=if a≠0 then a else b:=by
 unfold aU;split
 · rfl
 · by_cases h:b=0 <;> simp [aU,h]
theorem aeJ {a b:Int} (h:aU [a,b]=0):a=0∧b=0:=by
 rw [aCL] at h
 by_cases ha:a=0
 · rw [if_neg (by simp [ha])] at h;exact ⟨ha,h⟩
 · rw [if_pos ha] at h;exact absurd h ha
end Go.Proofs.YtelpepbpdojikaaGreatDoor
