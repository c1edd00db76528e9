/- Parts of a proof. -/
import Derived.Test.YtjbbfmofpjflmaaGreatDoorKb20
import Derived.Test.YtjbbfmofpjflmaaGreatDoorKg0
set_option linter.unusedVariables false
set_option linter.unusedSimpArgs false
namespace Go.Proofs.YtjbbfmofpjflmaaGreatDoor
open Go.RowKit
theorem ai8 (c:Int) (hn:c.toNat<Sk.cO.length):Sk.gQ c=Sk.cO[c.toNat]'hn:=by
 unfold Sk.gQ
 rw [List.getD_eq_getElem?_getD,List.getElem?_eq_getElem hn]
 rfl
theorem afa (w:World):Calls Tryz.prog 52 #[] w fun e w'=>∃ G,e= .returned (.slice (some ⟨G,0,none⟩) 8 8)∧(∀ k (hk:k<Sk.cO.length),w'.cell? ⟨G,k,none⟩=some (.string (Sk.cO[k]'hk)))∧Below w.heap.size w w':=by
 refine (JB w).mono ?_
 rintro e w' ⟨rfl,rfl⟩
 refine ⟨_,rfl,fun k hk=>?_,(Below.refl _ _).alloc (Nat.le_refl _) _⟩;have h:=jW w 9 (Sk.cO.map Value.string) w.heap.size rfl k (.string (Sk.cO[k]'hk)) (by rw [List.getElem?_map,List.getElem?_eq_getElem hk];rfl)
 rwa [oJ,Nat.zero_add] at h
end Go.Proofs.YtjbbfmofpjflmaaGreatDoor
