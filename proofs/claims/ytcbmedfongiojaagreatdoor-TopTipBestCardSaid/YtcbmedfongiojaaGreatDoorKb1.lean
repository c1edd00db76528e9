/- Parts of a proof. -/
import Derived.Test.YtcbmedfongiojaaGreatDoorKt0
set_option linter.unusedVariables false
set_option linter.unusedSimpArgs false
namespace Go.Proofs.YtcbmedfongiojaaGreatDoor
namespace Sk
theorem abT (s:State) (p:Int):0≤needed s p∧score s (1 - p) - score s p - left s≤4*needed s p∧(0<needed s p→4*(needed s p - 1)<score s (1 - p) - score s p - left s):=by
 unfold needed
 obtain ⟨b,hb⟩:∃ b,score s (1 - p) - score s p - left s=b:=⟨_,rfl⟩;rw [hb]
 rcases Int.lt_or_le (b+4 - 1) 0 with h | h
 · have:(b+4 - 1).tdiv 4≤0:=by
    have:=Int.neg_tdiv (-(b+4 - 1)) 4
    rw [Int.neg_neg] at this;rw [this,Int.tdiv_eq_ediv_of_nonneg (by omega)]
    omega
   omega
 · rw [Int.tdiv_eq_ediv_of_nonneg h]
   omega
end Sk
namespace Sk
theorem abL (s:State) (p:Int):decide (needed s p=0)=decide (score s (1 - p)≤score s p+left s):=by
 obtain ⟨h1,h2,h3⟩:=abT s p;rw [decide_eq_decide]
 constructor
 · intro h;rw [h] at h2;omega
 · intro h
   rcases Int.lt_or_le 0 (needed s p) with h4 | h4
   · have:=h3 h4;omega
   · omega
end Sk
end Go.Proofs.YtcbmedfongiojaaGreatDoor
