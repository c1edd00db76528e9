/- Parts of the proofs about chapter 5 (pool), joined by program. -/
import Derived.Test.YtelpepbpdojikaaGreatDoorKg0
set_option linter.unusedVariables false
set_option linter.unusedSimpArgs false
namespace Go.Proofs.YtelpepbpdojikaaGreatDoor
namespace M
section
variable {r:Rules} {n:Int} {s:State} {x:aI}
theorem State.eq_iff {a b:State}:a.eq b=true↔a=b:=by
 unfold State.eq
 rw [decide_eq_true_eq]
 constructor
 · rintro ⟨h1,h2,h3,h4,h5,h6,h7,h8,h9,h10,h11,h12,h13,Xo,h15⟩
   cases a;cases b
   simp only at h1 h2 h3 h4 h5 h6 h7 h8 h9 h10 h11 h12 h13 Xo h15
   subst h1 h2 h3 h4 h5 h6 h7 h8 h9 h10 h11 h12 h13 Xo h15
   rfl
 · rintro rfl;simp
end
end M
end Go.Proofs.YtelpepbpdojikaaGreatDoor
