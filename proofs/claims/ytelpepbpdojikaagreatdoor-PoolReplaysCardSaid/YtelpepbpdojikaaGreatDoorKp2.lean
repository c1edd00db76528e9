/- Parts of the proofs about chapter 5 (pool), joined by program. -/
import Derived.Test.YtelpepbpdojikaaGreatDoorKq2
set_option maxHeartbeats 800000
set_option maxRecDepth 100000
set_option linter.unusedVariables false
set_option linter.unusedSimpArgs false
namespace Go.Proofs.YtelpepbpdojikaaGreatDoor
open Go.RowKit
theorem aed (r:M.Rules) (x:M.aI) (A:Option Addr) (c:Nat) (w:World):Calls Tryz.prog 98 #[jM r,iO x A c] w fun e w'=>e= .returned (.bool (M.calls r x))∧Below w.heap.size w w':=by
 obtain ⟨g,tg,fo⟩:=r
 obtain ⟨pl,kd,ba,po,fi,cu,aA⟩:=x
 by_cases h1:kd=M.jO
 · subst h1
   by_cases h2:g=M.bM
   · subst h2
     go_enter Tryz.func98,Tryz.ntmps98
     go_wp2
     go_ret
     exact ⟨bZ (by simp [M.calls]),((Below.refl _ _).alloc (Nat.le_refl _) _).alloc (by simp) _⟩
   · have h2':=bQ h2
     go_enter Tryz.func98,Tryz.ntmps98
     go_wp2
     go_ret
     exact ⟨bZ (by simp [M.calls, *]),((Below.refl _ _).alloc (Nat.le_refl _) _).alloc (by simp) _⟩
 · have h1':=bQ h1
   go_enter Tryz.func98,Tryz.ntmps98
   go_wp2
   go_ret
   exact ⟨bZ (by simp [M.calls, *]),((Below.refl _ _).alloc (Nat.le_refl _) _).alloc (by simp) _⟩
end Go.Proofs.YtelpepbpdojikaaGreatDoor
