/- Parts of the proofs about chapter 5 (pool), joined by program. -/
import Derived.Deep.DeepCutAuto
import Derived.Test.YtelpepbpdojikaaGreatDoorKm1
set_option maxHeartbeats 800000
set_option maxRecDepth 100000
set_option linter.unusedVariables false
set_option linter.unusedSimpArgs false
namespace Go.Proofs.YtelpepbpdojikaaGreatDoor
open Go.RowKit
theorem ZU (r:M.Rules) (w:World):Calls Tryz.prog 37 #[jM r] w fun e w'=>e= .returned (.int .i64 (M.aH r))∧Below w.heap.size w w':=by
 obtain ⟨g,tg,fo⟩:=r
 rcases E8 g with rfl | rfl | rfl | ⟨h0,h1,h2,hk⟩
 all_goals
  go_enter Tryz.func37,Tryz.ntmps37
  go_wp2_with (go_at_call 78;refine (sF _ _ _ _).mono ?_;rintro e w1 ⟨rfl,rfl⟩)
  all_goals
   go_ret
   refine ⟨dG ?_,(Below.refl _ _).alloc (Nat.le_refl _) _⟩
   first | (simp [M.aH,M.rP, *];done) | (simp_all [M.aH,M.rP];done)
theorem adT (r:M.Rules) (x:M.aI) (A:Option Addr) (c:Nat) (w:World):Calls Tryz.prog 98 #[jM r,iO x A c] w fun e w'=>e= .returned (.bool (M.calls r x))∧Below w.heap.size w w':=by
 obtain ⟨g,tg,fo⟩:=r
 obtain ⟨pl,kd,ba,po,fi,cu,aA⟩:=x
 by_cases h1:kd=M.jO
 · subst h1
   by_cases h2:g=M.bM
   · subst h2
     go_enter Tryz.func98,Tryz.ntmps98
     go_wp2
     go_ret
     exact ⟨bZ (by simp [M.calls]),((Below.refl _ _).alloc (Nat.le_refl _) _).alloc (by simp) _⟩
   · have h2':=bQ h2
     go_enter Tryz.func98,Tryz.ntmps98
     go_wp2
     go_ret
     exact ⟨bZ (by simp [M.calls, *]),((Below.refl _ _).alloc (Nat.le_refl _) _).alloc (by simp) _⟩
 · have h1':=bQ h1
   go_enter Tryz.func98,Tryz.ntmps98
   go_wp2
   go_ret
   exact ⟨bZ (by simp [M.calls, *]),((Below.refl _ _).alloc (Nat.le_refl _) _).alloc (by simp) _⟩
theorem ahY (s:M.State) (A:Option Addr) (c:Nat) (w:World) (hg:0≤s.group∧s.group≤2):Calls Tryz.prog 104 #[wF s A c] w fun e w'=>e= .returned (.int .i64 (M.own s))∧Below w.heap.size w w':=by
 obtain ⟨a0,a1,a2,a3,a4,gr,bl,b0,b1,b2,b3,b4,b5,b6,b7⟩:=s
 obtain ⟨hg1,hg2⟩:=hg
 simp only at hg1 hg2
 go_enter Tryz.func104,Tryz.ntmps104
 go_wp2
 all_goals
  go_ret
  exact ⟨dG (by first | (simp [M.own, *];done) | (simp_all [M.own];done)),(Below.refl _ _).alloc (Nat.le_refl _) _⟩
end Go.Proofs.YtelpepbpdojikaaGreatDoor
