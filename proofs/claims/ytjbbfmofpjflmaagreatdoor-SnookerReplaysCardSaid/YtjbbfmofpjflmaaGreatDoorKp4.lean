/- Parts of a proof. -/
import Derived.Test.YtjbbfmofpjflmaaGreatDoorKp0
import Derived.Test.YtjbbfmofpjflmaaGreatDoorKp1
import Derived.Test.YtjbbfmofpjflmaaGreatDoorKr21
import Derived.Test.YtjbbfmofpjflmaaGreatDoorKr32
set_option maxHeartbeats 1600000
set_option maxRecDepth 100000
set_option linter.unusedVariables false
set_option linter.unusedSimpArgs false
namespace Go.Proofs.YtjbbfmofpjflmaaGreatDoor
open Go.RowKit
theorem abS (S S':Nat→Prop) (a b:List Int) (A B:Option Addr) (c d:Nat) (x n:Int) (hn:x=n) (ha:a=if n=0 then b else []) (w:World) (h1:nI w S A c a) (h2:nI w S' B d b):
 Calls Tryz.prog 29 #[.slice A a.length c,.int .i64 x,.int .i64 n,.slice B b.length d] w fun e w'=>e= .returned (.bool true)∧Below w.heap.size w w':=by
 subst hn
 by_cases h:x=0
 · subst h
   rw [if_pos rfl] at ha;have hs:=uH S S' a b A B c d w h1 h2;rw [decide_eq_true ha] at hs;have HS:=hide hs;clear hs ha h1 h2
   go_enter Tryz.func29,Tryz.ntmps29
   go_wp2_with (go_at_call 61;refine HS.out.mono ?_;rintro e1 w1 ⟨rfl,hb1⟩)
   go_ret;exact ⟨rfl,hb1⟩
 · rw [if_neg h] at ha
   subst ha
   have q1:(x != 0)=true:=by simp [h]
   have q2:(((([]:List Int).length:Nat):Int) == 0)=true:=rfl
   go_enter Tryz.func29,Tryz.ntmps29
   go_wp2;go_ret;exact ⟨rfl,Below.refl _ _⟩
end Go.Proofs.YtjbbfmofpjflmaaGreatDoor
