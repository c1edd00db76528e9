/- Parts of the proofs about chapter 5 (pool), joined by program. -/
import Derived.Test.YtelpepbpdojikaaGreatDoorKg9
import Derived.Test.YtelpepbpdojikaaGreatDoorKk1
set_option linter.unusedVariables false
set_option linter.unusedSimpArgs false
namespace Go.Proofs.YtelpepbpdojikaaGreatDoor
open Go.RowKit
theorem FQ (x:M.aI):(M.objects x).length≤x.aA.length:=zJ x.aA
theorem aeE (S:Nat→Prop) (A:Option Addr) (c:Nat) (zs:List Int) (x:Int) (w:World) (h:bD w S A c zs) (hm:x∈zs):
 Calls Tryz.prog 54 #[.slice A zs.length c,.int .i64 x] w fun r w'=>r= .returned (.bool true)∧w=w':=by
 have:=Zw S A c zs x w h;rwa [decide_eq_true hm] at this
theorem ael (S:Nat→Prop) (A:Option Addr) (c:Nat) (zs:List Int) (x:Int) (w:World) (h:bD w S A c zs) (hm:x ∉ zs):
 Calls Tryz.prog 54 #[.slice A zs.length c,.int .i64 x] w fun r w'=>r= .returned (.bool false)∧w=w':=by
 have:=Zw S A c zs x w h;rwa [decide_eq_false hm] at this
end Go.Proofs.YtelpepbpdojikaaGreatDoor
