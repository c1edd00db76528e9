/- Parts of the proofs about chapter 5 (pool), joined by program. -/
import Derived.Test.YtelpepbpdojikaaGreatDoorKg27
import Derived.Test.YtelpepbpdojikaaGreatDoorKz6
import Derived.Test.YtelpepbpdojikaaGreatDoorKz7
set_option linter.unusedVariables false
set_option linter.unusedSimpArgs false
namespace Go.Proofs.YtelpepbpdojikaaGreatDoor
open Go.RowKit
def smN (r:M.Rules) (l:List Sh):List M.Note:=M.notes r (M.start r) 1 (plain l)
def amc (a b:Int) (v:Value) (W:World):Prop:=∃ B cs,v=ptr B∧Held W B cs 33∧cs[7]? =some (.int .i64 a)∧cs[8]? =some (.int .i64 b)
theorem amc.below {a b:Int} {v:Value} {W W':World} (h:amc a b v W) (hb:Below W.heap.size W W'):amc a b v W':=by
 obtain ⟨B,cs,h1,h2,h3⟩:=h
 exact ⟨B,cs,h1,h2.below hb,h3⟩
structure SmD (W0:World) (r:M.Rules) (l:List Sh) (Al:Option Addr) (cl:Nat) (v1 v2 v7:Value) (W:World):Prop where
 e1:v1= .slice Al l.length cl
 e2:v2=ptr W0.heap.size
 h2:Held W W0.heap.size [.string r.game,.int .i64 r.target,.int .i64 r.aY] 23
 rl:Reads W (fun _=>True) 7 Al l.length cl (l.flatMap au)
 b7:amc (M.sumOf 0 (smN r l)) (M.sumOf 1 (smN r l)) v7 W
 len:l.length≤24
 log:∀ x∈plain l,M.cZ x=0
 bw:Below W0.heap.size W0 W
theorem SmD.below {W0 W W':World} {r:M.Rules} {l:List Sh} {Al:Option Addr} {cl:Nat} {v1 v2 v7:Value} (h:SmD W0 r l Al cl v1 v2 v7 W) (hb:Below W.heap.size W W'):SmD W0 r l Al cl v1 v2 v7 W':=
 ⟨h.e1,h.e2,h.h2.below hb,Reads.below h.rl hb,h.b7.below hb,h.len,h.log,apC h.bw hb⟩
theorem ag4 (a:Sh):(au a).length=7:=rfl
end Go.Proofs.YtelpepbpdojikaaGreatDoor
