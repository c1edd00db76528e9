/- Parts of the proofs about chapter 5 (pool), joined by program. -/
import Derived.Test.YtelpepbpdojikaaGreatDoorKg10
import Derived.Test.YtelpepbpdojikaaGreatDoorKm5
set_option linter.unusedVariables false
set_option linter.unusedSimpArgs false
namespace Go.Proofs.YtelpepbpdojikaaGreatDoor
open Go.RowKit
def am2 (size:Nat) (xs:List Value) (n:Nat) (v:Value) (W:World):Prop:=∃ A c,v= .slice A n c∧Reads W (fun _=>True) size A n c xs
theorem am2.below {size n:Nat} {xs:List Value} {v:Value} {W W':World} (h:am2 size xs n v W) (hb:Below W.heap.size W W'):am2 size xs n v W':=by
 obtain ⟨A,c,h1,h2⟩:=h
 exact ⟨A,c,h1,Reads.below h2 hb⟩
def aBw (a b:Int) (v:Value) (W:World):Prop:=∃ B,v=ptr B∧Held W B [.int .i64 a,.int .i64 b] 31
theorem aBw.below {a b:Int} {v:Value} {W W':World} (h:aBw a b v W) (hb:Below W.heap.size W W'):aBw a b v W':=by
 obtain ⟨B,h1,h2⟩:=h
 exact ⟨B,h1,h2.below hb⟩
theorem Zo {W:World} {g g' o q:Nat} {v:Value} (h:g≠g'):(W.setCell ⟨g',o,none⟩ v).cell? ⟨g,q,none⟩=W.cell? ⟨g,q,none⟩:=World.cell?_of_block (Below.heap_setCell W ⟨g',o,none⟩ v g h)
end Go.Proofs.YtelpepbpdojikaaGreatDoor
