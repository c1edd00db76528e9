/- Parts of a proof. -/
import Derived.Deep.LoopGhost
import Derived.Shelf.Abstract
import Derived.Test.YtjbbfmofpjflmaaGreatDoorKb2
set_option linter.unusedVariables false
set_option linter.unusedSimpArgs false
namespace Go.Proofs.YtjbbfmofpjflmaaGreatDoor
open Go.RowKit
def wh (b:Bool) (e:Int):Int:=if b then e else 0
def wi (n a b:Int):Int:=wh (M.out n a b) 3
def ou:List Int→Int
 | []=>0
 | e::l=>if e≠0 then e else ou l
theorem D5 {l:List Int} {k:Nat} (hk:k<l.length):ou (l.drop k)=if l[k]≠0 then l[k] else ou (l.drop (k+1)):=by
 rw [List.drop_eq_getElem_cons hk,ou]
theorem jV.lit (W:World) (t:TypeId) (zs:List Int) (hz:zs.length≤1000) (S:Nat→Prop) (hS:S W.heap.size):jV (W.alloc (.cells (zs.map (Value.int .i64)).toArray t)) S (some ⟨W.heap.size,0,none⟩) zs.length zs:=
 ⟨Nat.le_refl _,by omega,by omega,by simp,fun _=>⟨W.heap.size,0,rfl,hS,by simp,fun j u hu=>by
  have:=jW W t (zs.map (Value.int .i64)) W.heap.size rfl j u hu
  rwa [oJ] at this⟩⟩
end Go.Proofs.YtjbbfmofpjflmaaGreatDoor
