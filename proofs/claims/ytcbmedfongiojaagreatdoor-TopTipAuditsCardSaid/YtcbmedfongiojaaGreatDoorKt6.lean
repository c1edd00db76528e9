/- Parts of a proof. -/
import Derived.Deep.LoopGhost
import Derived.Shelf.Abstract
import Derived.Test.YtcbmedfongiojaaGreatDoorKt2
set_option linter.unusedVariables false
set_option linter.unusedSimpArgs false
namespace Go.Proofs.YtcbmedfongiojaaGreatDoor
open Go.RowKit
def wh (b:Bool) (e:Int):Int:=if b then e else 0
def wi (n a b:Int):Int:=wh (M.out n a b) 3
def jK:List Int→Int
 | []=>0
 | e::l=>if e≠0 then e else jK l
theorem vg {l:List Int} {k:Nat} (hk:k<l.length):jK (l.drop k)=if l[k]≠0 then l[k] else jK (l.drop (k+1)):=by
 rw [List.drop_eq_getElem_cons hk,jK]
theorem kX.lit (W:World) (t:TypeId) (zs:List Int) (hz:zs.length≤1000) (S:Nat→Prop) (hS:S W.heap.size):kX (W.alloc (.cells (zs.map (Value.int .i64)).toArray t)) S (some ⟨W.heap.size,0,none⟩) zs.length zs:=
 ⟨Nat.le_refl _,by omega,by omega,by simp,fun _=>⟨W.heap.size,0,rfl,hS,by simp,fun j u hu=>by
  have:=jU W t (zs.map (Value.int .i64)) W.heap.size rfl j u hu
  rwa [qB] at this⟩⟩
def NJ {α:Type} (g:Nat) (lb:Array Value) (enc:α→Value) (p:α→Bool) (w:World):Prop:=
 (∀ args w,(callFunc g args).run Tryz.prog w= .ok (.enter g args) w)∧∀ W x,Below w.heap.size w W→Calls Tryz.prog g (#[enc x]++lb) W fun e w'=>e= .returned (.bool (p x))∧Below w.heap.size w w'
@[reducible] def U3 (p:M.Dt):Value:= .agg #[.int .i64 p.bC,.int .i64 p.kC]
theorem Bh {α:Type} {l:List α} {p:α→Bool} {k:Nat} (hk:k<l.length) (h:(l.take k).any p=false) (hx:p l[k]=false):(l.take (k+1)).any p=false:=by
 rw [List.take_succ_eq_append_getElem hk,List.any_append,h];simp [hx]
theorem Dw {α:Type} {l:List α} {p:α→Bool} {k:Nat} (hk:k<l.length) (hx:p l[k]=true):l.any p=true:=
 List.any_eq_true.2 ⟨l[k],List.getElem_mem hk,hx⟩
end Go.Proofs.YtcbmedfongiojaaGreatDoor
