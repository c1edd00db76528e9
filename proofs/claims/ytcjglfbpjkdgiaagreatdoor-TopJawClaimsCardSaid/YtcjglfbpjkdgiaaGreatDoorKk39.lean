/- Parts of a proof. -/
import Derived.Test.YtcjglfbpjkdgiaaGreatDoorKk11
set_option linter.unusedVariables false
set_option linter.unusedSimpArgs false
namespace Go.Proofs.YtcjglfbpjkdgiaaGreatDoor
open Go.RowKit
theorem jv {W0 W W':World} (h:Below W0.heap.size W0 W) (hb:Below W.heap.size W W'):Below W0.heap.size W0 W':=h.trans (hb.mono h.size)
theorem pV {W:World} {g g' o q:Nat} {v:Value} (h:g≠g'):(W.setCell ⟨g',o,none⟩ v).cell? ⟨g,q,none⟩=W.cell? ⟨g,q,none⟩:=World.cell?_of_block (Below.heap_setCell W ⟨g',o,none⟩ v g h)
theorem flat_get {α:Type} (f:α→List Value) (n:Nat) (hf:∀ a,(f a).length=n) (l:List α) (k:Nat) (hk:k<l.length) (j:Nat) (hj:j<n):(l.flatMap f)[k*n+j]? =(f l[k])[j]? :=by
 have hlen:∀ m:List α,(m.flatMap f).length=m.length*n:=fun m=>by
  induction m with
  | nil=>simp
  | cons a m ih=>rw [List.flatMap_cons,List.length_append,ih,hf,List.length_cons,Nat.succ_mul];omega
 have h:l.flatMap f=(l.take k).flatMap f++(f l[k]++(l.drop (k+1)).flatMap f):=by
  conv=>lhs;rw [← List.take_append_drop k l,List.drop_eq_getElem_cons hk]
  rw [List.flatMap_append,List.flatMap_cons]
 have hl:((l.take k).flatMap f).length=k*n:=by rw [hlen,List.length_take,Nat.min_eq_left (Nat.le_of_lt hk)]
 rw [h,List.getElem?_append_right (by omega),hl,List.getElem?_append_left (by rw [hf];omega)]
 congr 1
 omega
theorem vC {α:Type} {f:α→List Value} {n:Nat} (hf:∀ a,(f a).length=n) {l:List α} {W:World} {b o:Nat} (hc:∀ j u,(l.flatMap f)[j]? =some u→W.cell? ⟨b,o+j,none⟩=some u) (k:Nat) (hk:k<l.length):W.rangeAt b (o+k*n) (f l[k]):=fun j v hj=>by
 have hjn:j<n:=by have:=(List.getElem?_eq_some_iff.1 hj).1;rwa [hf] at this
 rw [Nat.add_assoc];exact hc _ _ ((flat_get f n hf l k hk j hjn).trans hj)
end Go.Proofs.YtcjglfbpjkdgiaaGreatDoor
