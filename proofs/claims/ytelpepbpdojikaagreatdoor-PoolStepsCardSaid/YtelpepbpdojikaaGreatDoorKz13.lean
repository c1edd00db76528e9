/- Parts of the proofs about chapter 5 (pool), joined by program. -/
import Derived.Test.YtelpepbpdojikaaGreatDoorKg10
import Derived.Test.YtelpepbpdojikaaGreatDoorKz5
set_option linter.unusedVariables false
set_option linter.unusedSimpArgs false
namespace Go.Proofs.YtelpepbpdojikaaGreatDoor
open Go.RowKit
theorem apC {W0 W W':World} (h:Below W0.heap.size W0 W) (hb:Below W.heap.size W W'):Below W0.heap.size W0 W':=h.trans (hb.mono h.size)
def acr (size:Nat) (xs:List Value) (n:Nat) (v:Value) (W:World):Prop:=∃ A c,v= .slice A n c∧Reads W (fun _=>True) size A n c xs
theorem acr.below {size n:Nat} {xs:List Value} {v:Value} {W W':World} (h:acr size xs n v W) (hb:Below W.heap.size W W'):acr size xs n v W':=by
 obtain ⟨A,c,h1,h2⟩:=h
 exact ⟨A,c,h1,Reads.below h2 hb⟩
def an0 (a b:Int) (v:Value) (W:World):Prop:=∃ B,v=ptr B∧Held W B [.int .i64 a,.int .i64 b] 31
theorem an0.below {a b:Int} {v:Value} {W W':World} (h:an0 a b v W) (hb:Below W.heap.size W W'):an0 a b v W':=by
 obtain ⟨B,h1,h2⟩:=h
 exact ⟨B,h1,h2.below hb⟩
theorem flat_get {α:Type} (f:α→List Value) (n:Nat) (hf:∀ a,(f a).length=n) (l:List α) (k:Nat) (hk:k<l.length) (j:Nat) (hj:j<n):(l.flatMap f)[k*n+j]? =(f l[k])[j]? :=by
 have hlen:∀ m:List α,(m.flatMap f).length=m.length*n:=fun m=>by
  induction m with
  | nil=>simp
  | cons a m ih=>rw [List.flatMap_cons,List.length_append,ih,hf,List.length_cons,Nat.succ_mul];omega
 have h:l.flatMap f=(l.take k).flatMap f++(f l[k]++(l.drop (k+1)).flatMap f):=by
  conv=>lhs;rw [← List.take_append_drop k l,List.drop_eq_getElem_cons hk]
  rw [List.flatMap_append,List.flatMap_cons]
 have hl:((l.take k).flatMap f).length=k*n:=by rw [hlen,List.length_take,Nat.min_eq_left (Nat.le_of_lt hk)]
 rw [h,List.getElem?_append_right (by omega),hl,List.getElem?_append_left (by rw [hf];omega)]
 congr 1
 omega
theorem abv {α:Type} {f:α→List Value} {n:Nat} (hf:∀ a,(f a).length=n) {l:List α} {W:World} {b o:Nat} (hc:∀ j u,(l.flatMap f)[j]? =some u→W.cell? ⟨b,o+j,none⟩=some u) (k:Nat) (hk:k<l.length):W.rangeAt b (o+k*n) (f l[k]):=fun j v hj=>by
 have hjn:j<n:=by have:=(List.getElem?_eq_some_iff.1 hj).1;rwa [hf] at this
 rw [Nat.add_assoc]
 exact hc _ _ ((flat_get f n hf l k hk j hjn).trans hj)
end Go.Proofs.YtelpepbpdojikaaGreatDoor
