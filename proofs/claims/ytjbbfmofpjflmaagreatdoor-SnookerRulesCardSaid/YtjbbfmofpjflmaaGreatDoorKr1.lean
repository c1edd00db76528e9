/- Parts of a proof. -/
import Derived.BigQuiet
import Derived.Deep.QuietTactic
import Derived.Test.YtjbbfmofpjflmaaGreatDoorKr0
set_option linter.unusedVariables false
set_option linter.unusedSimpArgs false
namespace Go.Proofs.YtjbbfmofpjflmaaGreatDoor
open Go.RowKit
section
variable {w w':World} {S S':Nat→Prop} {A:Option Addr} {c:Nat}
end
section
variable {w w':World} {S S':Nat→Prop} {A:Option Addr} {c:Nat} {zs:List Int}
theorem nI.below (h:nI w S A c zs) (hb:Below w.heap.size w w'):nI w' S A c zs:=Reads.below h hb
theorem nI.drewN (h:nI w S A c zs) (n:Nat):nI (w.drewN n) S A c zs:=h
theorem nI.more (h:nI w S A c zs) (hS:∀ b,b<w.heap.size→S b→S' b):nI w S' A c zs:=Reads.more h hS
end
theorem sH {P:Program} {f:FuncId} {args:Array Value} {w:World} {n:Nat} {v:Value}
 (h:Calls P f args (w.drewN n) fun e w'=>e= .returned v∧w.drewN n=w'):Calls P f args (w.drewN n) fun e w''=>e= .returned v∧∃ m,w''=w.drewN m:=
 h.mono fun _ _ ⟨he,hm⟩=>⟨he,n,hm.symm⟩
structure Keeps (w B:World) (nb:Nat) (W:World):Prop where
 sz:w.heap.size+nb≤W.heap.size
 cell:∀ p q,p<w.heap.size+nb→W.cell? ⟨p,q,none⟩=B.cell? ⟨p,q,none⟩
 frozen:∀ p q,p<w.heap.size+nb→W.frozen? ⟨p,q,none⟩=B.frozen? ⟨p,q,none⟩
 bw:Below w.heap.size w W
section
variable {w B W W':World} {nb:Nat}
theorem Keeps.drew (h:Keeps w B nb W):Keeps w B nb W.drew:=⟨h.sz,h.cell,h.frozen,h.bw.drew⟩
theorem Keeps.call (h:Keeps w B nb W) (hb:Below W.heap.size W W'):Keeps w B nb W':=
 ⟨Nat.le_trans h.sz hb.size,fun p q hp=>(hb.cell (p:=⟨p,q,none⟩) (Nat.lt_of_lt_of_le hp h.sz)).trans (h.cell p q hp),
  fun p q hp=>(hb.frozen (p:=⟨p,q,none⟩) (Nat.lt_of_lt_of_le hp h.sz)).trans (h.frozen p q hp),h.bw.trans (hb.mono (by have:=h.sz;omega))⟩
theorem Keeps.alloc (h:Keeps w B nb W) (o:Obj):Keeps w B nb (W.alloc o):=h.call ((Below.refl _ _).alloc (Nat.le_refl _) o)
end
end Go.Proofs.YtjbbfmofpjflmaaGreatDoor
