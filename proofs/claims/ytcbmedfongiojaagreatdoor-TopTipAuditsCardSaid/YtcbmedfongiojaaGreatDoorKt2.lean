/- Parts of a proof. -/
import Derived.BigQuiet
import Derived.Deep.QuietTactic
import Derived.Test.YtcbmedfongiojaaGreatDoorKt1
set_option linter.unusedVariables false
set_option linter.unusedSimpArgs false
namespace Go.Proofs.YtcbmedfongiojaaGreatDoor
open Go.RowKit
structure Sh where
 x:M.oH
 a:Option Addr
 c:Nat
section
variable {w w':World} {S S':Nat→Prop} {A:Option Addr} {c:Nat} {l:List Sh}
end
def plain (l:List Sh):List M.oH:=l.map (·.x)
section
variable {w w':World} {S S':Nat→Prop} {A:Option Addr} {c:Nat} {zs:List Int} {ps:List M.Dt}
theorem kX.below (h:kX w S A c zs) (hb:Below w.heap.size w w'):kX w' S A c zs:=Reads.below h hb
theorem kX.alloc (h:kX w S A c zs) (o:Obj):kX (w.alloc o) S A c zs:=Reads.alloc h o
theorem kX.drewN (h:kX w S A c zs) (n:Nat):kX (w.drewN n) S A c zs:=h
theorem kX.more (h:kX w S A c zs) (hS:∀ b,b<w.heap.size→S b→S' b):kX w S' A c zs:=Reads.more h hS
theorem kX.keep (h:kX w S A c zs) (hs:w.heap.size≤w'.heap.size) (hk:∀ b o,S b→b<w.heap.size→w'.cell? ⟨b,o,none⟩=w.cell? ⟨b,o,none⟩):kX w' S A c zs:=Reads.keep h hs hk
theorem kX.setCell (h:kX w S A c zs) {p:Addr} (hp:¬ S p.block) (u:Value):kX (w.setCell p u) S A c zs:=Reads.setCell h hp u
theorem oG.below (h:oG w S A c ps) (hb:Below w.heap.size w w'):oG w' S A c ps:=Reads.below h hb
theorem oG.alloc (h:oG w S A c ps) (o:Obj):oG (w.alloc o) S A c ps:=Reads.alloc h o
theorem oG.drewN (h:oG w S A c ps) (n:Nat):oG (w.drewN n) S A c ps:=h
theorem oG.more (h:oG w S A c ps) (hS:∀ b,b<w.heap.size→S b→S' b):oG w S' A c ps:=Reads.more h hS
theorem oG.keep (h:oG w S A c ps) (hs:w.heap.size≤w'.heap.size) (hk:∀ b o,S b→b<w.heap.size→w'.cell? ⟨b,o,none⟩=w.cell? ⟨b,o,none⟩):oG w' S A c ps:=Reads.keep h hs hk
theorem oG.setCell (h:oG w S A c ps) {p:Addr} (hp:¬ S p.block) (u:Value):oG (w.setCell p u) S A c ps:=Reads.setCell h hp u
end
theorem qQ {P:Program} {f:FuncId} {args:Array Value} {w:World} {n:Nat} {v:Value}
 (h:Calls P f args (w.drewN n) fun e w'=>e= .returned v∧w.drewN n=w'):Calls P f args (w.drewN n) fun e w''=>e= .returned v∧∃ m,w''=w.drewN m:=
 h.mono fun _ _ ⟨he,hm⟩=>⟨he,n,hm.symm⟩
structure Keeps (w B:World) (nb:Nat) (W:World):Prop where
 sz:w.heap.size+nb≤W.heap.size
 cell:∀ p q,p<w.heap.size+nb→W.cell? ⟨p,q,none⟩=B.cell? ⟨p,q,none⟩
 frozen:∀ p q,p<w.heap.size+nb→W.frozen? ⟨p,q,none⟩=B.frozen? ⟨p,q,none⟩
 bw:Below w.heap.size w W
section
variable {w B W W':World} {nb:Nat}
theorem Keeps.of (hb:Below w.heap.size w B) (hs:B.heap.size=w.heap.size+nb):Keeps w B nb B:=⟨by omega,fun _ _ _=>rfl,fun _ _ _=>rfl,hb⟩
theorem Keeps.drew (h:Keeps w B nb W):Keeps w B nb W.drew:=⟨h.sz,h.cell,h.frozen,h.bw.drew⟩
theorem Keeps.drewN (h:Keeps w B nb W) (n:Nat):Keeps w B nb (W.drewN n):=⟨h.sz,h.cell,h.frozen,below_drewN h.bw n⟩
theorem Keeps.call (h:Keeps w B nb W) (hb:Below W.heap.size W W'):Keeps w B nb W':=
 ⟨Nat.le_trans h.sz hb.size,fun p q hp=>(hb.cell (p:=⟨p,q,none⟩) (Nat.lt_of_lt_of_le hp h.sz)).trans (h.cell p q hp),
  fun p q hp=>(hb.frozen (p:=⟨p,q,none⟩) (Nat.lt_of_lt_of_le hp h.sz)).trans (h.frozen p q hp),h.bw.trans (hb.mono (by have:=h.sz;omega))⟩
theorem Keeps.upto {D:Nat} (h:Keeps w B nb W) (hb:Below D W W') (hD:w.heap.size+nb≤D):Keeps w B nb W':=
 ⟨Nat.le_trans h.sz hb.size,fun p q hp=>(hb.cell (p:=⟨p,q,none⟩) (Nat.lt_of_lt_of_le hp hD)).trans (h.cell p q hp),
  fun p q hp=>(hb.frozen (p:=⟨p,q,none⟩) (Nat.lt_of_lt_of_le hp hD)).trans (h.frozen p q hp),h.bw.trans (hb.mono (by omega))⟩
theorem Keeps.alloc (h:Keeps w B nb W) (o:Obj):Keeps w B nb (W.alloc o):=h.call ((Below.refl _ _).alloc (Nat.le_refl _) o)
end
end Go.Proofs.YtcbmedfongiojaaGreatDoor
