/- Parts of the proofs about chapter 5 (pool), joined by program. -/
import Derived.Deep.RegionHeld3
import Derived.Test.YtelpepbpdojikaaGreatDoorKg7
set_option linter.unusedVariables false
set_option linter.unusedSimpArgs false
namespace Go.Proofs.YtelpepbpdojikaaGreatDoor
open Go.RowKit
def lastOf (l:List Int) (k:Nat):Option Int:=if k=0 then none else l[k - 1]?
def rZ (l:List Int) (k:Nat):Bool:=((lastOf l k).map (fun a=>decide (l.getD k 0≤a))).getD false
theorem BQ {l:List Int} {k:Nat} (n:Int) (hk:k<l.length):M.jq n (lastOf l k) (l.drop k)=
 if M.out l[k] 1 n then 3 else if rZ l k then 11 else M.jq n (lastOf l (k+1)) (l.drop (k+1)):=by
 have h1:lastOf l (k+1)=some l[k]:=by simp [lastOf,hk]
 have h2:l.getD k 0=l[k]:=by simp [List.getD_eq_getElem?_getD,hk]
 rw [List.drop_eq_getElem_cons hk,M.jq,h1]
 unfold rZ
 rw [h2]
structure NS (r:M.Rules) (s:M.State):Prop where
 rules:M.aH r=0
 turn:M.out s.turn 0 1=false
 bC:M.out s.bC 0 1=false
 group:M.out s.group 0 2=false
 game:s.group=0∨r.game=M.aQ
theorem Om {r:M.Rules} {s:M.State} (h:M.dw r s=0):NS r s:=by
 unfold M.dw at h
 split at h
 · next h1=>exact absurd h h1
 · next h1=>
   split at h
   · cases h
   · next h2=>
     rw [not_or,not_or,not_or] at h2
     refine ⟨by simpa using h1,by simpa using h2.1,by simpa using h2.2.1,by simpa using h2.2.2.1,?_⟩
     by_cases a:s.group=0
     · exact .inl a
     · right
       by_cases b:r.game=M.aQ
       · exact b
       · exact absurd ⟨a,b⟩ h2.2.2.2
theorem Oa {r:M.Rules} (h:M.aH r=0):r.game=M.aB∨r.game=M.aQ∨r.game=M.bM:=by
 unfold M.aH at h
 split at h
 · cases h
 · next h1=>
   have h2:M.rP r.game=true:=by simpa using h1
   simpa only [M.rP,decide_eq_true_eq] using h2
theorem xX {α:Type} (p:α→Bool) {l:List α} {k:Nat} (hk:k<l.length):(l.take (k+1)).filter p=(l.take k).filter p++if p l[k] then [l[k]] else []:=by
 rw [List.take_succ_eq_append_getElem hk,List.filter_append]
 by_cases h:p l[k]=true <;> simp [h]
theorem zk {α:Type} {p:α→Bool} {l:List α} {k:Nat} (hk:k<l.length) (h:p l[k]=true):(l.take (k+1)).filter p=(l.take k).filter p++[l[k]]:=by rw [xX p hk,if_pos h]
theorem Bh {α:Type} {p:α→Bool} {l:List α} {k:Nat} (hk:k<l.length) (h:p l[k]=false):(l.take (k+1)).filter p=(l.take k).filter p:=by rw [xX p hk,h];simp
theorem filter_le {α:Type} (p:α→Bool) (l:List α) (k:Nat):((l.take k).filter p).length≤k:=Nat.le_trans (List.length_filter_le _ _) (List.length_take_le _ _)
theorem own_drewN {w:World} {base e size n:Nat} {v:Value} {xs:List Value} (h:w.ownsRow base e size v n xs) (k:Nat):(w.drewN k).ownsRow base e size v n xs:=h
def colour (s:M.State) (b:Int):Bool:=b≠8∧(s.group=0∨M.side b=M.own s)
theorem EU (s:M.State):M.Cb s=s.ay.filter (colour s):=rfl
theorem zN {w w2:World} {base e size n:Nat} {v:Value} {xs:List Value} {B:Nat} (h:w.ownsRow base e size v n xs) (hb:Below w.drew.heap.size w.drew w2) (_:B≤w.heap.size):w2.ownsRow base e size v n xs:=
 World.ownsRow.kept (w:=w.drew) (row:=none) h ⟨hb.os,hb.tape,hb.output,hb.size,fun i hi _=>hb.block i hi⟩ (by
  rcases hv:v.ownBlock with _ | k
  · exact .inl rfl
  · exact .inr (by simp))
end Go.Proofs.YtelpepbpdojikaaGreatDoor
