/- Parts of a proof. -/
import Derived.Deep.RegionHeld3
import Derived.Test.YtcjglfbpjkdgiaaGreatDoorKc8
set_option linter.unusedVariables false
set_option linter.unusedSimpArgs false
namespace Go.Proofs.YtcjglfbpjkdgiaaGreatDoor
open Go.RowKit
theorem TV {r:M.Rules} (h:M.bP r=0):r.game=M.aH∨r.game=M.bC∨r.game=M.dJ:=by
 unfold M.bP at h
 split at h
 · cases h
 · next h1=>
   have h2:M.mY r.game=true:=by simpa using h1
   simpa only [M.mY,decide_eq_true_eq] using h2
theorem wX {α:Type} (p:α→Bool) {l:List α} {k:Nat} (hk:k<l.length):(l.take (k+1)).filter p=(l.take k).filter p++if p l[k] then [l[k]] else []:=by
 rw [List.take_succ_eq_append_getElem hk,List.filter_append]
 by_cases h:p l[k]=true <;> simp [h]
theorem zh {α:Type} {p:α→Bool} {l:List α} {k:Nat} (hk:k<l.length) (h:p l[k]=true):(l.take (k+1)).filter p=(l.take k).filter p++[l[k]]:=by rw [wX p hk,if_pos h]
theorem BL {α:Type} {p:α→Bool} {l:List α} {k:Nat} (hk:k<l.length) (h:p l[k]=false):(l.take (k+1)).filter p=(l.take k).filter p:=by rw [wX p hk,h];simp
theorem filter_le {α:Type} (p:α→Bool) (l:List α) (k:Nat):((l.take k).filter p).length≤k:=Nat.le_trans (List.length_filter_le _ _) (List.length_take_le _ _)
theorem own_drewN {w:World} {base e size n:Nat} {v:Value} {xs:List Value} (h:w.ownsRow base e size v n xs) (k:Nat):(w.drewN k).ownsRow base e size v n xs:=h
def colour (s:M.State) (b:Int):Bool:=b≠8∧(s.group=0∨M.side b=M.own s)
theorem Ie (s:M.State):M.Dk s=s.aA.filter (colour s):=rfl
theorem zV {w w2:World} {base e size n:Nat} {v:Value} {xs:List Value} {B:Nat} (h:w.ownsRow base e size v n xs) (hb:Below w.drew.heap.size w.drew w2) (_:B≤w.heap.size):w2.ownsRow base e size v n xs:=
 World.ownsRow.kept (w:=w.drew) (row:=none) h ⟨hb.os,hb.tape,hb.output,hb.size,fun i hi _=>hb.block i hi⟩ (by
  rcases hv:v.ownBlock with _ | k
  · exact .inl rfl
  · exact .inr (by simp))
theorem zT (x:M.aV):(M.objects x).length≤x.aF.length:=zQ x.aF
end Go.Proofs.YtcjglfbpjkdgiaaGreatDoor
