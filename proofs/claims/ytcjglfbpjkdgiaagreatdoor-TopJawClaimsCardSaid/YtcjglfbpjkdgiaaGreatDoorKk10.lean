/- Parts of a proof. -/
import Derived.Deep.RegionHeld3
import Derived.Test.YtcjglfbpjkdgiaaGreatDoorKk8
set_option linter.unusedVariables false
set_option linter.unusedSimpArgs false
namespace Go.Proofs.YtcjglfbpjkdgiaaGreatDoor
open Go.RowKit
def lastOf (l:List Int) (k:Nat):Option Int:=if k=0 then none else l[k - 1]?
def rG (l:List Int) (k:Nat):Bool:=((lastOf l k).map (fun a=>decide (l.getD k 0≤a))).getD false
theorem FK {l:List Int} {k:Nat} (n:Int) (hk:k<l.length):M.gu n (lastOf l k) (l.drop k)=
 if M.out l[k] 1 n then 3 else if rG l k then 11 else M.gu n (lastOf l (k+1)) (l.drop (k+1)):=by
 have h1:lastOf l (k+1)=some l[k]:=by simp [lastOf,hk]
 have h2:l.getD k 0=l[k]:=by simp [List.getD_eq_getElem?_getD,hk]
 rw [List.drop_eq_getElem_cons hk,M.gu,h1]
 unfold rG
 rw [h2]
theorem XL {r:M.Rules} (h:M.aQ r=0):r.game=M.aH∨r.game=M.bF∨r.game=M.dA:=by
 unfold M.aQ at h
 split at h
 · cases h
 · next h1=>
   have h2:M.oH r.game=true:=by simpa using h1
   simpa only [M.oH,decide_eq_true_eq] using h2
theorem zI {α:Type} (p:α→Bool) {l:List α} {k:Nat} (hk:k<l.length):(l.take (k+1)).filter p=(l.take k).filter p++if p l[k] then [l[k]] else []:=by
 rw [List.take_succ_eq_append_getElem hk,List.filter_append]
 by_cases h:p l[k]=true <;> simp [h]
theorem BX {α:Type} {p:α→Bool} {l:List α} {k:Nat} (hk:k<l.length) (h:p l[k]=true):(l.take (k+1)).filter p=(l.take k).filter p++[l[k]]:=by rw [zI p hk,if_pos h]
theorem Ey {α:Type} {p:α→Bool} {l:List α} {k:Nat} (hk:k<l.length) (h:p l[k]=false):(l.take (k+1)).filter p=(l.take k).filter p:=by rw [zI p hk,h];simp
theorem filter_le {α:Type} (p:α→Bool) (l:List α) (k:Nat):((l.take k).filter p).length≤k:=Nat.le_trans (List.length_filter_le _ _) (List.length_take_le _ _)
theorem own_drewN {w:World} {base e size n:Nat} {v:Value} {xs:List Value} (h:w.ownsRow base e size v n xs) (k:Nat):(w.drewN k).ownsRow base e size v n xs:=h
def colour (s:M.State) (b:Int):Bool:=b≠8∧(s.group=0∨M.side b=M.own s)
theorem LX (s:M.State):M.FU s=s.au.filter (colour s):=rfl
theorem Dn {w w2:World} {base e size n:Nat} {v:Value} {xs:List Value} {B:Nat} (h:w.ownsRow base e size v n xs) (hb:Below w.drew.heap.size w.drew w2) (_:B≤w.heap.size):w2.ownsRow base e size v n xs:=
 World.ownsRow.kept (w:=w.drew) (row:=none) h ⟨hb.os,hb.tape,hb.output,hb.size,fun i hi _=>hb.block i hi⟩ (by
  rcases hv:v.ownBlock with _ | k
  · exact .inl rfl
  · exact .inr (by simp))
theorem Di (x:M.aV):(M.objects x).length≤x.aC.length:=Df x.aC
end Go.Proofs.YtcjglfbpjkdgiaaGreatDoor
