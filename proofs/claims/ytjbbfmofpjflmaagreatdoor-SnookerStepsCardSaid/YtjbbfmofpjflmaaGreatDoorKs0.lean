/- Parts of a proof. -/
import Derived.Test.YtjbbfmofpjflmaaGreatDoorKb0
set_option linter.unusedVariables false
set_option linter.unusedSimpArgs false
namespace Go.Proofs.YtjbbfmofpjflmaaGreatDoor
namespace M
def pieces (x:gy):List (List UInt8):=letter x.dK::x.kind.toList::tail x
def print (x:gy):List UInt8:=join (pieces x)
end M
namespace Sk
theorem adf {g:Game} {s:State} {e:Entry} (hk:e.kind=dJ):(next g s e).s0=s.s0+(if s.turn=0 then (judge g s e).points else (judge g s e).penalty)∧(next g s e).s1=s.s1+(if s.turn=0 then (judge g s e).penalty else (judge g s e).points):=by
 unfold next
 rw [if_pos hk]
 unfold uj
 have h:=DL g (if (judge g s e).stays then mO g s (judge g s e) else pass (mO g s (judge g s e))) e (judge g s e);rw [h.1,h.2]
 split <;> exact ⟨rfl,rfl⟩
end Sk
namespace Sk
theorem ab9 {g:Game}:∀ {l:List Entry},lu g l=0↔∀ x∈l,dV g x=0
 | []=>by simp [lu]
 | x::l=>by
   rw [lu]
   by_cases h:dV g x=0
   · rw [if_neg (by simp [h]),ab9]
     simp [h]
   · rw [if_pos h]
     simp [h]
theorem aed {g:Game} {l:List Entry}:iq g l=0↔dn g=0∧l.length≤1000∧∀ x∈l,dV g x=0:=by
 unfold iq
 by_cases h:dn g=0
 · rw [if_neg (by simp [h])]
   by_cases h2:1000<l.length
   · rw [if_pos h2];simp;omega
   · rw [if_neg h2,ab9];simp [h];omega
 · rw [if_pos h];simp [h]
def kept (g:Game) (s:State):List Entry→List Entry
 | []=>[]
 | x::l=>if legal g s x=0 then x::kept g (step g s x) l else kept g (step g s x) l
theorem abA {g:Game} {s:State} {x:Entry} (h:legal g s x=0):step g s x=next g s x:=by unfold step;rw [if_pos h]
theorem ab1 {g:Game} {s:State} {x:Entry} (h:¬ legal g s x=0):step g s x=s:=by unfold step;rw [if_neg h]
theorem aaR (g:Game):∀ (l:List Entry) (s:State),final g s (kept g s l)=final g s l
 | [],_=>rfl
 | x::l,s=>by
   rw [kept]
   by_cases h:legal g s x=0
   · rw [if_pos h]
     show final g (step g s x) _=final g (step g s x) l
     exact aaR g l _
   · rw [if_neg h]
     show _=final g (step g s x) l
     rw [ab1 h];exact aaR g l s
theorem aad (g:Game):∀ (l:List Entry) (s:State) (n:Int),gu g s n (kept g s l)=[]
 | [],_,_=>rfl
 | x::l,s,n=>by
   rw [kept]
   by_cases h:legal g s x=0
   · rw [if_pos h,gu,if_pos h]
     exact aad g l _ _
   · rw [if_neg h,ab1 h]
     exact aad g l s n
theorem acn (g:Game):∀ (l:List Entry) (s:State),∀ x∈kept g s l,x∈l
 | [],s,x,h=>h
 | y::l,s,x,h=>by
   rw [kept] at h
   split at h
   · rcases List.mem_cons.1 h with rfl | h
     · exact List.mem_cons_self
     · exact List.mem_cons_of_mem _ (acn g l _ x h)
   · exact List.mem_cons_of_mem _ (acn g l _ x h)
theorem abJ (g:Game):∀ (l:List Entry) (s:State),(kept g s l).length≤l.length
 | [],_=>Nat.le_refl _
 | y::l,s=>by
   rw [kept]
   have:=abJ g l (step g s y)
   split <;> simp <;> omega
theorem afX {g:Game} {l:List Entry} (h:iq g l=0) (s:State):iq g (kept g s l)=0:=by
 rw [aed] at h ⊢;exact ⟨h.1,Nat.le_trans (abJ g l s) h.2.1,fun x hx=>h.2.2 x (acn g l s x hx)⟩
theorem acG (g:Game) (x:Entry):∀ (l:List Entry) (s:State),kept g s (l++[x])=kept g s l++(if legal g (final g s l) x=0 then [x] else [])
 | [],s=>by simp only [List.nil_append,kept,final,List.foldl_nil];rfl
 | y::l,s=>by
   have e:final g s (y::l)=final g (step g s y) l:=rfl;rw [List.cons_append,kept,kept,acG g x l,e]
   split <;> rfl
theorem acP {g:Game} {s:State} {e:Entry} (hk:e.kind≠dJ):(next g s e).s0=s.s0∧(next g s e).s1=s.s1:=by
 unfold next
 rw [if_neg hk]
 repeat' split
 all_goals exact ⟨rfl,rfl⟩
theorem acy {g:Game} {s:State} {x:Entry} (h:Ok g s) (p:Int) (hp:p=0∨p=1):score (step g s x) p=score s p+(if legal g s x=0∧x.kind=dJ∧s.turn=p then (judge g s x).points else 0)+(if legal g s x=0∧x.kind=dJ∧s.turn=1 - p then (judge g s x).penalty else 0):=by
 have ht:=h.inr.turn
 by_cases hl:legal g s x=0
 · rw [abA hl]
   by_cases hk:x.kind=dJ
   · have hn:=adf (g:=g) (s:=s) hk
     unfold score
     rw [hn.1,hn.2]
     rcases hp with rfl | rfl <;> rcases ht with ht | ht <;> simp [hl,hk,ht]
   · have hn:=acP (g:=g) (s:=s) hk
     unfold score
     rw [hn.1,hn.2]
     simp [hk]
 · rw [ab1 hl]
   simp [hl]
theorem abS {g:Game} {s:State} {x:Entry} (h:Ok g s) (hx:dV g x=0) (hl:legal g s x=0) (hk:x.kind=dJ):YQ g (judge g s x):=
 Ap g s x h.inr.colour (fun hg hp=>by have:=vM hx hk (uP.1 hl).call hg hp;omega)
end Sk
end Go.Proofs.YtjbbfmofpjflmaaGreatDoor
