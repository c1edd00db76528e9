/- Parts of a proof. -/
import Derived.Test.YtjbbfmofpjflmaaGreatDoorKb0
set_option linter.unusedVariables false
set_option linter.unusedSimpArgs false
namespace Go.Proofs.YtjbbfmofpjflmaaGreatDoor
namespace M
def pieces (x:gy):List (List UInt8):=letter x.dK::x.kind.toList::tail x
def print (x:gy):List UInt8:=join (pieces x)
end M
namespace Sk
theorem ad7 {g:Game} {s:State} {e:Entry} (hk:e.kind=dJ):(next g s e).s0=s.s0+(if s.turn=0 then (judge g s e).points else (judge g s e).penalty)∧(next g s e).s1=s.s1+(if s.turn=0 then (judge g s e).penalty else (judge g s e).points):=by
 unfold next
 rw [if_pos hk]
 unfold uj
 have h:=DL g (if (judge g s e).stays then mO g s (judge g s e) else pass (mO g s (judge g s e))) e (judge g s e);rw [h.1,h.2]
 split <;> exact ⟨rfl,rfl⟩
end Sk
namespace Sk
theorem adx {g:Game}:∀ {l:List Entry},lu g l=0↔∀ x∈l,dV g x=0
 | []=>by simp [lu]
 | x::l=>by
   rw [lu]
   by_cases h:dV g x=0
   · rw [if_neg (by simp [h]),adx]
     simp [h]
   · rw [if_pos h]
     simp [h]
theorem ab9 {g:Game} {l:List Entry}:iq g l=0↔dn g=0∧l.length≤1000∧∀ x∈l,dV g x=0:=by
 unfold iq
 by_cases h:dn g=0
 · rw [if_neg (by simp [h])]
   by_cases h2:1000<l.length
   · rw [if_pos h2];simp;omega
   · rw [if_neg h2,adx];simp [h];omega
 · rw [if_pos h];simp [h]
def kept (g:Game) (s:State):List Entry→List Entry
 | []=>[]
 | x::l=>if legal g s x=0 then x::kept g (step g s x) l else kept g (step g s x) l
theorem aja {g:Game} {s:State} {x:Entry} (h:legal g s x=0):step g s x=next g s x:=by unfold step;rw [if_pos h]
theorem ajP {g:Game} {s:State} {x:Entry} (h:¬ legal g s x=0):step g s x=s:=by unfold step;rw [if_neg h]
theorem afB {g:Game} {s:State} {e:Entry} (hk:e.kind≠dJ):(next g s e).s0=s.s0∧(next g s e).s1=s.s1:=by
 unfold next
 rw [if_neg hk]
 repeat' split
 all_goals exact ⟨rfl,rfl⟩
def aat (g:Game) (p:Int) (s:State):List Entry→Int
 | []=>0
 | x::l=>(if legal g s x=0∧x.kind=dJ∧s.turn=p then (judge g s x).points else 0)+aat g p (step g s x) l
def aad (g:Game) (p:Int) (s:State):List Entry→Int
 | []=>0
 | x::l=>(if legal g s x=0∧x.kind=dJ∧s.turn=1 - p then (judge g s x).penalty else 0)+aad g p (step g s x) l
theorem aeO {g:Game} {s:State} {x:Entry} (h:Ok g s) (p:Int) (hp:p=0∨p=1):score (step g s x) p=score s p+(if legal g s x=0∧x.kind=dJ∧s.turn=p then (judge g s x).points else 0)+(if legal g s x=0∧x.kind=dJ∧s.turn=1 - p then (judge g s x).penalty else 0):=by
 have ht:=h.inr.turn
 by_cases hl:legal g s x=0
 · rw [aja hl]
   by_cases hk:x.kind=dJ
   · have hn:=ad7 (g:=g) (s:=s) hk
     unfold score
     rw [hn.1,hn.2]
     rcases hp with rfl | rfl <;> rcases ht with ht | ht <;> simp [hl,hk,ht]
   · have hn:=afB (g:=g) (s:=s) hk
     unfold score
     rw [hn.1,hn.2]
     simp [hk]
 · rw [ajP hl]
   simp [hl]
theorem acX {g:Game} (p:Int) (hp:p=0∨p=1):∀ (l:List Entry) (s:State),Ok g s→(∀ x∈l,dV g x=0)→score (final g s l) p=score s p+aat g p s l+aad g p s l
 | [],s,_,_=>by simp [final,aat,aad]
 | x::l,s,h,hl=>by
   have e:final g s (x::l)=final g (step g s x) l:=rfl;have hx:=hl x List.mem_cons_self;rw [e,acX p hp l _ (step_ok h hx) (fun y hy=>hl y (List.mem_cons_of_mem _ hy)),aeO h p hp,aat,aad]
   omega
def total:List Int→Int
 | []=>0
 | a::l=>a+total l
theorem aaB:∀ (a b:List Int),total (a++b)=total a+total b
 | [],b=>by simp [total]
 | x::a,b=>by rw [List.cons_append,total,aaB a b,total];omega
theorem adf {g:Game} {s:State} {x:Entry} (h:Ok g s) (hx:dV g x=0) (hl:legal g s x=0) (hk:x.kind=dJ):YQ g (judge g s x):=
 Ap g s x h.inr.colour (fun hg hp=>by have:=vM hx hk (uP.1 hl).call hg hp;omega)
theorem abj {g:Game} (p:Int):∀ (l:List Entry) (s:State) (sum:Int),Ok g s→(∀ x∈l,dV g x=0)→0≤sum→(l=[]→sum=0)→total (qG g p s sum l)=sum+aat g p s l∧∀ b∈qG g p s sum l,0<b
 | [],s,sum,_,_,_,h=>by rw [h rfl];simp [qG,aat,total]
 | x::l,s,sum,h,hl,h0,_=>by
   have hx:=hl x List.mem_cons_self;have hr:=fun y hy=>hl y (List.mem_cons_of_mem x hy);have hs:=step_ok h hx;rw [qG,aat];obtain ⟨d,hd⟩:∃ d,(if legal g s x=0∧x.kind=dJ∧s.turn=p then (judge g s x).points else 0)=d:=⟨_,rfl⟩
   have hd0:0≤d:=by
    rw [← hd]
    split
    · rename_i q;exact (adf h hx q.1 q.2.1).points
    · exact Int.le_refl _
   have e1:(if legal g s x=0∧x.kind=dJ∧s.turn=p then sum+(judge g s x).points else sum)=sum+d:=by
    rw [← hd];split <;> omega
   rw [hd,e1]
   split
   · rename_i q
     have ih:=abj p l (step g s x) (sum+d) hs hr (by omega) (fun hx=>absurd hx q.2.2);exact ⟨by rw [ih.1];omega,ih.2⟩
   · have ih:=abj p l (step g s x) 0 hs hr (by omega) (fun _=>rfl)
     rw [aaB,ih.1];refine ⟨?_,fun b hb=>?_⟩
     · split
       · simp [total];omega
       · simp [total];omega
     · rcases List.mem_append.1 hb with hb | hb
       · split at hb
         · rename_i q;simp at hb;omega
         · cases hb
       · exact ih.2 b hb
def aal (g:Game) (s:State):List Entry→List (Int × Int)
 | []=>[]
 | x::l=>((step g s x).s0,(step g s x).s1)::aal g (step g s x) l
theorem aaR (g:Game):∀ (l:List Entry) (s:State),(aal g s l).length=l.length
 | [],_=>rfl
 | x::l,s=>by rw [aal,List.length_cons,List.length_cons,aaR]
theorem adp (g:Game):∀ (l:List Entry) (s:State) (n:Int),qF g s n l (aal g s l)=0
 | [],_,_=>rfl
 | x::l,s,n=>by rw [aal,qF,if_pos rfl];exact adp g l _ _
theorem acP (g:Game) (z:Int × Int):∀ (l:List Entry) (s:State) (n:Int) (k:Nat),k<l.length→(aal g s l)[k]? ≠some z→qF g s n l ((aal g s l).set k z)=n+k
 | [],_,_,k,h,_=>by simp at h
 | x::l,s,n,0,_,hz=>by
   rw [aal] at hz ⊢;rw [List.set_cons_zero,qF,if_neg (fun e=>hz (by rw [e];rfl))]
   simp
 | x::l,s,n,k+1,h,hz=>by
   rw [aal] at hz ⊢;rw [List.set_cons_succ,qF,if_pos rfl,acP g z l _ _ k (by simpa using h) (by simpa using hz)]
   omega
theorem ac5 (g:Game):∀ (l:List Entry) (s:State) (k:Nat),k<l.length→(aal g s l)[k]? =some ((final g s (l.take (k+1))).s0,(final g s (l.take (k+1))).s1)
 | [],_,k,h=>by simp at h
 | x::l,s,0,_=>by rw [aal];simp [final]
 | x::l,s,k+1,h=>by
   rw [aal,List.getElem?_cons_succ,ac5 g l _ k (by simpa using h)]
   rfl
end Sk
end Go.Proofs.YtjbbfmofpjflmaaGreatDoor
