/- Parts of a proof. -/
import Derived.Test.YtjbbfmofpjflmaaGreatDoorKr13
set_option linter.unusedVariables false
set_option linter.unusedSimpArgs false
namespace Go.Proofs.YtjbbfmofpjflmaaGreatDoor
namespace Sk
theorem acn {g:Game} {s:State} {x:Entry} (h:legal g s x=0):step g s x=next g s x:=by unfold step;rw [if_pos h]
theorem acX {g:Game} {s:State} {x:Entry} (h:¬ legal g s x=0):step g s x=s:=by unfold step;rw [if_neg h]
end Sk
namespace Sk
def aad (g:Game) (p:Int) (s:State) (sum:Int):List Entry→List Int
 | []=>if 0<sum then [sum] else []
 | x::l=>
   if legal g s x≠0 then aad g p s sum l
   else
    let t:=next g s x
    let sum':=if x.kind=cO∧s.turn=p then sum+(judge g s x).points else sum
    if t.turn≠s.turn∨0≤t.ay then (if 0<sum' then [sum'] else [])++aad g p t 0 l else aad g p t sum' l
theorem aat (g:Game) (p:Int):∀ (l:List Entry) (s:State) (sum:Int),(l=[]→sum=0)→(0≤s.ay→sum=0)→qP g p s sum l=aad g p s sum l
 | [],s,sum,h,_=>by rw [h rfl];rfl
 | x::l,s,sum,_,hw=>by
   rw [qP,aad]
   dsimp only
   by_cases hl:legal g s x=0
   · rw [acn hl]
     simp only [hl,true_and,ne_eq,not_true,if_false]
     obtain ⟨d,hd⟩:∃ d,(if x.kind=cO∧s.turn=p then sum+(judge g s x).points else sum)=d:=⟨_,rfl⟩
     obtain ⟨t,ht⟩:∃ t,next g s x=t:=⟨_,rfl⟩
     rw [hd,ht]
     by_cases hc:t.turn=s.turn∧t.ay<0∧¬ l=[]
     · rw [if_pos hc,if_neg (by omega)]
       exact aat g p l t d (fun h=>absurd h hc.2.2) (fun h=>by omega)
     · rw [if_neg hc]
       by_cases hc2:¬ t.turn=s.turn∨0≤t.ay
       · rw [if_pos hc2,aat g p l t 0 (fun _=>rfl) (fun _=>rfl)]
       · rw [if_neg hc2]
         have:l=[]:=Decidable.not_not.1 fun h=>hc ⟨by omega,by omega,h⟩
         subst this
         simp [qP,aad]
   · rw [acX hl]
     simp only [hl,false_and,if_false,true_and,ne_eq,not_false_iff,if_true]
     by_cases hc:s.ay<0∧¬ l=[]
     · rw [if_pos hc]
       exact aat g p l s sum (fun h=>absurd h hc.2) hw
     · rw [if_neg hc]
       by_cases hw2:0≤s.ay
       · have h0:=hw hw2
         rw [h0,if_neg (by omega)];exact aat g p l s 0 (fun _=>rfl) (fun _=>rfl)
       · have:l=[]:=Decidable.not_not.1 fun h=>hc ⟨by omega,h⟩
         subst this
         simp [qP,aad]
end Sk
end Go.Proofs.YtjbbfmofpjflmaaGreatDoor
