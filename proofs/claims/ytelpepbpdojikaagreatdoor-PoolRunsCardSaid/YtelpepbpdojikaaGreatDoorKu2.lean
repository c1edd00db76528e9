/- Parts of the proofs about chapter 5 (pool), joined by program. -/
import Derived.Test.YtelpepbpdojikaaGreatDoorKq5
set_option linter.unusedVariables false
set_option linter.unusedSimpArgs false
namespace Go.Proofs.YtelpepbpdojikaaGreatDoor
namespace M
section
variable {r:Rules} {n:Int} {s:State} {x:aI}
theorem adW (r:Rules) (s:State) (x:aI):(counted r s x).turn=s.turn:=by rw [jm];rfl
end
end M
namespace M
section
variable {r:Rules} {n:Int} {s:State} {x:aI}
def acn (r:Rules) (s:State) (now:Run) (acc:List Run):List aI→List Run
 | []=>if 0<now.points then acc++[now] else acc
 | x::l=>
   if legal r s x≠0∨x.kind=aT then acn r (step r s x) now acc l
   else if ((step r s x).turn≠s.turn∨iW r s x≠0)∧0<(if good r s x=true then Run.mk x.aC (now.points+(objects x).length) else now).points
   then acn r (step r s x) ⟨0,0⟩ (acc++[if good r s x=true then Run.mk x.aC (now.points+(objects x).length) else now]) l
   else acn r (step r s x) (if good r s x=true then Run.mk x.aC (now.points+(objects x).length) else now) acc l
theorem agz (r:Rules) (t:State):(dW r t).turn=t.turn:=by unfold dW;split <;> rfl
theorem ahm (r:Rules) (s:State) (x:aI) (t:State):(grouped r s x t).turn=t.turn:=by unfold grouped;split <;> rfl
theorem afa (r:Rules) (s:State) (x:aI) (t:State):(ended r s x t).turn=t.turn:=by unfold ended;split <;> (try rfl);split <;> (try rfl);split <;> rfl
theorem agH (h:good r s x=true):x.kind≠aT∧x.kind≠jo:=by
 rw [Bj] at h
 split at h
 · next h1=>rw [h1];decide
 · split at h
   · cases h
   · next h2=>rw [ne_eq,Classical.not_not] at h2;rw [h2];decide
theorem ahe (h:good r s x=true):0<(objects x).length:=by
 rw [Bj] at h
 split at h
 · exact (of_decide_eq_true h).2.1
 · split at h
   · cases h
   · split at h
     · exact (of_decide_eq_true h).2
     · exact (of_decide_eq_true h).2.1
theorem afz (h:good r s x=true):(next r s x).turn=s.turn:=by
 obtain ⟨h1,h2⟩:=agH h
 unfold next
 rw [if_neg h1,if_neg h2]
 unfold play
 simp only
 split
 · rw [afa,adW]
 · rw [if_neg (by rintro ⟨h3,_⟩;exact h3 (Hw h)),if_neg (by rw [h];decide),agz,ahm,afa,adW]
theorem afX (hl:Lawful r s x) (hc:x.kind≠aT) (h:good r s x=false):(next r s x).turn≠s.turn∨iW r s x≠0∨(next r s x).over=true:=by
 have hp:=hl.turn hc
 unfold next
 rw [if_neg hc]
 split
 · left;show 1 - x.aC≠s.turn;omega
 · unfold play
   simp only
   split
   · next ho=>exact .inr (.inr ho)
   · split
     · next hf=>exact .inr (.inl hf.1)
     · left;show 1 - x.aC≠s.turn;omega
theorem aiS (h:s.over=true):legal r s x=1:=by unfold legal;rw [if_pos h]
theorem adp (h:s.over=true) (o:Bool) (now:Run) (aew adG:List Run) (he:aew=if 0<now.points then adG++[now] else adG):∀ l,Ac r s o aew l=acn r s now adG l
 | []=>he
 | x::l=>by
   have hl:=aiS (r:=r) (x:=x) h
   have hs:step r s x=s:=by unfold step;rw [if_neg (by rw [hl];decide)]
   rw [Ac,acn,if_pos (by rw [hl];decide),if_pos (.inl (by rw [hl];decide)),hs]
   exact adp h o now aew adG he l
theorem acG:∀ (l:List aI) (s:State) (o:Bool) (now:Run) (aew adG:List Run),
 (o=true→aew=adG++[now]∧0<now.points∧(s.over=false→now.aC=s.turn))→(o=false→s.over=false→aew=adG∧now.points=0)→
 (o=false→s.over=true→aew=if 0<now.points then adG++[now] else adG)→Ac r s o aew l=acn r s now adG l
 | [],s,o,now,aew,adG,h1,h2,h3=>by
   rw [Ac,acn]
   cases o with
   | true=>obtain ⟨e,hp,_⟩:=h1 rfl;rw [if_pos hp,e]
   | false=>
     cases ho:s.over with
     | true=>exact h3 rfl ho
     | false=>obtain ⟨e,hp⟩:=h2 rfl ho;rw [if_neg (by omega),e]
 | x::l,s,o,now,aew,adG,h1,h2,h3=>by
   cases ho:s.over with
   | true=>
     refine adp ho o now aew adG ?_ _
     cases o with
     | true=>obtain ⟨e,hp,_⟩:=h1 rfl;rw [if_pos hp,e]
     | false=>exact h3 rfl ho
   | false=>
     rw [Ac,acn]
     by_cases hl:legal r s x=0
     · rw [if_neg (by simp [hl])]
       have Y1:=lawful hl
       have hst:step r s x=next r s x:=by unfold step;rw [if_pos hl]
       cases hg:good r s x with
       | true=>
         have hgo:=ahe hg
         have hgk:=agH hg
         have ht:=afz hg
         rw [if_neg (by simp),if_neg (c:=legal r s x≠0∨x.kind=aT) (by rw [hl];simp [hgk.1]),hst]
         rw [if_neg (c:=((next r s x).turn≠s.turn∨iW r s x≠0)∧_) (by rw [ht];simp [Hw hg])]
         simp only [if_true]
         have hpl:=Y1.turn hgk.1
         cases o with
         | true=>
           obtain ⟨e,hp,hpl'⟩:=h1 rfl
           rw [if_pos rfl]
           refine acG l _ true _ _ _ (fun _=>⟨?_,by show 0<now.points+_;omega,fun _=>by show x.aC=_;rw [ht];exact hpl⟩) (fun e=>by cases e) (fun e=>by cases e)
           rw [e,Ba,hpl' ho,hpl]
         | false=>
           obtain ⟨e,hp⟩:=h2 rfl ho
           rw [if_neg (by decide)]
           refine acG l _ true _ _ _ (fun _=>⟨?_,by show 0<now.points+_;omega,fun _=>by show x.aC=_;rw [ht];exact hpl⟩) (fun e=>by cases e) (fun e=>by cases e)
           rw [e,hp,Int.zero_add]
       | false=>
         rw [if_pos rfl]
         simp only [Bool.false_eq_true,if_false]
         by_cases hc:x.kind=aT
         · rw [if_pos (.inr hc)]
           have hov:(step r s x).over=true:=by rw [hst];unfold next;rw [if_pos hc]
           refine adp hov _ _ _ _ ?_ _
           cases o with
           | true=>obtain ⟨e,hp,_⟩:=h1 rfl;rw [if_pos hp,e]
           | false=>obtain ⟨e,hp⟩:=h2 rfl ho;rw [if_neg (by omega),e]
         · rw [if_neg (by rw [hl];simp [hc])]
           have hb:=afX Y1 hc hg
           by_cases hq:((step r s x).turn≠s.turn∨iW r s x≠0)∧0<now.points
           · rw [if_pos hq]
             have hacc:aew=adG++[now]:=by
              cases o with
              | true=>exact (h1 rfl).1
              | false=>have:=(h2 rfl ho).2;omega
             exact acG l _ false _ _ _ (fun e=>by cases e) (fun _ _=>⟨hacc,rfl⟩) (fun _ _=>by rw [if_neg (by decide)];exact hacc)
           · rw [if_neg hq]
             cases o with
             | true=>
               obtain ⟨e,hp,_⟩:=h1 rfl
               have hov:(step r s x).over=true:=by
                rw [hst] at hq ⊢
                rcases hb with hb | hb | hb
                · exact absurd ⟨.inl hb,hp⟩ hq
                · exact absurd ⟨.inr hb,hp⟩ hq
                · exact hb
               exact adp hov _ _ _ _ (by rw [if_pos hp,e]) _
             | false=>
               obtain ⟨e,hp⟩:=h2 rfl ho
               exact acG l _ false _ _ _ (fun e=>by cases e) (fun _ _=>⟨e,hp⟩) (fun _ _=>by rw [if_neg (by omega)];exact e)
     · rw [if_pos hl,if_pos (.inl hl)]
       have hst:step r s x=s:=by unfold step;rw [if_neg hl]
       rw [hst]
       exact acG l s o now aew adG h1 h2 h3
theorem apr (r:Rules) (l:List aI):runs r l=acn r (start r) ⟨0,0⟩ [] l:=
 acG l _ false _ _ _ (fun e=>by cases e) (fun _ _=>⟨rfl,rfl⟩) (fun _ e=>by cases e)
end
end M
namespace M
section
variable {r:Rules} {n:Int} {s:State} {x:aI}
def sumOf (p:Int):List Note→Int
 | []=>0
 | a::l=>(if a.aC=p then a.points else 0)+sumOf p l
end
end M
end Go.Proofs.YtelpepbpdojikaaGreatDoor
