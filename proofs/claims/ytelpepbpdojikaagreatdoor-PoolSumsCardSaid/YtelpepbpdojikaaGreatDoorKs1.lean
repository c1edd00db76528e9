/- Parts of the proofs about chapter 5 (pool), joined by program. -/
import Derived.Test.YtelpepbpdojikaaGreatDoorKh4
set_option linter.unusedVariables false
set_option linter.unusedSimpArgs false
namespace Go.Proofs.YtelpepbpdojikaaGreatDoor
namespace M
theorem ael:aQ≠bM:=by decide
theorem aaJ:bM≠aB:=by decide
section
variable {r:Rules} {n:Int} {s:State} {x:aI}
theorem acG (r:Rules) (s:State) (x:aI):(counted r s x).turn=s.turn:=by rw [jm];rfl
end
end M
namespace M
section
variable {r:Rules} {n:Int} {s:State} {x:aI}
theorem agY (r:Rules) (t:State):(dW r t).turn=t.turn:=by unfold dW;split <;> rfl
theorem ahC (r:Rules) (s:State) (x:aI) (t:State):(grouped r s x t).turn=t.turn:=by unfold grouped;split <;> rfl
theorem ae2 (r:Rules) (s:State) (x:aI) (t:State):(ended r s x t).turn=t.turn:=by unfold ended;split <;> (try rfl);split <;> (try rfl);split <;> rfl
theorem abj (h:good r s x=true):x.kind≠aT∧x.kind≠jo:=by
 rw [Bj] at h
 split at h
 · next h1=>rw [h1];decide
 · split at h
   · cases h
   · next h2=>rw [ne_eq,Classical.not_not] at h2;rw [h2];decide
theorem ahu (h:good r s x=true):0<(objects x).length:=by
 rw [Bj] at h
 split at h
 · exact (of_decide_eq_true h).2.1
 · split at h
   · cases h
   · split at h
     · exact (of_decide_eq_true h).2
     · exact (of_decide_eq_true h).2.1
theorem afj (h:good r s x=true):(next r s x).turn=s.turn:=by
 obtain ⟨h1,h2⟩:=abj h
 unfold next
 rw [if_neg h1,if_neg h2]
 unfold play
 simp only
 split
 · rw [ae2,acG]
 · rw [if_neg (by rintro ⟨h3,_⟩;exact h3 (Hw h)),if_neg (by rw [h];decide),agY,ahC,ae2,acG]
end
end M
namespace M
section
variable {r:Rules} {n:Int} {s:State} {x:aI}
theorem amm (r:Rules) (s:State) (x:aI):∃ e:Int,(∀ a,sc r s x a=a+e)∧(good r s x=true→e=(objects x).length)∧(good r s x=false→(e=0∨e= -1)∧(r.game≠aB→e=0)):=by
 unfold sc
 simp only
 cases hg:good r s x with
 | true=>rw [Hw hg];exact ⟨_,fun a=>rfl,fun _=>rfl,fun e=>by cases e⟩
 | false=>
   by_cases hf:iW r s x=0
   · exact ⟨0,fun a=>(by simp [hf]),fun e=>(by cases e),fun _=>⟨.inl rfl,fun _=>rfl⟩⟩
   · by_cases hs:r.game=aB
     · exact ⟨-1,fun a=>(by simp [hf,hs];omega),fun e=>(by cases e),fun _=>⟨.inr rfl,fun h=>absurd hs h⟩⟩
     · exact ⟨0,fun a=>(by simp [hf,hs]),fun e=>(by cases e),fun _=>⟨.inl rfl,fun _=>rfl⟩⟩
theorem acP (r:Rules) (s:State) (x:aI) (t:State):(ended r s x t).s0=t.s0∧(ended r s x t).s1=t.s1∧(ended r s x t).ay=t.ay∧(ended r s x t).aZ=t.aZ:=by
 unfold ended;split <;> (try exact ⟨rfl,rfl,rfl,rfl⟩);split <;> (try exact ⟨rfl,rfl,rfl,rfl⟩);split <;> exact ⟨rfl,rfl,rfl,rfl⟩
theorem abA (r:Rules) (s:State) (x:aI) (t:State):(grouped r s x t).s0=t.s0∧(grouped r s x t).s1=t.s1∧(grouped r s x t).ay=t.ay∧(grouped r s x t).aZ=t.aZ∧(grouped r s x t).over=t.over:=by
 unfold grouped;split <;> exact ⟨rfl,rfl,rfl,rfl,rfl⟩
theorem aeM (r:Rules) (t:State):(dW r t).s0=t.s0∧(dW r t).s1=t.s1:=by
 unfold dW;split <;> exact ⟨rfl,rfl⟩
theorem aeU (r:Rules) (s:State) (x:aI):(counted r s x).s0=(if x.aC=0 then sc r s x s.s0 else s.s0)∧(counted r s x).s1=(if x.aC=0 then s.s1 else sc r s x s.s1):=by
 rw [jm];exact ⟨rfl,rfl⟩
theorem ait (r:Rules) (s:State) (x:aI):∃ d:Int,(next r s x).s0=s.s0+(if x.aC=0 then d else 0)∧(next r s x).s1=s.s1+(if x.aC=0 then 0 else d)∧
 (good r s x=true→d=(objects x).length)∧(good r s x=false→ -16≤d∧d≤0∧(r.game≠aB→d=0)):=by
 unfold next
 split
 · next hc=>exact ⟨0,by simp,by simp,fun hg=>absurd hc (abj hg).1,fun _=>⟨by omega,Int.le_refl 0,fun _=>rfl⟩⟩
 split
 · next hc=>exact ⟨0,by simp [calm],by simp [calm],fun hg=>absurd hc (abj hg).2,fun _=>⟨by omega,Int.le_refl 0,fun _=>rfl⟩⟩
 obtain ⟨e,he,hgo,hba⟩:=amm r s x
 obtain ⟨c0,c1⟩:=aeU r s x
 obtain ⟨e0,e1,_,_⟩:=acP r s x (counted r s x)
 have t0:(ended r s x (counted r s x)).s0=s.s0+(if x.aC=0 then e else 0):=by rw [e0,c0];split <;> simp [he]
 have t1:(ended r s x (counted r s x)).s1=s.s1+(if x.aC=0 then 0 else e):=by rw [e1,c1];split <;> simp [he]
 have alN:good r s x=false→ -16≤e∧e≤0∧(r.game≠aB→e=0):=fun h=>⟨by have:=(hba h).1;omega,by have:=(hba h).1;omega,(hba h).2⟩
 unfold play
 simp only
 split
 · exact ⟨e,t0,t1,hgo,alN⟩
 split
 · next hf=>
   have GI:good r s x=false:=by
    cases hg:good r s x with
    | false=>rfl
    | true=>exact absurd (Hw hg) hf.1
   unfold limit
   split
   · exact ⟨e,t0,t1,hgo,alN⟩
   · next hs=>
     refine ⟨e - 15,?_,?_,fun h=>(by rw [GI] at h;cases h),fun _=>⟨(by have:=(hba GI).1;omega),(by have:=(hba GI).1;omega),fun h=>absurd (Classical.not_not.1 hs) h⟩⟩
     · unfold State.uT State.uS State.score sel
       by_cases h0:x.aC=0
       · simp only [h0,if_true] at t0 ⊢;rw [t0];omega
       · simp only [h0,if_false] at t0 ⊢;exact t0
     · unfold State.uT State.uS State.score sel
       by_cases h0:x.aC=0
       · simp only [h0,if_true] at t1 ⊢;exact t1
       · simp only [h0,if_false] at t1 ⊢;rw [t1];omega
 split
 · exact ⟨e,t0,t1,hgo,alN⟩
 · have g:=abA r s x (ended r s x (counted r s x))
   have k:=aeM r (grouped r s x (ended r s x (counted r s x)))
   exact ⟨e,by rw [k.1,g.1,t0],by rw [k.2,g.2.1,t1],hgo,alN⟩
theorem abJ (hp:x.aC=0∨x.aC=1):∃ d:Int,(next r s x).score x.aC - s.score x.aC=d∧(next r s x).s0=s.s0+(if x.aC=0 then d else 0)∧(next r s x).s1=s.s1+(if x.aC=1 then d else 0)∧
 (good r s x=true→d=(objects x).length)∧(good r s x=false→ -16≤d∧d≤0∧(r.game≠aB→d=0)):=by
 obtain ⟨d,h0,h1,hg,hb⟩:=ait r s x
 refine ⟨d,?_,h0,?_,hg,hb⟩
 · unfold State.score sel
   rcases hp with hp | hp
   · simp only [hp,if_true] at h0 ⊢;omega
   · simp only [hp,show ¬ (1:Int)=0 by decide,if_false] at h1 ⊢;omega
 · rcases hp with hp | hp
   · simp only [hp,if_true,show ¬ (0:Int)=1 by decide,if_false] at h1 ⊢;exact h1
   · simp only [hp,show ¬ (1:Int)=0 by decide,if_true,if_false] at h1 ⊢;exact h1
theorem ahT (hl:¬ legal r s x=0):note r s n x=⟨n,x.aC,legal r s x,0,0,false⟩:=by unfold note;rw [if_pos hl]
def sumOf (p:Int):List Note→Int
 | []=>0
 | a::l=>(if a.aC=p then a.points else 0)+sumOf p l
def aal (p:Int):List Note→Int
 | []=>0
 | a::l=>(if a.aC=p then max a.points 0 else 0)+aal p l
def aad (p:Int):List Run→Int
 | []=>0
 | a::l=>(if a.aC=p then a.points else 0)+aad p l
theorem adx (p:Int) (b:List Note):∀ a:List Note,sumOf p (a++b)=sumOf p a+sumOf p b
 | []=>by simp [sumOf]
 | x::a=>by rw [List.cons_append,sumOf,sumOf,adx p b a];omega
theorem aed (p:Int) (b:List Note):∀ a:List Note,aal p (a++b)=aal p a+aal p b
 | []=>by simp [aal]
 | x::a=>by rw [List.cons_append,aal,aal,aed p b a];omega
theorem aaB (p:Int) (b:List Run):∀ a:List Run,aad p (a++b)=aad p a+aad p b
 | []=>by simp [aad]
 | x::a=>by rw [List.cons_append,aad,aad,aaB p b a];omega
theorem aa8 (r:Rules):∀ (l:List aI) (s:State) (n:Int),(notes r s n l).length=l.length
 | [],s,n=>rfl
 | x::l,s,n=>by rw [notes,List.length_cons,aa8,List.length_cons]
theorem agr (r:Rules):∀ (l:List aI) (s:State) (n:Int),(∀ x∈l,x.aC=0∨x.aC=1)→(final r s l).s0=s.s0+sumOf 0 (notes r s n l)∧(final r s l).s1=s.s1+sumOf 1 (notes r s n l)
 | [],s,n,_=>by simp [final,notes,sumOf]
 | x::l,s,n,h=>by
   have ih:=agr r l (step r s x) (n+1) (fun y hy=>h y (List.mem_cons_of_mem _ hy))
   have hf:final r s (x::l)=final r (step r s x) l:=rfl
   rw [hf,notes,sumOf,sumOf,ih.1,ih.2]
   by_cases hl:legal r s x=0
   · have hst:step r s x=next r s x:=by unfold step;rw [if_pos hl]
     obtain ⟨d,hd,h0,h1,_,_⟩:=abJ (r:=r) (s:=s) (h x List.mem_cons_self)
     rw [KC hl,hst,h0,h1,hd]
     constructor <;> simp only [Int.add_assoc]
   · have hst:step r s x=s:=by unfold step;rw [if_neg hl]
     rw [ahT hl,hst]
     simp
theorem afz (r:Rules):∀ (l:List aI) (s:State) (n:Int),(∀ x∈l,ni x)→∀ (i:Nat) (hi:i<(notes r s n l).length) (hi':i<l.length),
 (notes r s n l)[i].number=n+i∧(notes r s n l)[i].aC=l[i].aC∧((notes r s n l)[i].iW≠0→(notes r s n l)[i].points≤0)∧
 ((notes r s n l)[i].rule≠0→(notes r s n l)[i].iW=0∧(notes r s n l)[i].points=0∧(notes r s n l)[i].turn=false)∧(r.game≠aB→0≤(notes r s n l)[i].points)∧(-16≤(notes r s n l)[i].points∧(notes r s n l)[i].points≤16)
 | [],_,_,_,_,_,hi=>by simp at hi
 | x::l,s,n,h,0,_,_=>by
   have hx:=h x List.mem_cons_self
   have hob:=hx.objs
   simp only [notes,List.getElem_cons_zero]
   by_cases hl:legal r s x=0
   · rw [KC hl]
     obtain ⟨d,hd,h0,h1,hg,hb⟩:=abJ (r:=r) (s:=s) hx.aC
     rw [hd]
     refine ⟨by simp,rfl,fun hf=>?_,fun h=>absurd rfl h,fun hs=>?_,?_⟩
     · cases hgd:good r s x with
       | true=>exact absurd (Hw hgd) hf
       | false=>exact (hb hgd).2.1
     · cases hgd:good r s x with
       | true=>have:=hg hgd;show 0≤d;omega
       | false=>have:=(hb hgd).2.2 hs;show 0≤d;omega
     · show -16≤d∧d≤16
       cases hgd:good r s x with
       | true=>have:=hg hgd;omega
       | false=>have:=hb hgd;omega
   · rw [ahT hl]
     exact ⟨by simp,rfl,fun h=>absurd rfl h,fun _=>⟨rfl,rfl,rfl⟩,fun _=>Int.le_refl 0,show (-16:Int)≤0∧(0:Int)≤16 by decide⟩
 | x::l,s,n,h,i+1,hi,hi'=>by
   have ih:=afz r l (step r s x) (n+1) (fun y hy=>h y (List.mem_cons_of_mem _ hy)) i (by rw [notes,List.length_cons] at hi;omega) (by rw [List.length_cons] at hi';omega)
   simp only [notes,List.getElem_cons_succ]
   refine ⟨by rw [ih.1];push_cast;omega,ih.2⟩
theorem ajd (p m:Int) (acc:List Run) (a:Run):aad p (bump m (acc++[a]))=aad p (acc++[a])+(if a.aC=p then m else 0):=by
 rw [Ba,aaB,aaB]
 simp only [aad]
 split <;> omega
theorem abS (r:Rules) (p:Int):∀ (l:List aI) (s:State) (o:Bool) (acc:List Run) (n:Int),(∀ x∈l,x.aC=0∨x.aC=1)→
 (o=true→∃ acc' a,acc=acc'++[a]∧(s.over=false→a.aC=s.turn))→aad p (Ac r s o acc l)=aad p acc+aal p (notes r s n l)
 | [],s,o,acc,n,_,_=>by simp [Ac,notes,aal]
 | x::l,s,o,acc,n,h,hi=>by
   have hl':=fun y hy=>h y (List.mem_cons_of_mem _ hy)
   rw [Ac,notes,aal]
   by_cases hl:legal r s x=0
   · have hst:step r s x=next r s x:=by unfold step;rw [if_pos hl]
     rw [if_neg (by simp [hl]),KC hl,hst]
     have Y1:=lawful hl
     obtain ⟨d,hd,h0,h1,hg,hb⟩:=abJ (r:=r) (s:=s) (h x List.mem_cons_self)
     rw [hd]
     simp only
     cases hgd:good r s x with
     | false=>
       rw [if_pos rfl,abS r p l _ false acc (n+1) hl' (fun e=>by cases e)]
       have:max d 0=0:=by have:=(hb hgd).2.1;omega
       simp only [this]
       split <;> simp
     | true=>
       have hgk:=abj hgd
       have ht:=afj hgd
       have hpl:=Y1.turn hgk.1
       have hdl:=hg hgd
       have hmax:max d 0=((objects x).length:Int):=by omega
       rw [if_neg (by simp)]
       simp only [hmax]
       cases o with
       | true=>
         obtain ⟨acc',a,rfl,ha⟩:=hi rfl
         have hap:a.aC=x.aC:=(ha Y1.over).trans hpl.symm
         rw [if_pos rfl,abS r p l _ true _ (n+1) hl' (fun _=>⟨acc',⟨a.aC,a.points+(objects x).length⟩,Ba _ _ _,fun _=>by show a.aC=_;rw [ht,hap,hpl]⟩),ajd,hap]
         omega
       | false=>
         rw [if_neg (by decide),abS r p l _ true _ (n+1) hl' (fun _=>⟨acc,⟨x.aC,(objects x).length⟩,rfl,fun _=>by show x.aC=_;rw [ht,hpl]⟩),aaB]
         simp only [aad]
         omega
   · have hst:step r s x=s:=by unfold step;rw [if_neg hl]
     rw [if_pos hl,ahT hl,hst,abS r p l s o acc (n+1) hl' hi]
     simp
theorem afa (hg:r.game≠aB):(next r s x).ay=if x.kind=aT∨x.kind=jo then s.ay else left r s x:=by
 unfold next
 split
 · next hc=>rw [if_pos (.inl hc)]
 split
 · next hc=>rw [if_pos (.inr hc)];rfl
 next h1 h2=>
 rw [if_neg (by rintro (h | h);exact h1 h;exact h2 h)]
 obtain ⟨_,_,eb,_⟩:=acP r s x (counted r s x)
 have hb:=eb.trans (mD r s x)
 unfold play
 simp only
 split
 · exact hb
 split
 · unfold limit;rw [if_pos hg];exact hb
 split
 · exact hb
 · unfold dW
   rw [if_neg (fun h=>hg h.1),(abA r s x _).2.2.1]
   exact hb
theorem acX:∀ (a b:List Int),a.Nodup→(∀ c∈a,c∈b)→a.length≤b.length
 | [],b,_,_=>Nat.zero_le _
 | c::a,b,hn,hs=>by
   rw [List.nodup_cons] at hn
   have hc:=hs c List.mem_cons_self
   have ih:=acX a (b.erase c) hn.2 (fun d hd=>(List.mem_erase_of_ne (fun e:d=c=>hn.1 (by rw [← e];exact hd))).2 (hs d (List.mem_cons_of_mem _ hd)))
   rw [List.length_erase_of_mem hc] at ih
   have:0<b.length:=List.length_pos_of_mem hc
   rw [List.length_cons]
   omega
theorem acy:∀ (l seen:List rD),eH seen l=0→(seen.map (·.aJ)).Nodup→((seen++l).map (·.aJ)).Nodup
 | [],seen,_,h=>by simpa using h
 | p::l,seen,h,hs=>by
   rw [eH] at h
   split at h
   · cases h
   split at h
   · cases h
   next h2=>
   have:=acy l (seen++[p]) h (by
    rw [List.map_append,List.nodup_append]
    refine ⟨hs,by simp,fun a ha b hb e=>?_⟩
    simp only [List.map_cons,List.map_nil,List.mem_singleton] at hb
    subst hb;subst e
    exact h2 ha)
   rwa [List.append_assoc,List.singleton_append] at this
theorem aj9 (h:cZ x=0):eH [] x.aA=0:=by
 unfold cZ at h
 split at h
 · next h1=>exact absurd h h1
 split at h
 · next h1=>exact absurd h h1
 · next h1=>simpa using h1
theorem agz (h:cZ x=0):(objects x).Nodup:=by
 unfold objects
 have:=acy x.aA [] (aj9 h) (by simp)
 rw [List.nil_append] at this
 exact this.filter _
theorem aik (h:cZ x=0) (hl:Lawful r s x) (hn:r.game=bM) (hg:good r s x=true):(left r s x).length+(objects x).length≤s.ay.length:=by
 have h1:=agz h
 have e:∀ b∈s.ay,stays r s x b=decide (b ∉ objects x):=by
  intro b _
  unfold stays
  have n1:¬ bM=aB:=aaJ
  have n2:¬ bM=aQ:=fun e=>ael e.symm
  rw [hn,hg]
  simp [n1,n2]
 have h2:left r s x=s.ay.filter fun b=>decide (b ∉ objects x):=List.filter_congr e
 have h3:=acX (objects x) (s.ay.filter fun b=>decide (b∈objects x)) h1 (fun c hc=>List.mem_filter.2 ⟨(hl.objs c hc).2,by simpa using hc⟩)
 have h4:(s.ay.filter fun b=>decide (b ∉ objects x)).length+(s.ay.filter fun b=>decide (b∈objects x)).length=s.ay.length:=by
  induction s.ay with
  | nil=>rfl
  | cons b l ih=>
    by_cases hb:b∈objects x
    · simp only [List.filter_cons,hb,not_true,decide_false,decide_true,if_true,Bool.false_eq_true,if_false,List.length_cons];simp only [decide_not] at ih ⊢;omega
    · simp only [List.filter_cons,hb,not_false_eq_true,decide_false,decide_true,if_true,Bool.false_eq_true,if_false,List.length_cons];simp only [decide_not] at ih ⊢;omega
 rw [h2]
 omega
def ajr (r:Rules) (a:Run):Prop:=0<a.points∧(a.aC=0∨a.aC=1)∧(r.game=bM→a.points≤9)
theorem adp (r:Rules):∀ (l:List aI) (s:State) (o:Bool) (acc:List Run),(∀ x∈l,cZ x=0)→(r.game=bM→s.ay.length≤9)→(∀ a∈acc,ajr r a)→
 (o=true→∃ (acc':List Run) (a:Run),acc=acc'++[a]∧(r.game=bM→a.points+(s.ay.length:Int)≤9))→∀ a∈Ac r s o acc l,ajr r a
 | [],s,o,acc,_,_,ha,_=>ha
 | x::l,s,o,acc,h,h9,ha,hi=>by
   have hl':=fun y hy=>h y (List.mem_cons_of_mem _ hy)
   have hck:=h x List.mem_cons_self
   have hx:=uw hck
   rw [Ac]
   by_cases hl:legal r s x=0
   · have hst:step r s x=next r s x:=by unfold step;rw [if_pos hl]
     have Y1:=lawful hl
     rw [if_neg (by simp [hl]),hst]
     have hle:r.game=bM→(next r s x).ay.length≤s.ay.length:=by
      intro hn
      rw [afa (by rw [hn];exact aaJ)]
      split
      · exact Nat.le_refl _
      · exact List.length_filter_le _ _
     cases hgd:good r s x with
     | false=>
       rw [if_pos rfl]
       exact adp r l _ false acc hl' (fun hn=>Nat.le_trans (hle hn) (h9 hn)) ha (fun e=>by cases e)
     | true=>
       rw [if_neg (by simp)]
       have hob:=ahu hgd
       have hgk:=abj hgd
       have hlen:r.game=bM→(next r s x).ay.length+(objects x).length≤s.ay.length:=by
        intro hn
        rw [afa (by rw [hn];exact aaJ),if_neg (by rintro (h | h);exact hgk.1 h;exact hgk.2 h)]
        exact aik hck Y1 hn hgd
       cases o with
       | true=>
         rw [if_pos rfl]
         obtain ⟨acc',a,rfl,hap⟩:=hi rfl
         have hb:=Ba (objects x).length a acc'
         rw [hb]
         have hra:=ha a (by simp)
         refine adp r l _ true _ hl' (fun hn=>Nat.le_trans (hle hn) (h9 hn)) ?_ (fun _=>⟨acc',_,rfl,fun hn=>?_⟩)
         · intro b hb
           rcases List.mem_append.1 hb with hb | hb
           · exact ha b (List.mem_append_left _ hb)
           · rw [List.mem_singleton] at hb;subst hb
             refine ⟨by show 0<a.points+_;have:=hra.1;omega,hra.2.1,fun hn=>?_⟩
             have:=hap hn;have:=hlen hn
             show a.points+_≤9
             omega
         · have:=hap hn;have:=hlen hn
           show a.points+_+_≤9
           omega
       | false=>
         rw [if_neg (by decide)]
         refine adp r l _ true _ hl' (fun hn=>Nat.le_trans (hle hn) (h9 hn)) ?_ (fun _=>⟨acc,_,rfl,fun hn=>?_⟩)
         · intro b hb
           rcases List.mem_append.1 hb with hb | hb
           · exact ha b hb
           · rw [List.mem_singleton] at hb;subst hb
             refine ⟨by show 0<((objects x).length:Int);omega,hx.aC,fun hn=>?_⟩
             have:=h9 hn;have:=hlen hn
             show ((objects x).length:Int)≤9
             omega
         · have:=h9 hn;have:=hlen hn
           show ((objects x).length:Int)+_≤9
           omega
   · have hst:step r s x=s:=by unfold step;rw [if_neg hl]
     rw [if_pos hl,hst]
     exact adp r l s o acc hl' h9 ha hi
theorem ajk (hn:r.game=bM):(start r).ay.length≤9:=by
 show (jA r).length≤9
 unfold jA kH dS
 rw [if_pos hn,List.length_map,List.length_range]
 exact Nat.le_refl 9
theorem adO {l:List aI} (h:∀ x∈l,cZ x=0):∀ a∈runs r l,ajr r a:=
 adp r l (start r) false [] h (fun hn=>ajk hn) (fun a ha=>by cases ha) (fun e=>by cases e)
theorem ah1 {l:List aI} (p:Int) (h:∀ x∈l,cZ x=0):aad p (runs r l)=aal p (notes r (start r) 1 l):=by
 have:=abS r p l (start r) false [] 1 (fun x hx=>(uw (h x hx)).aC) (fun e=>by cases e)
 rw [show runs r l=Ac r (start r) false [] l from rfl,this]
 simp [aad]
end
end M
namespace M
section
variable {r:Rules} {n:Int} {s:State} {x:aI}
theorem ad5:∀ l:List aI,lD l=0↔∀ x∈l,cZ x=0
 | []=>by simp [lD]
 | x::l=>by
   rw [lD]
   by_cases h:cZ x=0
   · rw [if_neg (by simp [h]),ad5 l]
     constructor
     · intro h2 y hy
       rcases List.mem_cons.1 hy with rfl | hy
       · exact h
       · exact h2 y hy
     · exact fun h2 y hy=>h2 y (List.mem_cons_of_mem _ hy)
   · rw [if_pos h]
     constructor
     · intro h2;exact absurd h2 h
     · intro h2;exact h2 x List.mem_cons_self
theorem ajF (l:List aI):je l=0↔l.length≤1000∧∀ x∈l,cZ x=0:=by
 unfold je
 split
 · next h=>
   constructor
   · intro e;cases e
   · intro e;omega
 · next h=>
   rw [ad5]
   exact ⟨fun e=>⟨by omega,e⟩,fun e=>e.2⟩
end
end M
namespace M
section
variable {r:Rules}
theorem af8 (p:Int) (l:List Note) (k:Nat) (h:k<l.length):sumOf p (l.take (k+1))=sumOf p (l.take k)+(if l[k].aC=p then l[k].points else 0):=by
 rw [List.take_succ_eq_append_getElem h,adx]
 simp [sumOf]
theorem ahm (p:Int) (l:List Note) (k:Nat) (h:k<l.length):aal p (l.take (k+1))=aal p (l.take k)+(if l[k].aC=p then max l[k].points 0 else 0):=by
 rw [List.take_succ_eq_append_getElem h,aed]
 simp [aal]
theorem acn (p:Int) (l:List Run) (k:Nat) (h:k<l.length):aad p (l.take (k+1))=aad p (l.take k)+(if l[k].aC=p then l[k].points else 0):=by
 rw [List.take_succ_eq_append_getElem h,aaB]
 simp [aad]
theorem afX (p:Int):∀ l:List Note,(∀ a∈l, -16≤a.points∧a.points≤16)→ -16*(l.length:Int)≤sumOf p l∧sumOf p l≤16*(l.length:Int)
 | [],_=>by simp [sumOf]
 | a::l,h=>by
   have ih:=afX p l (fun b hb=>h b (List.mem_cons_of_mem _ hb))
   have ha:=h a List.mem_cons_self
   rw [sumOf,List.length_cons]
   split <;> omega
theorem ahe (p:Int):∀ l:List Note,(∀ a∈l, -16≤a.points∧a.points≤16)→0≤aal p l∧aal p l≤16*(l.length:Int)
 | [],_=>by simp [aal]
 | a::l,h=>by
   have ih:=ahe p l (fun b hb=>h b (List.mem_cons_of_mem _ hb))
   have ha:=h a List.mem_cons_self
   rw [aal,List.length_cons]
   split <;> omega
theorem adG (p:Int):∀ l:List Run,(∀ a∈l,0<a.points)→0≤aad p l
 | [],_=>by simp [aad]
 | a::l,h=>by
   have ih:=adG p l (fun b hb=>h b (List.mem_cons_of_mem _ hb))
   have ha:=h a List.mem_cons_self
   rw [aad]
   split <;> omega
theorem ab9 (p:Int) (l:List Run) (h:∀ a∈l,0<a.points) (k:Nat):0≤aad p (l.take k)∧aad p (l.take k)≤aad p l:=by
 have h1:=adG p (l.take k) (fun a ha=>h a (List.mem_of_mem_take ha))
 have h2:=adG p (l.drop k) (fun a ha=>h a (List.mem_of_mem_drop ha))
 have h3:aad p l=aad p (l.take k)+aad p (l.drop k):=by rw [← aaB,List.take_append_drop]
 omega
theorem aiC (p:Int) (l:List Run) (h:∀ a∈l,0<a.points) (k:Nat) (hk:k<l.length) (hp:l[k].aC=p):l[k].points≤aad p l:=by
 have h1:=(ab9 p l h (k+1)).2
 have h2:=(ab9 p l h k).1
 rw [acn p l k hk,if_pos hp] at h1
 omega
structure ajy (r:Rules) (P:List aI) (k:Nat) (a:Note):Prop where
 number:a.number=(k:Int)+1
 aC:∀ h:k<P.length,P[k].aC=a.aC
 one:a.aC=0∨a.aC=1
 iW:a.iW≠0→a.points≤0
 rule:a.rule≠0→a.iW=0∧a.points=0∧a.turn=false
 game:r.game≠aB→0≤a.points
 lo: -16≤a.points
 hi:a.points≤16
theorem agi {P:List aI} (h:∀ x∈P,cZ x=0) (k:Nat) (hk:k<(notes r (start r) 1 P).length):ajy r P k (notes r (start r) 1 P)[k]:=by
 have hl:=aa8 r P (start r) 1
 have hk':k<P.length:=by omega
 obtain ⟨h1,h2,h3,h4,h5,h6,h7⟩:=afz r P (start r) 1 (fun x hx=>uw (h x hx)) k hk hk'
 have hp:=(uw (h _ (List.getElem_mem hk'))).aC
 refine ⟨by rw [h1];omega,fun _=>h2.symm,by rw [h2];exact hp,h3,h4,h5,h6,h7⟩
theorem ai6 {P:List aI} (h:∀ x∈P,cZ x=0):∀ a∈notes r (start r) 1 P, -16≤a.points∧a.points≤16:=by
 intro a ha
 obtain ⟨k,hk,rfl⟩:=List.getElem_of_mem ha
 exact ⟨(agi h k hk).lo,(agi h k hk).hi⟩
theorem adW {P:List aI} (h:∀ x∈P,cZ x=0) (hn:P.length≤24) (p:Int) (k:Nat):(-384≤sumOf p ((notes r (start r) 1 P).take k)∧sumOf p ((notes r (start r) 1 P).take k)≤384)∧(0≤aal p ((notes r (start r) 1 P).take k)∧aal p ((notes r (start r) 1 P).take k)≤384):=by
 have hl:=aa8 r P (start r) 1
 have hm:∀ a∈(notes r (start r) 1 P).take k, -16≤a.points∧a.points≤16:=fun a ha=>ai6 h a (List.mem_of_mem_take ha)
 have h1:=afX p _ hm
 have h2:=ahe p _ hm
 have hk:((notes r (start r) 1 P).take k).length≤24:=by rw [List.length_take];omega
 constructor <;> omega
theorem ab1 {P:List aI} (h:∀ x∈P,cZ x=0) (hn:P.length≤24) (p:Int) (k:Nat):0≤aad p ((runs r P).take k)∧aad p ((runs r P).take k)≤384:=by
 have h1:=ab9 p (runs r P) (fun a ha=>(adO h a ha).1) k
 have h2:=(adW (r:=r) h hn p (notes r (start r) 1 P).length).2
 rw [List.take_length, ← ah1 p h] at h2
 omega
theorem aiS {P:List aI} (h:∀ x∈P,cZ x=0):(final r (start r) P).s0=sumOf 0 (notes r (start r) 1 P)∧(final r (start r) P).s1=sumOf 1 (notes r (start r) 1 P)∧aad 0 (runs r P)=aal 0 (notes r (start r) 1 P)∧aad 1 (runs r P)=aal 1 (notes r (start r) 1 P):=by
 have h1:=agr r P (start r) 1 (fun x hx=>(uw (h x hx)).aC)
 have e0:(start r).s0=0:=rfl
 have e1:(start r).s1=0:=rfl
 rw [e0,e1] at h1
 exact ⟨by omega,by omega,ah1 0 h,ah1 1 h⟩
end
end M
end Go.Proofs.YtelpepbpdojikaaGreatDoor
