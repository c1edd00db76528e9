/- Parts of the proofs about chapter 5 (pool), joined by program. -/
import Derived.Test.YtelpepbpdojikaaGreatDoorKh4
import Derived.Test.YtelpepbpdojikaaGreatDoorKk1
set_option linter.unusedVariables false
set_option linter.unusedSimpArgs false
namespace Go.Proofs.YtelpepbpdojikaaGreatDoor
namespace M
section
variable {r:Rules} {n:Int} {s:State} {x:aI}
theorem aqe (r:Rules) (s:State) (x:aI):∃ e:Int,(∀ a,sc r s x a=a+e)∧(good r s x=true→e=(objects x).length)∧(good r s x=false→(e=0∨e= -1)∧(r.game≠aB→e=0)):=by
 unfold sc
 simp only
 cases hg:good r s x with
 | true=>rw [Hw hg];exact ⟨_,fun a=>rfl,fun _=>rfl,fun e=>by cases e⟩
 | false=>
   by_cases hf:iW r s x=0
   · exact ⟨0,fun a=>(by simp [hf]),fun e=>(by cases e),fun _=>⟨.inl rfl,fun _=>rfl⟩⟩
   · by_cases hs:r.game=aB
     · exact ⟨-1,fun a=>(by simp [hf,hs];omega),fun e=>(by cases e),fun _=>⟨.inr rfl,fun h=>absurd hs h⟩⟩
     · exact ⟨0,fun a=>(by simp [hf,hs]),fun e=>(by cases e),fun _=>⟨.inl rfl,fun _=>rfl⟩⟩
theorem aa8 (r:Rules) (s:State) (x:aI) (t:State):(ended r s x t).s0=t.s0∧(ended r s x t).s1=t.s1∧(ended r s x t).ay=t.ay∧(ended r s x t).aZ=t.aZ:=by
 unfold ended;split <;> (try exact ⟨rfl,rfl,rfl,rfl⟩);split <;> (try exact ⟨rfl,rfl,rfl,rfl⟩);split <;> exact ⟨rfl,rfl,rfl,rfl⟩
theorem abr (r:Rules) (s:State) (x:aI) (t:State):(grouped r s x t).s0=t.s0∧(grouped r s x t).s1=t.s1∧(grouped r s x t).ay=t.ay∧(grouped r s x t).aZ=t.aZ∧(grouped r s x t).over=t.over:=by
 unfold grouped;split <;> exact ⟨rfl,rfl,rfl,rfl,rfl⟩
theorem acP (r:Rules) (t:State):(dW r t).s0=t.s0∧(dW r t).s1=t.s1:=by
 unfold dW;split <;> exact ⟨rfl,rfl⟩
theorem ac5 (r:Rules) (s:State) (x:aI):(counted r s x).s0=(if x.aC=0 then sc r s x s.s0 else s.s0)∧(counted r s x).s1=(if x.aC=0 then s.s1 else sc r s x s.s1):=by
 rw [jm];exact ⟨rfl,rfl⟩
theorem aeU (r:Rules) (s:State) (x:aI):∃ d:Int,(next r s x).s0=s.s0+(if x.aC=0 then d else 0)∧(next r s x).s1=s.s1+(if x.aC=0 then 0 else d)∧
 (good r s x=true→d=(objects x).length)∧(good r s x=false→ -16≤d∧d≤0∧(r.game≠aB→d=0)):=by
 unfold next
 split
 · next hc=>exact ⟨0,by simp,by simp,fun hg=>absurd hc (aed hg).1,fun _=>⟨by omega,Int.le_refl 0,fun _=>rfl⟩⟩
 split
 · next hc=>exact ⟨0,by simp [calm],by simp [calm],fun hg=>absurd hc (aed hg).2,fun _=>⟨by omega,Int.le_refl 0,fun _=>rfl⟩⟩
 obtain ⟨e,he,hgo,hba⟩:=aqe r s x
 obtain ⟨c0,c1⟩:=ac5 r s x
 obtain ⟨e0,e1,_,_⟩:=aa8 r s x (counted r s x)
 have t0:(ended r s x (counted r s x)).s0=s.s0+(if x.aC=0 then e else 0):=by rw [e0,c0];split <;> simp [he]
 have t1:(ended r s x (counted r s x)).s1=s.s1+(if x.aC=0 then 0 else e):=by rw [e1,c1];split <;> simp [he]
 have aoX:good r s x=false→ -16≤e∧e≤0∧(r.game≠aB→e=0):=fun h=>⟨by have:=(hba h).1;omega,by have:=(hba h).1;omega,(hba h).2⟩
 unfold play
 simp only
 split
 · exact ⟨e,t0,t1,hgo,aoX⟩
 split
 · next hf=>
   have GI:good r s x=false:=by
    cases hg:good r s x with
    | false=>rfl
    | true=>exact absurd (Hw hg) hf.1
   unfold limit
   split
   · exact ⟨e,t0,t1,hgo,aoX⟩
   · next hs=>
     refine ⟨e - 15,?_,?_,fun h=>(by rw [GI] at h;cases h),fun _=>⟨(by have:=(hba GI).1;omega),(by have:=(hba GI).1;omega),fun h=>absurd (Classical.not_not.1 hs) h⟩⟩
     · unfold State.uT State.uS State.score sel
       by_cases h0:x.aC=0
       · simp only [h0,if_true] at t0 ⊢;rw [t0];omega
       · simp only [h0,if_false] at t0 ⊢;exact t0
     · unfold State.uT State.uS State.score sel
       by_cases h0:x.aC=0
       · simp only [h0,if_true] at t1 ⊢;exact t1
       · simp only [h0,if_false] at t1 ⊢;rw [t1];omega
 split
 · exact ⟨e,t0,t1,hgo,aoX⟩
 · have g:=abr r s x (ended r s x (counted r s x))
   have k:=acP r (grouped r s x (ended r s x (counted r s x)))
   exact ⟨e,by rw [k.1,g.1,t0],by rw [k.2,g.2.1,t1],hgo,aoX⟩
theorem ae2 (hp:x.aC=0∨x.aC=1):∃ d:Int,(next r s x).score x.aC - s.score x.aC=d∧(next r s x).s0=s.s0+(if x.aC=0 then d else 0)∧(next r s x).s1=s.s1+(if x.aC=1 then d else 0)∧
 (good r s x=true→d=(objects x).length)∧(good r s x=false→ -16≤d∧d≤0∧(r.game≠aB→d=0)):=by
 obtain ⟨d,h0,h1,hg,hb⟩:=aeU r s x
 refine ⟨d,?_,h0,?_,hg,hb⟩
 · unfold State.score sel
   rcases hp with hp | hp
   · simp only [hp,if_true] at h0 ⊢;omega
   · simp only [hp,show ¬ (1:Int)=0 by decide,if_false] at h1 ⊢;omega
 · rcases hp with hp | hp
   · simp only [hp,if_true,show ¬ (0:Int)=1 by decide,if_false] at h1 ⊢;exact h1
   · simp only [hp,show ¬ (1:Int)=0 by decide,if_true,if_false] at h1 ⊢;exact h1
end
end M
namespace M
section
variable {r:Rules} {n:Int} {s:State} {x:aI}
theorem acn (r:Rules) (s:State) (x:aI):((next r s x).aZ=s.aZ∧((next r s x).ay=s.ay∨(next r s x).ay=left r s x))∨(r.game=aB∧(next r s x).aZ=s.aZ+1∧(next r s x).ay=jA r):=by
 unfold next
 split
 · exact .inl ⟨rfl,.inl rfl⟩
 split
 · exact .inl ⟨rfl,.inl rfl⟩
 obtain ⟨_,_,eb,er⟩:=aa8 r s x (counted r s x)
 have hb:=eb.trans (mD r s x)
 have hr:=er.trans (vJ r s x)
 unfold play
 simp only
 split
 · exact .inl ⟨hr,.inr hb⟩
 split
 · unfold limit
   split
   · exact .inl ⟨hr,.inr hb⟩
   · next hg=>exact .inr ⟨Classical.not_not.1 hg,by show (ended r s x (counted r s x)).aZ+1=_;rw [hr],rfl⟩
 split
 · exact .inl ⟨hr,.inr hb⟩
 · obtain ⟨_,_,gb,gr,_⟩:=abr r s x (ended r s x (counted r s x))
   unfold dW
   split
   · next hg=>exact .inr ⟨hg.1,by show (grouped r s x (ended r s x (counted r s x))).aZ+1=_;rw [gr,hr],rfl⟩
   · exact .inl ⟨gr.trans hr,.inr (gb.trans hb)⟩
theorem adG (hl:Lawful r s x):(next r s x).turn≠s.turn∨(next r s x).over=true∨good r s x=true∨s.aZ<(next r s x).aZ:=by
 unfold next
 split
 · exact .inr (.inl rfl)
 next hc=>
 have hp:=hl.turn hc
 split
 · left;show 1 - x.aC≠s.turn;omega
 obtain ⟨_,_,eb,er⟩:=aa8 r s x (counted r s x)
 have hr:=er.trans (vJ r s x)
 unfold play
 simp only
 split
 · next ho=>exact .inr (.inl ho)
 split
 · unfold limit
   split
   · exact .inr (.inl rfl)
   · right;right;right
     show s.aZ<(ended r s x (counted r s x)).aZ+1
     omega
 split
 · left;show 1 - x.aC≠s.turn;omega
 · next hg=>exact .inr (.inr (.inl (by simpa using hg)))
theorem anc {b:Int} (hb:b∈s.ay) (h:b ∉ left r s x):∃ p∈x.aA,p.aJ=b:=by
 have h1:stays r s x b=false:=by
  cases he:stays r s x b with
  | false=>rfl
  | true=>exact absurd (mem_left.2 ⟨hb,he⟩) h
 unfold stays at h1
 rw [decide_eq_false_iff_not,not_or] at h1
 have h2:=Classical.not_not.1 h1.1
 unfold objects at h2
 obtain ⟨p,hp,e⟩:=List.mem_map.1 (List.mem_filter.1 h2).1
 exact ⟨p,hp,e⟩
theorem apb (h:x.aA=[]):good r s x=false:=by unfold good;rw [if_pos (.inr h)]
theorem abA (hr:aH r=0) (h:Ok r n s) (hn:0≤n) (hx:cZ x=0) (hl:legal r s x=0):
 (∀ k∈(next r s x).ay,k∈s.ay∨s.aZ<(next r s x).aZ)∧(∀ k∈s.ay,k∈(next r s x).ay∨∃ p∈x.aA,p.aJ=k)∧
 (s.aZ<(next r s x).aZ→r.game=aB)∧(x.aA=[]→(next r s x).score x.aC - s.score x.aC≤0)∧(next r s x).score (1 - x.aC)=s.score (1 - x.aC)∧
 ((next r s x).turn≠s.turn∨(next r s x).over=true∨0<(next r s x).score x.aC - s.score x.aC∨s.aZ<(next r s x).aZ)∧((next r s x).bC=0∨(next r s x).over=true):=by
 have Y1:=lawful hl
 have hso:=uw hx
 have hk:=OB hr h hso Y1 hn
 obtain ⟨d,hd,h0,h1,hg,hb⟩:=ae2 (r:=r) (s:=s) hso.aC
 rw [hd]
 refine ⟨fun k hk=>?_,fun k hk=>?_,fun hrk=>?_,fun hp=>(hb (apb hp)).2.1,?_,?_,?_⟩
 · rcases acn r s x with ⟨_,e | e⟩ | ⟨_,e,_⟩
   · exact .inl (by rwa [e] at hk)
   · rw [e] at hk;exact .inl (mem_left.1 hk).1
   · exact .inr (by omega)
 · rcases acn r s x with ⟨_,e | e⟩ | ⟨_,_,e⟩
   · exact .inl (by rwa [e])
   · rw [e]
     by_cases hm:k∈left r s x
     · exact .inl hm
     · exact .inr (anc hk hm)
   · rw [e];exact .inl (zH.2 (h.ay k hk))
 · rcases acn r s x with ⟨e,_⟩ | ⟨e,_⟩
   · omega
   · exact e
 · unfold State.score sel
   rcases hso.aC with hp | hp
   · simp only [hp,show ¬ (1:Int) - 0=0 by decide,show ¬ (0:Int)=1 by decide,if_false] at h1 ⊢;omega
   · simp only [hp,show (1:Int) - 1=0 by decide,show ¬ (1:Int)=0 by decide,if_false,if_true] at h0 ⊢;omega
 · rcases adG Y1 with e | e | e | e
   · exact .inl e
   · exact .inr (.inl e)
   · have:=hg e;have:=aew e;exact .inr (.inr (.inl (by omega)))
   · exact .inr (.inr (.inr e))
 · cases ho:(next r s x).over with
   | true=>exact .inr rfl
   | false=>exact .inl (hk.live ho).1
end
end M
end Go.Proofs.YtelpepbpdojikaaGreatDoor
