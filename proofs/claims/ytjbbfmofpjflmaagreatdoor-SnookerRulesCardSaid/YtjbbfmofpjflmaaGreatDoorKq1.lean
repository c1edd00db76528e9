/- Parts of a proof. -/
import Derived.Test.YtjbbfmofpjflmaaGreatDoorKr13
set_option linter.unusedVariables false
set_option linter.unusedSimpArgs false
namespace Go.Proofs.YtjbbfmofpjflmaaGreatDoor
namespace Sk
def aaJ (g:Game) (e:Entry):Int:=if dM g≠0 then dM g else dH g e
end Sk
namespace Sk
theorem adf:uo≠dA:=by decide
end Sk
namespace Sk
def aal (g:Game) (s:State):Bool:=0<g.target∧g.target≤max s.s0 s.s1
def aad (s:State):Bool:=
 if s.phase=fM then s.colour≠0∨s.aY=0
 else if s.phase=dA then s.colour≠0
 else if s.phase=bH then s.colour<2∨0<s.aY
 else s.colour≠0∨s.free∨s.aN
def aat (g:Game) (s:State):Bool:=
 if score s s.turn<s.brk∨(s.ay=2∧g.kind≠fC)∨(0<s.aO∧g.kind≠bT) then false
 else if aad s then false
 else if eu s then false
 else if g.kind=bT∧aal g s∧s.ay<0 then false
 else if g.kind≠fC then true
 else if 0≤s.ay then s.t0=s.t1∨(s.turn=1∧s.t0=s.t1+1)
 else if s.turn=1 then s.t0=s.t1+1
 else s.t0=s.t1∧aal g s=false∧s.t0<g.turns
def acy (g:Game) (s:State):Int:=
 if dM g≠0 then dM g else if far g s then 3 else if jq g s.phase=false then 13 else if aat g s=false then 19 else 0
theorem acn {g:Game} (h:1≤g.target) (s:State):aal g s=true↔g.target≤max s.s0 s.s1:=by unfold aal;simp;omega
theorem adx:uo≠fM:=by decide
theorem adp:uo≠bH:=by decide
theorem ad5 {g:Game} {s:State} (hg:g.kind=aK) (hr:InR g s) (hp:jq g s.phase=true):aat g s=true↔s.brk≤score s s.turn∧eu s=false∧bQ s=true:=by
 have n1:aK≠bT:=fun h=>oU h.symm;have n2:aK≠fC:=fun h=>qy h.symm;have hs:=hr.aO;have hrd:=hr.aY.1
 have key:aad s=false↔(s.phase=bH→s.aY=0∧2≤s.colour)∧(s.phase≠bH→s.colour=0∧(s.phase≠fM∨0<s.aY)):=by
  unfold aad
  rcases (qj hg).1 hp with h | h | h
  · rw [if_pos h,h];simp [VD];omega
  · rw [if_neg (by rw [h];exact oI),if_pos h,h];simp [Kz,oI]
  · rw [if_neg (by rw [h];exact lM),if_neg (by rw [h];exact kL),if_pos h,h];simp;omega
 rw [jL, ← key]
 unfold aat
 by_cases c1:score s s.turn<s.brk∨(s.ay=2∧g.kind≠fC)∨(0<s.aO∧g.kind≠bT)
 · rw [if_pos c1,hg] at*
   simp only [Bool.false_eq_true,false_iff]
   rintro ⟨h1,_,h2,h3,_⟩
   rcases c1 with c | c | c
   · omega
   · exact h3 c.1
   · omega
 · rw [if_neg c1]
   simp only [hg,not_or,not_and,n1,n2,ne_eq,not_false_iff,not_true] at c1
   have q1:s.ay≠2:=fun h=>(c1.2.1 h).elim
   have q2:s.aO=0:=by have:=c1.2.2;rcases Int.lt_or_le 0 s.aO with h | h;exact (this h).elim;omega
   cases h1:aad s <;> cases h2:eu s <;> simp [hg,n1,n2,q1,q2]
   all_goals omega
theorem aeU {g:Game} {s:State} (hg:g.kind=bT) (ht:1≤g.target) (hr:InR g s) (hp:jq g s.phase=true):aat g s=true↔s.brk≤score s s.turn∧eu s=false∧dF g s=true:=by
 have n2:bT≠fC:=fun h=>uU h.symm;have CQ:=(GR (by rw [hg];exact oU)).1 hp
 have key:aad s=false↔s.colour=0∧s.free=false∧s.aN=false:=by
  unfold aad
  rw [if_neg (by rw [CQ];exact adx),if_neg (by rw [CQ];exact adf),if_neg (by rw [CQ];exact adp)]
  simp
 rw [oV, ← key]
 unfold aat
 by_cases c1:score s s.turn<s.brk∨(s.ay=2∧g.kind≠fC)∨(0<s.aO∧g.kind≠bT)
 · rw [if_pos c1]
   simp only [Bool.false_eq_true,false_iff]
   rintro ⟨h1,_,_,h3,_⟩
   rcases c1 with c | c | c
   · omega
   · exact h3 c.1
   · exact c.2 hg
 · rw [if_neg c1]
   simp only [not_or,not_and,hg] at c1
   have q1:s.ay≠2:=fun h=>c1.2.1 h n2;have hre:=acn ht s
   cases h1:aad s <;> cases h2:eu s <;> cases h3:aal g s <;> rw [h3] at hre <;> simp [hg,n2,q1]
   all_goals (simp at hre;omega)
theorem adV {g:Game} {s:State} (hg:g.kind=fC) (ht:1≤g.target) (hr:InR g s) (hp:jq g s.phase=true):aat g s=true↔s.brk≤score s s.turn∧eu s=false∧mP g s=true:=by
 have CQ:=(GR (by rw [hg];exact qy)).1 hp;have hs:=hr.aO
 have key:aad s=false↔s.colour=0∧s.free=false∧s.aN=false:=by
  unfold aad
  rw [if_neg (by rw [CQ];exact adx),if_neg (by rw [CQ];exact adf),if_neg (by rw [CQ];exact adp)]
  simp
 rw [jW, ← key]
 unfold aat
 by_cases c1:score s s.turn<s.brk∨(s.ay=2∧g.kind≠fC)∨(0<s.aO∧g.kind≠bT)
 · rw [if_pos c1]
   simp only [Bool.false_eq_true,false_iff]
   rintro ⟨h1,_,_,h3,_⟩
   rcases c1 with c | c | c
   · omega
   · exact c.2 hg
   · omega
 · rw [if_neg c1]
   simp only [not_or,not_and,hg] at c1
   have q2:s.aO=0:=by rcases Int.lt_or_le 0 s.aO with h | h;exact absurd uU (c1.2.2 h);omega
   have q3:s.brk≤score s s.turn:=by have:=c1.1;omega
   have hre:=acn ht s
   cases h1:aad s
   · cases h2:eu s
     · have c3:¬ (g.kind=bT∧aal g s=true∧s.ay<0):=fun h=>by rw [hg] at h;exact uU h.1
       rw [if_neg (by simp),if_neg (by simp),if_neg c3,if_neg (by simp [hg])]
       by_cases hw:0≤s.ay
       · rw [if_pos hw]
         simp only [decide_eq_true_eq]
         exact ⟨fun h=>⟨q3,trivial,trivial,q2,fun _=>h,fun h2=>by omega⟩,fun h=>h.2.2.2.2.1 hw⟩
       · rw [if_neg hw]
         by_cases htn:s.turn=1
         · rw [if_pos htn]
           simp only [decide_eq_true_eq]
           exact ⟨fun h=>⟨q3,trivial,trivial,q2,fun h2=>absurd h2 hw,fun _=>⟨fun _=>h,fun h3=>absurd htn h3⟩⟩,fun h=>(h.2.2.2.2.2 (by omega)).1 htn⟩
         · rw [if_neg htn]
           have amH:aal g s=false↔max s.s0 s.s1<g.target:=by cases h3:aal g s <;> rw [h3] at hre <;> simp at hre ⊢ <;> omega
           simp only [decide_eq_true_eq,amH]
           exact ⟨fun h=>⟨q3,trivial,trivial,q2,fun h2=>absurd h2 hw,fun _=>⟨fun h3=>absurd h3 htn,fun _=>⟨h.1,h.2.2,h.2.1⟩⟩⟩,fun h=>by have:=(h.2.2.2.2.2 (by omega)).2 htn;exact ⟨this.1,this.2.2,this.2.1⟩⟩
     · simp
   · simp
theorem afi (g:Game) (s:State):acy g s=dh g s:=by
 unfold acy dh
 by_cases h0:dM g≠0
 · simp only [if_pos h0]
 simp only [if_neg h0]
 have h0:dM g=0:=Decidable.not_not.1 h0
 cases hf:far g s
 · simp only [Bool.false_eq_true,if_false]
   cases hp:jq g s.phase
   · simp only [if_true]
   · simp only [Bool.true_eq_false,if_false]
     have hr:=KF.1 hf
     have key:aat g s=true↔s.brk≤score s s.turn∧eu s=false∧jG g s=true:=by
      rcases iW h0 with ⟨hg,_⟩ | ⟨hg,_,ht,_⟩ | ⟨hg,_,ht,_⟩
      · rw [nP hg];exact ad5 hg hr hp
      · rw [vF hg];exact aeU hg ht.1 hr hp
      · rw [mM hg];exact adV hg ht.1 hr hp
     by_cases hk:aat g s=true
     · have h1:=key.1 hk
       rw [if_neg (by rw [hk];simp),if_neg (by rw [h1.2.1,h1.2.2];simp;omega)]
     · rw [if_pos (by simpa using hk),if_pos]
       cases h1:eu s
       · cases h2:jG g s
         · simp
         · rw [h1,h2] at key
           left
           rcases Int.lt_or_le (score s s.turn) s.brk with h | h
           · exact h
           · exact absurd (key.2 ⟨h,rfl,rfl⟩) hk
       · simp
 · simp only [if_true]
end Sk
end Go.Proofs.YtjbbfmofpjflmaaGreatDoor
