/- Parts of the proofs about chapter 5 (pool), joined by program. -/
import Derived.Test.YtelpepbpdojikaaGreatDoorKg0
set_option linter.unusedVariables false
set_option linter.unusedSimpArgs false
namespace Go.Proofs.YtelpepbpdojikaaGreatDoor
namespace M
section
variable {r:Rules} {n:Int} {s:State} {x:aI}
theorem ZP (n:Int):∀ (l:List Int) (last:Option Int),jq n last l=0↔(∀ b∈l,1≤b∧b≤n)∧l.Pairwise (· < ·)∧∀ a,last=some a→∀ b∈l,a<b
 | [],last=>by simp [jq]
 | b::l,last=>by
   rw [jq]
   by_cases h1:out b 1 n=true
   · rw [if_pos h1]
     constructor
     · intro h;cases h
     · rintro ⟨h,_⟩
       have:=h b List.mem_cons_self
       unfold out at h1;rw [decide_eq_true_eq] at h1;omega
   · rw [if_neg h1]
     have h1':=uh.1 (by simpa using h1)
     by_cases h2:(last.map (fun a=>decide (b≤a))).getD false=true
     · rw [if_pos h2]
       constructor
       · intro h;cases h
       · rintro ⟨_,_,h⟩
         cases last with
         | none=>simp at h2
         | some a=>have:=h a rfl b List.mem_cons_self;simp at h2;omega
     · rw [if_neg h2,ZP n l (some b)]
       have hl:∀ a,last=some a→a<b:=by
        intro a e;subst e;simp at h2;omega
       constructor
       · rintro ⟨i1,i2,i3⟩
         refine ⟨?_,List.pairwise_cons.2 ⟨fun c hc=>i3 b rfl c hc,i2⟩,fun a e c hc=>?_⟩
         · intro c hc
           rcases List.mem_cons.1 hc with rfl | hc
           · exact h1'
           · exact i1 c hc
         · rcases List.mem_cons.1 hc with rfl | hc
           · exact hl a e
           · have:=hl a e
             have:=i3 b rfl c hc
             omega
       · rintro ⟨i1,i2,i3⟩
         obtain ⟨j1,j2⟩:=List.pairwise_cons.1 i2
         exact ⟨fun c hc=>i1 c (List.mem_cons_of_mem _ hc),j2,fun a e c hc=>by cases e;exact j1 c hc⟩
theorem afY:dw r s=0↔aH r=0∧(s.turn=0∨s.turn=1)∧(s.bC=0∨s.bC=1)∧(0≤s.group∧s.group≤2)∧(s.group≠0→r.game=aQ):=by
 unfold dw
 by_cases h:aH r=0
 · rw [if_neg (by simp [h])]
   unfold out
   by_cases hg:r.game=aQ
   · simp only [h,hg,decide_eq_true_eq,ne_eq,not_true,and_false,or_false,true_and,implies_true,and_true]
     split
     · constructor
       · intro e;cases e
       · omega
     · constructor
       · intro _;omega
       · intro _;rfl
   · simp only [h,hg,decide_eq_true_eq,ne_eq,not_false_eq_true,and_true,true_and]
     split
     · constructor
       · intro e;cases e
       · rintro ⟨h1,h2,h3,h4⟩
         by_cases h0:s.group=0
         · omega
         · exact (h4 h0).elim
     · next h1=>
       constructor
       · intro _;exact ⟨by omega,by omega,by omega,fun h0=>by omega⟩
       · intro _;rfl
 · rw [if_pos h]
   constructor
   · intro e;exact absurd e h
   · rintro ⟨e,_⟩;exact absurd e h
theorem Z7 {over:Bool} {f:Int}:yL r over f=false↔(0≤f∧f≤99999)∧(0<r.aY→f≤r.aY∧(over=false→f<r.aY)):=by
 unfold yL
 rw [decide_eq_false_iff_not,not_or,Bool.not_eq_true,uh,not_and,not_or,not_and]
 constructor
 · rintro ⟨h1,h2⟩
   refine ⟨h1,fun h0=>⟨by have:=(h2 h0).1;omega,fun ho=>?_⟩⟩
   have h3:=(h2 h0).1
   have h4:=(h2 h0).2
   rcases Int.lt_or_le f r.aY with h | h
   · exact h
   · exact absurd ho (h4 (by omega))
 · rintro ⟨h1,h2⟩
   refine ⟨h1,fun h0=>⟨by have:=(h2 h0).1;omega,fun e ho=>?_⟩⟩
   have:=(h2 h0).2 ho
   omega
theorem abY:iP r s=0↔(-99999≤s.s0∧s.s0≤99999)∧(-99999≤s.s1∧s.s1≤99999)∧yL r s.over s.f0=false∧yL r s.over s.f1=false∧(0≤s.run∧s.run≤99999)∧(1≤s.aZ∧s.aZ≤1000):=by
 unfold iP
 rw [← uh, ← uh, ← uh (n:=s.run), ← uh (n:=s.aZ)]
 cases out s.s0 (-99999) 99999 <;> cases out s.s1 (-99999) 99999 <;> cases yL r s.over s.f0 <;> cases yL r s.over s.f1 <;> cases out s.run 0 99999 <;> cases out s.aZ 1 1000 <;> simp
theorem ahR:iP r s=0∨iP r s=3:=by unfold iP;split <;> simp
theorem ahb:xU r s=0↔ET r s=false∧(s.over=false→s.bC=0∧missing r s=false):=by
 unfold xU
 cases ET r s <;> cases s.over <;> cases missing r s <;> by_cases h:s.bC=0 <;> simp [h]
theorem abR:missing r s=false↔s.ay≠[]∧(r.game=aQ→(8:Int)∈s.ay)∧(r.game=bM→(9:Int)∈s.ay):=by
 unfold missing
 rw [decide_eq_false_iff_not,not_or,not_or,not_and,not_and,Classical.not_not,Classical.not_not]
theorem agJ:ET r s=false↔(s.push=true→r.game=bM∧s.brk=false)∧(s.pushed=true→r.game=bM∧s.brk=false)∧(s.push=true→s.pushed=true→False):=by
 unfold ET
 by_cases hg:r.game=bM <;> cases s.push <;> cases s.pushed <;> cases s.brk <;> simp [hg]
theorem ajC:jf r s=0↔dw r s=0∧jq (dS r.game) none s.ay=0∧iP r s=0∧xU r s=0:=by
 unfold jf
 by_cases h1:dw r s=0
 · by_cases h2:jq (dS r.game) none s.ay=0
   · by_cases h3:iP r s=0
     · simp [h1,h2,h3]
     · simp [h1,h2,h3]
   · simp [h1,h2]
 · simp [h1]
theorem agv (h:jf r s=0):aH r=0∧Ok r 99999 s:=by
 obtain ⟨h1,h2,h3,h4⟩:=ajC.1 h
 obtain ⟨a1,a2,a3,a4,a5⟩:=afY.1 h1
 obtain ⟨b1,b2,_⟩:=(ZP _ _ _).1 h2
 obtain ⟨c1,c2,c3,c4,c5,c6⟩:=abY.1 h3
 obtain ⟨d1,d2⟩:=ahb.1 h4
 obtain ⟨e1,e2⟩:=Z7.1 c3
 obtain ⟨e3,e4⟩:=Z7.1 c4
 obtain ⟨p1,p2,p3⟩:=agJ.1 d1
 exact ⟨a1,a2,a3,a4,a5,b1,b2,c1,c2,e1,e3,e2,e4,c5,by omega,p1,p2,p3,fun ho=>⟨(d2 ho).1,abR.1 (d2 ho).2⟩⟩
theorem acg (hr:aH r=0) (h:Ok r n s):jf r s=iP r s:=by
 have h1:dw r s=0:=afY.2 ⟨hr,h.turn,h.bC,h.group,h.game⟩
 have h2:jq (dS r.game) none s.ay=0:=(ZP _ _ _).2 ⟨h.ay,h.order,fun a e=>by cases e⟩
 have h4:xU r s=0:=ahb.2 ⟨agJ.2 ⟨h.push,h.pushed,h.both⟩,fun ho=>⟨(h.live ho).1,abR.2 (h.live ho).2⟩⟩
 unfold jf
 rw [if_neg (by simp [h1]),if_neg (by simp [h2])]
 rcases ahR (r:=r) (s:=s) with h3 | h3
 · rw [if_neg (by simp [h3]),h4,h3]
 · rw [if_pos (by rw [h3];decide),h3]
theorem aef (hr:aH r=0) (h:Ok r n s) (hn:n≤1000):jf r s=0:=by
 rw [acg hr h]
 have:=h.s0;have:=h.s1;have:=h.f0;have:=h.f1;have:=h.run;have:=h.aZ
 exact abY.2 ⟨by omega,by omega,Z7.2 ⟨by omega,h.l0⟩,Z7.2 ⟨by omega,h.l1⟩,by omega,by omega⟩
theorem adF (h:s.over=true):legal r s x=1:=by unfold legal;rw [if_pos h]
end
end M
namespace M
section
variable {r:Rules} {n:Int} {s:State} {x:aI}
def sumOf (p:Int):List Note→Int
 | []=>0
 | a::l=>(if a.aC=p then a.points else 0)+sumOf p l
end
end M
namespace M
section
variable {r:Rules} {n:Int} {s:State} {x:aI}
theorem aaj (r:Rules):∀ (l:List aI) (s:State),final r s (kept r s l)=final r s l
 | [],s=>rfl
 | x::l,s=>by
   have e:final r s (x::l)=final r (step r s x) l:=rfl
   rw [kept,e]
   split
   · exact aaj r l _
   · next h=>
     have hst:step r s x=s:=by unfold step;rw [if_neg h]
     rw [hst];exact aaj r l s
theorem ZL (r:Rules):∀ (l:List aI) (s:State) (n:Int),jy r s n (kept r s l)=[]
 | [],s,n=>rfl
 | x::l,s,n=>by
   rw [kept]
   split
   · next h=>
     rw [jy,if_neg (by simp [h]),List.nil_append]
     exact ZL r l _ _
   · next h=>
     have hst:step r s x=s:=by unfold step;rw [if_neg h]
     rw [hst];exact ZL r l s n
theorem ady (r:Rules):∀ (l:List aI) (s:State),∀ x∈kept r s l,x∈l
 | [],s,x,h=>h
 | y::l,s,x,h=>by
   rw [kept] at h
   split at h
   · rcases List.mem_cons.1 h with rfl | h
     · exact List.mem_cons_self
     · exact List.mem_cons_of_mem _ (ady r l _ x h)
   · exact List.mem_cons_of_mem _ (ady r l _ x h)
theorem ZW (r:Rules):∀ (l:List aI) (s:State),(kept r s l).length≤l.length
 | [],s=>Nat.le_refl _
 | y::l,s=>by
   have:=ZW r l (step r s y)
   rw [kept,List.length_cons]
   split
   · rw [List.length_cons];omega
   · omega
theorem abC:∀ l:List aI,lD l=0↔∀ x∈l,cZ x=0
 | []=>by simp [lD]
 | x::l=>by
   rw [lD]
   by_cases h:cZ x=0
   · rw [if_neg (by simp [h]),abC l]
     constructor
     · intro h2 y hy
       rcases List.mem_cons.1 hy with rfl | hy
       · exact h
       · exact h2 y hy
     · exact fun h2 y hy=>h2 y (List.mem_cons_of_mem _ hy)
   · rw [if_pos h]
     constructor
     · intro h2;exact absurd h2 h
     · intro h2;exact h2 x List.mem_cons_self
theorem aa6 (l:List aI):je l=0↔l.length≤1000∧∀ x∈l,cZ x=0:=by
 unfold je
 split
 · next h=>
   constructor
   · intro e;cases e
   · intro e;omega
 · next h=>
   rw [abC]
   exact ⟨fun e=>⟨by omega,e⟩,fun e=>e.2⟩
theorem akN {l:List aI} (h:je l=0) (s:State):je (kept r s l)=0:=by
 rw [aa6] at h ⊢
 exact ⟨Nat.le_trans (ZW r l s) h.1,fun x hx=>h.2 x (ady r l s x hx)⟩
theorem State.eq_iff {a b:State}:a.eq b=true↔a=b:=by
 unfold State.eq
 rw [decide_eq_true_eq]
 constructor
 · rintro ⟨h1,h2,h3,h4,h5,h6,h7,h8,h9,h10,h11,h12,h13,Xo,h15⟩
   cases a;cases b
   simp only at h1 h2 h3 h4 h5 h6 h7 h8 h9 h10 h11 h12 h13 Xo h15
   subst h1 h2 h3 h4 h5 h6 h7 h8 h9 h10 h11 h12 h13 Xo h15
   rfl
 · rintro rfl;simp
end
end M
end Go.Proofs.YtelpepbpdojikaaGreatDoor
