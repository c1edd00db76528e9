/- Parts of a proof. -/
import Derived.Test.YtelpepbpdojikaaGreatDoorKg0
set_option linter.unusedVariables false
set_option linter.unusedSimpArgs false
namespace Go.Proofs.YtelpepbpdojikaaGreatDoor
namespace M
def states (r:Rules) (s:State):List aI→List State
 | []=>[]
 | x::l=>step r s x::states r (step r s x) l
end M
namespace M
section
variable {r:Rules} {n:Int} {s:State} {x:aI}
theorem adi (r:Rules) (s:State) (x:aI) (t:State):(ended r s x t).s0=t.s0∧(ended r s x t).s1=t.s1∧(ended r s x t).ay=t.ay∧(ended r s x t).aZ=t.aZ:=by
 unfold ended;split <;> (try exact ⟨rfl,rfl,rfl,rfl⟩);split <;> (try exact ⟨rfl,rfl,rfl,rfl⟩);split <;> exact ⟨rfl,rfl,rfl,rfl⟩
theorem ahD (r:Rules) (s:State) (x:aI) (t:State):(grouped r s x t).s0=t.s0∧(grouped r s x t).s1=t.s1∧(grouped r s x t).ay=t.ay∧(grouped r s x t).aZ=t.aZ∧(grouped r s x t).over=t.over:=by
 unfold grouped;split <;> exact ⟨rfl,rfl,rfl,rfl,rfl⟩
theorem ag4 (r:Rules) (s:State) (x:aI):(counted r s x).s0=(if x.aC=0 then sc r s x s.s0 else s.s0)∧(counted r s x).s1=(if x.aC=0 then s.s1 else sc r s x s.s1):=by
 rw [jm];exact ⟨rfl,rfl⟩
end
end M
namespace M
section
variable {r:Rules} {n:Int} {s:State} {x:aI}
theorem anp (r:Rules) (s:State) (l:List aI) (x:aI):final r s (l++[x])=step r (final r s l) x:=by unfold final;rw [List.foldl_append];rfl
theorem alf (hr:aH r=0):∀ (l:List aI),(∀ x∈l,cZ x=0)→∀ s n,0≤n→Ok r n s→Ok r (n+16*l.length) (final r s l)
 | [],_,s,n,_,h=>h.more (by simp)
 | x::l,hl,s,n,hn,h=>by
   have:=alf hr l (fun y hy=>hl y (List.mem_cons_of_mem _ hy)) (step r s x) (n+16) (by omega) (step_ok hr h (uw (hl x List.mem_cons_self)) hn)
   refine this.more ?_;rw [List.length_cons]
   push_cast
   omega
theorem afR:∀ l:List aI,lD l=0↔∀ x∈l,cZ x=0
 | []=>by simp [lD]
 | x::l=>by
   rw [lD]
   by_cases h:cZ x=0
   · rw [if_neg (by simp [h]),afR l]
     constructor
     · intro h2 y hy
       rcases List.mem_cons.1 hy with rfl | hy
       · exact h
       · exact h2 y hy
     · exact fun h2 y hy=>h2 y (List.mem_cons_of_mem _ hy)
   · rw [if_pos h]
     constructor
     · intro h2;exact absurd h2 h
     · intro h2;exact h2 x List.mem_cons_self
theorem Zt (l:List aI):je l=0↔l.length≤1000∧∀ x∈l,cZ x=0:=by
 unfold je
 split
 · next h=>
   constructor
   · intro e;cases e
   · intro e;omega
 · next h=>
   rw [afR];exact ⟨fun e=>⟨by omega,e⟩,fun e=>e.2⟩
theorem State.eq_iff {a b:State}:a.eq b=true↔a=b:=by
 unfold State.eq
 rw [decide_eq_true_eq]
 constructor
 · rintro ⟨h1,h2,h3,h4,h5,h6,h7,h8,h9,h10,h11,h12,h13,Xo,h15⟩
   cases a;cases b
   simp only at h1 h2 h3 h4 h5 h6 h7 h8 h9 h10 h11 h12 h13 Xo h15
   subst h1 h2 h3 h4 h5 h6 h7 h8 h9 h10 h11 h12 h13 Xo h15
   rfl
 · rintro rfl;simp
def aa6 (r:Rules) (l:List aI) (c:List (Int × Int)):Int:=DT (fun n=>decide (((TS r l n).s0,(TS r l n).s1)=c.getD (n - 1) (0,0))) 1 l.length
theorem ZP (f:Nat→Bool) {n k:Nat} (h:n<k):DT f (n+1) (k - n)=if f (n+1) then DT f (n+1+1) (k - (n+1)) else ((n+1:Nat):Int):=by
 have:k - n=(k - (n+1))+1:=by omega
 rw [this,DT]
end
end M
end Go.Proofs.YtelpepbpdojikaaGreatDoor
