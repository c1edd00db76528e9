/- Parts of the proofs about chapter 5 (pool), joined by program. -/
import Derived.Test.YtelpepbpdojikaaGreatDoorKg21
import Derived.Test.YtelpepbpdojikaaGreatDoorKg25
set_option linter.unusedVariables false
set_option linter.unusedSimpArgs false
namespace Go.Proofs.YtelpepbpdojikaaGreatDoor
open Go.RowKit
def jS (x:M.aI) (p:Int) (n:Int):List (List UInt8)→M.aI × Int × Int
 | []=>(x,p,n)
 | w::l=>if w=[] then (x, -1,n+1) else if (dU x p.toNat w).1<0 then ((dU x p.toNat w).2,(dU x p.toNat w).1,n+1) else jS (dU x p.toNat w).2 (dU x p.toNat w).1 (n+1) l
theorem Ns (x:M.aI) (p:Nat):M.read x p []=none:=by
 unfold M.read
 by_cases h2:p≤2 <;> by_cases h3:p≤3 <;> simp [h2,h3,M.dF,M.uM]
theorem zX {x:M.aI} {p:Nat} {w:List UInt8} {q:M.aI × Nat} (h:M.read x p w=some q):2≤q.2∧q.2≤5:=by
 unfold M.read at h
 split at h
 · injection h with h;subst h;exact ⟨by simp,by simp⟩
 · split at h
   · injection h with h;subst h;exact ⟨by simp,by simp⟩
   · split at h
     · injection h with h;subst h;exact ⟨by simp,by simp⟩
     · split at h
       · injection h with h;subst h;exact ⟨by simp,by simp⟩
       · cases h
theorem Jr (x:M.aI) {p:Nat} (hp:2≤p) (w:List UInt8):dU x p w=match M.read x p w with | some q=>((q.2:Int),q.1) | none=>(-1,x):=by
 unfold dU;rw [if_neg (by omega),if_neg (by omega)];rfl
theorem Ei:∀ (l:List (List UInt8)) (x:M.aI) (p:Nat) (n:Int),2≤p→match M.readAll x p n l with
  | .ok y=>(jS x p n l).1=y∧2≤(jS x p n l).2.1
  | .error m=>(jS x p n l).2.1<0∧(jS x p n l).2.2=m
 | [],x,p,n,hp=>by
   rw [M.readAll,jS]
   exact ⟨rfl,by show (2:Int)≤p;omega⟩
 | w::l,x,p,n,hp=>by
   rw [M.readAll,jS]
   by_cases hw:w=[]
   · subst hw
     rw [Ns,if_pos rfl]
     exact ⟨show (-1:Int)<0 by decide,rfl⟩
   · rw [if_neg hw,show ((p:Int)).toNat=p from by omega,Jr x hp]
     cases hr:M.read x p w with
     | none=>
       simp only
       rw [if_pos (by decide)]
       exact ⟨show (-1:Int)<0 by decide,rfl⟩
     | some q=>
       have hq:=zX hr
       simp only
       rw [if_neg (by omega)]
       exact Ei l q.1 q.2 (n+1) hq.1
def Ul (pl:Int):M.aI:={M.blank with aC:=pl }
def mkK (pl:Int) (k:List UInt8):M.aI:={M.blank with aC:=pl,kind:=⟨k.toArray⟩ }
theorem AB (w:List UInt8) (l:List (List UInt8)):M.iU (w::l)=if w≠[97]∧w≠[98] then .error 1 else match l with
  | []=> .error 2
  | k::l=>if M.ku k=false then .error 2 else M.readAll (mkK (if w=[98] then 1 else 0) k) 2 2 l:=by
 cases l <;> rfl
theorem Ik (w:List UInt8) (l:List (List UInt8)):M.iU (w::l)=
 if (jS M.blank 0 0 (w::l)).2.1<0 then .error (jS M.blank 0 0 (w::l)).2.2 else if (jS M.blank 0 0 (w::l)).2.1=1 then .error ((jS M.blank 0 0 (w::l)).2.2+1) else .ok (jS M.blank 0 0 (w::l)).1:=by
 rw [AB,jS]
 by_cases hw:w=[]
 · subst hw
   rw [if_pos (by decide),if_pos rfl];rfl
 rw [if_neg hw]
 have h0:((0:Int)).toNat=0:=rfl
 by_cases ha:w=[97]∨w=[98]
 · have hr:dU M.blank 0 w=(1,Ul (if w=[98] then 1 else 0)):=by
    rcases ha with rfl | rfl <;> rfl
   rw [h0,hr,if_neg (by intro h;rcases ha with h1 | h1;exact h.1 h1;exact h.2 h1)]
   generalize (if w=[98] then (1:Int) else 0)=pl
   simp only [show ¬ (1:Int)<0 from by decide,show ¬ (2:Int)<0 from by decide,show (-1:Int)<0 from by decide,if_true,if_false]
   match l with
   | []=>rfl
   | k::l=>
     rw [jS]
     have h1:((1:Int)).toNat=1:=rfl
     rw [h1]
     by_cases hk:k=[]
     · subst hk
       simp only [if_true]
       rw [if_pos (show M.ku []=false by decide),if_pos (show (-1:Int)<0 by decide)];rfl
     · rw [if_neg hk]
       cases hkk:M.ku k with
       | false=>
         have hr:dU (Ul pl) 1 k=(-1,Ul pl):=by
          unfold dU;rw [if_neg (by decide),if_pos rfl,hkk];rfl
         rw [hr]
         simp only [show ¬ (1:Int)<0 from by decide,show ¬ (2:Int)<0 from by decide,show (-1:Int)<0 from by decide,if_true,if_false]
         rw [if_pos hkk];rfl
       | true=>
         have hr:dU (Ul pl) 1 k=(2,mkK pl k):=by
          unfold dU;rw [if_neg (by decide),if_pos rfl,hkk];rfl
         rw [hr]
         simp only [show ¬ (1:Int)<0 from by decide,show ¬ (2:Int)<0 from by decide,show (-1:Int)<0 from by decide,if_true,if_false]
         rw [if_neg (show ¬ (M.ku k=false) by rw [hkk];decide)]
         have:=Ei l (mkK pl k) 2 2 (Nat.le_refl 2)
         cases hra:M.readAll (mkK pl k) 2 2 l with
         | ok y=>
           rw [hra] at this
           obtain ⟨e1,e2⟩:=this
           have e2:(2:Int)≤(jS (mkK pl k) 2 (0+1+1) l).2.1:=e2
           rw [if_neg (by omega),if_neg (by omega)]
           rw [← e1];rfl
         | error m=>
           rw [hra] at this
           obtain ⟨e1,e2⟩:=this
           have e1:(jS (mkK pl k) 2 (0+1+1) l).2.1<0:=e1
           rw [if_pos e1, ← e2];rfl
 · have hr:dU M.blank 0 w=(-1,M.blank):=by
    unfold dU
    rw [if_pos rfl,if_neg (fun h=>ha (.inl h)),if_neg (fun h=>ha (.inr h))]
   rw [h0,hr,if_pos ⟨fun h=>ha (.inl h),fun h=>ha (.inr h)⟩]
   rfl
def endP (r:M.aI × Int × Int):M.aI × Int × Int:=
 if r.2.1<0 then (M.blank,r.2.2,25) else if r.2.1=1 then (M.blank,r.2.2+1,25) else if M.cZ r.1≠0 then (M.blank,0,M.cZ r.1) else (r.1,0,0)
theorem FU (l:List UInt8) (h:¬ 4096<l.length):M.parse l=endP (jS M.blank 0 0 (M.words l)):=by
 obtain ⟨w,ws,e⟩:=List.exists_cons_of_ne_nil (M.wW l [])
 have e:M.words l=w::ws:=e
 unfold M.parse
 rw [if_neg h,e,Ik]
 generalize jS M.blank 0 0 (w::ws)=r
 unfold endP
 by_cases h1:r.2.1<0
 · rw [if_pos h1,if_pos h1]
 · rw [if_neg h1,if_neg h1]
   by_cases h2:r.2.1=1
   · rw [if_pos h2,if_pos h2]
   · rw [if_neg h2,if_neg h2]
theorem uF (l:List UInt8):∀ w∈M.words l,w.length≤l.length:=by
 have key:∀ (l cur:List UInt8),∀ w∈M.dM cur l,w.length≤cur.length+l.length:=by
  intro l
  induction l with
  | nil=>intro cur w hw;rw [M.dM,List.mem_singleton] at hw;subst hw;simp
  | cons c l ih=>
    intro cur w hw
    rw [M.dM] at hw
    split at hw
    · rcases List.mem_cons.1 hw with rfl | hw
      · omega
      · have:=ih [] w hw;simp at this ⊢;omega
    · have:=ih _ w hw;simp at this ⊢;omega
 intro w hw
 simpa using key l [] w hw
end Go.Proofs.YtelpepbpdojikaaGreatDoor
