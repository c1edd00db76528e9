/- Parts of a proof. -/
import Derived.Test.YtcjglfbpjkdgiaaGreatDoorKk23
import Derived.Test.YtcjglfbpjkdgiaaGreatDoorKk28
set_option linter.unusedVariables false
set_option linter.unusedSimpArgs false
namespace Go.Proofs.YtcjglfbpjkdgiaaGreatDoor
open Go.RowKit
def jU (x:M.aV) (p:Int) (n:Int):List (List UInt8)→M.aV × Int × Int
 | []=>(x,p,n)
 | w::l=>if w=[] then (x, -1,n+1) else if (fQ x p.toNat w).1<0 then ((fQ x p.toNat w).2,(fQ x p.toNat w).1,n+1) else jU (fQ x p.toNat w).2 (fQ x p.toNat w).1 (n+1) l
theorem WI (x:M.aV) (p:Nat):M.read x p []=none:=by
 unfold M.read
 by_cases h2:p≤2 <;> by_cases h3:p≤3 <;> simp [h2,h3,M.dQ,M.rE]
theorem Dx {x:M.aV} {p:Nat} {w:List UInt8} {q:M.aV × Nat} (h:M.read x p w=some q):2≤q.2∧q.2≤5:=by
 unfold M.read at h
 split at h
 · injection h with h;subst h;exact ⟨by simp,by simp⟩
 · split at h
   · injection h with h;subst h;exact ⟨by simp,by simp⟩
   · split at h
     · injection h with h;subst h;exact ⟨by simp,by simp⟩
     · split at h
       · injection h with h;subst h;exact ⟨by simp,by simp⟩
       · cases h
theorem QY (x:M.aV) {p:Nat} (hp:2≤p) (w:List UInt8):fQ x p w=match M.read x p w with | some q=>((q.2:Int),q.1) | none=>(-1,x):=by
 unfold fQ;rw [if_neg (by omega),if_neg (by omega)];rfl
theorem Jd:∀ (l:List (List UInt8)) (x:M.aV) (p:Nat) (n:Int),2≤p→match M.readAll x p n l with
  | .ok y=>(jU x p n l).1=y∧2≤(jU x p n l).2.1
  | .error m=>(jU x p n l).2.1<0∧(jU x p n l).2.2=m
 | [],x,p,n,hp=>by
   rw [M.readAll,jU];exact ⟨rfl,by show (2:Int)≤p;omega⟩
 | w::l,x,p,n,hp=>by
   rw [M.readAll,jU]
   by_cases hw:w=[]
   · subst hw
     rw [WI,if_pos rfl];exact ⟨show (-1:Int)<0 by decide,rfl⟩
   · rw [if_neg hw,show ((p:Int)).toNat=p from by omega,QY x hp]
     cases hr:M.read x p w with
     | none=>
       simp only
       rw [if_pos (by decide)];exact ⟨show (-1:Int)<0 by decide,rfl⟩
     | some q=>
       have hq:=Dx hr
       simp only
       rw [if_neg (by omega)];exact Jd l q.1 q.2 (n+1) hq.1
def mkP (pl:Int):M.aV:={M.blank with aG:=pl }
def mkK (pl:Int) (k:List UInt8):M.aV:={M.blank with aG:=pl,kind:=⟨k.toArray⟩ }
theorem Ej (w:List UInt8) (l:List (List UInt8)):M.gK (w::l)=if w≠[97]∧w≠[98] then .error 1 else match l with
  | []=> .error 2
  | k::l=>if M.jy k=false then .error 2 else M.readAll (mkK (if w=[98] then 1 else 0) k) 2 2 l:=by
 cases l <;> rfl
theorem Qh (w:List UInt8) (l:List (List UInt8)):M.gK (w::l)=
 if (jU M.blank 0 0 (w::l)).2.1<0 then .error (jU M.blank 0 0 (w::l)).2.2 else if (jU M.blank 0 0 (w::l)).2.1=1 then .error ((jU M.blank 0 0 (w::l)).2.2+1) else .ok (jU M.blank 0 0 (w::l)).1:=by
 rw [Ej,jU]
 by_cases hw:w=[]
 · subst hw
   rw [if_pos (by decide),if_pos rfl];rfl
 rw [if_neg hw];have h0:((0:Int)).toNat=0:=rfl
 by_cases ha:w=[97]∨w=[98]
 · have hr:fQ M.blank 0 w=(1,mkP (if w=[98] then 1 else 0)):=by
    rcases ha with rfl | rfl <;> rfl
   rw [h0,hr,if_neg (by intro h;rcases ha with h1 | h1;exact h.1 h1;exact h.2 h1)]
   generalize (if w=[98] then (1:Int) else 0)=pl
   simp only [show ¬ (1:Int)<0 from by decide,show ¬ (2:Int)<0 from by decide,show (-1:Int)<0 from by decide,if_true,if_false]
   match l with
   | []=>rfl
   | k::l=>
     rw [jU];have h1:((1:Int)).toNat=1:=rfl;rw [h1]
     by_cases hk:k=[]
     · subst hk
       simp only [if_true]
       rw [if_pos (show M.jy []=false by decide),if_pos (show (-1:Int)<0 by decide)];rfl
     · rw [if_neg hk]
       cases hkk:M.jy k with
       | false=>
         have hr:fQ (mkP pl) 1 k=(-1,mkP pl):=by
          unfold fQ;rw [if_neg (by decide),if_pos rfl,hkk];rfl
         rw [hr]
         simp only [show ¬ (1:Int)<0 from by decide,show ¬ (2:Int)<0 from by decide,show (-1:Int)<0 from by decide,if_true,if_false]
         rw [if_pos hkk];rfl
       | true=>
         have hr:fQ (mkP pl) 1 k=(2,mkK pl k):=by
          unfold fQ;rw [if_neg (by decide),if_pos rfl,hkk];rfl
         rw [hr]
         simp only [show ¬ (1:Int)<0 from by decide,show ¬ (2:Int)<0 from by decide,show (-1:Int)<0 from by decide,if_true,if_false]
         rw [if_neg (show ¬ (M.jy k=false) by rw [hkk];decide)]
         have:=Jd l (mkK pl k) 2 2 (Nat.le_refl 2)
         cases hra:M.readAll (mkK pl k) 2 2 l with
         | ok y=>
           rw [hra] at this;obtain ⟨e1,e2⟩:=this;have e2:(2:Int)≤(jU (mkK pl k) 2 (0+1+1) l).2.1:=e2;rw [if_neg (by omega),if_neg (by omega)];rw [← e1];rfl
         | error m=>
           rw [hra] at this;obtain ⟨e1,e2⟩:=this;have e1:(jU (mkK pl k) 2 (0+1+1) l).2.1<0:=e1;rw [if_pos e1, ← e2];rfl
 · have hr:fQ M.blank 0 w=(-1,M.blank):=by
    unfold fQ
    rw [if_pos rfl,if_neg (fun h=>ha (.inl h)),if_neg (fun h=>ha (.inr h))]
   rw [h0,hr,if_pos ⟨fun h=>ha (.inl h),fun h=>ha (.inr h)⟩]
   rfl
def endP (r:M.aV × Int × Int):M.aV × Int × Int:=
 if r.2.1<0 then (M.blank,r.2.2,25) else if r.2.1=1 then (M.blank,r.2.2+1,25) else if M.bT r.1≠0 then (M.blank,0,M.bT r.1) else (r.1,0,0)
theorem Nw (l:List UInt8) (h:¬ 4096<l.length):M.parse l=endP (jU M.blank 0 0 (M.words l)):=by
 obtain ⟨w,ws,e⟩:=List.exists_cons_of_ne_nil (M.yx l []);have e:M.words l=w::ws:=e
 unfold M.parse
 rw [if_neg h,e,Qh]
 generalize jU M.blank 0 0 (w::ws)=r
 unfold endP
 by_cases h1:r.2.1<0
 · rw [if_pos h1,if_pos h1]
 · rw [if_neg h1,if_neg h1]
   by_cases h2:r.2.1=1
   · rw [if_pos h2,if_pos h2]
   · rw [if_neg h2,if_neg h2]
theorem uq (l:List UInt8):∀ w∈M.words l,w.length≤l.length:=by
 have key:∀ (l cur:List UInt8),∀ w∈M.dW cur l,w.length≤cur.length+l.length:=by
  intro l
  induction l with
  | nil=>intro cur w hw;rw [M.dW,List.mem_singleton] at hw;subst hw;simp
  | cons c l ih=>
    intro cur w hw;rw [M.dW] at hw
    split at hw
    · rcases List.mem_cons.1 hw with rfl | hw
      · omega
      · have:=ih [] w hw;simp at this ⊢;omega
    · have:=ih _ w hw;simp at this ⊢;omega
 intro w hw
 simpa using key l [] w hw
end Go.Proofs.YtcjglfbpjkdgiaaGreatDoor
