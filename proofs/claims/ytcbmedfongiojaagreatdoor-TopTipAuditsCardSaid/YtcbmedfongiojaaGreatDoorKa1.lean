/- Parts of a proof. -/
import Derived.Test.YtcbmedfongiojaaGreatDoorKt0
set_option linter.unusedVariables false
set_option linter.unusedSimpArgs false
namespace Go.Proofs.YtcbmedfongiojaaGreatDoor
namespace Sk
structure aip where
 number:Int
 rule:Int
 deriving DecidableEq
def aep (g:Game) (e:Entry):Int:=if eU g≠0 then eU g else jc g e
def abL (g:Game):List Entry→Int
 | []=>0
 | x::l=>if jc g x≠0 then jc g x else abL g l
def aaT (g:Game) (l:List Entry):Int:=if eU g≠0 then eU g else if 1000<l.length then 5 else abL g l
def step (g:Game) (s:State) (e:Entry):State:=if legal g s e=0 then next g s e else s
def final (g:Game) (s:State) (l:List Entry):State:=l.foldl (step g) s
def aa9 (g:Game) (s:State) (n:Int):List Entry→List aip
 | []=>[]
 | x::l=>(if legal g s x=0 then [] else [⟨n,legal g s x⟩])++aa9 g (step g s x) (n+1) l
def adg (g:Game) (s:State) (n:Int):List Entry→List (Int × Int)→Int
 | x::l,c::cs=>if ((step g s x).s0,(step g s x).s1)=c then adg g (step g s x) (n+1) l cs else n
 | _,_=>0
def aeh (g:Game) (l:List Entry) (c:List (Int × Int)):Int:=adg g (start g) 1 l c
end Sk
namespace Sk
theorem step_ok {g:Game} {s:State} {e:Entry} (h:Ok g s) (he:jc g e=0):Ok g (step g s e):=by
 unfold step
 split
 · rename_i hl;exact Ee h he (oq.1 hl)
 · exact h
end Sk
namespace Sk
theorem aky {g:Game}:∀ {l:List Entry},abL g l=0↔∀ x∈l,jc g x=0
 | []=>by simp [abL]
 | x::l=>by
   rw [abL]
   by_cases h:jc g x=0
   · rw [if_neg (by simp [h]),aky]
     simp [h]
   · rw [if_pos h]
     simp [h]
theorem ae6 {g:Game} {l:List Entry}:aaT g l=0↔eU g=0∧l.length≤1000∧∀ x∈l,jc g x=0:=by
 unfold aaT
 by_cases h:eU g=0
 · rw [if_neg (by simp [h])]
   by_cases h2:1000<l.length
   · rw [if_pos h2];simp;omega
   · rw [if_neg h2,aky];simp [h];omega
 · rw [if_pos h];simp [h]
def abk (g:Game) (s:State):List Entry→List (Int × Int)
 | []=>[]
 | x::l=>((step g s x).s0,(step g s x).s1)::abk g (step g s x) l
theorem agb (g:Game):∀ (l:List Entry) (s:State),(abk g s l).length=l.length
 | [],_=>rfl
 | x::l,s=>by rw [abk,List.length_cons,List.length_cons,agb]
end Sk
namespace Sk
def aam (g:Game) (l:List ByteArray):Bool:=l.all fun b=>¬ (value b<0∨(g.kind≠aK∧2<value b))
def arJ (g:Game) (e:Entry):Int:=
 if e.kind=kK∨e.kind=mQ∨e.kind=jg then (if e.called≠bQ∨0<e.hits.length+e.aV.length∨e.dM≠0 then 1 else 0)
 else if e.kind≠dW then 13
 else if 22<e.hits.length∨22<e.aV.length then 5
 else if (e.called≠bQ∧value e.called<2)∨aam g e.hits=false∨aam g e.aV=false∨(g.kind=aK∧has e.hits dB) then 10
 else if out e.dM 0 99 then 3
 else if (e.called≠bQ∧g.kind≠aK)∨(0<e.aV.length∧g.kind=fA)∨(0<e.dM∧g.kind≠fA) then 1
 else 0
theorem asL (b:ByteArray):(value b=0↔b=dB)∧((value b=0∨value b=1∨value b=2)↔(b=dB∨b=dH∨b=aX)):=by
 unfold value dX at_ at_ at_ at_ at_ at_ at_ at_ at_
 by_cases h1:dB=b
 · subst h1;simp
 by_cases h2:aX=b
 · subst h2;rw [if_neg h1,if_pos rfl];refine ⟨?_,?_⟩
   · constructor
     · intro h;omega
     · intro h;exact absurd h.symm h1
   · simp
 by_cases h3:dH=b
 · subst h3;rw [if_neg h1,if_neg h2,if_pos rfl];refine ⟨?_,?_⟩
   · constructor
     · intro h;omega
     · intro h;exact absurd h.symm h1
   · simp
 rw [if_neg h1,if_neg h2,if_neg h3];have a:¬ b=dB:=fun h=>h1 h.symm;have c:¬ b=aX:=fun h=>h2 h.symm;have d:¬ b=dH:=fun h=>h3 h.symm;refine ⟨?_,?_⟩
 · simp only [a,iff_false]
   repeat' split
   all_goals omega
 · simp only [a,c,d,or_self,iff_false]
   repeat' split
   all_goals omega
theorem afm (g:Game) (b:ByteArray):(fM g b false=true↔¬ (value b<0∨(g.kind≠aK∧2<value b)))∧(fM g b true=true↔¬ (value b<0∨(g.kind≠aK∧2<value b))∧¬ (g.kind=aK∧b=dB)):=by
 unfold fM
 obtain ⟨z1,z2⟩:=asL b;have hv:=nG b
 by_cases hg:g.kind=aK
 · simp only [hg,if_true,decide_eq_true_eq]
   have hz:b=dB↔value b=0:=z1.symm
   simp [hz]
   omega
 · rw [if_neg hg,if_neg hg]
   simp only [decide_eq_true_eq, ← z2]
   simp [hg]
   omega
theorem arB (g:Game) (l:List ByteArray):aam g l=true↔l.any (fun b=>fM g b false=false)=false:=by
 unfold aam
 rw [List.all_eq_true,List.any_eq_false];refine forall_congr' fun b=>forall_congr' fun _=>?_
 have:=(afm g b).1
 by_cases hg:g.kind=aK
 · cases h:fM g b false <;> rw [h] at this <;> simp [hg] at this ⊢ <;> omega
 · cases h:fM g b false <;> rw [h] at this <;> simp [hg] at this ⊢ <;> omega
theorem arq (g:Game) (l:List ByteArray):(aam g l=true∧¬ (g.kind=aK∧has l dB=true))↔l.any (fun b=>fM g b true=false)=false:=by
 unfold aam has
 rw [List.all_eq_true,List.any_eq_false,List.any_eq_true]
 constructor
 · rintro ⟨h1,h2⟩ b hb
   have h3:=(afm g b).2.2 ⟨of_decide_eq_true (h1 b hb),fun h4=>h2 ⟨h4.1,b,hb,by simpa using h4.2⟩⟩
   simp [h3]
 · intro h
   have h1:∀ b∈l,fM g b true=true:=fun b hb=>by have:=h b hb;simpa using this
   refine ⟨fun b hb=>?_,fun ⟨hg,b,hb,hw⟩=>?_⟩
   · exact decide_eq_true ((afm g b).2.1 (h1 b hb)).1
   · exact ((afm g b).2.1 (h1 b hb)).2 ⟨hg,by simpa using hw⟩
theorem aya:dW≠kK∧dW≠mQ∧dW≠jg:=by decide
theorem axW (g:Game) (h0:eU g=0) (e:Entry):arJ g e=jc g e:=by
 unfold arJ jc isKind
 by_cases h1:e.kind=kK∨e.kind=mQ∨e.kind=jg
 · have h2:e.kind≠dW:=fun h=>by rw [h] at h1;have:=aya;rcases h1 with h1 | h1 | h1;exact this.1 h1;exact this.2.1 h1;exact this.2.2 h1
   have h3:decide (e.kind=dW∨e.kind=kK∨e.kind=mQ∨e.kind=jg)=true:=decide_eq_true (.inr h1);rw [h3]
   simp only [if_pos h1,Bool.true_eq_false,if_false,if_pos h2]
 · rw [if_neg h1]
   by_cases h2:e.kind=dW
   · have e1:((e.called≠bQ∧value e.called<2)∨aam g e.hits=false∨aam g e.aV=false∨(g.kind=aK∧has e.hits dB=true))↔((e.called≠bQ∧value e.called<2)∨e.hits.any (fun b=>fM g b true=false)=true∨e.aV.any (fun b=>fM g b false=false)=true):=by
      have a:=arB g e.aV;have b:=arq g e.hits
      have a':e.aV.any (fun b=>fM g b false=false)=true↔¬ aam g e.aV=true:=by rw [a];simp
      have b':e.hits.any (fun b=>fM g b true=false)=true↔¬ (aam g e.hits=true∧¬ (g.kind=aK∧has e.hits dB=true)):=by rw [b];simp
      rw [a',b']
      by_cases q1:aam g e.hits=true <;> by_cases q2:aam g e.aV=true <;> by_cases q3:g.kind=aK∧has e.hits dB=true <;> simp [q1,q2,q3]
     have e2:((e.called≠bQ∧g.kind≠aK)∨(0<e.aV.length∧g.kind=fA)∨(0<e.dM∧g.kind≠fA))∨out e.dM 0 99=true↔((g.kind≠aK∧e.called≠bQ)∨(g.kind=fA∧0<e.aV.length)∨(g.kind≠fA∧e.dM≠0))∨out e.dM 0 99=true:=by
      cases hc:out e.dM 0 99
      · have:=Jg hc
        have e3:e.dM≠0↔0<e.dM:=by omega
        simp only [e3,Bool.false_eq_true,or_false]
        constructor
        · rintro (h | h | h)
          · exact .inl h.symm
          · exact .inr (.inl h.symm)
          · exact .inr (.inr h.symm)
        · rintro (h | h | h)
          · exact .inl h.symm
          · exact .inr (.inl h.symm)
          · exact .inr (.inr h.symm)
      · simp
     have h9:decide (e.kind=dW∨e.kind=kK∨e.kind=mQ∨e.kind=jg)=true:=decide_eq_true (.inl h2);rw [h9]
     simp only [h2,ne_eq,not_true,if_false,Bool.true_eq_false]
     by_cases h3:22<e.hits.length∨22<e.aV.length
     · rw [if_pos h3,if_pos h3]
     rw [if_neg h3,if_neg h3]
     by_cases h4:(e.called≠bQ∧value e.called<2)∨aam g e.hits=false∨aam g e.aV=false∨(g.kind=aK∧has e.hits dB=true)
     · rw [if_pos h4,if_pos (e1.1 h4)]
     rw [if_neg h4,if_neg (fun h=>h4 (e1.2 h))]
     cases hc:out e.dM 0 99
     · rw [hc] at e2
       simp only [Bool.false_eq_true,or_false] at e2
       simp only [Bool.false_eq_true,if_false]
       exact ite_congr (propext e2) (fun _=>rfl) (fun _=>rfl)
     · rw [if_pos rfl,if_pos rfl]
   · simp only [not_or] at h1
     simp [h1,h2]
end Sk
namespace Sk
def aaC:Int→List (Int × Int)→List (Int × Int)→Int
 | n,x::a,y::b=>if x=y then aaC (n+1) a b else n
 | _,_,_=>0
theorem akq (g:Game):∀ (l:List Entry) (s:State) (n:Int) (cs:List (Int × Int)),adg g s n l cs=aaC n (abk g s l) cs
 | [],_,_,cs=>by cases cs <;> rfl
 | x::l,s,n,[]=>rfl
 | x::l,s,n,c::cs=>by
   unfold adg abk aaC
   rw [akq g l]
theorem amu:∀ (n:Int) (a:List (Int × Int)),aaC n a a=0
 | _,[]=>rfl
 | n,x::a=>by unfold aaC;rw [if_pos rfl,amu]
theorem amb:∀ (n:Int) (a b:List (Int × Int)),aaC n a b=aaC n b a
 | _,[],[]=>rfl
 | _,[],_::_=>rfl
 | _,_::_,[]=>rfl
 | n,x::a,y::b=>by
   unfold aaC
   by_cases h:x=y
   · rw [if_pos h,if_pos h.symm,amb]
   · rw [if_neg h,if_neg (fun e=>h e.symm)]
theorem asU:∀ (n:Int) (a b:List (Int × Int)),aaC n a b=0∨n≤aaC n a b
 | _,[],[]=> .inl rfl
 | _,[],_::_=> .inl rfl
 | _,_::_,[]=> .inl rfl
 | n,x::a,y::b=>by
   unfold aaC
   by_cases h:x=y
   · rw [if_pos h]
     rcases asU (n+1) a b with h | h
     · exact .inl h
     · exact .inr (by omega)
   · rw [if_neg h];exact .inr (Int.le_refl _)
theorem amk:∀ (k:Nat) (n:Int) (a b:List (Int × Int)),a.take k=b.take k→aaC n a b=0∨n+k≤aaC n a b
 | 0,n,a,b,_=>by simpa using asU n a b
 | k+1,n,[],[],_=> .inl rfl
 | k+1,n,[],_::_,_=> .inl rfl
 | k+1,n,_::_,[],_=> .inl rfl
 | k+1,n,x::a,y::b,h=>by
   rw [List.take_succ_cons,List.take_succ_cons] at h
   injection h with h1 h2
   unfold aaC
   rw [if_pos h1]
   rcases amk k (n+1) a b h2 with h | h
   · exact .inl h
   · exact .inr (by omega)
theorem afu (g:Game):∀ (l:List Entry) (s:State) (k:Nat),(abk g s l).take k=abk g s (l.take k)
 | _,_,0=>by simp [abk]
 | [],_,k+1=>rfl
 | x::l,s,k+1=>by
   unfold abk
   rw [List.take_succ_cons,List.take_succ_cons,afu g l]
theorem ar9 (g:Game) (l:List Entry) (s:State) (k:Nat) (f:Entry):(abk g s (l.set k f)).take k=(abk g s l).take k:=by
 rw [afu,afu,List.take_set_of_le (Nat.le_refl k)]
theorem atC {n:Int} {a b:List (Int × Int)} {k:Nat} (ha:k<a.length) (hb:k<b.length):aaC n (a.drop k) (b.drop k)=if a[k]=b[k] then aaC (n+1) (a.drop (k+1)) (b.drop (k+1)) else n:=by
 rw [List.drop_eq_getElem_cons ha,List.drop_eq_getElem_cons hb]
 rfl
theorem avF (n:Int) (a b:List (Int × Int)):aaC n (a.drop a.length) b=0:=by
 rw [List.drop_length]
 cases b <;> rfl
end Sk
end Go.Proofs.YtcbmedfongiojaaGreatDoor
