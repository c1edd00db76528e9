/- Parts of a proof. -/
import Derived.Laws.Strings
import Derived.Test.YtcjglfbpjkdgiaaGreatDoorKk0
set_option linter.unusedVariables false
set_option linter.unusedSimpArgs false
namespace Go.Proofs.YtcjglfbpjkdgiaaGreatDoor
namespace M
def Rest (R:List (List UInt8)):Prop:=R=[]∨R=[[120]]
theorem E8 (l:List kL) (R:List (List UInt8)):∀ (x:aV) (n:Int),(∀ p∈l,(0≤p.aT∧p.aT≤99)∧(0≤p.aP∧p.aP≤99))→
 fO x n ((l.map fun p=>bV 112 p.aT p.aP)++R)=fO {x with aC:=x.aC++l } (n+l.length) R:=by
 induction l with
 | nil=>intro x n _;simp
 | cons p l ih=>
   intro x n h;rw [List.map_cons,List.cons_append,fO,EX 112 (h p List.mem_cons_self).1 (h p List.mem_cons_self).2]
   simp only
   rw [ih _ _ (fun q hq=>h q (List.mem_cons_of_mem _ hq))]
   simp only [List.append_assoc,List.cons_append,List.nil_append,List.length_cons]
   rw [show n+1+(l.length:Int)=n+((l.length+1:Nat):Int) by omega]
theorem zi (l:List kL) (R:List (List UInt8)) (hR:Rest R):(l.map fun p=>bV 112 p.aT p.aP)++R=[]∨∃ c t m,(l.map fun p=>bV 112 p.aT p.aP)++R=(c::t)::m∧(c=112∨c=120):=by
 cases l with
 | nil=>
   rcases hR with rfl | rfl
   · exact .inl rfl
   · exact .inr ⟨_,_,_,rfl,.inr rfl⟩
 | cons p l=>exact .inr ⟨_,_,_,rfl,.inl rfl⟩
theorem xu (x:aV) (n:Int) (cu:Bool) (l:List kL) (R:List (List UInt8)) (hR:Rest R) (hl:∀ p∈l,(0≤p.aT∧p.aT≤99)∧(0≤p.aP∧p.aP≤99)) (hx:x.cO=false):
 eF x n ((if cu=true then [[43]] else [])++((l.map fun p=>bV 112 p.aT p.aP)++R))=fO {x with cO:=cu,aC:=x.aC++l } (n+(if cu=true then [[(43:UInt8)]] else []).length+l.length) R:=by
 cases cu with
 | true=>
   simp only [if_true,List.cons_append,List.nil_append,List.length_cons,List.length_nil]
   rw [eF,if_pos rfl,E8 l R _ _ hl]
   rfl
 | false=>
   simp only [Bool.false_eq_true,if_false,List.nil_append,List.length_nil]
   have:eF x n ((l.map fun p=>bV 112 p.aT p.aP)++R)=fO x n ((l.map fun p=>bV 112 p.aT p.aP)++R):=by
    rcases zi l R hR with h | ⟨c,t,m,h,hc⟩
    · rw [h];rfl
    · rw [h,eF,if_neg]
      intro e
      injection e with e1 e2
      subst e1
      rcases hc with hc | hc <;> exact absurd hc (by decide)
   rw [this,E8 l R _ _ hl, ← hx]
   simp
theorem Iy (x:aV) (n f:Int) (cu:Bool) (l:List kL) (R:List (List UInt8)) (hR:Rest R) (hl:∀ p∈l,(0≤p.aT∧p.aT≤99)∧(0≤p.aP∧p.aP≤99)) (hf:0≤f∧f≤99) (hx:x.cO=false) (h1:x.first=0):
 jq x n ((if f≠0 then [102::dec f] else [])++((if cu=true then [[43]] else [])++((l.map fun p=>bV 112 p.aT p.aP)++R)))=
  fO {x with first:=f,cO:=cu,aC:=x.aC++l } (n+(if f≠0 then [102::dec f] else []).length+(if cu=true then [[(43:UInt8)]] else []).length+l.length) R:=by
 by_cases h0:f=0
 · simp only [h0,ne_eq,not_true,if_false,List.nil_append,List.length_nil]
   have:jq x n ((if cu=true then [[43]] else [])++((l.map fun p=>bV 112 p.aT p.aP)++R))=eF x n ((if cu=true then [[43]] else [])++((l.map fun p=>bV 112 p.aT p.aP)++R)):=by
    cases cu with
    | true=>exact Iw _ x n (fun c t m e=>by injection e with e1 e2;injection e1 with e3 e4;rw [← e3];decide) (fun m e=>by injection e with e1 e2;cases e1)
    | false=>
      simp only [Bool.false_eq_true,if_false,List.nil_append]
      rcases zi l R hR with h | ⟨c,t,m,h,hc⟩
      · rw [h];rfl
      · rw [h]
        exact Iw _ x n (fun c' t' m' e=>by injection e with e1 e2;injection e1 with e3 e4;rw [← e3];rcases hc with hc | hc <;> rw [hc] <;> decide) (fun m e=>by injection e with e1 e2;cases e1)
   rw [this,xu x n cu l R hR hl hx, ← h1]
   simp
 · simp only [ne_eq,h0,not_false_eq_true,if_true,List.cons_append,List.nil_append,List.length_cons,List.length_nil]
   rw [jq,rE,if_pos rfl,Bh hf.1 hf.2]
   simp only [Option.filter,show decide (0<f)=true by rw [decide_eq_true_eq];omega,if_true]
   rw [xu {x with first:=f } (n+1) cu l R hR hl hx]
   rfl
theorem Pz (x:aV) (n b q f:Int) (cu:Bool) (l:List kL) (R:List (List UInt8)) (hR:Rest R) (hl:∀ p∈l,(0≤p.aT∧p.aT≤99)∧(0≤p.aP∧p.aP≤99)) (hf:0≤f∧f≤99) (hb:0≤b∧b≤99) (hq:0≤q∧q≤99) (hbq:b=0↔q=0)
 (hx:x.cO=false) (h1:x.first=0) (h2:x.aT=0) (h3:x.aP=0):
 kG x n ((if b≠0 then [bV 99 b q] else [])++((if f≠0 then [102::dec f] else [])++((if cu=true then [[43]] else [])++((l.map fun p=>bV 112 p.aT p.aP)++R))))=
  fO {x with aT:=b,aP:=q,first:=f,cO:=cu,aC:=x.aC++l } (n+(if b≠0 then [bV 99 b q] else []).length+(if f≠0 then [102::dec f] else []).length+(if cu=true then [[(43:UInt8)]] else []).length+l.length) R:=by
 by_cases h0:b=0
 · have hq0:=hbq.1 h0
   simp only [h0,ne_eq,not_true,if_false,List.nil_append,List.length_nil]
   have:kG x n ((if ¬ f=0 then [102::dec f] else [])++((if cu=true then [[43]] else [])++((l.map fun p=>bV 112 p.aT p.aP)++R)))=jq x n ((if ¬ f=0 then [102::dec f] else [])++((if cu=true then [[43]] else [])++((l.map fun p=>bV 112 p.aT p.aP)++R))):=by
    by_cases hf0:f=0
    · simp only [hf0,not_true,if_false,List.nil_append]
      cases cu with
      | true=>exact yP _ x n (fun c t m e=>by injection e with e1 e2;injection e1 with e3 e4;rw [← e3];decide) (fun m e=>by injection e with e1 e2;cases e1)
      | false=>
        simp only [Bool.false_eq_true,if_false,List.nil_append]
        rcases zi l R hR with h | ⟨c,t,m,h,hc⟩
        · rw [h];rfl
        · rw [h]
          exact yP _ x n (fun c' t' m' e=>by injection e with e1 e2;injection e1 with e3 e4;rw [← e3];rcases hc with hc | hc <;> rw [hc] <;> decide) (fun m e=>by injection e with e1 e2;cases e1)
    · simp only [hf0,not_false_eq_true,if_true,List.cons_append,List.nil_append]
      exact yP _ x n (fun c t m e=>by injection e with e1 e2;injection e1 with e3 e4;rw [← e3];decide) (fun m e=>by injection e with e1 e2;cases e1)
   have hh:=Iy x n f cu l R hR hl hf hx h1
   simp only [ne_eq] at hh
   rw [this,hh,hq0, ← h2]
   simp [h2,h3]
 · simp only [ne_eq,h0,not_false_eq_true,if_true,List.cons_append,List.nil_append,List.length_cons,List.length_nil]
   have hq0:q≠0:=fun e=>h0 (hbq.2 e);rw [kG,EX 99 hb hq]
   simp only [Option.filter,show decide (0<b∧0<q)=true by rw [decide_eq_true_eq];omega,if_true]
   have hh:=Iy {x with aT:=b,aP:=q } (n+1) f cu l R hR hl hf hx h1
   simp only [ne_eq] at hh
   rw [hh]
   rfl
theorem MV {k:ByteArray} (h:isKind k=true):k=dS∨k=oq∨k=Bg∨k=gI∨k=iW∨k=bC:=by
 unfold isKind at h;exact of_decide_eq_true h
theorem toList_mk (l:List UInt8):(ByteArray.mk l.toArray).toList=l:=by rw [ByteArray.toList_eq]
theorem ER (k:ByteArray):ByteArray.mk k.toList.toArray=k:=by rw [ByteArray.toList_eq]
theorem wH {k:ByteArray} (h:isKind k=true):(32:UInt8) ∉ k.toList∧k.toList≠[]∧k.toList.length≤7:=by
 rcases MV h with rfl | rfl | rfl | rfl | rfl | rfl <;> rw [ByteArray.toList_eq] <;> decide
theorem CS (k:ByteArray):jy k.toList=isKind k:=by unfold jy;rw [ER]
theorem yQ {n:Int} (h1:n≤99):(32:UInt8) ∉ dec n:=fun h=>absurd rfl (OY (Ew h1 _ h) (d:=32) (by decide))
theorem Du (c:UInt8) {a b:Int} (hc:c≠32) (ha:a≤99) (hb:b≤99):(32:UInt8) ∉ bV c a b:=by
 unfold bV
 rw [List.mem_cons,List.mem_append,List.mem_cons]
 rintro (h | h | h | h)
 · exact hc h.symm
 · exact yQ ha h
 · exact absurd h (by decide)
 · exact yQ hb h
theorem ig (n:Int):(dec n).length≤2:=by unfold dec;split <;> simp
theorem zY (c:UInt8) (a b:Int):(bV c a b).length≤6:=by
 have:=ig a
 have:=ig b
 unfold bV
 simp
 omega
section
variable {x:aV}
theorem qL (x:aV):tail x=(if x.aT≠0 then [bV 99 x.aT x.aP] else [])++((if x.first≠0 then [102::dec x.first] else [])++((if x.cO=true then [[43]] else [])++x.aC.map fun p=>bV 112 p.aT p.aP)):=by
 unfold tail;simp only [List.append_assoc]
theorem KH (hx:jR x):∀ w∈tail x,(32:UInt8) ∉ w∧w≠[]∧w.length≤6:=by
 have hb:=hx.aT;have hq:=hx.aP
 have hf:=hx.first
 intro w hw;rw [qL,List.mem_append,List.mem_append,List.mem_append] at hw
 rcases hw with h | h | h | h
 · split at h
   · rw [List.mem_singleton] at h;subst h
     exact ⟨Du 99 (by decide) (by omega) (by omega),by unfold bV;simp,zY _ _ _⟩
   · cases h
 · split at h
   · rw [List.mem_singleton] at h;subst h
     have:=ig x.first
     refine ⟨?_,by simp,by simp;omega⟩;rw [List.mem_cons]
     rintro (h | h)
     · exact absurd h (by decide)
     · exact yQ (by omega) h
   · cases h
 · split at h
   · rw [List.mem_singleton] at h;subst h;decide
   · cases h
 · obtain ⟨p,hp,rfl⟩:=List.mem_map.1 h
   have:=hx.aC p hp
   exact ⟨Du 112 (by decide) (by omega) (by omega),by unfold bV;simp,zY _ _ _⟩
theorem xQ (p:Int):(32:UInt8) ∉ letter p∧(letter p).length=1:=by unfold letter;split <;> decide
theorem Lc (hx:jR x) (R:List (List UInt8)) (hR:Rest R):words (join (pieces x++R))=pieces x++R:=by
 have hk:=wH hx.kind
 unfold pieces
 rw [List.cons_append];refine Oq _ _ (xQ _).1 (fun b hb=>?_);rw [List.cons_append,List.mem_cons,List.mem_append] at hb
 rcases hb with rfl | hb | hb
 · exact hk.1
 · exact (KH hx b hb).1
 · rcases hR with rfl | rfl
   · cases hb
   · rw [List.mem_singleton] at hb;subst hb;decide
theorem Kq (hx:jR x) (R:List (List UInt8)) (hR:Rest R):gK (pieces x++R)=fO x ((pieces x).length:Int) R:=by
 have hb:=hx.aT;have hq:=hx.aP
 have hf:=hx.first
 have hl:letter x.aG=if x.aG=1 then [98] else [97]:=rfl;have hpl:=hx.aG
 have hne:¬ (letter x.aG≠[97]∧letter x.aG≠[98]):=by
  rw [hl];split <;> simp
 have hi:(if letter x.aG=[98] then (1:Int) else 0)=x.aG:=by
  rw [hl]
  rcases hpl with h | h
  · rw [h];decide
  · rw [h];decide
 unfold pieces
 rw [List.cons_append,List.cons_append,gK,if_neg hne]
 simp only
 rw [CS,hx.kind,if_neg (by decide),Kr,qL,List.append_assoc,List.append_assoc,List.append_assoc,hi,ER,
  Pz {blank with aG:=x.aG,kind:=x.kind } 2 x.aT x.aP x.first x.cO x.aC R hR (fun p hp=>by have:=hx.aC p hp;omega) (by omega) (by omega) (by omega) hx.called rfl rfl rfl rfl]
 congr 1
 simp only [List.length_cons,List.length_append,List.length_map]
 omega
theorem flat_length (l:List (List UInt8)) (h:∀ w∈l,w.length≤6):(l.flatMap fun b=>(32:UInt8)::b).length≤7*l.length:=by
 induction l with
 | nil=>simp
 | cons w l ih=>
   have h1:=h w List.mem_cons_self;have h2:=ih (fun v hv=>h v (List.mem_cons_of_mem _ hv))
   simp only [List.flatMap_cons,List.length_append,List.length_cons]
   omega
theorem KG (hx:jR x):(tail x).length≤19:=by
 have:=hx.few
 have a:∀ (c:Prop) [Decidable c] (w:List UInt8),(if c then [w] else []).length≤1:=by intro c _ w;split <;> simp
 have a1:=a (x.aT≠0) (bV 99 x.aT x.aP);have a2:=a (x.first≠0) (102::dec x.first);have a3:=a (x.cO=true) [43];rw [qL]
 simp only [List.length_append,List.length_map] at a1 a2 a3 ⊢
 omega
theorem xZ (hx:jR x):(print x).length≤200:=by
 have h1:=wH hx.kind;have h2:=KG hx;have h3:=flat_length (tail x) (fun w hw=>(KH hx w hw).2.2);have h4:=(xQ x.aG).2
 unfold print pieces
 rw [join,List.flatMap_cons]
 simp only [List.length_append,List.length_cons]
 omega
theorem Jq (h:bT x=0):parse (print x)=(x,0,0):=by
 have hx:=lV h;have hlen:=xZ hx
 unfold parse
 rw [if_neg (by omega)];have hw:=Lc hx [] (.inl rfl);have hr:=Kq hx [] (.inl rfl);rw [List.append_nil] at hw hr;rw [show print x=join (pieces x) from rfl,hw,hr]
 simp only [fO]
 rw [if_neg (by simp [h])]
end
end M
namespace M
def oU (l:List (List UInt8)):List aV:=l.map fun s=>(parse s).1
end M
end Go.Proofs.YtcjglfbpjkdgiaaGreatDoor
