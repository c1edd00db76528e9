/- Parts of a proof. -/
import Derived.Test.YtjbbfmofpjflmaaGreatDoorKb35
import Derived.Test.YtjbbfmofpjflmaaGreatDoorKs0
import Derived.Test.YtjbbfmofpjflmaaGreatDoorKs1
set_option linter.unusedVariables false
set_option linter.unusedSimpArgs false
namespace Go.Proofs.YtjbbfmofpjflmaaGreatDoor
open Go.RowKit
section
variable {w W W':World} {L:List (Nat × List Value × TypeId)} {B e size k g:Nat} {v:Value} {xs:List Value} {cs:List Value} {t:TypeId}
theorem Bx.grow {row:Option Nat} (h:Bx w W L) (hg:W.grownBy W' row) (hr:∀ b,row=some b→w.heap.size≤b) (hL:∀ p∈L,row≠some p.1):Bx w W' L:=
 ⟨h.bw.grown hg h.bw.size hr,fun p hp=>⟨(h.bx p hp).1,(h.bx p hp).2.blk (hg.block p.1 (h.bx p hp).2.lt (fun e=>hL p hp e.symm))⟩,h.nd⟩
theorem own_ne (h:W.ownsRow B e size v k xs) (hh:Held W g cs t) (ht:t≠e):v.ownBlock≠some g:=by
 intro hv;obtain ⟨_,⟨rfl,_⟩ | ⟨g',cap,cur,rfl,_,h4,_⟩⟩:=h
 · cases hv
 · cases hv
   have hh:W.heap[g']? =some (.cells cs.toArray t (0,0)):=hh;rw [hh] at h4
   injection h4 with h4
   injection h4 with _ h2
   exact ht h2
theorem ahu (h:W.ownsRow B e size v k xs) (hn:v.ownBlock≠some g) (vs:List Value) (o:Nat):(W.setCells g o vs).ownsRow B e size v k xs:=
 h.kept (row:=some g) (by
  have hb:=below_setCells (B:=0) g (Nat.zero_le _) vs o W W (Below.refl _ _)
  exact ⟨hb.os,hb.tape,hb.output,hb.size,fun b _ hne=>Held.nH (fun e=>hne (by rw [e])) vs o W⟩) (.inr hn)
end
section
variable {w W W':World} {L L':List (Nat × List Value × TypeId)} {B e size k:Nat} {v:Value} {xs:List Value}
theorem Bx.ai0 (h:Bx w W L) (hO:W.ownsRow w.heap.size e size v k xs) (hg:W.grownBy W' v.ownBlock) (hT:L.all (fun p=>p.2.2 != e)=true):Bx w W' L:=
 h.grow hg (fun _ hb=>(hO.lt _ hb).1) (fun p hp=>own_ne hO (h.bx p hp).2 (by simpa using List.all_eq_true.1 hT p hp))
end
theorem ag5 {a b:Int} (h:(a != b)=false):a=b:=by simpa using h
theorem wb {b:ByteArray} {l:List UInt8} (h:(b.toList == l)=true):b=⟨l.toArray⟩:=by rw [gG] at h;exact of_decide_eq_true h
def kpE (g:Sk.Game) (l:List En):Nat→List En
 | 0=>[]
 | k+1=>kpE g l k++(l[k]?.toList.filter fun e=>Sk.legal g (jq g l k) e.x=0)
theorem ad5 {g:Sk.Game} {l:List En} {k:Nat} (hk:k<l.length) (h:Sk.legal g (jq g l k) l[k].x=0):kpE g l (k+1)=kpE g l k++[l[k]]:=by
 rw [kpE,List.getElem?_eq_getElem hk]
 simp [h]
theorem af7 {g:Sk.Game} {l:List En} {k:Nat} (hk:k<l.length) (h:¬ Sk.legal g (jq g l k) l[k].x=0):kpE g l (k+1)=kpE g l k:=by
 rw [kpE,List.getElem?_eq_getElem hk]
 simp [h]
theorem acX (g:Sk.Game) (l:List En):∀ k,(kpE g l k).length≤k
 | 0=>Nat.le_refl _
 | k+1=>by
   rw [kpE,List.length_append];have h1:=acX g l k;have h2:=List.length_filter_le (fun e:En=>decide (Sk.legal g (jq g l k) e.x=0)) l[k]?.toList
   have h3:l[k]?.toList.length≤1:=by cases l[k]? <;> simp
   omega
theorem adV (g:Sk.Game) (l:List En):∀ k,∀ e∈kpE g l k,e∈l
 | 0,e,h=>by simp [kpE] at h
 | k+1,e,h=>by
   rw [kpE,List.mem_append] at h
   rcases h with h | h
   · exact adV g l k e h
   · have h1:=(List.mem_filter.1 h).1
     rcases hk:l[k]? with _ | x
     · rw [hk] at h1;simp at h1
     · rw [hk] at h1
       have h2:e=x:=by simpa using h1
       subst h2;exact List.mem_of_getElem? hk
theorem ac5 (g:Sk.Game) (l:List En):∀ k,k≤l.length→bare (kpE g l k)=Sk.kept g (Sk.start g) (bare (l.take k))
 | 0,_=>by simp [kpE,bare,Sk.kept]
 | k+1,hk=>by
   have hk':k<l.length:=hk
   have e:bare (l.take (k+1))=bare (l.take k)++[l[k].x]:=by rw [List.take_succ_eq_append_getElem hk'];unfold bare;rw [List.map_append];rfl
   rw [e,Sk.acG, ← ac5 g l k (by omega)]
   show _=bare (kpE g l k)++if Sk.legal g (jq g l k) l[k].x=0 then [l[k].x] else []
   by_cases h:Sk.legal g (jq g l k) l[k].x=0
   · rw [ad5 hk' h,if_pos h];simp [bare]
   · rw [af7 hk' h,if_neg h];simp
theorem ahm {g:Sk.Game} {l:List En} (h:Sk.iq g (bare l)=0):Sk.iq g (bare (kpE g l l.length))=0∧X6 g (kpE g l l.length)=jq g l l.length∧UL g (kpE g l l.length)=[]:=by
 have e:=ac5 g l l.length (Nat.le_refl _);rw [List.take_length] at e
 have h1:Sk.iq g (bare (kpE g l l.length))=0:=by rw [e];exact Sk.afX h _
 refine ⟨h1,?_,?_⟩
 · unfold X6;rw [if_pos h1,e,Sk.aaR,Rt]
 · unfold UL;rw [if_pos h1,e,Sk.aad]
theorem aiR {g:Sk.Game} {l:List En} (h:Sk.iq g (bare l)=0):X6 g l=jq g l l.length∧UL g l=kV g l l.length:=
 ⟨by unfold X6;rw [if_pos h,Rt],by unfold UL;rw [if_pos h,Bh]⟩
theorem adF {g:Sk.Game} {s:Sk.State} {e:Sk.Entry} (h:Sk.Ok g s) (he:Sk.dV g e=0):iU g s e=0:=by
 unfold iU;rw [Sk.kG.2 h,he];rfl
theorem agh {g:Sk.Game} {s:Sk.State} {e:Sk.Entry} (h:Sk.Ok g s) (he:Sk.dV g e=0):Pj g s e=Sk.legal g s e∧XD g s e=(if Sk.legal g s e=0 then 0 else 18)∧(Sk.legal g s e=0→nxS g s e=Sk.next g s e):=by
 have h1:=adF h he
 have h2:Pj g s e=Sk.legal g s e:=by unfold Pj;rw [if_pos h1]
 have h3:XD g s e=(if Sk.legal g s e=0 then 0 else 18):=by
  unfold XD
  rw [rQ,h1,h2]
  by_cases hl:Sk.legal g s e=0 <;> simp [hl,iL]
 exact ⟨h2,h3,fun hl=>by unfold nxS;rw [h3,if_pos hl];rfl⟩
theorem afP {g:Sk.Game} {s:Sk.State} {e:Sk.Entry} (h:Sk.Ok g s) (he:Sk.dV g e=0) (hl:Sk.legal g s e=0) (hk:e.kind=Sk.dJ):Jb g s e=0∧Uo g s e=Sk.judge g s e:=by
 have h1:O1 g s e=0:=by unfold O1;rw [rQ,adF h he];simp [hk,iL]
 have h2:Jb g s e=0:=by unfold Jb;rw [h1];simp [hl]
 exact ⟨h2,by unfold Uo;rw [if_pos h2]⟩
theorem adx {g:Sk.Game} {s:Sk.State} {e:Sk.Entry} (h:Sk.Ok g s) (he:Sk.dV g e=0) (hl:Sk.legal g s e=0) (hk:e.kind=Sk.dJ):
 (Sk.next g s e).s0+(Sk.next g s e).s1=s.s0+s.s1+((Sk.judge g s e).points+(Sk.judge g s e).penalty)∧(0<(Sk.judge g s e).gB→(s.turn=0→(Sk.next g s e).s0=s.s0)∧(s.turn=1→(Sk.next g s e).s1=s.s1)):=by
 have h0:=Sk.acy (g:=g) (s:=s) (x:=e) h 0 (.inl rfl);have h1:=Sk.acy (g:=g) (s:=s) (x:=e) h 1 (.inr rfl);have hv:=Sk.abS h he hl hk;rw [Sk.abA hl] at h0 h1;have c0:∀ t:Sk.State,Sk.score t 0=t.s0:=fun t=>rfl;have c1:∀ t:Sk.State,Sk.score t 1=t.s1:=fun t=>rfl;rw [c0,c0] at h0;rw [c1,c1] at h1
 rcases h.inr.turn with ht | ht
 · simp [hl,hk,ht] at h0 h1
   exact ⟨by omega,fun hf=>⟨fun _=>by have:=(hv.none_ hf).1;omega,fun e=>by omega⟩⟩
 · simp [hl,hk,ht] at h0 h1
   exact ⟨by omega,fun hf=>⟨fun e=>by omega,fun _=>by have:=(hv.none_ hf).1;omega⟩⟩
end Go.Proofs.YtjbbfmofpjflmaaGreatDoor
