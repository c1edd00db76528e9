/- Parts of a proof. -/
import Derived.Test.YtcbmedfongiojaaGreatDoorKa3
import Derived.Test.YtcbmedfongiojaaGreatDoorKa5
import Derived.Test.YtcbmedfongiojaaGreatDoorKa6
import Derived.Test.YtcbmedfongiojaaGreatDoorKt36
set_option linter.unusedVariables false
set_option linter.unusedSimpArgs false
namespace Go.Proofs.YtcbmedfongiojaaGreatDoor
open Go.RowKit
theorem ao4:(Tryz.prog.info? 41).map (fun i=>(i.zero,i.size,i.bytes))=some (some (.agg #[.string ⟨#[]⟩,.string ⟨#[]⟩,.slice none 0 0,.slice none 0 0,.int .i64 0]),5,88):=by kernel_rfl
def alN (W:World) (g cap:Nat) (L:List En):Prop:=∃ sp,Held W g (tJ L++sp) 41∧(tJ L++sp).length=cap*5∧L.length≤cap∧cap≤maxLen
theorem axu {W:World} {D g cap:Nat} {l:List En} (h:W.ownsRow D 41 5 (.slice (some ⟨g,0,none⟩) l.length cap) l.length (tJ l)):D≤g∧alN W g cap l:=by
 obtain ⟨_,⟨e,_⟩ | ⟨g',cap',cur,e,h1,h2,h3,h4,h5,h6⟩⟩:=h
 · cases e
 · cases e
   refine ⟨h1,cur.toList.drop (l.length*5),?_,?_,h3,h4⟩
   · rw [← h6,List.take_append_drop]
     exact h2
   · rw [← h6,List.take_append_drop, ← h5];simp
theorem apc (L:List En) (k:Nat) (hk:k<L.length):tJ L=tJ (L.take k)++fC L[k]++tJ (L.drop (k+1)):=by
 conv=>lhs;rw [← List.take_append_drop k L,List.drop_eq_getElem_cons hk]
 unfold tJ
 rw [List.flatMap_append,List.flatMap_cons,List.append_assoc]
theorem azi (L:List En) (k:Nat) (hk:k<L.length) (x:En):tJ (L.set k x)=tJ (L.take k)++fC x++tJ (L.drop (k+1)):=by
 have h:=apc (L.set k x) k (by simpa using hk);rw [List.getElem_set_self,List.take_set_of_le (Nat.le_refl _),List.drop_set_of_lt (Nat.lt_succ_self _)] at h;exact h
theorem auX {L:List En} {k:Nat} (hk:k<L.length):(tJ (L.take k)).length=k*5:=by rw [uq,List.length_take,Nat.min_eq_left (Nat.le_of_lt hk)]
theorem alN.put {W:World} {g cap k:Nat} {L:List En} (h:alN W g cap L) (hk:k<L.length) (x:En):alN (W.setCells g (k*5) (fC x)) g cap (L.set k x):=by
 obtain ⟨sp,h1,h2,h3,h4⟩:=h;refine ⟨sp,?_,?_,by simpa using h3,h4⟩
 · rw [apc L k hk,List.append_assoc _ _ sp] at h1
   have h5:=Held.aoh (fC x) _ _ _ _ h1 rfl;rw [auX hk] at h5;rw [azi L k hk,List.append_assoc _ _ sp];exact h5
 · rw [← h2,List.length_append,List.length_append,uq,uq,List.length_set]
theorem alN.there {W:World} {g cap k:Nat} {L:List En} (h:alN W g cap L) (hk:k<L.length):W.there g (k*5) 5:=fun j hj=>by
 obtain ⟨sp,h1,h2,h3,h4⟩:=h
 have hl:k*5+j<(tJ L++sp).length:=by rw [h2];omega
 rw [h1.cell (List.getElem?_eq_getElem hl)];exact ⟨rfl,h1.frozen _⟩
theorem alN.rd {W:World} {g cap:Nat} {L:List En} (h:alN W g cap L) (hn:L.length≤1000):Reads W (fun b=>b=g) 5 (some ⟨g,0,none⟩) L.length cap (tJ L):=by
 obtain ⟨sp,h1,h2,h3,h4⟩:=h;refine ⟨h3,by simp only [maxLen] at h4;omega,by omega,uq L,fun _=>⟨g,0,rfl,rfl,h1.lt,fun j u hu=>?_⟩⟩;rw [Nat.zero_add];exact h1.cell (by rw [List.getElem?_append_left (List.getElem?_eq_some_iff.1 hu).1];exact hu)
section
variable {ops:Array Oper} {o:Oper} {a:Act} {W:World} {S2:Nat→Prop}
theorem aqX {rest:List Oper} {Q:Exit→Act→World→Prop} {A:Option Addr} {c:Nat} {l:List En} (hr:wF W S2 A c l) (h0:0<l.length) (hl:l.length≤1000) (hgd:o.guard=none) (s x:Operand)
 (ho:o.op= .call {callee:= .builtin .append,args:= #[s,x],argTypes:= #[38,38] }) (hs:a.eval s= .slice (some ⟨W.heap.size,0,none⟩) 0 0) (hx:a.eval x= .slice A l.length c)
 (h:∀ g cap W',alN W' g cap l→W.heap.size≤g→Below W.heap.size W W'→wpList Tryz.prog ops Q rest (a.put o.dst (.slice (some ⟨g,0,none⟩) l.length cap)) W'):
 wpList Tryz.prog ops Q (o::rest) a (W.alloc (.cells #[] 41)):=by
 obtain ⟨i0,hi0,hz0,hz1,hz2⟩:=info_parts ao4;have hb:=(Below.refl W.heap.size W).alloc (Nat.le_refl _) (.cells #[] 41);obtain ⟨B,O,rfl,_,_,hc⟩:=Reads.at_ (hr.below hb).1 h0;have hO2:=World.ownsRow_lit (base:=W.heap.size) (e:=41) (size:=5) W #[] 0 (Nat.le_refl _) (by simp only [maxLen];omega) rfl;refine wpList_append_lies _ hgd s x _ ho W.heap.size 41 i0 _ 5 88 Tryz.underlying38 hi0 hz0 hz1 hz2 rfl (by omega) _ 0 [] hs hO2 ⟨B,O,none⟩ l.length c (tJ l) hx (uq l) (fun j u hu=>by rw [qB];exact hc j u hu) (fun u hu=>by obtain ⟨e,_,h2⟩:=List.mem_flatMap.1 hu;exact TG e u h2) h0 (by simp only [maxLen];omega) (by omega) (by simp) _ rfl ?_;intro g cap W' h2 h3 h4 h5;rw [Nat.zero_add] at h2 ⊢;obtain ⟨h6,h7⟩:=axu h2;exact h g cap W' h7 h6 (hb.trans (Cb hO2 h3 (Nat.le_refl _) (by simp)))
end
def taA (g:Sk.Game) (l:List En):List (Int × Int):=ajc g l l.length
theorem adZ (g:Sk.Game) (l:List En):(taA g l).length=l.length:=ap1 g l (Nat.le_refl _)
theorem asD (g:Sk.Game) (l:List En):taA g l=Sk.abk g (Sk.start g) (bare l):=by unfold taA ajc;rw [List.take_length]
theorem alF {g:Sk.Game} {l:List En} {C:List (Int × Int)} (h:Sk.aaT g (bare l)=0) (hl:C.length=l.length):adE g l C=0∧adV g l C=Sk.aaC 1 (taA g l) C:=by
 have e:adE g l C=0:=by unfold adE;rw [qK,h,if_neg (by simp)];simp [jA,hl]
 refine ⟨e,?_⟩
 unfold adV
 rw [if_pos e,asD]
 unfold Sk.aeh
 exact Sk.akq g _ _ _ _
theorem aoW (l:List En) (k:Nat) (e:En):bare (l.set k e)=(bare l).set k e.x:=by unfold bare;rw [List.map_set]
theorem auP {g:Sk.Game} {l:List En} {k:Nat} {e:En} (h:Sk.aaT g (bare l)=0) (he:Sk.jc g e.x=0):Sk.aaT g (bare (l.set k e))=0:=by
 obtain ⟨h1,h2,h3⟩:=Sk.ae6.1 h;refine Sk.ae6.2 ⟨h1,by rw [abB] at*;simpa using h2,fun x hx=>?_⟩;rw [aoW] at hx
 rcases List.mem_or_eq_of_mem_set hx with hx | rfl
 · exact h3 x hx
 · exact he
def taW (g:Sk.Game) (l m:List En) (k:Nat):Int:=Sk.aaC ((k:Int)+1) ((taA g l).drop k) ((taA g m).drop k)
theorem ayC {g:Sk.Game} {l m:List En}:taW g l m l.length=0:=by
 unfold taW
 rw [← adZ g l];exact Sk.avF _ _ _
theorem awM {g:Sk.Game} {l m:List En} {k:Nat} (ha:k<(taA g l).length) (hb:k<(taA g m).length):taW g l m k=if (taA g l)[k]=(taA g m)[k] then taW g l m (k+1) else (k:Int)+1:=by
 unfold taW
 rw [Sk.atC ha hb,show ((k+1:Nat):Int)+1=(k:Int)+1+1 by omega]
theorem awT {g:Sk.Game} {l m:List En}:taW g l m 0=Sk.aaC 1 (taA g l) (taA g m):=rfl
theorem awF {g:Sk.Game} {l:List En} {k:Nat} {e:En}:taW g l (l.set k e) 0=0∨(k:Int)<taW g l (l.set k e) 0:=by
 have h:=Sk.amk k 1 (taA g l) (taA g (l.set k e)) (by rw [asD,asD,aoW];exact (Sk.ar9 g (bare l) (Sk.start g) k e.x).symm)
 rcases h with h | h
 · exact .inl h
 · refine .inr ?_
   rw [awT]
   omega
end Go.Proofs.YtcbmedfongiojaaGreatDoor
