/- Parts of a proof. -/
import Derived.Test.YtcbmedfongiojaaGreatDoorKt3
set_option linter.unusedVariables false
set_option linter.unusedSimpArgs false
namespace Go.Proofs.YtcbmedfongiojaaGreatDoor
open Go.RowKit Go.ChangeShapes Go.WideShapes
theorem akH {α:Type} (f:α→List Value) {size:Nat} (hf:∀ a,(f a).length=size) {w:World} {b:Nat}:∀ (l:List α) (o:Nat),(∀ i (hi:i<l.length) j v,(f l[i])[j]? =some v→w.cell? ⟨b,o+i*size+j,none⟩=some v)→
 ∀ j u,(l.flatMap f)[j]? =some u→w.cell? ⟨b,o+j,none⟩=some u
 | [],_,_,j,u,h=>by simp at h
 | a::l,o,hc,j,u,h=>by
   rw [List.flatMap_cons] at h
   rcases Nat.lt_or_ge j size with hj | hj
   · rw [List.getElem?_append_left (by rw [hf];exact hj)] at h
     have:=hc 0 (by simp) j u h
     simpa using this
   · rw [List.getElem?_append_right (by rw [hf];exact hj),hf] at h
     have:=akH f hf l (o+size) (fun i hi k v hk=>by
      have:=hc (i+1) (by simpa using hi) k v hk
      have e:o+(i+1)*size+k=o+size+i*size+k:=by rw [Nat.add_mul];omega
      rwa [e] at this) (j - size) u h
     have e:o+size+(j - size)=o+j:=by omega
     rwa [e] at this
theorem flat_length {α:Type} (f:α→List Value) {size:Nat} (hf:∀ a,(f a).length=size):∀ l:List α,(l.flatMap f).length=l.length*size
 | []=>by simp
 | a::l=>by rw [List.flatMap_cons,List.length_append,hf,flat_length f hf l,List.length_cons,Nat.add_mul];omega
section
variable {H:Type} {enc:TypeId × Value→H} {P:Program} {W:World}
theorem aau {l m:List Nat} (h:(l++m).all (· ≤reachBytes)=true):m.all (· ≤reachBytes)=true:=by rw [List.all_append,Bool.and_eq_true] at h;exact h.2
theorem aaK {l m:List Nat} (h:(l++m).all (· ≤reachBytes)=true):l.all (· ≤reachBytes)=true:=by rw [List.all_append,Bool.and_eq_true] at h;exact h.1
theorem agD {e:TypeId}:∀ (ds:List (DataW H)),(DataW.weightsAll P e ds).all (· ≤reachBytes)=true→∀ d∈ds,(d.weights P e).all (· ≤reachBytes)=true
 | [],_,d,hd=>by cases hd
 | a::r,h,d,hd=>by
   rw [DataW.weightsAll] at h
   rcases List.mem_cons.1 hd with rfl | hd
   · exact aaK h
   · exact agD r (aau h) d hd
theorem amL {α:Type} [Inhabited α] (f:α→List Value) (Q:α→Prop) {size:Nat} {t e:TypeId} (ht:P.underlying t=some (.slice e)) (hc:P.cellsOf e=size) (hpos:0<size) (hf:∀ a,(f a).length=size) (hby:8≤P.bytesOf e)
 (each:∀ n cs x,DataW.trod enc P W 0 (fun _=>true) true n e cs=some x→(x.1.weights P e).all (· ≤reachBytes)=true→∃ a,cs=f a∧Q a)
 {fuel:Nat} {cs:List Value} {x:DataW H × List MemPlace} (h:DataW.trod enc P W 0 (fun _=>true) true fuel t cs=some x) (hw:(x.1.weights P t).all (· ≤reachBytes)=true):
 ∃ (A:Option Addr) (c:Nat) (l:List α),cs=[.slice A l.length c]∧Reads W (fun _=>True) size A l.length c (l.flatMap f)∧(∀ a∈l,Q a)∧l.length*P.bytesOf e≤reachBytes:=by
 rcases Deep.open_slice ht h with ⟨rfl,rfl⟩ | ⟨a,len,cap,m,n,D,Pl,rfl,_,hl,hm,hmm,rfl,hx⟩
 · refine ⟨none,0,([]:List α),rfl,Reads.none_ _ _ _,fun a (ha:a∈([]:List α))=>?_,?_⟩
   · cases ha
   · simp
 · simp only [if_true] at hmm
   subst hmm;rw [DataW.weights.eq_def] at hw
   simp only [ht,List.all_cons,Bool.and_eq_true,List.length_map,List.length_range] at hw
   obtain ⟨hw1,hw2⟩:=hw
   have hw1:(len+(m - len))*P.bytesOf e≤reachBytes:=by simpa using hw1
   have hwl:=agD _ (aaK hw2)
   have hel:∀ i,i<len→∃ y:α,W.cells? 0 (a.add (i*P.cellsOf e)) (P.cellsOf e)=some (f y)∧Q y:=fun i hi=>by
    obtain ⟨cs',h1,h2⟩:=hx i (by omega);obtain ⟨y,rfl,hy⟩:=each _ _ _ h2 (hwl _ (List.mem_map.2 ⟨i,List.mem_range.2 hi,rfl⟩));exact ⟨y,h1,hy⟩
   obtain ⟨g,hg⟩:=Deep.choose_lt hel
   have hlen:((List.range len).map g).length=len:=by simp
   have hml:len*P.bytesOf e≤reachBytes:=Nat.le_trans (Nat.mul_le_mul_right _ (by omega)) hw1;refine ⟨some a,m,(List.range len).map g,by rw [hlen],?_,?_,by rw [hlen];exact hml⟩
   · rw [hlen]
     refine ⟨hl,by simpa [maxLen] using hm,?_,by rw [flat_length f hf,hlen],fun h0=>?_⟩
     · have h8:len*8≤reachBytes:=Nat.le_trans (Nat.mul_le_mul_left _ hby) hml
       simp only [reachBytes] at h8
       omega
     · obtain ⟨b,o,sp⟩:=a
       obtain ⟨_,hl0,hc0⟩:=World.cells?_some (hg 0 h0).1;have e0:=hc0 0 (by rw [hc];exact hpos);rw [hf] at hl0;obtain ⟨v0,hv0⟩:∃ v,(f (g 0))[0]? =some v:=⟨_,List.getElem?_eq_getElem (by rw [hf];exact hpos)⟩;rw [hv0] at e0
       have hsp:sp=none:=by simpa [Addr.add] using World.cell?_spot e0
       subst hsp;refine ⟨b,o,rfl,trivial,?_,akH f hf _ o fun i hi j v hv=>?_⟩
       · simp only [Nat.zero_mul,qB,Nat.add_zero] at e0
         rcases Nat.lt_or_ge b W.heap.size with hlt | hge
         · exact hlt
         · simp [World.cell?,Array.getElem?_eq_none hge] at e0
       · rw [hlen] at hi
         simp only [List.getElem_map,List.getElem_range] at hv
         obtain ⟨_,_,hci⟩:=World.cells?_some (hg i hi).1
         have hj:j<size:=by have:=(List.getElem?_eq_some_iff.1 hv).1;rwa [hf] at this
         have:=hci j (by rw [hc];exact hj)
         rw [hc,hv] at this
         simpa only [qB] using this
   · intro y hy
     obtain ⟨i,hi,rfl⟩:=List.mem_map.1 hy;exact (hg i (List.mem_range.1 hi)).2
end
section
variable {H:Type} {enc:TypeId × Value→H} {W:World}
theorem apL {α β:Type} (f:α→β):∀ l:List α,l.map f=l.flatMap fun p=>[f p]
 | []=>rfl
 | a::l=>by rw [List.map_cons,List.flatMap_cons,apL f l];rfl
instance:Inhabited M.Dt:=⟨⟨0,0⟩⟩
instance:Inhabited M.oH:=⟨⟨0,⟨#[]⟩,0,0,0,false,[]⟩⟩
instance:Inhabited Sh:=⟨⟨default,none,0⟩⟩
variable {b0:Nat} {v:Value} {d:DataW H} {ps:List MemPlace}
end
end Go.Proofs.YtcbmedfongiojaaGreatDoor
