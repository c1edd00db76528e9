/- Parts of the proofs about chapter 5 (pool), joined by program. -/
import Derived.Deep.DeepCutAuto
import Derived.Test.YtelpepbpdojikaaGreatDoorKg2
set_option maxHeartbeats 1600000
set_option maxRecDepth 100000
set_option linter.unusedVariables false
set_option linter.unusedSimpArgs false
namespace Go.Proofs.YtelpepbpdojikaaGreatDoor
open Go.RowKit
theorem xQ {l:List M.rD} {k:Nat} (hk:k<l.length):M.eH (l.take k) (l.drop k)=
 if M.out l[k].aJ 0 15∨M.out l[k].aP 1 6 then 3 else if l[k].aJ∈(l.take k).map (·.aJ) then 9 else M.eH (l.take (k+1)) (l.drop (k+1)):=by
 rw [List.drop_eq_getElem_cons hk,M.eH,List.take_succ_eq_append_getElem hk]
theorem NY {l:List M.rD} {j k:Nat} (hj:j<k) (hk:k<l.length) (e:l[j].aJ=l[k].aJ):l[k].aJ∈(l.take k).map (·.aJ):=by
 rw [List.mem_map]
 exact ⟨l[j],by rw [List.mem_take_iff_getElem];exact ⟨j,by omega,rfl⟩,e⟩
theorem JY {l:List M.rD} {j:Nat} (hj:j<l.length) (b:Int) (h:b ∉ (l.take j).map (·.aJ)) (e:l[j].aJ≠b):b ∉ (l.take (j+1)).map (·.aJ):=by
 rw [List.take_succ_eq_append_getElem hj,List.map_append,List.mem_append,not_or]
 exact ⟨h,by simp;exact fun h=>e h.symm⟩
structure vM (x:M.aI):Prop where
 aC:M.out x.aC 0 1=false
 kind:M.isKind x.kind=true
 aJ:M.out x.aJ 0 15=false
 aP:M.out x.aP 0 6=false
 first:M.out x.first 0 15=false
 shape:x.aJ=0↔x.aP=0
 many:x.aA.length≤16
theorem Fe {x:M.aI} (h:M.iK x=0):vM x:=by
 unfold M.iK at h
 split at h
 · cases h
 split at h
 · cases h
 split at h
 · cases h
 split at h
 · cases h
 split at h
 · cases h
 · next h1 h2 h3 h4 h5=>
   rw [not_or,not_or] at h3
   refine ⟨by simpa using h1,by simpa using h2,by simpa using h3.1,by simpa using h3.2.1,by simpa using h3.2.2,?_,by omega⟩
   by_cases a:x.aJ=0 <;> by_cases b:x.aP=0 <;> simp_all
theorem Ho {x:M.aI} (h:vM x):M.iK x=0:=by
 unfold M.iK
 rw [if_neg (by simp [h.aC]),if_neg (by simp [h.kind]),if_neg (by simp [h.aJ,h.aP,h.first]),if_neg (by have:=h.shape;by_cases a:x.aJ=0 <;> by_cases b:x.aP=0 <;> simp_all),if_neg (by have:=h.many;omega)]
theorem yC {a b:Int} (h:a=0↔b=0):∃ t:Bool,(a == 0)=t∧(b == 0)=t:=by
 by_cases h1:a=0
 · exact ⟨true,by simp [h1],by simp [h.1 h1]⟩
 · exact ⟨false,by simp [h1],by simp;exact fun e=>h1 (h.2 e)⟩
theorem NC {a b:Int} (h:¬ (decide (a=0)≠decide (b=0))):a=0↔b=0:=by
 by_cases h1:a=0 <;> by_cases h2:b=0 <;> simp_all
theorem Jw {a b:Int} (h:decide (a=0)≠decide (b=0)):((a == 0)=true∧(b == 0)=false)∨((a == 0)=false∧(b == 0)=true):=by
 by_cases h1:a=0 <;> by_cases h2:b=0 <;> simp_all
theorem AO (x:M.aI) (A:Option Addr) (c:Nat) (w:World) (hl:x.aA.length≤17592186044416) (h:M.iK x≠0):
 Calls Tryz.prog 30 #[iO x A c] w fun e w'=>e= .returned (.int .i64 (M.iK x))∧Below w.heap.size w w':=by
 obtain ⟨pl,kd,ba,po,fi,cu,aA⟩:=x
 unfold M.iK at h ⊢
 simp only at h hl ⊢
 by_cases h1:M.out pl 0 1=true
 · rw [if_pos h1]
   go_enter Tryz.func30,Tryz.ntmps30
   go_wp2_with (first | (go_at_call 78;refine (sF _ _ _ _).mono ?_;rintro e w1 ⟨rfl,rfl⟩) | (go_at_call 79;refine (kU _ _).mono ?_;rintro e w1 ⟨rfl,rfl⟩))
   go_ret
   exact ⟨rfl,(Below.refl _ _).alloc (Nat.le_refl _) _⟩
 rw [if_neg h1] at h ⊢
 by_cases h2:M.isKind kd=false
 · rw [if_pos h2]
   go_enter Tryz.func30,Tryz.ntmps30
   go_wp2_with (first | (go_at_call 78;refine (sF _ _ _ _).mono ?_;rintro e w1 ⟨rfl,rfl⟩) | (go_at_call 79;refine (kU _ _).mono ?_;rintro e w1 ⟨rfl,rfl⟩))
   go_ret
   exact ⟨rfl,(Below.refl _ _).alloc (Nat.le_refl _) _⟩
 rw [if_neg h2] at h ⊢
 have h1':M.out pl 0 1=false:=by simpa using h1
 have h2':M.isKind kd=true:=by simpa using h2
 clear h1 h2
 by_cases h3:M.out ba 0 15=true∨M.out po 0 6=true∨M.out fi 0 15=true
 · rw [if_pos h3]
   clear h
   go_enter Tryz.func30,Tryz.ntmps30
   go_wp2_with (first | (go_at_call 78;refine (sF _ _ _ _).mono ?_;rintro e w1 ⟨rfl,rfl⟩) | (go_at_call 79;refine (kU _ _).mono ?_;rintro e w1 ⟨rfl,rfl⟩))
   all_goals first | (exfalso;simp_all;done) | skip
   all_goals
    go_ret
    exact ⟨rfl,(Below.refl _ _).alloc (Nat.le_refl _) _⟩
 rw [if_neg h3] at h ⊢
 rw [not_or,not_or] at h3
 have h31:M.out ba 0 15=false:=by simpa using h3.1
 have h32:M.out po 0 6=false:=by simpa using h3.2.1
 have YT:M.out fi 0 15=false:=by simpa using h3.2.2
 clear h3
 by_cases h4:decide (ba=0)≠decide (po=0)
 · rw [if_pos h4]
   have hb:=Jw h4
   clear h h4
   rcases hb with ⟨h5,h6⟩ | ⟨h5,h6⟩
   all_goals
    go_enter Tryz.func30,Tryz.ntmps30
    go_wp2_with (first | (go_at_call 78;refine (sF _ _ _ _).mono ?_;rintro e w1 ⟨rfl,rfl⟩) | (go_at_call 79;refine (kU _ _).mono ?_;rintro e w1 ⟨rfl,rfl⟩))
    go_ret
    exact ⟨rfl,(Below.refl _ _).alloc (Nat.le_refl _) _⟩
 rw [if_neg h4] at h ⊢
 obtain ⟨t,h6,h7⟩:=yC (NC h4)
 by_cases h5:16<aA.length
 · rw [if_pos h5]
   clear h h4
   cases t
   all_goals
    go_enter Tryz.func30,Tryz.ntmps30
    go_wp2_with (first | (go_at_call 78;refine (sF _ _ _ _).mono ?_;rintro e w1 ⟨rfl,rfl⟩) | (go_at_call 79;refine (kU _ _).mono ?_;rintro e w1 ⟨rfl,rfl⟩))
    go_ret
    exact ⟨rfl,(Below.refl _ _).alloc (Nat.le_refl _) _⟩
 · rw [if_neg h5] at h
   exact absurd rfl h
theorem Dj (S:Nat→Prop) (x:M.aI) (A:Option Addr) (c:Nat) (w:World) (hp:jl w S A c x.aA) (h:vM x):
 Calls Tryz.prog 30 #[iO x A c] w fun e w'=>e= .returned (.int .i64 (M.cZ x))∧Below w.heap.size w w':=by
 have hck:M.cZ x=if M.eH [] x.aA≠0 then M.eH [] x.aA else M.sK x:=by
  unfold M.cZ
  rw [if_neg]
  intro h1
  exact h1 (Ho h)
 obtain ⟨b1,b2,b3⟩:=hp.bd
 obtain ⟨pl,kd,ba,po,fi,cu,aA⟩:=x
 obtain ⟨h1,h2,h3,h4,h5,h6,h7⟩:=h
 obtain ⟨t,h8,h9⟩:=yC h6
 simp only at h1 h2 h3 h4 h5 h7 h8 h9 b1 b3
 have wZ:=hide hck
 clear h6 hck
 have hkind:kd=M.jo∨kd=M.aT∨((kd.toList == [112,97,115,115])=false∧(kd.toList == [99,111,110,99,101,100,101])=false∧kd≠M.jo∧kd≠M.aT):=by
  by_cases a:kd=M.jo
  · exact .inl a
  by_cases b:kd=M.aT
  · exact .inr (.inl b)
  exact .inr (.inr ⟨beq_eq_false_iff_ne.2 (bQ a),beq_eq_false_iff_ne.2 (bQ b),a,b⟩)
 go_enter Tryz.func30,Tryz.ntmps30
 go_wp2_with (first | (go_at_call 78;refine (sF _ _ _ _).mono ?_;rintro e w1 ⟨rfl,rfl⟩) | (go_at_call 79;refine (kU _ _).mono ?_;rintro e w1 ⟨rfl,rfl⟩))
 go_loopw [3,4] (fun i _ wr=>∃ k n:Nat,k≤aA.length∧i= .int .i64 k∧M.eH [] aA=M.eH (aA.take k) (aA.drop k)∧wr=(w.alloc (.cells #[.int .i64 pl,.string kd,.int .i64 ba,.int .i64 po,.int .i64 fi,.bool cu,.slice A aA.length c] 69)).drewN n) (fun i _ _=>aA.length - (intOf i).toNat)
 case atStart=>exact ⟨0,0,Nat.zero_le _,rfl,by simp,rfl⟩
 case round=>
  obtain ⟨k,n,hk,rfl,hx1,rfl⟩:=hrel
  by_cases hlt:k<aA.length
  · obtain ⟨b,o,rfl,_,hbl,hc⟩:=hp.at_ k hlt
    obtain ⟨hcb,hcp⟩:=hc k hlt
    have hst:=xQ hlt
    by_cases ho:M.out aA[k].aJ 0 15=true∨M.out aA[k].aP 1 6=true
    · rw [if_pos ho] at hst
      have HX:=hide (hx1.trans hst)
      clear hx1 hst hc
      go_wp2_with (go_at_call 78;refine (sF _ _ _ _).mono ?_;rintro e w1 ⟨rfl,rfl⟩)
      all_goals first | (exfalso;simp_all;done) | skip
      all_goals
       go_ret
       exact ⟨dG (by rw [wZ.out,HX.out];rfl),below_drewN ((Below.refl _ _).alloc (Nat.le_refl _) _) _⟩
    · rw [if_neg ho] at hst
      rw [not_or] at ho
      have ho1:M.out aA[k].aJ 0 15=false:=by simpa using ho.1
      have ho2:M.out aA[k].aP 1 6=false:=by simpa using ho.2
      have HX:=hide hx1
      have HS:=hide hst
      clear hx1 hst ho
      have HC:=hide hc
      clear hc
      go_wp2_with (go_at_call 78;refine (sF _ _ _ _).mono ?_;rintro e w1 ⟨rfl,rfl⟩)
      go_loopw [4] (fun i wr=>∃ j m:Nat,j≤k∧i= .int .i64 j∧aA[k].aJ ∉ (aA.take j).map (·.aJ)∧wr=(w.alloc (.cells #[.int .i64 pl,.string kd,.int .i64 ba,.int .i64 po,.int .i64 fi,.bool cu,.slice (some ⟨b,o,none⟩) aA.length c] 69)).drewN m) (fun i _=>k - (intOf i).toNat)
      case atStart=>exact ⟨0,n,Nat.zero_le _,rfl,by simp,rfl⟩
      case round=>
       obtain ⟨j,m,hj,rfl,hx2,rfl⟩:=hrel
       by_cases hlj:j<k
       · have hcj:=(HC.out j (by omega)).1
         have i1:(0:Int)≤(k:Int):=by omega
         have i2:(k:Int)<(aA.length:Int):=by omega
         have i3:(0:Int)≤(j:Int):=by omega
         have i4:(j:Int)<(aA.length:Int):=by omega
         by_cases he:aA[j].aJ=aA[k].aJ
         · have he1:(aA[j].aJ == aA[k].aJ)=true:=by simp [he]
           have HE:=hide he
           clear he
           go_wp2
           go_quiet (fail)
           go_wp2
           go_ret
           exact ⟨dG (by rw [wZ.out,HX.out,HS.out,if_pos (NY hlj hlt HE.out)];rfl),below_drewN (below_drewN ((Below.refl _ _).alloc (Nat.le_refl _) _) _) _⟩
         · have he1:(aA[j].aJ == aA[k].aJ)=false:=by simp [he]
           go_wp2
           go_quiet (fail)
           go_wp2
           go_roundw
           case rel=>exact ⟨j+1,_,by omega,by go_num,JY (by omega) _ hx2 he,rfl⟩
           case measure=>simp [intOf];omega
       · obtain rfl:j=k:=by omega
         go_wp2
         go_roundw
         case rel=>exact ⟨j+1,_,by omega,by go_num,by rw [HX.out,HS.out,if_neg hx2],rfl⟩
         case measure=>simp [intOf];omega
  · have hkk:k=aA.length:=by omega
    have hz:M.eH [] aA=0:=by rw [hx1,hkk,List.drop_length,M.eH]
    have HT:=hide (show M.cZ _=_ from wZ.out.trans (if_neg (by rw [hz];simp)))
    clear hx1 hkk hz wZ
    rcases hkind with rfl | rfl | ⟨k1,k2,k3,k4⟩
    all_goals
     go_wp2
     all_goals
      go_ret
      refine ⟨dG ?_,below_drewN ((Below.refl _ _).alloc (Nat.le_refl _) _) _⟩
      rw [HT.out]
      first | (simp [M.sK, *];done) | (simp_all [M.sK, ← List.length_pos_iff];done)
theorem AL (S:Nat→Prop) (x:M.aI) (A:Option Addr) (c:Nat) (w:World) (hp:jl w S A c x.aA):
 Calls Tryz.prog 30 #[iO x A c] w fun e w'=>e= .returned (.int .i64 (M.cZ x))∧Below w.heap.size w w':=by
 by_cases h:M.iK x=0
 · exact Dj S x A c w hp (Fe h)
 · have:=AO x A c w hp.bd.2.2 h
   have hck:M.cZ x=M.iK x:=by unfold M.cZ;rw [if_pos h]
   rw [hck]
   exact this
end Go.Proofs.YtelpepbpdojikaaGreatDoor
