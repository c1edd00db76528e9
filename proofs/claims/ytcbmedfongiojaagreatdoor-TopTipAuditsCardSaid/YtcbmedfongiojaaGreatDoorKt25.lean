/- Parts of a proof. -/
import Derived.Laws.Bits128
import Derived.Test.YtcbmedfongiojaaGreatDoorKt24
set_option maxHeartbeats 4000000
set_option maxRecDepth 100000
set_option linter.unusedVariables false
set_option linter.unusedSimpArgs false
namespace Go.Proofs.YtcbmedfongiojaaGreatDoor
open Go.RowKit
theorem O8 (n:Nat) (hn:n≤1000):bits .and .i64 (n:Int) 1=((n % 2:Nat):Int):=by
 have h:∀ k:Fin 1001,bits .and .i64 (k.val:Int) 1=((k.val % 2:Nat):Int):=by decide+kernel
 exact h ⟨n,by omega⟩
theorem PV (a k:Nat):a ^ k=(a*a) ^ (k / 2)*a ^ (k % 2):=by
 rw [← Nat.pow_two, ← Nat.pow_mul, ← Nat.pow_add,Nat.div_add_mod]
theorem PU {a k:Nat} (ha:1≤a) (hk:1≤k):a≤a ^ k:=by
 obtain ⟨j,rfl⟩:∃ j,k=j+1:=⟨k - 1,by omega⟩;rw [Nat.pow_succ];exact Nat.le_mul_of_pos_left _ (Nat.pow_pos ha)
theorem mulN (x y z:Nat) (h:x*y=z) (hx:x≤9223372036854775807) (hy:y≤9223372036854775807) (hz:z≤9223372036854775807) (w:World):
 Calls Tryz.prog 155 #[nK x,nK y] w fun e w'=>e= .returned (nK z)∧Below w.heap.size w w':=by
 subst h
 have:=jQ x y w (by omega) (by omega) (by omega) (by omega) (by have:=Int.natCast_mul x y;omega) (by have:=Int.natCast_mul x y;omega)
 rwa [← Int.natCast_mul] at this
theorem pow_any (b n:Nat) (w:World) (hb:1≤b) (hn:n≤1000) (hM:b ^ n≤9223372036854775807) (hbM:b≤9223372036854775807):
 Calls Tryz.prog 167 #[nK b,.int .i64 n] w fun e w'=>e= .returned (nK (b ^ n:Nat))∧Below w.heap.size w w':=by
 obtain ⟨r,hr⟩:∃ r,b ^ n=r:=⟨_,rfl⟩;have HR:=hide hr;rw [hr] at hM ⊢;clear hr
 go_enter Tryz.func167,Tryz.ntmps167
 go_upto_region 0 with (fail)
 go_cut [2,4] (fun v2 v4 wx=>v2=ptr w.heap.size∧v4=ptr (w.heap.size+1)∧aC w wx [(aH b,107),(aH 0,107)])
 case first=>
  go_wp2;go_meet;exact ⟨rfl,rfl,(((aC.nil w).new (by simp) (aH b) _).new (by simp) (aH 0) _)⟩
 case rest=>
  obtain ⟨rfl,rfl,hB⟩:=hcut
  go_wp2_with (go_at_call 162;refine (rO 1 _).mono ?_;rintro e w1 ⟨rfl,hb1⟩;have hB1:=hB.call (by simp) hb1)
  have hsz:=hB1.size (by simp)
  simp only [List.length_cons,List.length_nil] at hsz
  obtain ⟨G,hG⟩:∃ G,w1.heap.size=G:=⟨_,rfl⟩;have Zi:=Held.newAt w1 (aH 1) 107 hG;have hB0:=hB1.alloc (by simp) (.cells (aH 1).toArray 107);rw [hG] at hsz
  simp only [hG]
  clear hG hB hb1
  go_loopw [1] (fun i wr=>∃ a out k:Nat,i= .int .i64 k∧k≤n∧1≤a∧a≤9223372036854775807∧1≤out∧Aside (out*a ^ k=r)∧aC w wr [(aH a,107),(aH 0,107)]∧Held wr G (aH out) 107) (fun i _=>(intOf i).toNat)
  case atStart=>exact ⟨b,1,n,rfl,Nat.le_refl _,hb,hbM,Nat.le_refl _,by rw [← HR.out];exact Nat.one_mul _,hB0,Zi⟩
  case round=>
   obtain ⟨a,out,k,rfl,hk,ha,haM,ho,he,hB,hO⟩:=hrel;clear hB0 Zi hB1
   have Xr:w.heap.size≠G:=by omega
   by_cases k0:k=0
   · subst k0
     have e1:=he.out;rw [Nat.pow_zero,Nat.mul_one] at e1;subst e1
     go_wp2_with (first | (refine dA 107 (.tmp 5) rfl ?_;refine cO (hO) Tryz.underlying107 rfl bK rfl (.tmp 5) rfl rfl ?_) | (refine fO 107 (.tmp 4) (.tmp 22) rfl ?_;refine dP (hB.get 1 rfl) (aH out) rfl bK (qO _) rfl (.tmp 4) (.tmp 22) rfl rfl rfl ?_))
     have hZ:=hB.put 1 rfl (aH out) rfl;exact bodyPost_ret (aP (p:=4) (hZ.get 1 rfl) Tryz.underlying107 rfl bK rfl _ rfl) rfl ⟨rfl,hZ.bw⟩
   · have Lh:=PV a k
     have hand:=O8 k (by omega);have hp1:1≤(a*a) ^ (k / 2):=Nat.pow_pos (Nat.mul_pos ha ha)
     by_cases hodd:k % 2=1
     · rw [hodd] at hand
       rw [hodd,Nat.pow_one] at Lh;have e1:=he.out;obtain ⟨z,hz⟩:∃ z,out*a=z:=⟨_,rfl⟩
       have e2:z*(a*a) ^ (k / 2)=r:=by rw [← e1,Lh, ← hz,Nat.mul_assoc,Nat.mul_comm a]
       have z1:1≤z:=by rw [← hz];exact Nat.mul_pos ho ha
       have zr:z≤r:=by rw [← e2];exact Nat.le_mul_of_pos_right _ hp1
       have or_:out≤z:=by rw [← hz];exact Nat.le_mul_of_pos_right _ ha
       clear Lh e1
       by_cases k1:k=1
       · subst k1
         have HE:=hide (show z*a ^ 0=r by rw [← e2];simp);clear e2 hp1 he
         go_wp2_with (first | (go_at_call 155;refine (mulN out a z hz (by omega) (by omega) (by omega) _).mono ?_;rintro e w2 ⟨rfl,hb2⟩;have hB2:=hB.call (by simp) hb2;have hO2:=hO.below hb2) | (refine dA 107 (.tmp 5) rfl ?_;refine cO (hO) Tryz.underlying107 rfl bK rfl (.tmp 5) rfl rfl ?_) | (refine dA 107 (.tmp 2) rfl ?_;refine cO (hB.aj rfl) Tryz.underlying107 rfl bK rfl (.tmp 2) rfl rfl ?_) | (refine fO 107 (.tmp 5) (.tmp 16) rfl ?_;refine dP (hO2) (aH z) rfl bK (qO _) rfl (.tmp 5) (.tmp 16) rfl rfl rfl ?_))
         have hB3:=hB2.fK hsz (aH z) 0;have hO3:=hO2.whole (aH z) rfl
         go_roundw
         case rel=>exact ⟨a,z,0,by go_num,by omega,ha,haM,z1,HE.out,hB3,hO3⟩
         case measure=>simp [intOf]
       · obtain ⟨y,hy⟩:∃ y,a*a=y:=⟨_,rfl⟩
         have y1:1≤y:=by rw [← hy];exact Nat.mul_pos ha ha
         have yr:y≤r:=by
          have h2:1≤k / 2:=by omega
          have:=PU (a:=a*a) (k:=k / 2) (Nat.mul_pos ha ha) h2
          rw [hy] at this e2;exact Nat.le_trans this (by rw [← e2];exact Nat.le_mul_of_pos_left _ z1)
         rw [hy] at e2;have HE:=hide e2;clear e2 hp1 he;have hgt:decide (1<(k:Int))=true:=decide_eq_true (by omega);have tok:=hide True.intro
         go_wp2_with (first | (clear tok;go_at_call 155;refine (mulN out a z hz (by omega) (by omega) (by omega) _).mono ?_;rintro e w2 ⟨rfl,hb2⟩;have hB2:=hB.call (by simp) hb2;have hO2:=hO.below hb2;have hB3:=hB2.fK hsz (aH z) 0;have hO3:=hO2.whole (aH z) rfl) | (go_at_call 155;refine (mulN a a y hy (by omega) (by omega) (by omega) _).mono ?_;rintro e w4 ⟨rfl,hb4⟩;have hB4:=hB3.call (by simp) hb4;have hO4:=hO3.below hb4) | (refine dA 107 (.tmp 5) rfl ?_;refine cO (hO) Tryz.underlying107 rfl bK rfl (.tmp 5) rfl rfl ?_) | (refine fO 107 (.tmp 5) (.tmp 16) rfl ?_;refine dP (hO2) (aH z) rfl bK (qO _) rfl (.tmp 5) (.tmp 16) rfl rfl rfl ?_) | (refine dA 107 (.tmp 2) rfl ?_;refine cO (hB3.aj rfl) Tryz.underlying107 rfl bK rfl (.tmp 2) rfl rfl ?_) | (refine dA 107 (.tmp 2) rfl ?_;refine cO (hB.aj rfl) Tryz.underlying107 rfl bK rfl (.tmp 2) rfl rfl ?_) | (refine fO 107 (.tmp 2) (.tmp 21) rfl ?_;refine dP (hB4.aj rfl) (aH y) rfl bK (qO _) rfl (.tmp 2) (.tmp 21) rfl rfl rfl ?_))
         have eH:=hB4.put 0 rfl (aH y) rfl;have BI:=Held.others (g':=w.heap.size) Xr.symm (aH y) 0 _ hO4
         go_roundw
         case rel=>exact ⟨y,z,k / 2,by go_num,by omega,y1,by omega,z1,HE.out,eH,BI⟩
         case measure=>simp [intOf];omega
     · have hev:k % 2=0:=by omega
       rw [hev] at hand;rw [hev,Nat.pow_zero,Nat.mul_one] at Lh;have e1:=he.out;obtain ⟨y,hy⟩:∃ y,a*a=y:=⟨_,rfl⟩
       have y1:1≤y:=by rw [← hy];exact Nat.mul_pos ha ha
       have e2:out*y ^ (k / 2)=r:=by rw [← e1,Lh,hy]
       have yr:y≤r:=by
        have h2:1≤k / 2:=by omega
        exact Nat.le_trans (PU y1 h2) (by rw [← e2];exact Nat.le_mul_of_pos_left _ ho)
       have HE:=hide e2;clear e2 hp1 he Lh e1;have hgt:decide (1<(k:Int))=true:=decide_eq_true (by omega)
       go_wp2_with (first | (go_at_call 155;refine (mulN a a y hy (by omega) (by omega) (by omega) _).mono ?_;rintro e w4 ⟨rfl,hb4⟩;have hB4:=hB.call (by simp) hb4;have hO4:=hO.below hb4) | (refine dA 107 (.tmp 2) rfl ?_;refine cO (hB.aj rfl) Tryz.underlying107 rfl bK rfl (.tmp 2) rfl rfl ?_) | (refine fO 107 (.tmp 2) (.tmp 21) rfl ?_;refine dP (hB4.aj rfl) (aH y) rfl bK (qO _) rfl (.tmp 2) (.tmp 21) rfl rfl rfl ?_))
       have eH:=hB4.put 0 rfl (aH y) rfl;have BI:=Held.others (g':=w.heap.size) Xr.symm (aH y) 0 _ hO4
       go_roundw
       case rel=>exact ⟨y,out,k / 2,by go_num,by omega,y1,by omega,ho,HE.out,eH,BI⟩
       case measure=>simp [intOf];omega
end Go.Proofs.YtcbmedfongiojaaGreatDoor
