/- Parts of a proof. -/
import Derived.Deep.DeepCutAuto
import Derived.Test.YtcjglfbpjkdgiaaGreatDoorKk2
set_option maxHeartbeats 1600000
set_option maxRecDepth 100000
set_option linter.unusedVariables false
set_option linter.unusedSimpArgs false
namespace Go.Proofs.YtcjglfbpjkdgiaaGreatDoor
open Go.RowKit
theorem Dy (r:M.Rules) (w:World):Calls Tryz.prog 21 #[iJ r] w fun e w'=>e= .returned (.int .i64 (M.aQ r))∧Below w.heap.size w w':=by
 obtain ⟨g,tg,fo⟩:=r
 rcases Cm g with rfl | rfl | rfl | ⟨h0,h1,h2,hk⟩
 all_goals
  go_enter Tryz.func21,Tryz.ntmps21
  go_wp2_with (go_at_call 23;refine (qc _ _ _ _).mono ?_;rintro e w1 ⟨rfl,rfl⟩)
  all_goals
   go_ret;refine ⟨dw ?_,(Below.refl _ _).alloc (Nat.le_refl _) _⟩
   first | (simp [M.aQ,M.oH, *];done) | (simp_all [M.aQ,M.oH];done)
theorem zD {l:List M.kL} {k:Nat} (hk:k<l.length):M.gJ (l.take k) (l.drop k)=
 if M.out l[k].aT 0 15∨M.out l[k].aP 1 6 then 3 else if l[k].aT∈(l.take k).map (·.aT) then 9 else M.gJ (l.take (k+1)) (l.drop (k+1)):=by
 rw [List.drop_eq_getElem_cons hk,M.gJ,List.take_succ_eq_append_getElem hk]
theorem Xr {l:List M.kL} {j k:Nat} (hj:j<k) (hk:k<l.length) (e:l[j].aT=l[k].aT):l[k].aT∈(l.take k).map (·.aT):=by
 rw [List.mem_map];exact ⟨l[j],by rw [List.mem_take_iff_getElem];exact ⟨j,by omega,rfl⟩,e⟩
theorem SS {l:List M.kL} {j:Nat} (hj:j<l.length) (b:Int) (h:b ∉ (l.take j).map (·.aT)) (e:l[j].aT≠b):b ∉ (l.take (j+1)).map (·.aT):=by
 rw [List.take_succ_eq_append_getElem hj,List.map_append,List.mem_append,not_or];exact ⟨h,by simp;exact fun h=>e h.symm⟩
structure vW (x:M.aV):Prop where
 aG:M.out x.aG 0 1=false
 kind:M.isKind x.kind=true
 aT:M.out x.aT 0 15=false
 aP:M.out x.aP 0 6=false
 first:M.out x.first 0 15=false
 shape:x.aT=0↔x.aP=0
 many:x.aC.length≤16
theorem MH {x:M.aV} (h:M.gZ x=0):vW x:=by
 unfold M.gZ at h
 split at h
 · cases h
 split at h
 · cases h
 split at h
 · cases h
 split at h
 · cases h
 split at h
 · cases h
 · next h1 h2 h3 h4 h5=>
   rw [not_or,not_or] at h3;refine ⟨by simpa using h1,by simpa using h2,by simpa using h3.1,by simpa using h3.2.1,by simpa using h3.2.2,?_,by omega⟩
   by_cases a:x.aT=0 <;> by_cases b:x.aP=0 <;> simp_all
theorem PG {x:M.aV} (h:vW x):M.gZ x=0:=by
 unfold M.gZ
 rw [if_neg (by simp [h.aG]),if_neg (by simp [h.kind]),if_neg (by simp [h.aT,h.aP,h.first]),if_neg (by have:=h.shape;by_cases a:x.aT=0 <;> by_cases b:x.aP=0 <;> simp_all),if_neg (by have:=h.many;omega)]
theorem Ag {a b:Int} (h:a=0↔b=0):∃ t:Bool,(a == 0)=t∧(b == 0)=t:=by
 by_cases h1:a=0
 · exact ⟨true,by simp [h1],by simp [h.1 h1]⟩
 · exact ⟨false,by simp [h1],by simp;exact fun e=>h1 (h.2 e)⟩
theorem WQ {a b:Int} (h:¬ (decide (a=0)≠decide (b=0))):a=0↔b=0:=by
 by_cases h1:a=0 <;> by_cases h2:b=0 <;> simp_all
theorem Rh {a b:Int} (h:decide (a=0)≠decide (b=0)):((a == 0)=true∧(b == 0)=false)∨((a == 0)=false∧(b == 0)=true):=by
 by_cases h1:a=0 <;> by_cases h2:b=0 <;> simp_all
theorem Em (x:M.aV) (A:Option Addr) (c:Nat) (w:World) (hl:x.aC.length≤17592186044416) (h:M.gZ x≠0):
 Calls Tryz.prog 8 #[iy x A c] w fun e w'=>e= .returned (.int .i64 (M.gZ x))∧Below w.heap.size w w':=by
 obtain ⟨pl,kd,ba,po,fi,cu,aC⟩:=x
 unfold M.gZ at h ⊢
 simp only at h hl ⊢
 by_cases h1:M.out pl 0 1=true
 · rw [if_pos h1]
   go_enter Tryz.func8,Tryz.ntmps8
   go_wp2_with (first | (go_at_call 23;refine (qc _ _ _ _).mono ?_;rintro e w1 ⟨rfl,rfl⟩) | (go_at_call 24;refine (kT _ _).mono ?_;rintro e w1 ⟨rfl,rfl⟩))
   go_ret;exact ⟨rfl,(Below.refl _ _).alloc (Nat.le_refl _) _⟩
 rw [if_neg h1] at h ⊢
 by_cases h2:M.isKind kd=false
 · rw [if_pos h2]
   go_enter Tryz.func8,Tryz.ntmps8
   go_wp2_with (first | (go_at_call 23;refine (qc _ _ _ _).mono ?_;rintro e w1 ⟨rfl,rfl⟩) | (go_at_call 24;refine (kT _ _).mono ?_;rintro e w1 ⟨rfl,rfl⟩))
   go_ret;exact ⟨rfl,(Below.refl _ _).alloc (Nat.le_refl _) _⟩
 rw [if_neg h2] at h ⊢
 have h1':M.out pl 0 1=false:=by simpa using h1
 have h2':M.isKind kd=true:=by simpa using h2
 clear h1 h2
 by_cases h3:M.out ba 0 15=true∨M.out po 0 6=true∨M.out fi 0 15=true
 · rw [if_pos h3]
   clear h
   go_enter Tryz.func8,Tryz.ntmps8
   go_wp2_with (first | (go_at_call 23;refine (qc _ _ _ _).mono ?_;rintro e w1 ⟨rfl,rfl⟩) | (go_at_call 24;refine (kT _ _).mono ?_;rintro e w1 ⟨rfl,rfl⟩))
   all_goals first | (exfalso;simp_all;done) | skip
   all_goals
    go_ret;exact ⟨rfl,(Below.refl _ _).alloc (Nat.le_refl _) _⟩
 rw [if_neg h3] at h ⊢;rw [not_or,not_or] at h3
 have h31:M.out ba 0 15=false:=by simpa using h3.1
 have h32:M.out po 0 6=false:=by simpa using h3.2.1
 have h33:M.out fi 0 15=false:=by simpa using h3.2.2
 clear h3
 by_cases h4:decide (ba=0)≠decide (po=0)
 · rw [if_pos h4]
   have hb:=Rh h4;clear h h4
   rcases hb with ⟨h5,h6⟩ | ⟨h5,h6⟩
   all_goals
    go_enter Tryz.func8,Tryz.ntmps8
    go_wp2_with (first | (go_at_call 23;refine (qc _ _ _ _).mono ?_;rintro e w1 ⟨rfl,rfl⟩) | (go_at_call 24;refine (kT _ _).mono ?_;rintro e w1 ⟨rfl,rfl⟩))
    go_ret;exact ⟨rfl,(Below.refl _ _).alloc (Nat.le_refl _) _⟩
 rw [if_neg h4] at h ⊢;obtain ⟨t,h6,h7⟩:=Ag (WQ h4)
 by_cases h5:16<aC.length
 · rw [if_pos h5]
   clear h h4
   cases t
   all_goals
    go_enter Tryz.func8,Tryz.ntmps8
    go_wp2_with (first | (go_at_call 23;refine (qc _ _ _ _).mono ?_;rintro e w1 ⟨rfl,rfl⟩) | (go_at_call 24;refine (kT _ _).mono ?_;rintro e w1 ⟨rfl,rfl⟩))
    go_ret;exact ⟨rfl,(Below.refl _ _).alloc (Nat.le_refl _) _⟩
 · rw [if_neg h5] at h
   exact absurd rfl h
theorem GZ (S:Nat→Prop) (x:M.aV) (A:Option Addr) (c:Nat) (w:World) (hp:fP w S A c x.aC) (h:vW x):
 Calls Tryz.prog 8 #[iy x A c] w fun e w'=>e= .returned (.int .i64 (M.bT x))∧Below w.heap.size w w':=by
 have hck:M.bT x=if M.gJ [] x.aC≠0 then M.gJ [] x.aC else M.rU x:=by
  unfold M.bT
  rw [if_neg];intro h1;exact h1 (PG h)
 obtain ⟨b1,b2,b3⟩:=hp.bd;obtain ⟨pl,kd,ba,po,fi,cu,aC⟩:=x;obtain ⟨h1,h2,h3,h4,h5,h6,h7⟩:=h;obtain ⟨t,h8,h9⟩:=Ag h6
 simp only at h1 h2 h3 h4 h5 h7 h8 h9 b1 b3
 have vV:=hide hck;clear h6 hck
 have hkind:kd=M.iW∨kd=M.bC∨((kd.toList == [112,97,115,115])=false∧(kd.toList == [99,111,110,99,101,100,101])=false∧kd≠M.iW∧kd≠M.bC):=by
  by_cases a:kd=M.iW
  · exact .inl a
  by_cases b:kd=M.bC
  · exact .inr (.inl b)
  exact .inr (.inr ⟨beq_eq_false_iff_ne.2 (dG a),beq_eq_false_iff_ne.2 (dG b),a,b⟩)
 go_enter Tryz.func8,Tryz.ntmps8
 go_wp2_with (first | (go_at_call 23;refine (qc _ _ _ _).mono ?_;rintro e w1 ⟨rfl,rfl⟩) | (go_at_call 24;refine (kT _ _).mono ?_;rintro e w1 ⟨rfl,rfl⟩))
 go_loopw [3,4] (fun i _ wr=>∃ k n:Nat,k≤aC.length∧i= .int .i64 k∧M.gJ [] aC=M.gJ (aC.take k) (aC.drop k)∧wr=(w.alloc (.cells #[.int .i64 pl,.string kd,.int .i64 ba,.int .i64 po,.int .i64 fi,.bool cu,.slice A aC.length c] 36)).drewN n) (fun i _ _=>aC.length - (intOf i).toNat)
 case atStart=>exact ⟨0,0,Nat.zero_le _,rfl,by simp,rfl⟩
 case round=>
  obtain ⟨k,n,hk,rfl,hx1,rfl⟩:=hrel
  by_cases hlt:k<aC.length
  · obtain ⟨b,o,rfl,_,hbl,hc⟩:=hp.at_ k hlt
    obtain ⟨hcb,hcp⟩:=hc k hlt;have hst:=zD hlt
    by_cases ho:M.out aC[k].aT 0 15=true∨M.out aC[k].aP 1 6=true
    · rw [if_pos ho] at hst
      have HX:=hide (hx1.trans hst);clear hx1 hst hc
      go_wp2_with (go_at_call 23;refine (qc _ _ _ _).mono ?_;rintro e w1 ⟨rfl,rfl⟩)
      all_goals first | (exfalso;simp_all;done) | skip
      all_goals
       go_ret;exact ⟨dw (by rw [vV.out,HX.out];rfl),below_drewN ((Below.refl _ _).alloc (Nat.le_refl _) _) _⟩
    · rw [if_neg ho] at hst
      rw [not_or] at ho
      have ho1:M.out aC[k].aT 0 15=false:=by simpa using ho.1
      have ho2:M.out aC[k].aP 1 6=false:=by simpa using ho.2
      have HX:=hide hx1;have HS:=hide hst;clear hx1 hst ho;have HC:=hide hc;clear hc
      go_wp2_with (go_at_call 23;refine (qc _ _ _ _).mono ?_;rintro e w1 ⟨rfl,rfl⟩)
      go_loopw [4] (fun i wr=>∃ j m:Nat,j≤k∧i= .int .i64 j∧aC[k].aT ∉ (aC.take j).map (·.aT)∧wr=(w.alloc (.cells #[.int .i64 pl,.string kd,.int .i64 ba,.int .i64 po,.int .i64 fi,.bool cu,.slice (some ⟨b,o,none⟩) aC.length c] 36)).drewN m) (fun i _=>k - (intOf i).toNat)
      case atStart=>exact ⟨0,n,Nat.zero_le _,rfl,by simp,rfl⟩
      case round=>
       obtain ⟨j,m,hj,rfl,hx2,rfl⟩:=hrel
       by_cases hlj:j<k
       · have hcj:=(HC.out j (by omega)).1
         have i1:(0:Int)≤(k:Int):=by omega
         have i2:(k:Int)<(aC.length:Int):=by omega
         have i3:(0:Int)≤(j:Int):=by omega
         have i4:(j:Int)<(aC.length:Int):=by omega
         by_cases he:aC[j].aT=aC[k].aT
         · have he1:(aC[j].aT == aC[k].aT)=true:=by simp [he]
           have HE:=hide he;clear he;go_wp2
           go_quiet (fail)
           go_wp2;go_ret;exact ⟨dw (by rw [vV.out,HX.out,HS.out,if_pos (Xr hlj hlt HE.out)];rfl),below_drewN (below_drewN ((Below.refl _ _).alloc (Nat.le_refl _) _) _) _⟩
         · have he1:(aC[j].aT == aC[k].aT)=false:=by simp [he]
           go_wp2
           go_quiet (fail)
           go_wp2
           go_roundw
           case rel=>exact ⟨j+1,_,by omega,by go_num,SS (by omega) _ hx2 he,rfl⟩
           case measure=>simp [intOf];omega
       · obtain rfl:j=k:=by omega
         go_wp2
         go_roundw
         case rel=>exact ⟨j+1,_,by omega,by go_num,by rw [HX.out,HS.out,if_neg hx2],rfl⟩
         case measure=>simp [intOf];omega
  · have hkk:k=aC.length:=by omega
    have hz:M.gJ [] aC=0:=by rw [hx1,hkk,List.drop_length,M.gJ]
    have HT:=hide (show M.bT _=_ from vV.out.trans (if_neg (by rw [hz];simp)));clear hx1 hkk hz vV
    rcases hkind with rfl | rfl | ⟨k1,k2,k3,k4⟩
    all_goals
     go_wp2
     all_goals
      go_ret;refine ⟨dw ?_,below_drewN ((Below.refl _ _).alloc (Nat.le_refl _) _) _⟩;rw [HT.out]
      first | (simp [M.rU, *];done) | (simp_all [M.rU, ← List.length_pos_iff];done)
theorem vS (S:Nat→Prop) (x:M.aV) (A:Option Addr) (c:Nat) (w:World) (hp:fP w S A c x.aC):
 Calls Tryz.prog 8 #[iy x A c] w fun e w'=>e= .returned (.int .i64 (M.bT x))∧Below w.heap.size w w':=by
 by_cases h:M.gZ x=0
 · exact GZ S x A c w hp (MH h)
 · have:=Em x A c w hp.bd.2.2 h
   have hck:M.bT x=M.gZ x:=by unfold M.bT;rw [if_pos h]
   rw [hck];exact this
theorem GY (S:Nat→Prop) (l:List Sh) (A:Option Addr) (c:Nat) (w:World) (hp:jQ w S A c l):
 Calls Tryz.prog 22 #[.slice A l.length c] w fun e w'=>e= .returned (.int .i64 (M.dO (plain l)))∧Below w.heap.size w w':=by
 obtain ⟨b1,b2,b3⟩:=hp.bd
 by_cases hm:1000<l.length
 · have hck:M.dO (plain l)=5:=by unfold M.dO;rw [if_pos (by rw [aW];exact hm)]
   rw [hck]
   go_enter Tryz.func22,Tryz.ntmps22
   go_wp2;go_ret;exact ⟨rfl,Below.refl _ _⟩
 · have hck:M.dO (plain l)=M.iD (plain l):=by unfold M.dO;rw [if_neg (by rw [aW];exact hm)]
   rw [hck];clear hck
   go_enter Tryz.func22,Tryz.ntmps22
   go_wp2
   go_loopw [3,4] (fun i _ wr=>∃ k:Nat,k≤l.length∧i= .int .i64 k∧M.iD (plain l)=M.iD ((plain l).drop k)∧Below w.heap.size w wr) (fun i _ _=>l.length - (intOf i).toNat)
   case atStart=>exact ⟨0,Nat.zero_le _,rfl,by simp,Below.refl _ _⟩
   case round=>
    obtain ⟨k,hk,rfl,hx1,hb⟩:=hrel
    by_cases hlt:k<l.length
    · obtain ⟨b,o,rfl,_,hbl,hc⟩:=hp.at_ k hlt
      obtain ⟨e0,e1,e2,e3,e4,e5,e6⟩:=hc k hlt;clear hc;obtain ⟨hcb,hfb⟩:=Y2 hb;have hst:=pW hlt;have HP:=hide ((hp.aC k hlt).below hb);have HX:=hide (hx1.trans hst);clear hx1 hst;have hcall:=fun W:World=>vS S l[k].x l[k].a l[k].c W;have HC:=hide hcall;clear hcall
      by_cases hz:M.bT l[k].x=0
      · have hz':(M.bT l[k].x != 0)=false:=by simp [hz]
        rw [if_neg (by simp [hz])] at HX;have HZ:=hide hz;clear hz
        go_wp2_with (go_at_call 8;refine (HC.out _ HP.out).mono ?_;rintro e w1 ⟨rfl,hb1⟩)
        go_roundw
        case rel=>exact ⟨k+1,by omega,by go_num,HX.out,hb.trans (hb1.mono hb.size)⟩
        case measure=>simp [intOf];omega
      · have hz':(M.bT l[k].x != 0)=true:=by simp [hz]
        rw [if_pos hz] at HX
        go_wp2_with (go_at_call 8;refine (HC.out _ HP.out).mono ?_;rintro e w1 ⟨rfl,hb1⟩)
        go_ret;exact ⟨dw HX.out.symm,hb.trans (hb1.mono hb.size)⟩
    · have hkk:k=l.length:=by omega
      have hz:M.iD (plain l)=0:=by rw [hx1,hkk, ← aW l,List.drop_length,M.iD]
      clear hx1 hkk;go_wp2;go_ret;exact ⟨dw hz.symm,hb⟩
end Go.Proofs.YtcjglfbpjkdgiaaGreatDoor
