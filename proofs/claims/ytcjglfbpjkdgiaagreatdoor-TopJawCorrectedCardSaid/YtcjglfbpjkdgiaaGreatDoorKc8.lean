/- Parts of a proof. -/
import Derived.Deep.DeepCutAuto
import Derived.Test.YtcjglfbpjkdgiaaGreatDoorKc2
set_option maxHeartbeats 1600000
set_option maxRecDepth 100000
set_option linter.unusedVariables false
set_option linter.unusedSimpArgs false
namespace Go.Proofs.YtcjglfbpjkdgiaaGreatDoor
open Go.RowKit
theorem zZ (r:M.Rules) (w:World):Calls Tryz.prog 21 #[iY r] w fun e w'=>e= .returned (.int .i64 (M.bP r))∧Below w.heap.size w w':=by
 obtain ⟨g,tg,fo⟩:=r
 rcases zy g with rfl | rfl | rfl | ⟨h0,h1,h2,hk⟩
 all_goals
  go_enter Tryz.func21,Tryz.ntmps21
  go_wp2_with (go_at_call 23;refine (nX _ _ _ _).mono ?_;rintro e w1 ⟨rfl,rfl⟩)
  all_goals
   go_ret;refine ⟨dN ?_,(Below.refl _ _).alloc (Nat.le_refl _) _⟩
   first | (simp [M.bP,M.mY, *];done) | (simp_all [M.bP,M.mY];done)
theorem wU {l:List M.ny} {k:Nat} (hk:k<l.length):M.fE (l.take k) (l.drop k)=
 if M.out l[k].aT 0 15∨M.out l[k].aX 1 6 then 3 else if l[k].aT∈(l.take k).map (·.aT) then 9 else M.fE (l.take (k+1)) (l.drop (k+1)):=by
 rw [List.drop_eq_getElem_cons hk,M.fE,List.take_succ_eq_append_getElem hk]
theorem TL {l:List M.ny} {j k:Nat} (hj:j<k) (hk:k<l.length) (e:l[j].aT=l[k].aT):l[k].aT∈(l.take k).map (·.aT):=by
 rw [List.mem_map];exact ⟨l[j],by rw [List.mem_take_iff_getElem];exact ⟨j,by omega,rfl⟩,e⟩
theorem OC {l:List M.ny} {j:Nat} (hj:j<l.length) (b:Int) (h:b ∉ (l.take j).map (·.aT)) (e:l[j].aT≠b):b ∉ (l.take (j+1)).map (·.aT):=by
 rw [List.take_succ_eq_append_getElem hj,List.map_append,List.mem_append,not_or];exact ⟨h,by simp;exact fun h=>e h.symm⟩
structure sV (x:M.aV):Prop where
 aN:M.out x.aN 0 1=false
 kind:M.isKind x.kind=true
 aT:M.out x.aT 0 15=false
 aX:M.out x.aX 0 6=false
 first:M.out x.first 0 15=false
 shape:x.aT=0↔x.aX=0
 many:x.aF.length≤16
theorem Ir {x:M.aV} (h:M.fO x=0):sV x:=by
 unfold M.fO at h
 split at h
 · cases h
 split at h
 · cases h
 split at h
 · cases h
 split at h
 · cases h
 split at h
 · cases h
 · next h1 h2 h3 h4 h5=>
   rw [not_or,not_or] at h3;refine ⟨by simpa using h1,by simpa using h2,by simpa using h3.1,by simpa using h3.2.1,by simpa using h3.2.2,?_,by omega⟩
   by_cases a:x.aT=0 <;> by_cases b:x.aX=0 <;> simp_all
theorem KN {x:M.aV} (h:sV x):M.fO x=0:=by
 unfold M.fO
 rw [if_neg (by simp [h.aN]),if_neg (by simp [h.kind]),if_neg (by simp [h.aT,h.aX,h.first]),if_neg (by have:=h.shape;by_cases a:x.aT=0 <;> by_cases b:x.aX=0 <;> simp_all),if_neg (by have:=h.many;omega)]
theorem xP {a b:Int} (h:a=0↔b=0):∃ t:Bool,(a == 0)=t∧(b == 0)=t:=by
 by_cases h1:a=0
 · exact ⟨true,by simp [h1],by simp [h.1 h1]⟩
 · exact ⟨false,by simp [h1],by simp;exact fun e=>h1 (h.2 e)⟩
theorem SH {a b:Int} (h:¬ (decide (a=0)≠decide (b=0))):a=0↔b=0:=by
 by_cases h1:a=0 <;> by_cases h2:b=0 <;> simp_all
theorem Ns {a b:Int} (h:decide (a=0)≠decide (b=0)):((a == 0)=true∧(b == 0)=false)∨((a == 0)=false∧(b == 0)=true):=by
 by_cases h1:a=0 <;> by_cases h2:b=0 <;> simp_all
theorem Bq (x:M.aV) (A:Option Addr) (c:Nat) (w:World) (hl:x.aF.length≤17592186044416) (h:M.fO x≠0):
 Calls Tryz.prog 8 #[iG x A c] w fun e w'=>e= .returned (.int .i64 (M.fO x))∧Below w.heap.size w w':=by
 obtain ⟨pl,kd,ba,po,fi,cu,aF⟩:=x
 unfold M.fO at h ⊢
 simp only at h hl ⊢
 by_cases h1:M.out pl 0 1=true
 · rw [if_pos h1]
   go_enter Tryz.func8,Tryz.ntmps8
   go_wp2_with (first | (go_at_call 23;refine (nX _ _ _ _).mono ?_;rintro e w1 ⟨rfl,rfl⟩) | (go_at_call 24;refine (jQ _ _).mono ?_;rintro e w1 ⟨rfl,rfl⟩))
   go_ret;exact ⟨rfl,(Below.refl _ _).alloc (Nat.le_refl _) _⟩
 rw [if_neg h1] at h ⊢
 by_cases h2:M.isKind kd=false
 · rw [if_pos h2]
   go_enter Tryz.func8,Tryz.ntmps8
   go_wp2_with (first | (go_at_call 23;refine (nX _ _ _ _).mono ?_;rintro e w1 ⟨rfl,rfl⟩) | (go_at_call 24;refine (jQ _ _).mono ?_;rintro e w1 ⟨rfl,rfl⟩))
   go_ret;exact ⟨rfl,(Below.refl _ _).alloc (Nat.le_refl _) _⟩
 rw [if_neg h2] at h ⊢
 have h1':M.out pl 0 1=false:=by simpa using h1
 have h2':M.isKind kd=true:=by simpa using h2
 clear h1 h2
 by_cases h3:M.out ba 0 15=true∨M.out po 0 6=true∨M.out fi 0 15=true
 · rw [if_pos h3]
   clear h
   go_enter Tryz.func8,Tryz.ntmps8
   go_wp2_with (first | (go_at_call 23;refine (nX _ _ _ _).mono ?_;rintro e w1 ⟨rfl,rfl⟩) | (go_at_call 24;refine (jQ _ _).mono ?_;rintro e w1 ⟨rfl,rfl⟩))
   all_goals first | (exfalso;simp_all;done) | skip
   all_goals
    go_ret;exact ⟨rfl,(Below.refl _ _).alloc (Nat.le_refl _) _⟩
 rw [if_neg h3] at h ⊢;rw [not_or,not_or] at h3
 have h31:M.out ba 0 15=false:=by simpa using h3.1
 have h32:M.out po 0 6=false:=by simpa using h3.2.1
 have h33:M.out fi 0 15=false:=by simpa using h3.2.2
 clear h3
 by_cases h4:decide (ba=0)≠decide (po=0)
 · rw [if_pos h4]
   have hb:=Ns h4;clear h h4
   rcases hb with ⟨h5,h6⟩ | ⟨h5,h6⟩
   all_goals
    go_enter Tryz.func8,Tryz.ntmps8
    go_wp2_with (first | (go_at_call 23;refine (nX _ _ _ _).mono ?_;rintro e w1 ⟨rfl,rfl⟩) | (go_at_call 24;refine (jQ _ _).mono ?_;rintro e w1 ⟨rfl,rfl⟩))
    go_ret;exact ⟨rfl,(Below.refl _ _).alloc (Nat.le_refl _) _⟩
 rw [if_neg h4] at h ⊢;obtain ⟨t,h6,h7⟩:=xP (SH h4)
 by_cases h5:16<aF.length
 · rw [if_pos h5]
   clear h h4
   cases t
   all_goals
    go_enter Tryz.func8,Tryz.ntmps8
    go_wp2_with (first | (go_at_call 23;refine (nX _ _ _ _).mono ?_;rintro e w1 ⟨rfl,rfl⟩) | (go_at_call 24;refine (jQ _ _).mono ?_;rintro e w1 ⟨rfl,rfl⟩))
    go_ret;exact ⟨rfl,(Below.refl _ _).alloc (Nat.le_refl _) _⟩
 · rw [if_neg h5] at h
   exact absurd rfl h
theorem D9 (S:Nat→Prop) (x:M.aV) (A:Option Addr) (c:Nat) (w:World) (hp:fA w S A c x.aF) (h:sV x):
 Calls Tryz.prog 8 #[iG x A c] w fun e w'=>e= .returned (.int .i64 (M.cZ x))∧Below w.heap.size w w':=by
 have hck:M.cZ x=if M.fE [] x.aF≠0 then M.fE [] x.aF else M.oZ x:=by
  unfold M.cZ
  rw [if_neg];intro h1;exact h1 (KN h)
 obtain ⟨b1,b2,b3⟩:=hp.bd;obtain ⟨pl,kd,ba,po,fi,cu,aF⟩:=x;obtain ⟨h1,h2,h3,h4,h5,h6,h7⟩:=h;obtain ⟨t,h8,h9⟩:=xP h6
 simp only at h1 h2 h3 h4 h5 h7 h8 h9 b1 b3
 have Ap:=hide hck;clear h6 hck
 have hkind:kd=M.gU∨kd=M.bf∨((kd.toList == [112,97,115,115])=false∧(kd.toList == [99,111,110,99,101,100,101])=false∧kd≠M.gU∧kd≠M.bf):=by
  by_cases a:kd=M.gU
  · exact .inl a
  by_cases b:kd=M.bf
  · exact .inr (.inl b)
  exact .inr (.inr ⟨beq_eq_false_iff_ne.2 (dI a),beq_eq_false_iff_ne.2 (dI b),a,b⟩)
 go_enter Tryz.func8,Tryz.ntmps8
 go_wp2_with (first | (go_at_call 23;refine (nX _ _ _ _).mono ?_;rintro e w1 ⟨rfl,rfl⟩) | (go_at_call 24;refine (jQ _ _).mono ?_;rintro e w1 ⟨rfl,rfl⟩))
 go_loopw [3,4] (fun i _ wr=>∃ k n:Nat,k≤aF.length∧i= .int .i64 k∧M.fE [] aF=M.fE (aF.take k) (aF.drop k)∧wr=(w.alloc (.cells #[.int .i64 pl,.string kd,.int .i64 ba,.int .i64 po,.int .i64 fi,.bool cu,.slice A aF.length c] 36)).drewN n) (fun i _ _=>aF.length - (intOf i).toNat)
 case atStart=>exact ⟨0,0,Nat.zero_le _,rfl,by simp,rfl⟩
 case round=>
  obtain ⟨k,n,hk,rfl,hx1,rfl⟩:=hrel
  by_cases hlt:k<aF.length
  · obtain ⟨b,o,rfl,_,hbl,hc⟩:=hp.at_ k hlt
    obtain ⟨hcb,hcp⟩:=hc k hlt;have hst:=wU hlt
    by_cases ho:M.out aF[k].aT 0 15=true∨M.out aF[k].aX 1 6=true
    · rw [if_pos ho] at hst
      have HX:=hide (hx1.trans hst);clear hx1 hst hc
      go_wp2_with (go_at_call 23;refine (nX _ _ _ _).mono ?_;rintro e w1 ⟨rfl,rfl⟩)
      all_goals first | (exfalso;simp_all;done) | skip
      all_goals
       go_ret;exact ⟨dN (by rw [Ap.out,HX.out];rfl),below_drewN ((Below.refl _ _).alloc (Nat.le_refl _) _) _⟩
    · rw [if_neg ho] at hst
      rw [not_or] at ho
      have ho1:M.out aF[k].aT 0 15=false:=by simpa using ho.1
      have ho2:M.out aF[k].aX 1 6=false:=by simpa using ho.2
      have HX:=hide hx1;have HS:=hide hst;clear hx1 hst ho;have HC:=hide hc;clear hc
      go_wp2_with (go_at_call 23;refine (nX _ _ _ _).mono ?_;rintro e w1 ⟨rfl,rfl⟩)
      go_loopw [4] (fun i wr=>∃ j m:Nat,j≤k∧i= .int .i64 j∧aF[k].aT ∉ (aF.take j).map (·.aT)∧wr=(w.alloc (.cells #[.int .i64 pl,.string kd,.int .i64 ba,.int .i64 po,.int .i64 fi,.bool cu,.slice (some ⟨b,o,none⟩) aF.length c] 36)).drewN m) (fun i _=>k - (intOf i).toNat)
      case atStart=>exact ⟨0,n,Nat.zero_le _,rfl,by simp,rfl⟩
      case round=>
       obtain ⟨j,m,hj,rfl,hx2,rfl⟩:=hrel
       by_cases hlj:j<k
       · have hcj:=(HC.out j (by omega)).1
         have i1:(0:Int)≤(k:Int):=by omega
         have i2:(k:Int)<(aF.length:Int):=by omega
         have i3:(0:Int)≤(j:Int):=by omega
         have i4:(j:Int)<(aF.length:Int):=by omega
         by_cases he:aF[j].aT=aF[k].aT
         · have he1:(aF[j].aT == aF[k].aT)=true:=by simp [he]
           have HE:=hide he;clear he;go_wp2
           go_quiet (fail)
           go_wp2;go_ret;exact ⟨dN (by rw [Ap.out,HX.out,HS.out,if_pos (TL hlj hlt HE.out)];rfl),below_drewN (below_drewN ((Below.refl _ _).alloc (Nat.le_refl _) _) _) _⟩
         · have he1:(aF[j].aT == aF[k].aT)=false:=by simp [he]
           go_wp2
           go_quiet (fail)
           go_wp2
           go_roundw
           case rel=>exact ⟨j+1,_,by omega,by go_num,OC (by omega) _ hx2 he,rfl⟩
           case measure=>simp [intOf];omega
       · obtain rfl:j=k:=by omega
         go_wp2
         go_roundw
         case rel=>exact ⟨j+1,_,by omega,by go_num,by rw [HX.out,HS.out,if_neg hx2],rfl⟩
         case measure=>simp [intOf];omega
  · have hkk:k=aF.length:=by omega
    have hz:M.fE [] aF=0:=by rw [hx1,hkk,List.drop_length,M.fE]
    have HT:=hide (show M.cZ _=_ from Ap.out.trans (if_neg (by rw [hz];simp)));clear hx1 hkk hz Ap
    rcases hkind with rfl | rfl | ⟨k1,k2,k3,k4⟩
    all_goals
     go_wp2
     all_goals
      go_ret;refine ⟨dN ?_,below_drewN ((Below.refl _ _).alloc (Nat.le_refl _) _) _⟩;rw [HT.out]
      first | (simp [M.oZ, *];done) | (simp_all [M.oZ, ← List.length_pos_iff];done)
theorem o9 (S:Nat→Prop) (x:M.aV) (A:Option Addr) (c:Nat) (w:World) (hp:fA w S A c x.aF):
 Calls Tryz.prog 8 #[iG x A c] w fun e w'=>e= .returned (.int .i64 (M.cZ x))∧Below w.heap.size w w':=by
 by_cases h:M.fO x=0
 · exact D9 S x A c w hp (Ir h)
 · have:=Bq x A c w hp.bd.2.2 h
   have hck:M.cZ x=M.fO x:=by unfold M.cZ;rw [if_pos h]
   rw [hck];exact this
theorem D8 (S:Nat→Prop) (l:List Sh) (A:Option Addr) (c:Nat) (w:World) (hp:jF w S A c l):
 Calls Tryz.prog 22 #[.slice A l.length c] w fun e w'=>e= .returned (.int .i64 (M.dB (plain l)))∧Below w.heap.size w w':=by
 obtain ⟨b1,b2,b3⟩:=hp.bd
 by_cases hm:1000<l.length
 · have hck:M.dB (plain l)=5:=by unfold M.dB;rw [if_pos (by rw [aU];exact hm)]
   rw [hck]
   go_enter Tryz.func22,Tryz.ntmps22
   go_wp2;go_ret;exact ⟨rfl,Below.refl _ _⟩
 · have hck:M.dB (plain l)=M.gy (plain l):=by unfold M.dB;rw [if_neg (by rw [aU];exact hm)]
   rw [hck];clear hck
   go_enter Tryz.func22,Tryz.ntmps22
   go_wp2
   go_loopw [3,4] (fun i _ wr=>∃ k:Nat,k≤l.length∧i= .int .i64 k∧M.gy (plain l)=M.gy ((plain l).drop k)∧Below w.heap.size w wr) (fun i _ _=>l.length - (intOf i).toNat)
   case atStart=>exact ⟨0,Nat.zero_le _,rfl,by simp,Below.refl _ _⟩
   case round=>
    obtain ⟨k,hk,rfl,hx1,hb⟩:=hrel
    by_cases hlt:k<l.length
    · obtain ⟨b,o,rfl,_,hbl,hc⟩:=hp.at_ k hlt
      obtain ⟨e0,e1,e2,e3,e4,e5,e6⟩:=hc k hlt;clear hc;obtain ⟨hcb,hfb⟩:=Vl hb;have hst:=nU hlt;have HP:=hide ((hp.aF k hlt).below hb);have HX:=hide (hx1.trans hst);clear hx1 hst;have hcall:=fun W:World=>o9 S l[k].x l[k].a l[k].c W;have HC:=hide hcall;clear hcall
      by_cases hz:M.cZ l[k].x=0
      · have hz':(M.cZ l[k].x != 0)=false:=by simp [hz]
        rw [if_neg (by simp [hz])] at HX;have HZ:=hide hz;clear hz
        go_wp2_with (go_at_call 8;refine (HC.out _ HP.out).mono ?_;rintro e w1 ⟨rfl,hb1⟩)
        go_roundw
        case rel=>exact ⟨k+1,by omega,by go_num,HX.out,hb.trans (hb1.mono hb.size)⟩
        case measure=>simp [intOf];omega
      · have hz':(M.cZ l[k].x != 0)=true:=by simp [hz]
        rw [if_pos hz] at HX
        go_wp2_with (go_at_call 8;refine (HC.out _ HP.out).mono ?_;rintro e w1 ⟨rfl,hb1⟩)
        go_ret;exact ⟨dN HX.out.symm,hb.trans (hb1.mono hb.size)⟩
    · have hkk:k=l.length:=by omega
      have hz:M.gy (plain l)=0:=by rw [hx1,hkk, ← aU l,List.drop_length,M.gy]
      clear hx1 hkk;go_wp2;go_ret;exact ⟨dN hz.symm,hb⟩
end Go.Proofs.YtcjglfbpjkdgiaaGreatDoor
