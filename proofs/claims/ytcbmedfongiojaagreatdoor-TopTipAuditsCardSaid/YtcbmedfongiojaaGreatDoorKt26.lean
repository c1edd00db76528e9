/- Parts of a proof. -/
import Derived.Lib.SplitLaws
import Derived.Test.YtcbmedfongiojaaGreatDoorKt25
set_option maxHeartbeats 4000000
set_option maxRecDepth 100000
set_option linter.unusedVariables false
set_option linter.unusedSimpArgs false
namespace Go.Proofs.YtcbmedfongiojaaGreatDoor
open Go.RowKit
theorem MH (l:List UInt8) (v:Int) (w:World) (h1:1≤l.length) (h2:l.length≤18) (hp:Lib.hasPrefix l [45]=false) (ht:Lib.trimPrefix l [45]=l) (ha:Lib.atoiAll l= .ok v) (v0:0≤v) (v1:v≤9223372036854775807):
 Calls Tryz.prog 91 #[.string ⟨l.toArray⟩] w fun e w'=>e= .returned (nK v)∧Below w.heap.size w w':=by
 have HP:∀ W,Calls Tryz.prog 164 #[.string ⟨l.toArray⟩,.string ⟨#[45]⟩] W fun e w'=>e= .returned (.bool false)∧w'=W:=fun W=>by
  have:=Tryz.strings_HasPrefix ⟨l.toArray⟩ ⟨#[45]⟩ W
  rwa [show Lib.hasPrefix (ByteArray.mk l.toArray).data.toList (ByteArray.mk #[45]).data.toList=false from hp] at this
 have HT:∀ W,Calls Tryz.prog 165 #[.string ⟨l.toArray⟩,.string ⟨#[45]⟩] W fun e w'=>e= .returned (.string ⟨l.toArray⟩)∧w'=W:=fun W=>by
  have:=Tryz.strings_TrimPrefix ⟨l.toArray⟩ ⟨#[45]⟩ W
  rwa [show Lib.trimPrefix (ByteArray.mk l.toArray).data.toList (ByteArray.mk #[45]).data.toList=l from ht] at this
 have HA:∀ W,Calls Tryz.prog 166 #[.string ⟨l.toArray⟩] W fun e w'=>e= .returned (.tuple #[.int .i64 v,.nilIface])∧(w'=W∨∃ t,w'=Lib.bytesWorld W 5 t):=fun W=>Tryz.strconv_Atoi_ok ⟨l.toArray⟩ (by rw [lM];omega) v ha W;have hsz:=lM l;obtain ⟨s,hs⟩:∃ s:ByteArray,⟨l.toArray⟩=s:=⟨_,rfl⟩
 simp only [hs] at HP HT HA hsz ⊢
 clear hs hp ht ha;obtain ⟨n,hn⟩:∃ n,l.length=n:=⟨_,rfl⟩;rw [hn] at h1 h2 hsz;clear hn;have hq:(10:Nat) ^ n≤1000000000000000000:=Nat.pow_le_pow_right (n:=10) (by omega) h2;obtain ⟨q,hqe⟩:∃ q:Nat,10 ^ n=q:=⟨_,rfl⟩;have hP:=fun W=>pow_any 10 n W (by omega) (by omega) (by omega) (by omega)
 simp only [hqe] at hq hP
 clear hqe;obtain ⟨p,hpw⟩:∃ p:Int,(q:Int)=p:=⟨_,rfl⟩
 have HW:∀ W,Calls Tryz.prog 167 #[nK 10,.int .i64 n] W fun e w'=>e= .returned (nK p)∧Below W.heap.size W w':=fun W=>by
  have:=hP W
  rw [hpw] at this;exact this
 have HM:∀ W,Calls Tryz.prog 155 #[nK 0,nK p] W fun e w'=>e= .returned (nK 0)∧Below W.heap.size W w':=fun W=>by
  have:=jQ 0 p W (by omega) (by omega) (by omega) (by omega) (by omega) (by omega)
  rwa [Int.zero_mul] at this
 have HD:∀ W,Calls Tryz.prog 153 #[nK 0,nK v] W fun e w'=>e= .returned (nK v)∧Below W.heap.size W w':=fun W=>by
  have:=vG 0 v W (by omega) (by omega) (by omega) (by omega) (by omega) (by omega)
  rwa [Int.zero_add] at this
 clear hq hpw hP;have HW:=hide HW;have HM:=hide HM;have HD:=hide HD
 have hmin:min (18:Int) n=n:=by omega
 have hx:s.extract 0 n=s:=by rw [← hsz];exact ByteArray.extract_zero_size
 have hx2:s.extract n n=⟨#[]⟩:=by
  apply ByteArray.ext
  simp
 have HP:=hide HP;have HT:=hide HT;have HA:=hide HA
 go_enter Tryz.func91,Tryz.ntmps91
 go_upto_region 0 with (fail)
 go_cut [2] (fun v2 wx=>v2=ptr w.heap.size∧aC w wx [(aH 0,107)])
 case first=>
  go_wp2;go_meet;exact ⟨rfl,((aC.nil w).new (by simp) (aH 0) _)⟩
 case rest=>
  obtain ⟨rfl,hB⟩:=hcut
  go_wp2_with (first | (go_at_call 164;refine (HP.out _).mono ?_;rintro e w1 ⟨rfl,rfl⟩) | (go_at_call 165;refine (HT.out _).mono ?_;rintro e w1 ⟨rfl,rfl⟩))
  obtain ⟨G,hG⟩:∃ G,w1.heap.size=G:=⟨_,rfl⟩;have Zi:=Held.newAt w1 (aH 0) 107 hG;have hB0:=hB.alloc (by simp) (.cells (aH 0).toArray 107);have hsz2:=hB.size (by simp)
  simp only [List.length_cons,List.length_nil] at hsz2
  rw [hG] at hsz2
  simp only [hG]
  have Xr:w.heap.size≠G:=by omega
  clear hG hB
  go_loopw [0] (fun s' wr=>∃ d:Bool,s'= .string (cond d ⟨#[]⟩ s)∧aC w wr [(aH 0,107)]∧Held wr G (aH (cond d v 0)) 107) (fun s' _=>match s' with | .string b=>b.size | _=>0)
  case atStart=>exact ⟨false,rfl,hB0,Zi⟩
  case round=>
   obtain ⟨d,rfl,hB,hO⟩:=hrel;clear hB0 Zi
   cases d with
   | true=>
     dsimp only [cond] at hO ⊢
     go_wp2_with (first | (refine dA 107 (.tmp 4) rfl ?_;refine cO (hO) Tryz.underlying107 rfl bK rfl (.tmp 4) rfl rfl ?_) | (refine fO 107 (.tmp 2) (.tmp 40) rfl ?_;refine dP (hB.aj rfl) (aH v) rfl bK (qO _) rfl (.tmp 2) (.tmp 40) rfl rfl rfl ?_))
     have hZ:=hB.put 0 rfl (aH v) rfl;exact bodyPost_ret (aP (p:=2) (hZ.aj rfl) Tryz.underlying107 rfl bK rfl _ rfl) rfl ⟨rfl,hZ.bw⟩
   | false=>
     dsimp only [cond] at hO ⊢
     go_upto_region 7 with (go_at_call 166;refine (HA.out _).mono ?_;rintro e w2 ⟨rfl,hw2⟩;have hb2:=Dy hw2)
     have hBs:=hB.call (by simp) hb2;have YH:=hO.below hb2;have Ku:=(YH).cell (j:=0) rfl;have vK:=(YH).frozen 0;have Kv:=(YH).cell (j:=1) rfl;have vM:=(YH).frozen 1;refine wp_region_held_drew (S:=(fun _:World=>True)) (by kernel_rfl) ?jF (fun hHeld=>?_)
     case jF=>trivial
     refine tk 2 ?_;refine tk 5 ?_;refine wpAnyH_ready (rs:=[0,1]) (by kernel_rfl) (by simp) ?_;refine AllReadyH.cons (o:=_) (ga rfl) (fun K hK=>?_) (AllReadyH.cons (o:=_) (ga rfl) (fun K hK=>?_) AllReadyH.nil)
     · go_simp
       refine hK.out _ _ ?QF (fun hHeld=>?_)
       case QF=>(first | (trivial) | (dsimp only;trivial))
       clear hK K
       try simp only [Act.put,la,lz,ls]
       refine tr 1 fun K hK=>?_;go_simp
       (go_at_call 162;refine (rO 10 _).mono ?_;rintro e w3 ⟨rfl,hb3⟩)
       have hB3:=hBs.drew.call (by simp) hb3;have hO3:=YH.drew.below hb3;have Ku:=(hO3).cell (j:=0) rfl;have vK:=(hO3).frozen 0;have Kv:=(hO3).cell (j:=1) rfl;have vM:=(hO3).frozen 1;refine hK.out _ _ ?QL (fun hHeld=>?_)
       case QL=>(first | (trivial) | (dsimp only;trivial))
       clear hK K
       try simp only [Act.put,la,lz,ls]
       refine tr 3 fun K hK=>?_;go_simp
       (go_at_call 167;refine (HW.out _).mono ?_;rintro e w4 ⟨rfl,hb4⟩)
       have hB4:=hB3.call (by simp) hb4;have hO4:=hO3.below hb4;have Ku:=(hO4).cell (j:=0) rfl;have vK:=(hO4).frozen 0;have Kv:=(hO4).cell (j:=1) rfl;have vM:=(hO4).frozen 1;refine hK.out _ _ ?QN (fun hHeld=>?_)
       case QN=>(first | (trivial) | (dsimp only;trivial))
       clear hK K
       try simp only [Act.put,la,lz,ls]
       refine tr 4 fun K hK=>?_;go_simp
       (go_at_call 155;refine (HM.out _).mono ?_;rintro e w5 ⟨rfl,hb5⟩)
       have eH:=hB4.call (by simp) hb5;have BI:=hO4.below hb5;have Ku:=(BI).cell (j:=0) rfl;have vK:=(BI).frozen 0;have Kv:=(BI).cell (j:=1) rfl;have vM:=(BI).frozen 1;refine hK.out _ _ ?QT (fun hHeld=>?_)
       case QT=>(first | (trivial) | (dsimp only;trivial))
       clear hK K
       try simp only [Act.put,la,lz,ls]
       refine tr 6 fun K hK=>?_;go_simp
       (go_at_call 162;refine (rO v _).mono ?_;rintro e w6 ⟨rfl,hb6⟩)
       have lC:=eH.call (by simp) hb6;have Fz:=BI.below hb6;have Ku:=(Fz).cell (j:=0) rfl;have vK:=(Fz).frozen 0;have Kv:=(Fz).cell (j:=1) rfl;have vM:=(Fz).frozen 1;refine hK.out _ _ ?QZ (fun hHeld=>?_)
       case QZ=>(first | (trivial) | (dsimp only;trivial))
       clear hK K
       try simp only [Act.put,la,lz,ls]
       refine tr 7 fun K hK=>?_;go_simp
       (go_at_call 153;refine (HD.out _).mono ?_;rintro e w7 ⟨rfl,hb7⟩)
       have KX:=lC.call (by simp) hb7;have FB:=Fz.below hb7;have Ku:=(FB).cell (j:=0) rfl;have vK:=(FB).frozen 0;have Kv:=(FB).cell (j:=1) rfl;have vM:=(FB).frozen 1;refine hK.out _ _ ?Q8 (fun hHeld=>?_)
       case Q8=>(first | (trivial) | (dsimp only;trivial))
       clear hK K
       try simp only [Act.put,la,lz,ls]
       refine tr 8 fun K hK=>?_;go_simp;refine hK.out _ _ ?Rh (fun hHeld=>?_)
       case Rh=>(first | (trivial) | (dsimp only;trivial))
       clear hK K
       try simp only [Act.put,la,lz,ls]
       refine wpAnyH_done (by kernel_rfl) ?_ _;go_wp2;have Fv:=(KX.far hsz2 0 (.int .i64 v)).far hsz2 1 (.slice none 0 0);have Zj:=(FB.set 0 (.int .i64 v)).set 1 (.slice none 0 0)
       go_roundw
       case rel=>exact ⟨true,rfl,Fv,Zj⟩
       case measure=>(simp [hsz];omega)
     · go_simp
       (go_at_call 162;refine (rO 10 _).mono ?_;rintro e w3 ⟨rfl,hb3⟩)
       have hB3:=hBs.drew.call (by simp) hb3;have hO3:=YH.drew.below hb3;have Ku:=(hO3).cell (j:=0) rfl;have vK:=(hO3).frozen 0;have Kv:=(hO3).cell (j:=1) rfl;have vM:=(hO3).frozen 1;refine hK.out _ _ ?QM (fun hHeld=>?_)
       case QM=>(first | (trivial) | (dsimp only;trivial))
       clear hK K
       try simp only [Act.put,la,lz,ls]
       refine wpAnyH_ready (rs:=[0,3]) (by kernel_rfl) (by simp) ?_;refine AllReadyH.cons (o:=_) (ga rfl) (fun K hK=>?_) (AllReadyH.cons (o:=_) (ga rfl) (fun K hK=>?_) AllReadyH.nil)
       · go_simp
         refine hK.out _ _ ?QH (fun hHeld=>?_)
         case QH=>(first | (trivial) | (dsimp only;trivial))
         clear hK K
         try simp only [Act.put,la,lz,ls]
         refine tr 3 fun K hK=>?_;go_simp
         (go_at_call 167;refine (HW.out _).mono ?_;rintro e w4 ⟨rfl,hb4⟩)
         have hB4:=hB3.call (by simp) hb4;have hO4:=hO3.below hb4;have Ku:=(hO4).cell (j:=0) rfl;have vK:=(hO4).frozen 0;have Kv:=(hO4).cell (j:=1) rfl;have vM:=(hO4).frozen 1;refine hK.out _ _ ?QO (fun hHeld=>?_)
         case QO=>(first | (trivial) | (dsimp only;trivial))
         clear hK K
         try simp only [Act.put,la,lz,ls]
         refine tr 4 fun K hK=>?_;go_simp
         (go_at_call 155;refine (HM.out _).mono ?_;rintro e w5 ⟨rfl,hb5⟩)
         have eH:=hB4.call (by simp) hb5;have BI:=hO4.below hb5;have Ku:=(BI).cell (j:=0) rfl;have vK:=(BI).frozen 0;have Kv:=(BI).cell (j:=1) rfl;have vM:=(BI).frozen 1;refine hK.out _ _ ?QU (fun hHeld=>?_)
         case QU=>(first | (trivial) | (dsimp only;trivial))
         clear hK K
         try simp only [Act.put,la,lz,ls]
         refine tr 6 fun K hK=>?_;go_simp
         (go_at_call 162;refine (rO v _).mono ?_;rintro e w6 ⟨rfl,hb6⟩)
         have lC:=eH.call (by simp) hb6;have Fz:=BI.below hb6;have Ku:=(Fz).cell (j:=0) rfl;have vK:=(Fz).frozen 0;have Kv:=(Fz).cell (j:=1) rfl;have vM:=(Fz).frozen 1;refine hK.out _ _ ?Q5 (fun hHeld=>?_)
         case Q5=>(first | (trivial) | (dsimp only;trivial))
         clear hK K
         try simp only [Act.put,la,lz,ls]
         refine tr 7 fun K hK=>?_;go_simp
         (go_at_call 153;refine (HD.out _).mono ?_;rintro e w7 ⟨rfl,hb7⟩)
         have KX:=lC.call (by simp) hb7;have FB:=Fz.below hb7;have Ku:=(FB).cell (j:=0) rfl;have vK:=(FB).frozen 0;have Kv:=(FB).cell (j:=1) rfl;have vM:=(FB).frozen 1;refine hK.out _ _ ?Q9 (fun hHeld=>?_)
         case Q9=>(first | (trivial) | (dsimp only;trivial))
         clear hK K
         try simp only [Act.put,la,lz,ls]
         refine tr 8 fun K hK=>?_;go_simp;refine hK.out _ _ ?Ri (fun hHeld=>?_)
         case Ri=>(first | (trivial) | (dsimp only;trivial))
         clear hK K
         try simp only [Act.put,la,lz,ls]
         refine wpAnyH_done (by kernel_rfl) ?_ _;go_wp2;have Fv:=(KX.far hsz2 0 (.int .i64 v)).far hsz2 1 (.slice none 0 0);have Zj:=(FB.set 0 (.int .i64 v)).set 1 (.slice none 0 0)
         go_roundw
         case rel=>exact ⟨true,rfl,Fv,Zj⟩
         case measure=>(simp [hsz];omega)
       · go_simp
         (go_at_call 167;refine (HW.out _).mono ?_;rintro e w4 ⟨rfl,hb4⟩)
         have hB4:=hB3.call (by simp) hb4;have hO4:=hO3.below hb4;have Ku:=(hO4).cell (j:=0) rfl;have vK:=(hO4).frozen 0;have Kv:=(hO4).cell (j:=1) rfl;have vM:=(hO4).frozen 1;refine hK.out _ _ ?QS (fun hHeld=>?_)
         case QS=>(first | (trivial) | (dsimp only;trivial))
         clear hK K
         try simp only [Act.put,la,lz,ls]
         refine tr 0 fun K hK=>?_;go_simp;refine hK.out _ _ ?QI (fun hHeld=>?_)
         case QI=>(first | (trivial) | (dsimp only;trivial))
         clear hK K
         try simp only [Act.put,la,lz,ls]
         refine tr 4 fun K hK=>?_;go_simp
         (go_at_call 155;refine (HM.out _).mono ?_;rintro e w5 ⟨rfl,hb5⟩)
         have eH:=hB4.call (by simp) hb5;have BI:=hO4.below hb5;have Ku:=(BI).cell (j:=0) rfl;have vK:=(BI).frozen 0;have Kv:=(BI).cell (j:=1) rfl;have vM:=(BI).frozen 1;refine hK.out _ _ ?QV (fun hHeld=>?_)
         case QV=>(first | (trivial) | (dsimp only;trivial))
         clear hK K
         try simp only [Act.put,la,lz,ls]
         refine tr 6 fun K hK=>?_;go_simp
         (go_at_call 162;refine (rO v _).mono ?_;rintro e w6 ⟨rfl,hb6⟩)
         have lC:=eH.call (by simp) hb6;have Fz:=BI.below hb6;have Ku:=(Fz).cell (j:=0) rfl;have vK:=(Fz).frozen 0;have Kv:=(Fz).cell (j:=1) rfl;have vM:=(Fz).frozen 1;refine hK.out _ _ ?Q7 (fun hHeld=>?_)
         case Q7=>(first | (trivial) | (dsimp only;trivial))
         clear hK K
         try simp only [Act.put,la,lz,ls]
         refine tr 7 fun K hK=>?_;go_simp
         (go_at_call 153;refine (HD.out _).mono ?_;rintro e w7 ⟨rfl,hb7⟩)
         have KX:=lC.call (by simp) hb7;have FB:=Fz.below hb7;have Ku:=(FB).cell (j:=0) rfl;have vK:=(FB).frozen 0;have Kv:=(FB).cell (j:=1) rfl;have vM:=(FB).frozen 1;refine hK.out _ _ ?Rf (fun hHeld=>?_)
         case Rf=>(first | (trivial) | (dsimp only;trivial))
         clear hK K
         try simp only [Act.put,la,lz,ls]
         refine tr 8 fun K hK=>?_;go_simp;refine hK.out _ _ ?Rj (fun hHeld=>?_)
         case Rj=>(first | (trivial) | (dsimp only;trivial))
         clear hK K
         try simp only [Act.put,la,lz,ls]
         refine wpAnyH_done (by kernel_rfl) ?_ _;go_wp2;have Fv:=(KX.far hsz2 0 (.int .i64 v)).far hsz2 1 (.slice none 0 0);have Zj:=(FB.set 0 (.int .i64 v)).set 1 (.slice none 0 0)
         go_roundw
         case rel=>exact ⟨true,rfl,Fv,Zj⟩
         case measure=>(simp [hsz];omega)
theorem oL (l:List UInt8) (v:Int) (w:World) (hg:Glob w) (h1:1≤l.length) (h2:l.length≤18) (hp:Lib.hasPrefix l [45]=false) (ht:Lib.trimPrefix l [45]=l) (ha:Lib.atoiAll l= .ok v) (v0:0≤v) (v1:v≤9223372036854775807) (hc:Lib.cut l [47]=(l,[],false)):
 Calls Tryz.prog 49 #[.string ⟨l.toArray⟩] w fun e w'=>e= .returned (fD ⟨v,1⟩)∧Below w.heap.size w w':=by
 have HC:∀ W,Glob W→Calls Tryz.prog 89 #[.string ⟨l.toArray⟩,.string ⟨#[47]⟩] W fun e w'=>e= .returned (.tuple #[.string ⟨l.toArray⟩,.string ⟨#[]⟩,.bool false])∧∃ n,w'=W.drewN n:=fun W hG=>by
  obtain ⟨m,hm⟩:=hG.n
  have:=Tryz.strings_Cut ⟨l.toArray⟩ ⟨#[47]⟩ m W (by rw [lM];omega) hm
  rwa [show Lib.cut (ByteArray.mk l.toArray).data.toList (ByteArray.mk #[47]).data.toList=(l,[],false) from hc] at this
 have HR:=fun W=>MH l v W h1 h2 hp ht ha v0 v1;obtain ⟨s,hs⟩:∃ s:ByteArray,⟨l.toArray⟩=s:=⟨_,rfl⟩
 simp only [hs] at HC HR ⊢
 clear hs hp ht ha hc;have HC:=hide HC;have HR:=hide HR
 go_enter Tryz.func49,Tryz.ntmps49
 go_upto_region 0 with (fail)
 go_cut [2] (fun v2 wx=>v2=ptr w.heap.size∧aC w wx [(ah ⟨0,0⟩,109)])
 case first=>
  go_wp2;go_meet;exact ⟨rfl,((aC.nil w).new (by simp) (ah ⟨0,0⟩) _)⟩
 case rest=>
  obtain ⟨rfl,hB⟩:=hcut
  go_wp2_with (first | (go_at_call 89;refine (HC.out _ (hg.below hB.bw)).mono ?_;rintro e w1 ⟨rfl,n,rfl⟩;have hB1:=hB.drewN n) | (go_at_call 91;refine (HR.out _).mono ?_;rintro e w2 ⟨rfl,hb2⟩;have hB2:=hB1.call (by simp) hb2) | (go_at_call 90;refine (xJ v _).mono ?_;rintro e w3 ⟨rfl,hb3⟩;have hB3:=hB2.call (by simp) hb3) | (refine fO 109 (.tmp 2) (.tmp 16) rfl ?_;refine dP (hB3.aj rfl) (ah ⟨v,1⟩) rfl aU (fE _) rfl (.tmp 2) (.tmp 16) rfl rfl rfl ?_))
  have hZ:=hB3.put 0 rfl (ah ⟨v,1⟩) rfl;exact bodyPost_ret (aP (p:=2) (hZ.aj rfl) Tryz.underlying109 rfl aU rfl _ rfl) rfl ⟨rfl,hZ.bw⟩
end Go.Proofs.YtcbmedfongiojaaGreatDoor
