/- Parts of a proof. -/
import Derived.Lib.SplitLaws
import Derived.Test.YtjbbfmofpjflmaaGreatDoorKb30
set_option maxHeartbeats 4000000
set_option maxRecDepth 100000
set_option linter.unusedVariables false
set_option linter.unusedSimpArgs false
namespace Go.Proofs.YtjbbfmofpjflmaaGreatDoor
open Go.RowKit
theorem MG (l:List UInt8) (v:Int) (w:World) (h1:1≤l.length) (h2:l.length≤18) (hp:Lib.hasPrefix l [45]=false) (ht:Lib.trimPrefix l [45]=l) (ha:Lib.atoiAll l= .ok v) (v0:0≤v) (v1:v≤9223372036854775807):
 Calls Tryz.prog 150 #[.string ⟨l.toArray⟩] w fun e w'=>e= .returned (nP v)∧Below w.heap.size w w':=by
 have HP:∀ W,Calls Tryz.prog 193 #[.string ⟨l.toArray⟩,.string ⟨#[45]⟩] W fun e w'=>e= .returned (.bool false)∧w'=W:=fun W=>by
  have:=Tryz.strings_HasPrefix ⟨l.toArray⟩ ⟨#[45]⟩ W
  rwa [show Lib.hasPrefix (ByteArray.mk l.toArray).data.toList (ByteArray.mk #[45]).data.toList=false from hp] at this
 have HT:∀ W,Calls Tryz.prog 194 #[.string ⟨l.toArray⟩,.string ⟨#[45]⟩] W fun e w'=>e= .returned (.string ⟨l.toArray⟩)∧w'=W:=fun W=>by
  have:=Tryz.strings_TrimPrefix ⟨l.toArray⟩ ⟨#[45]⟩ W
  rwa [show Lib.trimPrefix (ByteArray.mk l.toArray).data.toList (ByteArray.mk #[45]).data.toList=l from ht] at this
 have HA:∀ W,Calls Tryz.prog 195 #[.string ⟨l.toArray⟩] W fun e w'=>e= .returned (.tuple #[.int .i64 v,.nilIface])∧(w'=W∨∃ t,w'=Lib.bytesWorld W 5 t):=fun W=>Tryz.strconv_Atoi_ok ⟨l.toArray⟩ (by rw [jC];omega) v ha W;have hsz:=jC l;obtain ⟨s,hs⟩:∃ s:ByteArray,⟨l.toArray⟩=s:=⟨_,rfl⟩
 simp only [hs] at HP HT HA hsz ⊢
 clear hs hp ht ha;obtain ⟨n,hn⟩:∃ n,l.length=n:=⟨_,rfl⟩;rw [hn] at h1 h2 hsz;clear hn;have hq:(10:Nat) ^ n≤1000000000000000000:=Nat.pow_le_pow_right (n:=10) (by omega) h2;obtain ⟨q,hqe⟩:∃ q:Nat,10 ^ n=q:=⟨_,rfl⟩;have hP:=fun W=>pow_any 10 n W (by omega) (by omega) (by omega) (by omega)
 simp only [hqe] at hq hP
 clear hqe;obtain ⟨p,hpw⟩:∃ p:Int,(q:Int)=p:=⟨_,rfl⟩
 have HW:∀ W,Calls Tryz.prog 197 #[nP 10,.int .i64 n] W fun e w'=>e= .returned (nP p)∧Below W.heap.size W w':=fun W=>by
  have:=hP W
  rw [hpw] at this;exact this
 have HM:∀ W,Calls Tryz.prog 196 #[nP 0,nP p] W fun e w'=>e= .returned (nP 0)∧Below W.heap.size W w':=fun W=>by
  have:=jS 0 p W (by omega) (by omega) (by omega) (by omega) (by omega) (by omega)
  rwa [Int.zero_mul] at this
 have HD:∀ W,Calls Tryz.prog 198 #[nP 0,nP v] W fun e w'=>e= .returned (nP v)∧Below W.heap.size W w':=fun W=>by
  have:=wY 0 v W (by omega) (by omega) (by omega) (by omega) (by omega) (by omega)
  rwa [Int.zero_add] at this
 clear hq hpw hP;have HW:=hide HW;have HM:=hide HM;have HD:=hide HD
 have hmin:min (18:Int) n=n:=by omega
 have hx:s.extract 0 n=s:=by rw [← hsz];exact ByteArray.extract_zero_size
 have hx2:s.extract n n=⟨#[]⟩:=by
  apply ByteArray.ext
  simp
 have HP:=hide HP;have HT:=hide HT;have HA:=hide HA
 go_enter Tryz.func150,Tryz.ntmps150
 go_upto_region 0 with (fail)
 go_cut [2] (fun v2 wx=>v2=ptr w.heap.size∧aJ w wx [(aQ 0,162)])
 case first=>
  go_wp2;go_meet;exact ⟨rfl,((aJ.nil w).new (by simp) (aQ 0) _)⟩
 case rest=>
  obtain ⟨rfl,hB⟩:=hcut
  go_wp2_with (first | (go_at_call 193;refine (HP.out _).mono ?_;rintro e w1 ⟨rfl,rfl⟩) | (go_at_call 194;refine (HT.out _).mono ?_;rintro e w1 ⟨rfl,rfl⟩))
  obtain ⟨G,hG⟩:∃ G,w1.heap.size=G:=⟨_,rfl⟩;have Zd:=Held.newAt w1 (aQ 0) 162 hG;have hB0:=hB.alloc (by simp) (.cells (aQ 0).toArray 162);have hsz2:=hB.size (by simp)
  simp only [List.length_cons,List.length_nil] at hsz2
  rw [hG] at hsz2
  simp only [hG]
  have Xh:w.heap.size≠G:=by omega
  clear hG hB
  go_loopw [0] (fun s' wr=>∃ d:Bool,s'= .string (cond d ⟨#[]⟩ s)∧aJ w wr [(aQ 0,162)]∧Held wr G (aQ (cond d v 0)) 162) (fun s' _=>match s' with | .string b=>b.size | _=>0)
  case atStart=>exact ⟨false,rfl,hB0,Zd⟩
  case round=>
   obtain ⟨d,rfl,hB,hO⟩:=hrel;clear hB0 Zd
   cases d with
   | true=>
     dsimp only [cond] at hO ⊢
     go_wp2_with (first | (refine ah 162 (.tmp 4) rfl ?_;refine au (hO) Tryz.underlying162 rfl bV rfl (.tmp 4) rfl rfl ?_) | (refine aH 162 (.tmp 2) (.tmp 40) rfl ?_;refine aC (hB.aA rfl) (aQ v) rfl bV (rW _) rfl (.tmp 2) (.tmp 40) rfl rfl rfl ?_))
     have hZ:=hB.put 0 rfl (aQ v) rfl;exact bodyPost_ret (aX (p:=2) (hZ.aA rfl) Tryz.underlying162 rfl bV rfl _ rfl) rfl ⟨rfl,hZ.bw⟩
   | false=>
     dsimp only [cond] at hO ⊢
     go_upto_region 7 with (go_at_call 195;refine (HA.out _).mono ?_;rintro e w2 ⟨rfl,hw2⟩;have hb2:=DR hw2)
     have hBs:=hB.call (by simp) hb2;have Yx:=hO.below hb2;have Kz:=(Yx).cell (j:=0) rfl;have xk:=(Yx).frozen 0;have KA:=(Yx).cell (j:=1) rfl;have xq:=(Yx).frozen 1;refine wp_region_held_drew (S:=(fun _:World=>True)) (by kernel_rfl) ?oP (fun hHeld=>?_)
     case oP=>trivial
     refine tk 2 ?_;refine tk 5 ?_;refine wpAnyH_ready (rs:=[0,1]) (by kernel_rfl) (by simp) ?_;refine AllReadyH.cons (o:=_) (ga rfl) (fun K hK=>?_) (AllReadyH.cons (o:=_) (ga rfl) (fun K hK=>?_) AllReadyH.nil)
     · go_simp
       refine hK.out _ _ ?Qs (fun hHeld=>?_)
       case Qs=>(first | (trivial) | (dsimp only;trivial))
       clear hK K
       try simp only [Act.put,la,lz,ls]
       refine tr 1 fun K hK=>?_;go_simp
       (go_at_call 190;refine (tX 10 _).mono ?_;rintro e w3 ⟨rfl,hb3⟩)
       have hB3:=hBs.drew.call (by simp) hb3;have hO3:=Yx.drew.below hb3;have Kz:=(hO3).cell (j:=0) rfl;have xk:=(hO3).frozen 0;have KA:=(hO3).cell (j:=1) rfl;have xq:=(hO3).frozen 1;refine hK.out _ _ ?Qw (fun hHeld=>?_)
       case Qw=>(first | (trivial) | (dsimp only;trivial))
       clear hK K
       try simp only [Act.put,la,lz,ls]
       refine tr 3 fun K hK=>?_;go_simp
       (go_at_call 197;refine (HW.out _).mono ?_;rintro e w4 ⟨rfl,hb4⟩)
       have hB4:=hB3.call (by simp) hb4;have hO4:=hO3.below hb4;have Kz:=(hO4).cell (j:=0) rfl;have xk:=(hO4).frozen 0;have KA:=(hO4).cell (j:=1) rfl;have xq:=(hO4).frozen 1;refine hK.out _ _ ?Qy (fun hHeld=>?_)
       case Qy=>(first | (trivial) | (dsimp only;trivial))
       clear hK K
       try simp only [Act.put,la,lz,ls]
       refine tr 4 fun K hK=>?_;go_simp
       (go_at_call 196;refine (HM.out _).mono ?_;rintro e w5 ⟨rfl,hb5⟩)
       have iP:=hB4.call (by simp) hb5;have xU:=hO4.below hb5;have Kz:=(xU).cell (j:=0) rfl;have xk:=(xU).frozen 0;have KA:=(xU).cell (j:=1) rfl;have xq:=(xU).frozen 1;refine hK.out _ _ ?QB (fun hHeld=>?_)
       case QB=>(first | (trivial) | (dsimp only;trivial))
       clear hK K
       try simp only [Act.put,la,lz,ls]
       refine tr 6 fun K hK=>?_;go_simp
       (go_at_call 190;refine (tX v _).mono ?_;rintro e w6 ⟨rfl,hb6⟩)
       have lV:=iP.call (by simp) hb6;have zn:=xU.below hb6;have Kz:=(zn).cell (j:=0) rfl;have xk:=(zn).frozen 0;have KA:=(zn).cell (j:=1) rfl;have xq:=(zn).frozen 1;refine hK.out _ _ ?QE (fun hHeld=>?_)
       case QE=>(first | (trivial) | (dsimp only;trivial))
       clear hK K
       try simp only [Act.put,la,lz,ls]
       refine tr 7 fun K hK=>?_;go_simp
       (go_at_call 198;refine (HD.out _).mono ?_;rintro e w7 ⟨rfl,hb7⟩)
       have Oo:=lV.call (by simp) hb7;have FK:=zn.below hb7;have Kz:=(FK).cell (j:=0) rfl;have xk:=(FK).frozen 0;have KA:=(FK).cell (j:=1) rfl;have xq:=(FK).frozen 1;refine hK.out _ _ ?QH (fun hHeld=>?_)
       case QH=>(first | (trivial) | (dsimp only;trivial))
       clear hK K
       try simp only [Act.put,la,lz,ls]
       refine tr 8 fun K hK=>?_;go_simp;refine hK.out _ _ ?QK (fun hHeld=>?_)
       case QK=>(first | (trivial) | (dsimp only;trivial))
       clear hK K
       try simp only [Act.put,la,lz,ls]
       refine wpAnyH_done (by kernel_rfl) ?_ _;go_wp2;have EX:=(Oo.far hsz2 0 (.int .i64 v)).far hsz2 1 (.slice none 0 0);have Ze:=(FK.set 0 (.int .i64 v)).set 1 (.slice none 0 0)
       go_roundw
       case rel=>exact ⟨true,rfl,EX,Ze⟩
       case measure=>(simp [hsz];omega)
     · go_simp
       (go_at_call 190;refine (tX 10 _).mono ?_;rintro e w3 ⟨rfl,hb3⟩)
       have hB3:=hBs.drew.call (by simp) hb3;have hO3:=Yx.drew.below hb3;have Kz:=(hO3).cell (j:=0) rfl;have xk:=(hO3).frozen 0;have KA:=(hO3).cell (j:=1) rfl;have xq:=(hO3).frozen 1;refine hK.out _ _ ?Qx (fun hHeld=>?_)
       case Qx=>(first | (trivial) | (dsimp only;trivial))
       clear hK K
       try simp only [Act.put,la,lz,ls]
       refine wpAnyH_ready (rs:=[0,3]) (by kernel_rfl) (by simp) ?_;refine AllReadyH.cons (o:=_) (ga rfl) (fun K hK=>?_) (AllReadyH.cons (o:=_) (ga rfl) (fun K hK=>?_) AllReadyH.nil)
       · go_simp
         refine hK.out _ _ ?Qu (fun hHeld=>?_)
         case Qu=>(first | (trivial) | (dsimp only;trivial))
         clear hK K
         try simp only [Act.put,la,lz,ls]
         refine tr 3 fun K hK=>?_;go_simp
         (go_at_call 197;refine (HW.out _).mono ?_;rintro e w4 ⟨rfl,hb4⟩)
         have hB4:=hB3.call (by simp) hb4;have hO4:=hO3.below hb4;have Kz:=(hO4).cell (j:=0) rfl;have xk:=(hO4).frozen 0;have KA:=(hO4).cell (j:=1) rfl;have xq:=(hO4).frozen 1;refine hK.out _ _ ?Qz (fun hHeld=>?_)
         case Qz=>(first | (trivial) | (dsimp only;trivial))
         clear hK K
         try simp only [Act.put,la,lz,ls]
         refine tr 4 fun K hK=>?_;go_simp
         (go_at_call 196;refine (HM.out _).mono ?_;rintro e w5 ⟨rfl,hb5⟩)
         have iP:=hB4.call (by simp) hb5;have xU:=hO4.below hb5;have Kz:=(xU).cell (j:=0) rfl;have xk:=(xU).frozen 0;have KA:=(xU).cell (j:=1) rfl;have xq:=(xU).frozen 1;refine hK.out _ _ ?QC (fun hHeld=>?_)
         case QC=>(first | (trivial) | (dsimp only;trivial))
         clear hK K
         try simp only [Act.put,la,lz,ls]
         refine tr 6 fun K hK=>?_;go_simp
         (go_at_call 190;refine (tX v _).mono ?_;rintro e w6 ⟨rfl,hb6⟩)
         have lV:=iP.call (by simp) hb6;have zn:=xU.below hb6;have Kz:=(zn).cell (j:=0) rfl;have xk:=(zn).frozen 0;have KA:=(zn).cell (j:=1) rfl;have xq:=(zn).frozen 1;refine hK.out _ _ ?QF (fun hHeld=>?_)
         case QF=>(first | (trivial) | (dsimp only;trivial))
         clear hK K
         try simp only [Act.put,la,lz,ls]
         refine tr 7 fun K hK=>?_;go_simp
         (go_at_call 198;refine (HD.out _).mono ?_;rintro e w7 ⟨rfl,hb7⟩)
         have Oo:=lV.call (by simp) hb7;have FK:=zn.below hb7;have Kz:=(FK).cell (j:=0) rfl;have xk:=(FK).frozen 0;have KA:=(FK).cell (j:=1) rfl;have xq:=(FK).frozen 1;refine hK.out _ _ ?QI (fun hHeld=>?_)
         case QI=>(first | (trivial) | (dsimp only;trivial))
         clear hK K
         try simp only [Act.put,la,lz,ls]
         refine tr 8 fun K hK=>?_;go_simp;refine hK.out _ _ ?QL (fun hHeld=>?_)
         case QL=>(first | (trivial) | (dsimp only;trivial))
         clear hK K
         try simp only [Act.put,la,lz,ls]
         refine wpAnyH_done (by kernel_rfl) ?_ _;go_wp2;have EX:=(Oo.far hsz2 0 (.int .i64 v)).far hsz2 1 (.slice none 0 0);have Ze:=(FK.set 0 (.int .i64 v)).set 1 (.slice none 0 0)
         go_roundw
         case rel=>exact ⟨true,rfl,EX,Ze⟩
         case measure=>(simp [hsz];omega)
       · go_simp
         (go_at_call 197;refine (HW.out _).mono ?_;rintro e w4 ⟨rfl,hb4⟩)
         have hB4:=hB3.call (by simp) hb4;have hO4:=hO3.below hb4;have Kz:=(hO4).cell (j:=0) rfl;have xk:=(hO4).frozen 0;have KA:=(hO4).cell (j:=1) rfl;have xq:=(hO4).frozen 1;refine hK.out _ _ ?QA (fun hHeld=>?_)
         case QA=>(first | (trivial) | (dsimp only;trivial))
         clear hK K
         try simp only [Act.put,la,lz,ls]
         refine tr 0 fun K hK=>?_;go_simp;refine hK.out _ _ ?Qv (fun hHeld=>?_)
         case Qv=>(first | (trivial) | (dsimp only;trivial))
         clear hK K
         try simp only [Act.put,la,lz,ls]
         refine tr 4 fun K hK=>?_;go_simp
         (go_at_call 196;refine (HM.out _).mono ?_;rintro e w5 ⟨rfl,hb5⟩)
         have iP:=hB4.call (by simp) hb5;have xU:=hO4.below hb5;have Kz:=(xU).cell (j:=0) rfl;have xk:=(xU).frozen 0;have KA:=(xU).cell (j:=1) rfl;have xq:=(xU).frozen 1;refine hK.out _ _ ?QD (fun hHeld=>?_)
         case QD=>(first | (trivial) | (dsimp only;trivial))
         clear hK K
         try simp only [Act.put,la,lz,ls]
         refine tr 6 fun K hK=>?_;go_simp
         (go_at_call 190;refine (tX v _).mono ?_;rintro e w6 ⟨rfl,hb6⟩)
         have lV:=iP.call (by simp) hb6;have zn:=xU.below hb6;have Kz:=(zn).cell (j:=0) rfl;have xk:=(zn).frozen 0;have KA:=(zn).cell (j:=1) rfl;have xq:=(zn).frozen 1;refine hK.out _ _ ?QG (fun hHeld=>?_)
         case QG=>(first | (trivial) | (dsimp only;trivial))
         clear hK K
         try simp only [Act.put,la,lz,ls]
         refine tr 7 fun K hK=>?_;go_simp
         (go_at_call 198;refine (HD.out _).mono ?_;rintro e w7 ⟨rfl,hb7⟩)
         have Oo:=lV.call (by simp) hb7;have FK:=zn.below hb7;have Kz:=(FK).cell (j:=0) rfl;have xk:=(FK).frozen 0;have KA:=(FK).cell (j:=1) rfl;have xq:=(FK).frozen 1;refine hK.out _ _ ?QJ (fun hHeld=>?_)
         case QJ=>(first | (trivial) | (dsimp only;trivial))
         clear hK K
         try simp only [Act.put,la,lz,ls]
         refine tr 8 fun K hK=>?_;go_simp;refine hK.out _ _ ?QM (fun hHeld=>?_)
         case QM=>(first | (trivial) | (dsimp only;trivial))
         clear hK K
         try simp only [Act.put,la,lz,ls]
         refine wpAnyH_done (by kernel_rfl) ?_ _;go_wp2;have EX:=(Oo.far hsz2 0 (.int .i64 v)).far hsz2 1 (.slice none 0 0);have Ze:=(FK.set 0 (.int .i64 v)).set 1 (.slice none 0 0)
         go_roundw
         case rel=>exact ⟨true,rfl,EX,Ze⟩
         case measure=>(simp [hsz];omega)
theorem rP (l:List UInt8) (v:Int) (w:World) (hg:Glob w) (h1:1≤l.length) (h2:l.length≤18) (hp:Lib.hasPrefix l [45]=false) (ht:Lib.trimPrefix l [45]=l) (ha:Lib.atoiAll l= .ok v) (v0:0≤v) (v1:v≤9223372036854775807) (hc:Lib.cut l [47]=(l,[],false)):
 Calls Tryz.prog 99 #[.string ⟨l.toArray⟩] w fun e w'=>e= .returned (fQ ⟨v,1⟩)∧Below w.heap.size w w':=by
 have HC:∀ W,Glob W→Calls Tryz.prog 148 #[.string ⟨l.toArray⟩,.string ⟨#[47]⟩] W fun e w'=>e= .returned (.tuple #[.string ⟨l.toArray⟩,.string ⟨#[]⟩,.bool false])∧∃ n,w'=W.drewN n:=fun W hG=>by
  obtain ⟨m,hm⟩:=hG.n
  have:=Tryz.strings_Cut ⟨l.toArray⟩ ⟨#[47]⟩ m W (by rw [jC];omega) hm
  rwa [show Lib.cut (ByteArray.mk l.toArray).data.toList (ByteArray.mk #[47]).data.toList=(l,[],false) from hc] at this
 have HR:=fun W=>MG l v W h1 h2 hp ht ha v0 v1;obtain ⟨s,hs⟩:∃ s:ByteArray,⟨l.toArray⟩=s:=⟨_,rfl⟩
 simp only [hs] at HC HR ⊢
 clear hs hp ht ha hc;have HC:=hide HC;have HR:=hide HR
 go_enter Tryz.func99,Tryz.ntmps99
 go_upto_region 0 with (fail)
 go_cut [2] (fun v2 wx=>v2=ptr w.heap.size∧aJ w wx [(aj ⟨0,0⟩,164)])
 case first=>
  go_wp2;go_meet;exact ⟨rfl,((aJ.nil w).new (by simp) (aj ⟨0,0⟩) _)⟩
 case rest=>
  obtain ⟨rfl,hB⟩:=hcut
  go_wp2_with (first | (go_at_call 148;refine (HC.out _ (hg.below hB.bw)).mono ?_;rintro e w1 ⟨rfl,n,rfl⟩;have hB1:=hB.drewN n) | (go_at_call 150;refine (HR.out _).mono ?_;rintro e w2 ⟨rfl,hb2⟩;have hB2:=hB1.call (by simp) hb2) | (go_at_call 149;refine (yJ v _).mono ?_;rintro e w3 ⟨rfl,hb3⟩;have hB3:=hB2.call (by simp) hb3) | (refine aH 164 (.tmp 2) (.tmp 16) rfl ?_;refine aC (hB3.aA rfl) (aj ⟨v,1⟩) rfl aZ (fK _) rfl (.tmp 2) (.tmp 16) rfl rfl rfl ?_))
  have hZ:=hB3.put 0 rfl (aj ⟨v,1⟩) rfl;exact bodyPost_ret (aX (p:=2) (hZ.aA rfl) Tryz.underlying164 rfl aZ rfl _ rfl) rfl ⟨rfl,hZ.bw⟩
end Go.Proofs.YtjbbfmofpjflmaaGreatDoor
