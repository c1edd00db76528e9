/- Parts of a proof. -/
import Derived.Lib.SplitLaws
import Derived.Test.YtcjglfbpjkdgiaaGreatDoorKc32
set_option maxHeartbeats 4000000
set_option maxRecDepth 100000
set_option linter.unusedVariables false
set_option linter.unusedSimpArgs false
namespace Go.Proofs.YtcjglfbpjkdgiaaGreatDoor
open Go.RowKit
theorem Nj (l:List UInt8) (v:Int) (w:World) (h1:1≤l.length) (h2:l.length≤18) (hp:Lib.hasPrefix l [45]=false) (ht:Lib.trimPrefix l [45]=l) (ha:Lib.atoiAll l= .ok v) (v0:0≤v) (v1:v≤9223372036854775807):
 Calls Tryz.prog 206 #[.string ⟨l.toArray⟩] w fun e w'=>e= .returned (nR v)∧Below w.heap.size w w':=by
 have HP:∀ W,Calls Tryz.prog 242 #[.string ⟨l.toArray⟩,.string ⟨#[45]⟩] W fun e w'=>e= .returned (.bool false)∧w'=W:=fun W=>by
  have:=Tryz.strings_HasPrefix ⟨l.toArray⟩ ⟨#[45]⟩ W
  rwa [show Lib.hasPrefix (ByteArray.mk l.toArray).data.toList (ByteArray.mk #[45]).data.toList=false from hp] at this
 have HT:∀ W,Calls Tryz.prog 89 #[.string ⟨l.toArray⟩,.string ⟨#[45]⟩] W fun e w'=>e= .returned (.string ⟨l.toArray⟩)∧w'=W:=fun W=>by
  have:=Tryz.strings_TrimPrefix ⟨l.toArray⟩ ⟨#[45]⟩ W
  rwa [show Lib.trimPrefix (ByteArray.mk l.toArray).data.toList (ByteArray.mk #[45]).data.toList=l from ht] at this
 have HA:∀ W,Calls Tryz.prog 151 #[.string ⟨l.toArray⟩] W fun e w'=>e= .returned (.tuple #[.int .i64 v,.nilIface])∧(w'=W∨∃ t,w'=Lib.bytesWorld W 5 t):=fun W=>Tryz.strconv_Atoi_ok ⟨l.toArray⟩ (by rw [jA];omega) v ha W;have hsz:=jA l;obtain ⟨s,hs⟩:∃ s:ByteArray,⟨l.toArray⟩=s:=⟨_,rfl⟩
 simp only [hs] at HP HT HA hsz ⊢
 clear hs hp ht ha;obtain ⟨n,hn⟩:∃ n,l.length=n:=⟨_,rfl⟩;rw [hn] at h1 h2 hsz;clear hn;have hq:(10:Nat) ^ n≤1000000000000000000:=Nat.pow_le_pow_right (n:=10) (by omega) h2;obtain ⟨q,hqe⟩:∃ q:Nat,10 ^ n=q:=⟨_,rfl⟩;have hP:=fun W=>pow_any 10 n W (by omega) (by omega) (by omega) (by omega)
 simp only [hqe] at hq hP
 clear hqe;obtain ⟨p,hpw⟩:∃ p:Int,(q:Int)=p:=⟨_,rfl⟩
 have HW:∀ W,Calls Tryz.prog 243 #[nR 10,.int .i64 n] W fun e w'=>e= .returned (nR p)∧Below W.heap.size W w':=fun W=>by
  have:=hP W
  rw [hpw] at this;exact this
 have HM:∀ W,Calls Tryz.prog 174 #[nR 0,nR p] W fun e w'=>e= .returned (nR 0)∧Below W.heap.size W w':=fun W=>by
  have:=jL 0 p W (by omega) (by omega) (by omega) (by omega) (by omega) (by omega)
  rwa [Int.zero_mul] at this
 have HD:∀ W,Calls Tryz.prog 172 #[nR 0,nR v] W fun e w'=>e= .returned (nR v)∧Below W.heap.size W w':=fun W=>by
  have:=uP 0 v W (by omega) (by omega) (by omega) (by omega) (by omega) (by omega)
  rwa [Int.zero_add] at this
 clear hq hpw hP;have HW:=hide HW;have HM:=hide HM;have HD:=hide HD
 have hmin:min (18:Int) n=n:=by omega
 have hx:s.extract 0 n=s:=by rw [← hsz];exact ByteArray.extract_zero_size
 have hx2:s.extract n n=⟨#[]⟩:=by
  apply ByteArray.ext
  simp
 have HP:=hide HP;have HT:=hide HT;have HA:=hide HA
 go_enter Tryz.func206,Tryz.ntmps206
 go_upto_region 0 with (fail)
 go_cut [2] (fun v2 wx=>v2=ptr w.heap.size∧aS w wx [(aJ 0,126)])
 case first=>
  go_wp2;go_meet;exact ⟨rfl,((aS.nil w).new (by simp) (aJ 0) _)⟩
 case rest=>
  obtain ⟨rfl,hB⟩:=hcut
  go_wp2_with (first | (go_at_call 242;refine (HP.out _).mono ?_;rintro e w1 ⟨rfl,rfl⟩) | (go_at_call 89;refine (HT.out _).mono ?_;rintro e w1 ⟨rfl,rfl⟩))
  obtain ⟨G,hG⟩:∃ G,w1.heap.size=G:=⟨_,rfl⟩;have Ym:=Held.newAt w1 (aJ 0) 126 hG;have hB0:=hB.alloc (by simp) (.cells (aJ 0).toArray 126);have hsz2:=hB.size (by simp)
  simp only [List.length_cons,List.length_nil] at hsz2
  rw [hG] at hsz2
  simp only [hG]
  have Wp:w.heap.size≠G:=by omega
  clear hG hB
  go_loopw [0] (fun s' wr=>∃ d:Bool,s'= .string (cond d ⟨#[]⟩ s)∧aS w wr [(aJ 0,126)]∧Held wr G (aJ (cond d v 0)) 126) (fun s' _=>match s' with | .string b=>b.size | _=>0)
  case atStart=>exact ⟨false,rfl,hB0,Ym⟩
  case round=>
   obtain ⟨d,rfl,hB,hO⟩:=hrel;clear hB0 Ym
   cases d with
   | true=>
     dsimp only [cond] at hO ⊢
     go_wp2_with (first | (refine aC 126 (.tmp 4) rfl ?_;refine au (hO) Tryz.underlying126 rfl bg rfl (.tmp 4) rfl rfl ?_) | (refine aQ 126 (.tmp 2) (.tmp 40) rfl ?_;refine aI (hB.ah rfl) (aJ v) rfl bg (qB _) rfl (.tmp 2) (.tmp 40) rfl rfl rfl ?_))
     have hZ:=hB.put 0 rfl (aJ v) rfl;exact bodyPost_ret (aY (p:=2) (hZ.ah rfl) Tryz.underlying126 rfl bg rfl _ rfl) rfl ⟨rfl,hZ.bw⟩
   | false=>
     dsimp only [cond] at hO ⊢
     go_upto_region 7 with (go_at_call 151;refine (HA.out _).mono ?_;rintro e w2 ⟨rfl,hw2⟩;have hb2:=Df hw2)
     have hBs:=hB.call (by simp) hb2;have XK:=hO.below hb2;have Fv:=(XK).cell (j:=0) rfl;have uT:=(XK).frozen 0;have J5:=(XK).cell (j:=1) rfl;have uU:=(XK).frozen 1;refine wp_region_held_drew (S:=(fun _:World=>True)) (by kernel_rfl) ?iM (fun hHeld=>?_)
     case iM=>trivial
     refine tk 2 ?_;refine tk 5 ?_;refine wpAnyH_ready (rs:=[0,1]) (by kernel_rfl) (by simp) ?_;refine AllReadyH.cons (o:=_) (ga rfl) (fun K hK=>?_) (AllReadyH.cons (o:=_) (ga rfl) (fun K hK=>?_) AllReadyH.nil)
     · go_simp
       refine hK.out _ _ ?Ri (fun hHeld=>?_)
       case Ri=>(first | (trivial) | (dsimp only;trivial))
       clear hK K
       try simp only [Act.put,la,lz,ls]
       refine tr 1 fun K hK=>?_;go_simp
       (go_at_call 124;refine (rE 10 _).mono ?_;rintro e w3 ⟨rfl,hb3⟩)
       have hB3:=hBs.drew.call (by simp) hb3;have hO3:=XK.drew.below hb3;have Fv:=(hO3).cell (j:=0) rfl;have uT:=(hO3).frozen 0;have J5:=(hO3).cell (j:=1) rfl;have uU:=(hO3).frozen 1;refine hK.out _ _ ?Rq (fun hHeld=>?_)
       case Rq=>(first | (trivial) | (dsimp only;trivial))
       clear hK K
       try simp only [Act.put,la,lz,ls]
       refine tr 3 fun K hK=>?_;go_simp
       (go_at_call 243;refine (HW.out _).mono ?_;rintro e w4 ⟨rfl,hb4⟩)
       have hB4:=hB3.call (by simp) hb4;have hO4:=hO3.below hb4;have Fv:=(hO4).cell (j:=0) rfl;have uT:=(hO4).frozen 0;have J5:=(hO4).cell (j:=1) rfl;have uU:=(hO4).frozen 1;refine hK.out _ _ ?Ru (fun hHeld=>?_)
       case Ru=>(first | (trivial) | (dsimp only;trivial))
       clear hK K
       try simp only [Act.put,la,lz,ls]
       refine tr 4 fun K hK=>?_;go_simp
       (go_at_call 174;refine (HM.out _).mono ?_;rintro e w5 ⟨rfl,hb5⟩)
       have eP:=hB4.call (by simp) hb5;have AV:=hO4.below hb5;have Fv:=(AV).cell (j:=0) rfl;have uT:=(AV).frozen 0;have J5:=(AV).cell (j:=1) rfl;have uU:=(AV).frozen 1;refine hK.out _ _ ?Rz (fun hHeld=>?_)
       case Rz=>(first | (trivial) | (dsimp only;trivial))
       clear hK K
       try simp only [Act.put,la,lz,ls]
       refine tr 6 fun K hK=>?_;go_simp
       (go_at_call 124;refine (rE v _).mono ?_;rintro e w6 ⟨rfl,hb6⟩)
       have Yd:=eP.call (by simp) hb6;have zA:=AV.below hb6;have Fv:=(zA).cell (j:=0) rfl;have uT:=(zA).frozen 0;have J5:=(zA).cell (j:=1) rfl;have uU:=(zA).frozen 1;refine hK.out _ _ ?RN (fun hHeld=>?_)
       case RN=>(first | (trivial) | (dsimp only;trivial))
       clear hK K
       try simp only [Act.put,la,lz,ls]
       refine tr 7 fun K hK=>?_;go_simp
       (go_at_call 172;refine (HD.out _).mono ?_;rintro e w7 ⟨rfl,hb7⟩)
       have V8:=Yd.call (by simp) hb7;have ER:=zA.below hb7;have Fv:=(ER).cell (j:=0) rfl;have uT:=(ER).frozen 0;have J5:=(ER).cell (j:=1) rfl;have uU:=(ER).frozen 1;refine hK.out _ _ ?RS (fun hHeld=>?_)
       case RS=>(first | (trivial) | (dsimp only;trivial))
       clear hK K
       try simp only [Act.put,la,lz,ls]
       refine tr 8 fun K hK=>?_;go_simp;refine hK.out _ _ ?RY (fun hHeld=>?_)
       case RY=>(first | (trivial) | (dsimp only;trivial))
       clear hK K
       try simp only [Act.put,la,lz,ls]
       refine wpAnyH_done (by kernel_rfl) ?_ _;go_wp2;have XG:=(V8.far hsz2 0 (.int .i64 v)).far hsz2 1 (.slice none 0 0);have Yn:=(ER.set 0 (.int .i64 v)).set 1 (.slice none 0 0)
       go_roundw
       case rel=>exact ⟨true,rfl,XG,Yn⟩
       case measure=>(simp [hsz];omega)
     · go_simp
       (go_at_call 124;refine (rE 10 _).mono ?_;rintro e w3 ⟨rfl,hb3⟩)
       have hB3:=hBs.drew.call (by simp) hb3;have hO3:=XK.drew.below hb3;have Fv:=(hO3).cell (j:=0) rfl;have uT:=(hO3).frozen 0;have J5:=(hO3).cell (j:=1) rfl;have uU:=(hO3).frozen 1;refine hK.out _ _ ?Rt (fun hHeld=>?_)
       case Rt=>(first | (trivial) | (dsimp only;trivial))
       clear hK K
       try simp only [Act.put,la,lz,ls]
       refine wpAnyH_ready (rs:=[0,3]) (by kernel_rfl) (by simp) ?_;refine AllReadyH.cons (o:=_) (ga rfl) (fun K hK=>?_) (AllReadyH.cons (o:=_) (ga rfl) (fun K hK=>?_) AllReadyH.nil)
       · go_simp
         refine hK.out _ _ ?Rk (fun hHeld=>?_)
         case Rk=>(first | (trivial) | (dsimp only;trivial))
         clear hK K
         try simp only [Act.put,la,lz,ls]
         refine tr 3 fun K hK=>?_;go_simp
         (go_at_call 243;refine (HW.out _).mono ?_;rintro e w4 ⟨rfl,hb4⟩)
         have hB4:=hB3.call (by simp) hb4;have hO4:=hO3.below hb4;have Fv:=(hO4).cell (j:=0) rfl;have uT:=(hO4).frozen 0;have J5:=(hO4).cell (j:=1) rfl;have uU:=(hO4).frozen 1;refine hK.out _ _ ?Rw (fun hHeld=>?_)
         case Rw=>(first | (trivial) | (dsimp only;trivial))
         clear hK K
         try simp only [Act.put,la,lz,ls]
         refine tr 4 fun K hK=>?_;go_simp
         (go_at_call 174;refine (HM.out _).mono ?_;rintro e w5 ⟨rfl,hb5⟩)
         have eP:=hB4.call (by simp) hb5;have AV:=hO4.below hb5;have Fv:=(AV).cell (j:=0) rfl;have uT:=(AV).frozen 0;have J5:=(AV).cell (j:=1) rfl;have uU:=(AV).frozen 1;refine hK.out _ _ ?RD (fun hHeld=>?_)
         case RD=>(first | (trivial) | (dsimp only;trivial))
         clear hK K
         try simp only [Act.put,la,lz,ls]
         refine tr 6 fun K hK=>?_;go_simp
         (go_at_call 124;refine (rE v _).mono ?_;rintro e w6 ⟨rfl,hb6⟩)
         have Yd:=eP.call (by simp) hb6;have zA:=AV.below hb6;have Fv:=(zA).cell (j:=0) rfl;have uT:=(zA).frozen 0;have J5:=(zA).cell (j:=1) rfl;have uU:=(zA).frozen 1;refine hK.out _ _ ?RP (fun hHeld=>?_)
         case RP=>(first | (trivial) | (dsimp only;trivial))
         clear hK K
         try simp only [Act.put,la,lz,ls]
         refine tr 7 fun K hK=>?_;go_simp
         (go_at_call 172;refine (HD.out _).mono ?_;rintro e w7 ⟨rfl,hb7⟩)
         have V8:=Yd.call (by simp) hb7;have ER:=zA.below hb7;have Fv:=(ER).cell (j:=0) rfl;have uT:=(ER).frozen 0;have J5:=(ER).cell (j:=1) rfl;have uU:=(ER).frozen 1;refine hK.out _ _ ?RU (fun hHeld=>?_)
         case RU=>(first | (trivial) | (dsimp only;trivial))
         clear hK K
         try simp only [Act.put,la,lz,ls]
         refine tr 8 fun K hK=>?_;go_simp;refine hK.out _ _ ?RZ (fun hHeld=>?_)
         case RZ=>(first | (trivial) | (dsimp only;trivial))
         clear hK K
         try simp only [Act.put,la,lz,ls]
         refine wpAnyH_done (by kernel_rfl) ?_ _;go_wp2;have XG:=(V8.far hsz2 0 (.int .i64 v)).far hsz2 1 (.slice none 0 0);have Yn:=(ER.set 0 (.int .i64 v)).set 1 (.slice none 0 0)
         go_roundw
         case rel=>exact ⟨true,rfl,XG,Yn⟩
         case measure=>(simp [hsz];omega)
       · go_simp
         (go_at_call 243;refine (HW.out _).mono ?_;rintro e w4 ⟨rfl,hb4⟩)
         have hB4:=hB3.call (by simp) hb4;have hO4:=hO3.below hb4;have Fv:=(hO4).cell (j:=0) rfl;have uT:=(hO4).frozen 0;have J5:=(hO4).cell (j:=1) rfl;have uU:=(hO4).frozen 1;refine hK.out _ _ ?Rx (fun hHeld=>?_)
         case Rx=>(first | (trivial) | (dsimp only;trivial))
         clear hK K
         try simp only [Act.put,la,lz,ls]
         refine tr 0 fun K hK=>?_;go_simp;refine hK.out _ _ ?Rl (fun hHeld=>?_)
         case Rl=>(first | (trivial) | (dsimp only;trivial))
         clear hK K
         try simp only [Act.put,la,lz,ls]
         refine tr 4 fun K hK=>?_;go_simp
         (go_at_call 174;refine (HM.out _).mono ?_;rintro e w5 ⟨rfl,hb5⟩)
         have eP:=hB4.call (by simp) hb5;have AV:=hO4.below hb5;have Fv:=(AV).cell (j:=0) rfl;have uT:=(AV).frozen 0;have J5:=(AV).cell (j:=1) rfl;have uU:=(AV).frozen 1;refine hK.out _ _ ?RF (fun hHeld=>?_)
         case RF=>(first | (trivial) | (dsimp only;trivial))
         clear hK K
         try simp only [Act.put,la,lz,ls]
         refine tr 6 fun K hK=>?_;go_simp
         (go_at_call 124;refine (rE v _).mono ?_;rintro e w6 ⟨rfl,hb6⟩)
         have Yd:=eP.call (by simp) hb6;have zA:=AV.below hb6;have Fv:=(zA).cell (j:=0) rfl;have uT:=(zA).frozen 0;have J5:=(zA).cell (j:=1) rfl;have uU:=(zA).frozen 1;refine hK.out _ _ ?RQ (fun hHeld=>?_)
         case RQ=>(first | (trivial) | (dsimp only;trivial))
         clear hK K
         try simp only [Act.put,la,lz,ls]
         refine tr 7 fun K hK=>?_;go_simp
         (go_at_call 172;refine (HD.out _).mono ?_;rintro e w7 ⟨rfl,hb7⟩)
         have V8:=Yd.call (by simp) hb7;have ER:=zA.below hb7;have Fv:=(ER).cell (j:=0) rfl;have uT:=(ER).frozen 0;have J5:=(ER).cell (j:=1) rfl;have uU:=(ER).frozen 1;refine hK.out _ _ ?RV (fun hHeld=>?_)
         case RV=>(first | (trivial) | (dsimp only;trivial))
         clear hK K
         try simp only [Act.put,la,lz,ls]
         refine tr 8 fun K hK=>?_;go_simp;refine hK.out _ _ ?Si (fun hHeld=>?_)
         case Si=>(first | (trivial) | (dsimp only;trivial))
         clear hK K
         try simp only [Act.put,la,lz,ls]
         refine wpAnyH_done (by kernel_rfl) ?_ _;go_wp2;have XG:=(V8.far hsz2 0 (.int .i64 v)).far hsz2 1 (.slice none 0 0);have Yn:=(ER.set 0 (.int .i64 v)).set 1 (.slice none 0 0)
         go_roundw
         case rel=>exact ⟨true,rfl,XG,Yn⟩
         case measure=>(simp [hsz];omega)
theorem zu (l:List UInt8) (v:Int) (w:World) (hg:Glob w) (h1:1≤l.length) (h2:l.length≤18) (hp:Lib.hasPrefix l [45]=false) (ht:Lib.trimPrefix l [45]=l) (ha:Lib.atoiAll l= .ok v) (v0:0≤v) (v1:v≤9223372036854775807) (hc:Lib.cut l [47]=(l,[],false)):
 Calls Tryz.prog 166 #[.string ⟨l.toArray⟩] w fun e w'=>e= .returned (gJ ⟨v,1⟩)∧Below w.heap.size w w':=by
 have HC:∀ W,Glob W→Calls Tryz.prog 150 #[.string ⟨l.toArray⟩,.string ⟨#[47]⟩] W fun e w'=>e= .returned (.tuple #[.string ⟨l.toArray⟩,.string ⟨#[]⟩,.bool false])∧∃ n,w'=W.drewN n:=fun W hG=>by
  obtain ⟨m,hm⟩:=hG.n
  have:=Tryz.strings_Cut ⟨l.toArray⟩ ⟨#[47]⟩ m W (by rw [jA];omega) hm
  rwa [show Lib.cut (ByteArray.mk l.toArray).data.toList (ByteArray.mk #[47]).data.toList=(l,[],false) from hc] at this
 have HR:=fun W=>Nj l v W h1 h2 hp ht ha v0 v1;obtain ⟨s,hs⟩:∃ s:ByteArray,⟨l.toArray⟩=s:=⟨_,rfl⟩
 simp only [hs] at HC HR ⊢
 clear hs hp ht ha hc;have HC:=hide HC;have HR:=hide HR
 go_enter Tryz.func166,Tryz.ntmps166
 go_upto_region 0 with (fail)
 go_cut [2] (fun v2 wx=>v2=ptr w.heap.size∧aS w wx [(aP ⟨0,0⟩,128)])
 case first=>
  go_wp2;go_meet;exact ⟨rfl,((aS.nil w).new (by simp) (aP ⟨0,0⟩) _)⟩
 case rest=>
  obtain ⟨rfl,hB⟩:=hcut
  go_wp2_with (first | (go_at_call 150;refine (HC.out _ (hg.below hB.bw)).mono ?_;rintro e w1 ⟨rfl,n,rfl⟩;have hB1:=hB.drewN n) | (go_at_call 206;refine (HR.out _).mono ?_;rintro e w2 ⟨rfl,hb2⟩;have hB2:=hB1.call (by simp) hb2) | (go_at_call 123;refine (wQ v _).mono ?_;rintro e w3 ⟨rfl,hb3⟩;have hB3:=hB2.call (by simp) hb3) | (refine aQ 128 (.tmp 2) (.tmp 16) rfl ?_;refine aI (hB3.ah rfl) (aP ⟨v,1⟩) rfl dL (qY _) rfl (.tmp 2) (.tmp 16) rfl rfl rfl ?_))
  have hZ:=hB3.put 0 rfl (aP ⟨v,1⟩) rfl;exact bodyPost_ret (aY (p:=2) (hZ.ah rfl) Tryz.underlying128 rfl dL rfl _ rfl) rfl ⟨rfl,hZ.bw⟩
end Go.Proofs.YtcjglfbpjkdgiaaGreatDoor
