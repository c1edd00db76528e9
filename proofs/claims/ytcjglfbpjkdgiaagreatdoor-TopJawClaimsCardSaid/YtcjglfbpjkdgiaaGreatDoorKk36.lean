/- Parts of a proof. -/
import Derived.Test.YtcjglfbpjkdgiaaGreatDoorKk16
import Derived.Test.YtcjglfbpjkdgiaaGreatDoorKk35
set_option maxHeartbeats 4000000
set_option maxRecDepth 100000
set_option linter.unusedVariables false
set_option linter.unusedSimpArgs false
namespace Go.Proofs.YtcjglfbpjkdgiaaGreatDoor
open Go.RowKit
theorem QZ (l:List UInt8) (v:Int) (w:World) (h1:1≤l.length) (h2:l.length≤18) (hp:Lib.hasPrefix l [45]=false) (ht:Lib.trimPrefix l [45]=l) (ha:Lib.atoiAll l= .ok v) (v0:0≤v) (v1:v≤9223372036854775807):
 Calls Tryz.prog 206 #[.string ⟨l.toArray⟩] w fun e w'=>e= .returned (pR v)∧Below w.heap.size w w':=by
 have HP:∀ W,Calls Tryz.prog 242 #[.string ⟨l.toArray⟩,.string ⟨#[45]⟩] W fun e w'=>e= .returned (.bool false)∧w'=W:=fun W=>by
  have:=Tryz.strings_HasPrefix ⟨l.toArray⟩ ⟨#[45]⟩ W
  rwa [show Lib.hasPrefix (ByteArray.mk l.toArray).data.toList (ByteArray.mk #[45]).data.toList=false from hp] at this
 have HT:∀ W,Calls Tryz.prog 89 #[.string ⟨l.toArray⟩,.string ⟨#[45]⟩] W fun e w'=>e= .returned (.string ⟨l.toArray⟩)∧w'=W:=fun W=>by
  have:=Tryz.strings_TrimPrefix ⟨l.toArray⟩ ⟨#[45]⟩ W
  rwa [show Lib.trimPrefix (ByteArray.mk l.toArray).data.toList (ByteArray.mk #[45]).data.toList=l from ht] at this
 have HA:∀ W,Calls Tryz.prog 151 #[.string ⟨l.toArray⟩] W fun e w'=>e= .returned (.tuple #[.int .i64 v,.nilIface])∧(w'=W∨∃ t,w'=Lib.bytesWorld W 5 t):=fun W=>Tryz.strconv_Atoi_ok ⟨l.toArray⟩ (by rw [iM];omega) v ha W;have hsz:=iM l;obtain ⟨s,hs⟩:∃ s:ByteArray,⟨l.toArray⟩=s:=⟨_,rfl⟩
 simp only [hs] at HP HT HA hsz ⊢
 clear hs hp ht ha;obtain ⟨n,hn⟩:∃ n,l.length=n:=⟨_,rfl⟩;rw [hn] at h1 h2 hsz;clear hn;have hq:(10:Nat) ^ n≤1000000000000000000:=Nat.pow_le_pow_right (n:=10) (by omega) h2;obtain ⟨q,hqe⟩:∃ q:Nat,10 ^ n=q:=⟨_,rfl⟩;have hP:=fun W=>pow_any 10 n W (by omega) (by omega) (by omega) (by omega)
 simp only [hqe] at hq hP
 clear hqe;obtain ⟨p,hpw⟩:∃ p:Int,(q:Int)=p:=⟨_,rfl⟩
 have HW:∀ W,Calls Tryz.prog 243 #[pR 10,.int .i64 n] W fun e w'=>e= .returned (pR p)∧Below W.heap.size W w':=fun W=>by
  have:=hP W
  rw [hpw] at this;exact this
 have HM:∀ W,Calls Tryz.prog 174 #[pR 0,pR p] W fun e w'=>e= .returned (pR 0)∧Below W.heap.size W w':=fun W=>by
  have:=kP 0 p W (by omega) (by omega) (by omega) (by omega) (by omega) (by omega)
  rwa [Int.zero_mul] at this
 have HD:∀ W,Calls Tryz.prog 172 #[pR 0,pR v] W fun e w'=>e= .returned (pR v)∧Below W.heap.size W w':=fun W=>by
  have:=xH 0 v W (by omega) (by omega) (by omega) (by omega) (by omega) (by omega)
  rwa [Int.zero_add] at this
 clear hq hpw hP;have HW:=hide HW;have HM:=hide HM;have HD:=hide HD
 have hmin:min (18:Int) n=n:=by omega
 have hx:s.extract 0 n=s:=by rw [← hsz];exact ByteArray.extract_zero_size
 have hx2:s.extract n n=⟨#[]⟩:=by
  apply ByteArray.ext
  simp
 have HP:=hide HP;have HT:=hide HT;have HA:=hide HA
 go_enter Tryz.func206,Tryz.ntmps206
 go_upto_region 0 with (fail)
 go_cut [2] (fun v2 wx=>v2=ptr w.heap.size∧aX w wx [(aK 0,126)])
 case first=>
  go_wp2;go_meet;exact ⟨rfl,((aX.nil w).new (by simp) (aK 0) _)⟩
 case rest=>
  obtain ⟨rfl,hB⟩:=hcut
  go_wp2_with (first | (go_at_call 242;refine (HP.out _).mono ?_;rintro e w1 ⟨rfl,rfl⟩) | (go_at_call 89;refine (HT.out _).mono ?_;rintro e w1 ⟨rfl,rfl⟩))
  obtain ⟨G,hG⟩:∃ G,w1.heap.size=G:=⟨_,rfl⟩;have hO0:=Held.newAt w1 (aK 0) 126 hG;have hB0:=hB.alloc (by simp) (.cells (aK 0).toArray 126);have hsz2:=hB.size (by simp)
  simp only [List.length_cons,List.length_nil] at hsz2
  rw [hG] at hsz2
  simp only [hG]
  have Z9:w.heap.size≠G:=by omega
  clear hG hB
  go_loopw [0] (fun s' wr=>∃ d:Bool,s'= .string (cond d ⟨#[]⟩ s)∧aX w wr [(aK 0,126)]∧Held wr G (aK (cond d v 0)) 126) (fun s' _=>match s' with | .string b=>b.size | _=>0)
  case atStart=>exact ⟨false,rfl,hB0,hO0⟩
  case round=>
   obtain ⟨d,rfl,hB,hO⟩:=hrel;clear hB0 hO0
   cases d with
   | true=>
     dsimp only [cond] at hO ⊢
     go_wp2_with (first | (refine aB 126 (.tmp 4) rfl ?_;refine ak (hO) Tryz.underlying126 rfl bJ rfl (.tmp 4) rfl rfl ?_) | (refine aO 126 (.tmp 2) (.tmp 40) rfl ?_;refine aF (hB.ah rfl) (aK v) rfl bJ (tH _) rfl (.tmp 2) (.tmp 40) rfl rfl rfl ?_))
     have hZ:=hB.put 0 rfl (aK v) rfl;exact bodyPost_ret (bf (p:=2) (hZ.ah rfl) Tryz.underlying126 rfl bJ rfl _ rfl) rfl ⟨rfl,hZ.bw⟩
   | false=>
     dsimp only [cond] at hO ⊢
     go_upto_region 7 with (go_at_call 151;refine (HA.out _).mono ?_;rintro e w2 ⟨rfl,hw2⟩;have hb2:=lC hw2)
     have hBs:=hB.call (by simp) hb2;have hOs:=hO.below hb2;have IY:=(hOs).cell (j:=0) rfl;have xK:=(hOs).frozen 0;have OT:=(hOs).cell (j:=1) rfl;have xM:=(hOs).frozen 1;refine wp_region_held_drew (S:=(fun _:World=>True)) (by kernel_rfl) ?jY (fun hHeld=>?_)
     case jY=>trivial
     refine tk 2 ?_;refine tk 5 ?_;refine wpAnyH_ready (rs:=[0,1]) (by kernel_rfl) (by simp) ?_;refine AllReadyH.cons (o:=_) (ga rfl) (fun K hK=>?_) (AllReadyH.cons (o:=_) (ga rfl) (fun K hK=>?_) AllReadyH.nil)
     · go_simp
       refine hK.out _ _ ?VK (fun hHeld=>?_)
       case VK=>(first | (trivial) | (dsimp only;trivial))
       clear hK K
       try simp only [Act.put,la,lz,ls]
       refine tr 1 fun K hK=>?_;go_simp
       (go_at_call 124;refine (uN 10 _).mono ?_;rintro e w3 ⟨rfl,hb3⟩)
       have hB3:=hBs.drew.call (by simp) hb3;have hO3:=hOs.drew.below hb3;have IY:=(hO3).cell (j:=0) rfl;have xK:=(hO3).frozen 0;have OT:=(hO3).cell (j:=1) rfl;have xM:=(hO3).frozen 1;refine hK.out _ _ ?VR (fun hHeld=>?_)
       case VR=>(first | (trivial) | (dsimp only;trivial))
       clear hK K
       try simp only [Act.put,la,lz,ls]
       refine tr 3 fun K hK=>?_;go_simp
       (go_at_call 243;refine (HW.out _).mono ?_;rintro e w4 ⟨rfl,hb4⟩)
       have hB4:=hB3.call (by simp) hb4;have hO4:=hO3.below hb4;have IY:=(hO4).cell (j:=0) rfl;have xK:=(hO4).frozen 0;have OT:=(hO4).cell (j:=1) rfl;have xM:=(hO4).frozen 1;refine hK.out _ _ ?VU (fun hHeld=>?_)
       case VU=>(first | (trivial) | (dsimp only;trivial))
       clear hK K
       try simp only [Act.put,la,lz,ls]
       refine tr 4 fun K hK=>?_;go_simp
       (go_at_call 174;refine (HM.out _).mono ?_;rintro e w5 ⟨rfl,hb5⟩)
       have fM:=hB4.call (by simp) hb5;have D9:=hO4.below hb5;have IY:=(D9).cell (j:=0) rfl;have xK:=(D9).frozen 0;have OT:=(D9).cell (j:=1) rfl;have xM:=(D9).frozen 1;refine hK.out _ _ ?VZ (fun hHeld=>?_)
       case VZ=>(first | (trivial) | (dsimp only;trivial))
       clear hK K
       try simp only [Act.put,la,lz,ls]
       refine tr 6 fun K hK=>?_;go_simp
       (go_at_call 124;refine (uN v _).mono ?_;rintro e w6 ⟨rfl,hb6⟩)
       have hB6:=fM.call (by simp) hb6;have CG:=D9.below hb6;have IY:=(CG).cell (j:=0) rfl;have xK:=(CG).frozen 0;have OT:=(CG).cell (j:=1) rfl;have xM:=(CG).frozen 1;refine hK.out _ _ ?V8 (fun hHeld=>?_)
       case V8=>(first | (trivial) | (dsimp only;trivial))
       clear hK K
       try simp only [Act.put,la,lz,ls]
       refine tr 7 fun K hK=>?_;go_simp
       (go_at_call 172;refine (HD.out _).mono ?_;rintro e w7 ⟨rfl,hb7⟩)
       have ZT:=hB6.call (by simp) hb7;have Iq:=CG.below hb7;have IY:=(Iq).cell (j:=0) rfl;have xK:=(Iq).frozen 0;have OT:=(Iq).cell (j:=1) rfl;have xM:=(Iq).frozen 1;refine hK.out _ _ ?Wi (fun hHeld=>?_)
       case Wi=>(first | (trivial) | (dsimp only;trivial))
       clear hK K
       try simp only [Act.put,la,lz,ls]
       refine tr 8 fun K hK=>?_;go_simp;refine hK.out _ _ ?Wq (fun hHeld=>?_)
       case Wq=>(first | (trivial) | (dsimp only;trivial))
       clear hK K
       try simp only [Act.put,la,lz,ls]
       refine wpAnyH_done (by kernel_rfl) ?_ _;go_wp2;have hB8:=(ZT.far hsz2 0 (.int .i64 v)).far hsz2 1 (.slice none 0 0);have hO8:=(Iq.set 0 (.int .i64 v)).set 1 (.slice none 0 0)
       go_roundw
       case rel=>exact ⟨true,rfl,hB8,hO8⟩
       case measure=>(simp [hsz];omega)
     · go_simp
       (go_at_call 124;refine (uN 10 _).mono ?_;rintro e w3 ⟨rfl,hb3⟩)
       have hB3:=hBs.drew.call (by simp) hb3;have hO3:=hOs.drew.below hb3;have IY:=(hO3).cell (j:=0) rfl;have xK:=(hO3).frozen 0;have OT:=(hO3).cell (j:=1) rfl;have xM:=(hO3).frozen 1;refine hK.out _ _ ?VT (fun hHeld=>?_)
       case VT=>(first | (trivial) | (dsimp only;trivial))
       clear hK K
       try simp only [Act.put,la,lz,ls]
       refine wpAnyH_ready (rs:=[0,3]) (by kernel_rfl) (by simp) ?_;refine AllReadyH.cons (o:=_) (ga rfl) (fun K hK=>?_) (AllReadyH.cons (o:=_) (ga rfl) (fun K hK=>?_) AllReadyH.nil)
       · go_simp
         refine hK.out _ _ ?VN (fun hHeld=>?_)
         case VN=>(first | (trivial) | (dsimp only;trivial))
         clear hK K
         try simp only [Act.put,la,lz,ls]
         refine tr 3 fun K hK=>?_;go_simp
         (go_at_call 243;refine (HW.out _).mono ?_;rintro e w4 ⟨rfl,hb4⟩)
         have hB4:=hB3.call (by simp) hb4;have hO4:=hO3.below hb4;have IY:=(hO4).cell (j:=0) rfl;have xK:=(hO4).frozen 0;have OT:=(hO4).cell (j:=1) rfl;have xM:=(hO4).frozen 1;refine hK.out _ _ ?VW (fun hHeld=>?_)
         case VW=>(first | (trivial) | (dsimp only;trivial))
         clear hK K
         try simp only [Act.put,la,lz,ls]
         refine tr 4 fun K hK=>?_;go_simp
         (go_at_call 174;refine (HM.out _).mono ?_;rintro e w5 ⟨rfl,hb5⟩)
         have fM:=hB4.call (by simp) hb5;have D9:=hO4.below hb5;have IY:=(D9).cell (j:=0) rfl;have xK:=(D9).frozen 0;have OT:=(D9).cell (j:=1) rfl;have xM:=(D9).frozen 1;refine hK.out _ _ ?V3 (fun hHeld=>?_)
         case V3=>(first | (trivial) | (dsimp only;trivial))
         clear hK K
         try simp only [Act.put,la,lz,ls]
         refine tr 6 fun K hK=>?_;go_simp
         (go_at_call 124;refine (uN v _).mono ?_;rintro e w6 ⟨rfl,hb6⟩)
         have hB6:=fM.call (by simp) hb6;have CG:=D9.below hb6;have IY:=(CG).cell (j:=0) rfl;have xK:=(CG).frozen 0;have OT:=(CG).cell (j:=1) rfl;have xM:=(CG).frozen 1;refine hK.out _ _ ?V9 (fun hHeld=>?_)
         case V9=>(first | (trivial) | (dsimp only;trivial))
         clear hK K
         try simp only [Act.put,la,lz,ls]
         refine tr 7 fun K hK=>?_;go_simp
         (go_at_call 172;refine (HD.out _).mono ?_;rintro e w7 ⟨rfl,hb7⟩)
         have ZT:=hB6.call (by simp) hb7;have Iq:=CG.below hb7;have IY:=(Iq).cell (j:=0) rfl;have xK:=(Iq).frozen 0;have OT:=(Iq).cell (j:=1) rfl;have xM:=(Iq).frozen 1;refine hK.out _ _ ?Wj (fun hHeld=>?_)
         case Wj=>(first | (trivial) | (dsimp only;trivial))
         clear hK K
         try simp only [Act.put,la,lz,ls]
         refine tr 8 fun K hK=>?_;go_simp;refine hK.out _ _ ?Ws (fun hHeld=>?_)
         case Ws=>(first | (trivial) | (dsimp only;trivial))
         clear hK K
         try simp only [Act.put,la,lz,ls]
         refine wpAnyH_done (by kernel_rfl) ?_ _;go_wp2;have hB8:=(ZT.far hsz2 0 (.int .i64 v)).far hsz2 1 (.slice none 0 0);have hO8:=(Iq.set 0 (.int .i64 v)).set 1 (.slice none 0 0)
         go_roundw
         case rel=>exact ⟨true,rfl,hB8,hO8⟩
         case measure=>(simp [hsz];omega)
       · go_simp
         (go_at_call 243;refine (HW.out _).mono ?_;rintro e w4 ⟨rfl,hb4⟩)
         have hB4:=hB3.call (by simp) hb4;have hO4:=hO3.below hb4;have IY:=(hO4).cell (j:=0) rfl;have xK:=(hO4).frozen 0;have OT:=(hO4).cell (j:=1) rfl;have xM:=(hO4).frozen 1;refine hK.out _ _ ?VX (fun hHeld=>?_)
         case VX=>(first | (trivial) | (dsimp only;trivial))
         clear hK K
         try simp only [Act.put,la,lz,ls]
         refine tr 0 fun K hK=>?_;go_simp;refine hK.out _ _ ?VO (fun hHeld=>?_)
         case VO=>(first | (trivial) | (dsimp only;trivial))
         clear hK K
         try simp only [Act.put,la,lz,ls]
         refine tr 4 fun K hK=>?_;go_simp
         (go_at_call 174;refine (HM.out _).mono ?_;rintro e w5 ⟨rfl,hb5⟩)
         have fM:=hB4.call (by simp) hb5;have D9:=hO4.below hb5;have IY:=(D9).cell (j:=0) rfl;have xK:=(D9).frozen 0;have OT:=(D9).cell (j:=1) rfl;have xM:=(D9).frozen 1;refine hK.out _ _ ?V4 (fun hHeld=>?_)
         case V4=>(first | (trivial) | (dsimp only;trivial))
         clear hK K
         try simp only [Act.put,la,lz,ls]
         refine tr 6 fun K hK=>?_;go_simp
         (go_at_call 124;refine (uN v _).mono ?_;rintro e w6 ⟨rfl,hb6⟩)
         have hB6:=fM.call (by simp) hb6;have CG:=D9.below hb6;have IY:=(CG).cell (j:=0) rfl;have xK:=(CG).frozen 0;have OT:=(CG).cell (j:=1) rfl;have xM:=(CG).frozen 1;refine hK.out _ _ ?Wh (fun hHeld=>?_)
         case Wh=>(first | (trivial) | (dsimp only;trivial))
         clear hK K
         try simp only [Act.put,la,lz,ls]
         refine tr 7 fun K hK=>?_;go_simp
         (go_at_call 172;refine (HD.out _).mono ?_;rintro e w7 ⟨rfl,hb7⟩)
         have ZT:=hB6.call (by simp) hb7;have Iq:=CG.below hb7;have IY:=(Iq).cell (j:=0) rfl;have xK:=(Iq).frozen 0;have OT:=(Iq).cell (j:=1) rfl;have xM:=(Iq).frozen 1;refine hK.out _ _ ?Wn (fun hHeld=>?_)
         case Wn=>(first | (trivial) | (dsimp only;trivial))
         clear hK K
         try simp only [Act.put,la,lz,ls]
         refine tr 8 fun K hK=>?_;go_simp;refine hK.out _ _ ?Wu (fun hHeld=>?_)
         case Wu=>(first | (trivial) | (dsimp only;trivial))
         clear hK K
         try simp only [Act.put,la,lz,ls]
         refine wpAnyH_done (by kernel_rfl) ?_ _;go_wp2;have hB8:=(ZT.far hsz2 0 (.int .i64 v)).far hsz2 1 (.slice none 0 0);have hO8:=(Iq.set 0 (.int .i64 v)).set 1 (.slice none 0 0)
         go_roundw
         case rel=>exact ⟨true,rfl,hB8,hO8⟩
         case measure=>(simp [hsz];omega)
theorem Ci (l:List UInt8) (v:Int) (w:World) (hg:Glob w) (h1:1≤l.length) (h2:l.length≤18) (hp:Lib.hasPrefix l [45]=false) (ht:Lib.trimPrefix l [45]=l) (ha:Lib.atoiAll l= .ok v) (v0:0≤v) (v1:v≤9223372036854775807) (hc:Lib.cut l [47]=(l,[],false)):
 Calls Tryz.prog 166 #[.string ⟨l.toArray⟩] w fun e w'=>e= .returned (iI ⟨v,1⟩)∧Below w.heap.size w w':=by
 have HC:∀ W,Glob W→Calls Tryz.prog 150 #[.string ⟨l.toArray⟩,.string ⟨#[47]⟩] W fun e w'=>e= .returned (.tuple #[.string ⟨l.toArray⟩,.string ⟨#[]⟩,.bool false])∧∃ n,w'=W.drewN n:=fun W hG=>by
  obtain ⟨m,hm⟩:=hG.n
  have:=Tryz.strings_Cut ⟨l.toArray⟩ ⟨#[47]⟩ m W (by rw [iM];omega) hm
  rwa [show Lib.cut (ByteArray.mk l.toArray).data.toList (ByteArray.mk #[47]).data.toList=(l,[],false) from hc] at this
 have HR:=fun W=>QZ l v W h1 h2 hp ht ha v0 v1;obtain ⟨s,hs⟩:∃ s:ByteArray,⟨l.toArray⟩=s:=⟨_,rfl⟩
 simp only [hs] at HC HR ⊢
 clear hs hp ht ha hc;have HC:=hide HC;have HR:=hide HR
 go_enter Tryz.func166,Tryz.ntmps166
 go_upto_region 0 with (fail)
 go_cut [2] (fun v2 wx=>v2=ptr w.heap.size∧aX w wx [(aU ⟨0,0⟩,128)])
 case first=>
  go_wp2;go_meet;exact ⟨rfl,((aX.nil w).new (by simp) (aU ⟨0,0⟩) _)⟩
 case rest=>
  obtain ⟨rfl,hB⟩:=hcut
  go_wp2_with (first | (go_at_call 150;refine (HC.out _ (hg.below hB.bw)).mono ?_;rintro e w1 ⟨rfl,n,rfl⟩;have hB1:=hB.drewN n) | (go_at_call 206;refine (HR.out _).mono ?_;rintro e w2 ⟨rfl,hb2⟩;have hB2:=hB1.call (by simp) hb2) | (go_at_call 123;refine (zB v _).mono ?_;rintro e w3 ⟨rfl,hb3⟩;have hB3:=hB2.call (by simp) hb3) | (refine aO 128 (.tmp 2) (.tmp 16) rfl ?_;refine aF (hB3.ah rfl) (aU ⟨v,1⟩) rfl dP (uG _) rfl (.tmp 2) (.tmp 16) rfl rfl rfl ?_))
  have hZ:=hB3.put 0 rfl (aU ⟨v,1⟩) rfl;exact bodyPost_ret (bf (p:=2) (hZ.ah rfl) Tryz.underlying128 rfl dP rfl _ rfl) rfl ⟨rfl,hZ.bw⟩
end Go.Proofs.YtcjglfbpjkdgiaaGreatDoor
