/- Parts of a proof. -/
import Derived.Test.YtcbmedfongiojaaGreatDoorKt13
import Derived.Test.YtcbmedfongiojaaGreatDoorKt23
set_option maxHeartbeats 800000
set_option maxRecDepth 100000
set_option linter.unusedVariables false
set_option linter.unusedSimpArgs false
namespace Go.Proofs.YtcbmedfongiojaaGreatDoor
open Go.RowKit
theorem bitLen_le (x:Nat):Lib.bitLen x≤64:=by
 have h:∀ f y:Nat,Lib.bitLenAux f y≤f:=by
  intro f
  induction f with
  | zero=>intro y;simp [Lib.bitLenAux]
  | succ f ih=>
    intro y
    unfold Lib.bitLenAux
    split
    · omega
    · have:=ih (y / 2);omega
 exact h _ _
theorem Jh (w:World):Calls Tryz.prog 174 #[nK 0] w fun e w'=>e= .returned (.tuple #[.bool false,.slice none 0 0])∧Below w.heap.size w w':=by
 have hn:=SL
 go_enter Tryz.func174,Tryz.ntmps174
 go_wp2;go_ret2;exact ⟨rfl,((aC.nil w).new (by simp) (aH 0) _).bw⟩
theorem LP (a:Int) (w:World) (h0: -9223372036854775807≤a) (h1:a≤9223372036854775807) (ha:a≠0):
 Calls Tryz.prog 174 #[nK a] w fun e w'=>∃ g,e= .returned (.tuple #[.bool (decide (a<0)),.slice (some ⟨g,0,none⟩) 1 1])∧w'.cell? ⟨g,0,none⟩=some (.int .u64 (sz a))∧Below w.heap.size w w':=by
 have hn:=SL
 have ha':(a == 0)=false:=by simp [ha]
 go_enter Tryz.func174,Tryz.ntmps174
 go_upto_region 0 with (fail)
 go_cut [1] (fun v1 wx=>v1=ptr w.heap.size∧aC w wx [(aH a,107)])
 case first=>
  go_wp2;go_meet;exact ⟨rfl,((aC.nil w).new (by simp) (aH a) _)⟩
 case rest=>
  obtain ⟨rfl,hB⟩:=hcut;have wE:=(hB.aj rfl).cell (j:=0) rfl;have lX:=(hB.aj rfl).frozen 0;have ka1:=(hB.aj rfl).cell (j:=1) rfl;have lY:=(hB.aj rfl).frozen 1
  go_upto_region 5 with (fail)
  refine wp_region_held_drew (S:=(fun w':World=>w'.cell? ⟨w.heap.size,0,none⟩=some (.int .i64 a)∧w'.cell? ⟨w.heap.size,1,none⟩=some (.slice none 0 0))) (by kernel_rfl) ?jF (fun hHeld=>?_)
  case jF=>exact ⟨(hB.drew.aj rfl).cell (j:=0) rfl,(hB.drew.aj rfl).cell (j:=1) rfl⟩
  refine tk 0 ?_;refine tk 1 ?_;refine tk 2 ?_;refine tk 3 ?_;refine tk 4 ?_;refine tr 5 fun K hK=>?_;go_simp
  (go_at_call 209;refine (Ew a _ h0 h1).mono ?_;rintro e w1 ⟨rfl,rfl⟩)
  have hB1:=hB.drew;refine hK.out _ _ ?aev (fun hHeld=>?_)
  case aev=>(exact ⟨(hB1.aj rfl).cell (j:=0) rfl,(hB1.aj rfl).cell (j:=1) rfl⟩)
  clear hK K
  try simp only [Act.put,la,lz,ls]
  refine tk 7 ?_;refine tr 6 fun K hK=>?_;go_simp;refine hK.out _ _ ?QY (fun hHeld=>?_)
  case QY=>(exact ⟨((hB1.alloc (by simp) _).aj rfl).cell (j:=0) rfl,((hB1.alloc (by simp) _).aj rfl).cell (j:=1) rfl⟩)
  clear hK K
  try simp only [Act.put,la,lz,ls]
  refine tk 8 ?_;refine wpAnyH_done (by kernel_rfl) ?_ _;go_wp2;go_ret2;exact ⟨wc.heap.size,rfl,(Held.new wc [.int .u64 (sz a)] _).cell (j:=0) rfl,(hB.alloc (by simp) _).bw.drew⟩
theorem NR (a:Int) (w:World) (h0: -9223372036854775807≤a) (h1:a≤9223372036854775807):
 Calls Tryz.prog 172 #[nK a] w fun e w'=>∃ k:Int,e= .returned (.int .i64 k)∧(0≤k∧k≤64)∧Below w.heap.size w w':=by
 by_cases ha:a=0
 · subst ha
   go_enter Tryz.func172,Tryz.ntmps172
   go_upto_region 0 with (fail)
   go_cut [1] (fun v1 wx=>v1=ptr w.heap.size∧aC w wx [(aH 0,107)])
   case first=>
    go_wp2;go_meet;exact ⟨rfl,((aC.nil w).new (by simp) (aH 0) _)⟩
   case rest=>
    obtain ⟨rfl,hB⟩:=hcut
    go_wp2_with (first | (go_at_call 174;refine (Jh _).mono ?_;rintro e w1 ⟨rfl,hb1⟩;have hB1:=hB.call (by simp) hb1) | (refine dA 107 (.tmp 1) rfl ?_;refine cO (hB.aj rfl) Tryz.underlying107 rfl bK rfl (.tmp 1) rfl rfl ?_))
    go_ret;exact ⟨0,rfl,by omega,hB1.bw⟩
 · obtain ⟨s0,s1⟩:=Sz h0 h1
   have HB:=bitLen_le (sz a).toNat;have HL:=fun W=>Tryz.bits_Len64 (sz a) W s0 (by omega);obtain ⟨k,hk⟩:∃ k:Nat,Lib.bitLen (sz a).toNat=k:=⟨_,rfl⟩;rw [hk] at HB
   simp only [hk] at HL
   clear hk;have HL:=hide HL
   go_enter Tryz.func172,Tryz.ntmps172
   go_upto_region 0 with (fail)
   go_cut [1] (fun v1 wx=>v1=ptr w.heap.size∧aC w wx [(aH a,107)])
   case first=>
    go_wp2;go_meet;exact ⟨rfl,((aC.nil w).new (by simp) (aH a) _)⟩
   case rest=>
    obtain ⟨rfl,hB⟩:=hcut
    go_wp2_with (first | (go_at_call 174;refine (LP a _ h0 h1 ha).mono ?_;rintro e w1 ⟨g,rfl,hc1,hb1⟩;have hB1:=hB.call (by simp) hb1) | (go_at_call 221;refine (HL.out _).mono ?_;rintro e w2 ⟨rfl,rfl⟩) | (refine dA 107 (.tmp 1) rfl ?_;refine cO (hB.aj rfl) Tryz.underlying107 rfl bK rfl (.tmp 1) rfl rfl ?_))
    go_ret;exact ⟨k,bG (by omega),by omega,hB1.bw⟩
theorem F8 (a:Int) (w:World) (h0: -9223372036854775807≤a) (h1:a≤9223372036854775807):
 Calls Tryz.prog 105 #[nK a] w fun e w'=>e= .returned (.bool false)∧Below w.heap.size w w':=by
 go_enter Tryz.func105,Tryz.ntmps105
 go_upto_region 0 with (fail)
 go_cut [1] (fun v1 wx=>v1=ptr w.heap.size∧aC w wx [(aH a,107)])
 case first=>
  go_wp2;go_meet;exact ⟨rfl,((aC.nil w).new (by simp) (aH a) _)⟩
 case rest=>
  obtain ⟨rfl,hB⟩:=hcut
  go_wp2_with (first | (go_at_call 172;refine (NR a _ h0 h1).mono ?_;rintro e w1 ⟨k,rfl,⟨hk0,hk1⟩,hb1⟩;have hk2:decide (1800<k)=false:=decide_eq_false (by omega);have hB1:=hB.call (by simp) hb1) | (refine dA 107 (.tmp 1) rfl ?_;refine cO (hB.aj rfl) Tryz.underlying107 rfl bK rfl (.tmp 1) rfl rfl ?_))
  go_ret;exact ⟨rfl,hB1.bw⟩
theorem qm (a:Nm.Fr) (w:World) (ha:Nm.ok a=true):Calls Tryz.prog 56 #[fD a] w fun e w'=>e= .returned (.bool false)∧Below w.heap.size w w':=by
 obtain ⟨⟨a0,a1⟩,a2,a3⟩:=kL.1 ha;obtain ⟨n,d⟩:=a
 dsimp only at a0 a1 a2 a3
 go_enter Tryz.func56,Tryz.ntmps56
 go_upto_region 0 with (fail)
 go_cut [1] (fun v1 wx=>v1=ptr w.heap.size∧aC w wx [(ah ⟨n,d⟩,109)])
 case first=>
  go_wp2;go_meet;exact ⟨rfl,((aC.nil w).new (by simp) (ah ⟨n,d⟩) _)⟩
 case rest=>
  obtain ⟨rfl,hB⟩:=hcut;have wE:=(hB.aj rfl).cell (j:=0) rfl;have lX:=(hB.aj rfl).frozen 0;have ka1:=(hB.aj rfl).cell (j:=1) rfl;have lY:=(hB.aj rfl).frozen 1;have Pq:=(hB.aj rfl).cell (j:=2) rfl;have zV:=(hB.aj rfl).frozen 2;have Pv:=(hB.aj rfl).cell (j:=3) rfl;have zW:=(hB.aj rfl).frozen 3;have tok:=hide True.intro
  go_wp2_with (first | (clear tok;go_at_call 105;refine (F8 n _ (by omega) (by omega)).mono ?_;rintro e w1 ⟨rfl,hb1⟩;have hB1:=hB.call (by simp) hb1;have YO:=(hB1.aj rfl).cell (j:=0) rfl;have Lr:=(hB1.aj rfl).frozen 0;have YP:=(hB1.aj rfl).cell (j:=1) rfl;have Ls:=(hB1.aj rfl).frozen 1;have kx2:=(hB1.aj rfl).cell (j:=2) rfl;have aaE:=(hB1.aj rfl).frozen 2;have kx3:=(hB1.aj rfl).cell (j:=3) rfl;have aaL:=(hB1.aj rfl).frozen 3) | (go_at_call 105;refine (F8 d _ (by omega) (by omega)).mono ?_;rintro e w2 ⟨rfl,hb2⟩;have hB2:=hB1.call (by simp) hb2))
  go_ret;exact ⟨rfl,hB2.bw⟩
theorem FV (a:Int) (w:World) (hg:Glob w) (h0: -9223372036854775807≤a) (h1:a≤9223372036854775807):
 Calls Tryz.prog 107 #[nK a] w fun e w'=>e= .returned (.string ⟨(Lib.itoa a).toArray⟩)∧Below w.heap.size w w':=by
 have hn:=sG;obtain ⟨s,hs⟩:∃ s:ByteArray,⟨(Lib.itoa a).toArray⟩=s:=⟨_,rfl⟩
 have HI:∀ W,Glob W→Calls Tryz.prog 173 #[.int .i64 a] W fun e w'=>e= .returned (.string s)∧∃ k os,w'=Go.Sort.grow (W.drewN k) os:=fun W h=>by
  have:=Tryz.strconv_Itoa a (by omega) (by omega) W h.tab
  rwa [hs] at this
 rw [hs];clear hs;have HI:=hide HI
 go_enter Tryz.func107,Tryz.ntmps107
 go_upto_region 0 with (fail)
 go_cut [1] (fun v1 wx=>v1=ptr w.heap.size∧aC w wx [(aH a,107)])
 case first=>
  go_wp2;go_meet;exact ⟨rfl,((aC.nil w).new (by simp) (aH a) _)⟩
 case rest=>
  obtain ⟨rfl,hB⟩:=hcut;have wE:=(hB.aj rfl).cell (j:=0) rfl;have lX:=(hB.aj rfl).frozen 0;have ka1:=(hB.aj rfl).cell (j:=1) rfl;have lY:=(hB.aj rfl).frozen 1
  go_wp2_with (go_at_call 173;refine (HI.out _ (hg.below hB.bw)).mono ?_;rintro e w1 ⟨rfl,hw1⟩;have hB1:=hB.call (by simp) (Iu hw1))
  go_ret;exact ⟨rfl,hB1.bw⟩
def Nm.text (a:Nm.Fr):List UInt8:=if a.d=1 then Lib.itoa a.n else Lib.itoa a.n++47::Lib.itoa a.d
theorem uZ:∀ (k n:Nat),n<10 ^ (k+1)→(Lib.decDigits n).length≤k+1
 | 0,n,h=>by rw [Lib.decDigits,dif_pos (by omega)];simp
 | k+1,n,h=>by
   rw [Lib.decDigits]
   split
   · simp
   · have:=uZ k (n / 10) (by rw [Nat.pow_succ] at h;omega)
     simp;omega
theorem Kq {n:Int} (h0: -1000000000≤n) (h1:n≤1000000000):(Lib.itoa n).length≤11:=by
 unfold Lib.itoa
 have:=uZ 9 n.natAbs (by omega)
 split
 · simp;first | omega | (have e:(-n).toNat=n.natAbs:=by omega);(try rw [e]);omega
 · first | omega | (have e:n.toNat=n.natAbs:=by omega);(try rw [e]);omega
theorem su (a:Nm.Fr) (w:World) (hg:Glob w) (ha:Nm.ok a=true):
 Calls Tryz.prog 57 #[fD a] w fun e w'=>e= .returned (.string ⟨(Nm.text a).toArray⟩)∧Below w.heap.size w w':=by
 obtain ⟨⟨a0,a1⟩,a2,a3⟩:=kL.1 ha;obtain ⟨n,d⟩:=a
 dsimp only at a0 a1 a2 a3
 have Nr:∀ W,Glob W→Calls Tryz.prog 107 #[nK n] W fun e w'=>e= .returned (.string ⟨(Lib.itoa n).toArray⟩)∧Below W.heap.size W w':=fun W h=>FV n W h (by omega) (by omega);have HS2:∀ W,Glob W→Calls Tryz.prog 107 #[nK d] W fun e w'=>e= .returned (.string ⟨(Lib.itoa d).toArray⟩)∧Below W.heap.size W w':=fun W h=>FV d W h (by omega) (by omega);have L1:=Kq (n:=n) (by omega) (by omega);have L2:=Kq (n:=d) (by omega) (by omega);have Z1:=lM (Lib.itoa n);have Z2:=lM (Lib.itoa d)
 unfold Nm.text
 by_cases hd:d=1
 · subst hd
   rw [if_pos rfl];obtain ⟨s,hs⟩:∃ s:ByteArray,⟨(Lib.itoa n).toArray⟩=s:=⟨_,rfl⟩
   simp only [hs] at Nr ⊢
   clear hs HS2 Z1 Z2 L1 L2;have Nr:=hide Nr
   go_enter Tryz.func57,Tryz.ntmps57
   go_upto_region 0 with (fail)
   go_cut [1] (fun v1 wx=>v1=ptr w.heap.size∧aC w wx [(ah ⟨n,1⟩,109)])
   case first=>
    go_wp2;go_meet;exact ⟨rfl,((aC.nil w).new (by simp) (ah ⟨n,1⟩) _)⟩
   case rest=>
    obtain ⟨rfl,hB⟩:=hcut
    go_wp2_with (first | (go_at_call 106;refine (pF n _).mono ?_;rintro e w1 ⟨rfl,hb1⟩;have hB1:=hB.call (by simp) hb1;have YO:=(hB1.aj rfl).cell (j:=0) rfl;have Lr:=(hB1.aj rfl).frozen 0;have YP:=(hB1.aj rfl).cell (j:=1) rfl;have Ls:=(hB1.aj rfl).frozen 1;have kx2:=(hB1.aj rfl).cell (j:=2) rfl;have aaE:=(hB1.aj rfl).frozen 2;have kx3:=(hB1.aj rfl).cell (j:=3) rfl;have aaL:=(hB1.aj rfl).frozen 3) | (go_at_call 107;refine (Nr.out _ (hg.below hB1.bw)).mono ?_;rintro e w2 ⟨rfl,hb2⟩;have hB2:=hB1.call (by simp) hb2) | (refine dA 109 (.tmp 1) rfl ?_;refine cO (hB.aj rfl) Tryz.underlying109 rfl aU rfl (.tmp 1) rfl rfl ?_))
    go_ret;exact ⟨rfl,hB2.bw⟩
 · rw [if_neg hd]
   have HE:(⟨(Lib.itoa n).toArray⟩++⟨#[47]⟩++⟨(Lib.itoa d).toArray⟩:ByteArray)=⟨(Lib.itoa n++47::Lib.itoa d).toArray⟩:=by
    have e1:(⟨#[47]⟩:ByteArray)=⟨[47].toArray⟩:=rfl;rw [e1,NQ,NQ];simp
   obtain ⟨E,hE⟩:∃ E:ByteArray,(⟨(Lib.itoa n++47::Lib.itoa d).toArray⟩:ByteArray)=E:=⟨_,rfl⟩;rw [hE] at HE ⊢;clear hE;obtain ⟨s1,hs1⟩:∃ s:ByteArray,⟨(Lib.itoa n).toArray⟩=s:=⟨_,rfl⟩;obtain ⟨s2,hs2⟩:∃ s:ByteArray,⟨(Lib.itoa d).toArray⟩=s:=⟨_,rfl⟩
   simp only [hs1] at Nr HE Z1
   simp only [hs2] at HS2 HE Z2
   clear hs1 hs2
   have z1:s1.size≤11:=by omega
   have z2:s2.size≤11:=by omega
   clear Z1 Z2 L1 L2
   have f1:¬ 9223372036854775807<s1.size+1:=by omega
   have f2:¬ 9223372036854775807<s1.size+1+s2.size:=by omega
   have HE:=hide HE;have Nr:=hide Nr;have HS2:=hide HS2
   go_enter Tryz.func57,Tryz.ntmps57
   go_upto_region 0 with (fail)
   go_cut [1] (fun v1 wx=>v1=ptr w.heap.size∧aC w wx [(ah ⟨n,d⟩,109)])
   case first=>
    go_wp2;go_meet;exact ⟨rfl,((aC.nil w).new (by simp) (ah ⟨n,d⟩) _)⟩
   case rest=>
    obtain ⟨rfl,hB⟩:=hcut
    go_upto_region 3 with (first | (go_at_call 106;refine (rJ n d hd _).mono ?_;rintro e w1 ⟨rfl,hb1⟩;have hB1:=hB.call (by simp) hb1) | (refine dA 109 (.tmp 1) rfl ?_;refine cO (hB.aj rfl) Tryz.underlying109 rfl aU rfl (.tmp 1) rfl rfl ?_))
    refine wp_region_held_drew (S:=(fun w':World=>w'.cell? ⟨w.heap.size,0,none⟩=some (.int .i64 ((⟨n,d⟩:Nm.Fr)).n)∧w'.cell? ⟨w.heap.size,1,none⟩=some (.slice none 0 0)∧w'.cell? ⟨w.heap.size,2,none⟩=some (.int .i64 ((⟨n,d⟩:Nm.Fr)).d)∧w'.cell? ⟨w.heap.size,3,none⟩=some (.slice none 0 0))) (by kernel_rfl) ?kQ (fun hHeld=>?_)
    case kQ=>exact ⟨((hB1.drew).aj rfl).cell (j:=0) rfl,((hB1.drew).aj rfl).cell (j:=1) rfl,((hB1.drew).aj rfl).cell (j:=2) rfl,((hB1.drew).aj rfl).cell (j:=3) rfl⟩
    refine tk 0 ?_;refine tk 1 ?_;refine tk 4 ?_;refine tk 5 ?_;refine tr 2 fun K hK=>?_;go_simp
    (go_at_call 107;refine (Nr.out _ (hg.below hB1.drew.bw)).mono ?_;rintro e w2 ⟨rfl,hb2⟩)
    have hB2:=hB1.drew.call (by simp) hb2;refine hK.out _ _ ?aeJ (fun hHeld=>?_)
    case aeJ=>(exact ⟨((hB2).aj rfl).cell (j:=0) rfl,((hB2).aj rfl).cell (j:=1) rfl,((hB2).aj rfl).cell (j:=2) rfl,((hB2).aj rfl).cell (j:=3) rfl⟩)
    clear hK K
    try simp only [Act.put,la,lz,ls]
    refine tk 3 ?_;refine tr 6 fun K hK=>?_;go_simp
    (go_at_call 107;refine (HS2.out _ (hg.below hB2.bw)).mono ?_;rintro e w3 ⟨rfl,hb3⟩)
    have hB3:=hB2.call (by simp) hb3;refine hK.out _ _ ?aeX (fun hHeld=>?_)
    case aeX=>(exact ⟨((hB3).aj rfl).cell (j:=0) rfl,((hB3).aj rfl).cell (j:=1) rfl,((hB3).aj rfl).cell (j:=2) rfl,((hB3).aj rfl).cell (j:=3) rfl⟩)
    clear hK K
    try simp only [Act.put,la,lz,ls]
    refine tk 7 ?_;refine tk 8 ?_;refine wpAnyH_done (by kernel_rfl) ?_ _;go_wp2;go_ret;exact ⟨rfl,hB3.bw⟩
end Go.Proofs.YtcbmedfongiojaaGreatDoor
