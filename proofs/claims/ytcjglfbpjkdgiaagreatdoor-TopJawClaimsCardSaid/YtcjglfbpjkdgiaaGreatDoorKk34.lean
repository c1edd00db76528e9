/- Parts of a proof. -/
import Derived.Test.YtcjglfbpjkdgiaaGreatDoorKk14
import Derived.Test.YtcjglfbpjkdgiaaGreatDoorKk33
set_option maxHeartbeats 800000
set_option maxRecDepth 100000
set_option linter.unusedVariables false
set_option linter.unusedSimpArgs false
namespace Go.Proofs.YtcjglfbpjkdgiaaGreatDoor
open Go.RowKit
theorem bitLen_le (x:Nat):Lib.bitLen x≤64:=by
 have h:∀ f y:Nat,Lib.bitLenAux f y≤f:=by
  intro f
  induction f with
  | zero=>intro y;simp [Lib.bitLenAux]
  | succ f ih=>
    intro y
    unfold Lib.bitLenAux
    split
    · omega
    · have:=ih (y / 2);omega
 exact h _ _
theorem Ny (w:World):Calls Tryz.prog 209 #[pR 0] w fun e w'=>e= .returned (.tuple #[.bool false,.slice none 0 0])∧Below w.heap.size w w':=by
 have hn:=WX
 go_enter Tryz.func209,Tryz.ntmps209
 go_wp2;go_ret2;exact ⟨rfl,((aX.nil w).new (by simp) (aK 0) _).bw⟩
theorem Qy (a:Int) (w:World) (h0: -9223372036854775807≤a) (h1:a≤9223372036854775807) (ha:a≠0):
 Calls Tryz.prog 209 #[pR a] w fun e w'=>∃ g,e= .returned (.tuple #[.bool (decide (a<0)),.slice (some ⟨g,0,none⟩) 1 1])∧w'.cell? ⟨g,0,none⟩=some (.int .u64 (sz a))∧Below w.heap.size w w':=by
 have hn:=WX
 have ha':(a == 0)=false:=by simp [ha]
 go_enter Tryz.func209,Tryz.ntmps209
 go_upto_region 0 with (fail)
 go_cut [1] (fun v1 wx=>v1=ptr w.heap.size∧aX w wx [(aK a,126)])
 case first=>
  go_wp2;go_meet;exact ⟨rfl,((aX.nil w).new (by simp) (aK a) _)⟩
 case rest=>
  obtain ⟨rfl,hB⟩:=hcut;have xI:=(hB.ah rfl).cell (j:=0) rfl;have lJ:=(hB.ah rfl).frozen 0;have ka1:=(hB.ah rfl).cell (j:=1) rfl;have lK:=(hB.ah rfl).frozen 1
  go_upto_region 5 with (fail)
  refine wp_region_held_drew (S:=(fun w':World=>w'.cell? ⟨w.heap.size,0,none⟩=some (.int .i64 a)∧w'.cell? ⟨w.heap.size,1,none⟩=some (.slice none 0 0))) (by kernel_rfl) ?jY (fun hHeld=>?_)
  case jY=>exact ⟨(hB.drew.ah rfl).cell (j:=0) rfl,(hB.drew.ah rfl).cell (j:=1) rfl⟩
  refine tk 0 ?_;refine tk 1 ?_;refine tk 2 ?_;refine tk 3 ?_;refine tk 4 ?_;refine tr 5 fun K hK=>?_;go_simp
  (go_at_call 216;refine (Hg a _ h0 h1).mono ?_;rintro e w1 ⟨rfl,rfl⟩)
  have hB1:=hB.drew;refine hK.out _ _ ?apn (fun hHeld=>?_)
  case apn=>(exact ⟨(hB1.ah rfl).cell (j:=0) rfl,(hB1.ah rfl).cell (j:=1) rfl⟩)
  clear hK K
  try simp only [Act.put,la,lz,ls]
  refine tk 7 ?_;refine tr 6 fun K hK=>?_;go_simp;refine hK.out _ _ ?V7 (fun hHeld=>?_)
  case V7=>(exact ⟨((hB1.alloc (by simp) _).ah rfl).cell (j:=0) rfl,((hB1.alloc (by simp) _).ah rfl).cell (j:=1) rfl⟩)
  clear hK K
  try simp only [Act.put,la,lz,ls]
  refine tk 8 ?_;refine wpAnyH_done (by kernel_rfl) ?_ _;go_wp2;go_ret2;exact ⟨wc.heap.size,rfl,(Held.new wc [.int .u64 (sz a)] _).cell (j:=0) rfl,(hB.alloc (by simp) _).bw.drew⟩
theorem SV (a:Int) (w:World) (h0: -9223372036854775807≤a) (h1:a≤9223372036854775807):
 Calls Tryz.prog 219 #[pR a] w fun e w'=>∃ k:Int,e= .returned (.int .i64 k)∧(0≤k∧k≤64)∧Below w.heap.size w w':=by
 by_cases ha:a=0
 · subst ha
   go_enter Tryz.func219,Tryz.ntmps219
   go_upto_region 0 with (fail)
   go_cut [1] (fun v1 wx=>v1=ptr w.heap.size∧aX w wx [(aK 0,126)])
   case first=>
    go_wp2;go_meet;exact ⟨rfl,((aX.nil w).new (by simp) (aK 0) _)⟩
   case rest=>
    obtain ⟨rfl,hB⟩:=hcut
    go_wp2_with (first | (go_at_call 209;refine (Ny _).mono ?_;rintro e w1 ⟨rfl,hb1⟩;have hB1:=hB.call (by simp) hb1) | (refine aB 126 (.tmp 1) rfl ?_;refine ak (hB.ah rfl) Tryz.underlying126 rfl bJ rfl (.tmp 1) rfl rfl ?_))
    go_ret;exact ⟨0,rfl,by omega,hB1.bw⟩
 · obtain ⟨s0,s1⟩:=WT h0 h1
   have HB:=bitLen_le (sz a).toNat;have HL:=fun W=>Tryz.bits_Len64 (sz a) W s0 (by omega);obtain ⟨k,hk⟩:∃ k:Nat,Lib.bitLen (sz a).toNat=k:=⟨_,rfl⟩;rw [hk] at HB
   simp only [hk] at HL
   clear hk;have HL:=hide HL
   go_enter Tryz.func219,Tryz.ntmps219
   go_upto_region 0 with (fail)
   go_cut [1] (fun v1 wx=>v1=ptr w.heap.size∧aX w wx [(aK a,126)])
   case first=>
    go_wp2;go_meet;exact ⟨rfl,((aX.nil w).new (by simp) (aK a) _)⟩
   case rest=>
    obtain ⟨rfl,hB⟩:=hcut
    go_wp2_with (first | (go_at_call 209;refine (Qy a _ h0 h1 ha).mono ?_;rintro e w1 ⟨g,rfl,hc1,hb1⟩;have hB1:=hB.call (by simp) hb1) | (go_at_call 224;refine (HL.out _).mono ?_;rintro e w2 ⟨rfl,rfl⟩) | (refine aB 126 (.tmp 1) rfl ?_;refine ak (hB.ah rfl) Tryz.underlying126 rfl bJ rfl (.tmp 1) rfl rfl ?_))
    go_ret;exact ⟨k,dw (by omega),by omega,hB1.bw⟩
theorem Jc (a:Int) (w:World) (h0: -9223372036854775807≤a) (h1:a≤9223372036854775807):
 Calls Tryz.prog 180 #[pR a] w fun e w'=>e= .returned (.bool false)∧Below w.heap.size w w':=by
 go_enter Tryz.func180,Tryz.ntmps180
 go_upto_region 0 with (fail)
 go_cut [1] (fun v1 wx=>v1=ptr w.heap.size∧aX w wx [(aK a,126)])
 case first=>
  go_wp2;go_meet;exact ⟨rfl,((aX.nil w).new (by simp) (aK a) _)⟩
 case rest=>
  obtain ⟨rfl,hB⟩:=hcut
  go_wp2_with (first | (go_at_call 219;refine (SV a _ h0 h1).mono ?_;rintro e w1 ⟨k,rfl,⟨hk0,hk1⟩,hb1⟩;have hk2:decide (1800<k)=false:=decide_eq_false (by omega);have hB1:=hB.call (by simp) hb1) | (refine aB 126 (.tmp 1) rfl ?_;refine ak (hB.ah rfl) Tryz.underlying126 rfl bJ rfl (.tmp 1) rfl rfl ?_))
  go_ret;exact ⟨rfl,hB1.bw⟩
theorem EL (a:Nm.Fr) (w:World) (ha:Nm.ok a=true):Calls Tryz.prog 132 #[iI a] w fun e w'=>e= .returned (.bool false)∧Below w.heap.size w w':=by
 obtain ⟨⟨a0,a1⟩,a2,a3⟩:=tJ.1 ha;obtain ⟨n,d⟩:=a
 dsimp only at a0 a1 a2 a3
 go_enter Tryz.func132,Tryz.ntmps132
 go_upto_region 0 with (fail)
 go_cut [1] (fun v1 wx=>v1=ptr w.heap.size∧aX w wx [(aU ⟨n,d⟩,128)])
 case first=>
  go_wp2;go_meet;exact ⟨rfl,((aX.nil w).new (by simp) (aU ⟨n,d⟩) _)⟩
 case rest=>
  obtain ⟨rfl,hB⟩:=hcut;have xI:=(hB.ah rfl).cell (j:=0) rfl;have lJ:=(hB.ah rfl).frozen 0;have ka1:=(hB.ah rfl).cell (j:=1) rfl;have lK:=(hB.ah rfl).frozen 1;have RI:=(hB.ah rfl).cell (j:=2) rfl;have AA:=(hB.ah rfl).frozen 2;have RN:=(hB.ah rfl).cell (j:=3) rfl;have AB:=(hB.ah rfl).frozen 3;have tok:=hide True.intro
  go_wp2_with (first | (clear tok;go_at_call 180;refine (Jc n _ (by omega) (by omega)).mono ?_;rintro e w1 ⟨rfl,hb1⟩;have hB1:=hB.call (by simp) hb1;have RP:=(hB1.ah rfl).cell (j:=0) rfl;have MX:=(hB1.ah rfl).frozen 0;have RQ:=(hB1.ah rfl).cell (j:=1) rfl;have MZ:=(hB1.ah rfl).frozen 1;have kx2:=(hB1.ah rfl).cell (j:=2) rfl;have abn:=(hB1.ah rfl).frozen 2;have kx3:=(hB1.ah rfl).cell (j:=3) rfl;have abv:=(hB1.ah rfl).frozen 3) | (go_at_call 180;refine (Jc d _ (by omega) (by omega)).mono ?_;rintro e w2 ⟨rfl,hb2⟩;have hB2:=hB1.call (by simp) hb2))
  go_ret;exact ⟨rfl,hB2.bw⟩
theorem II (a:Int) (w:World) (hg:Glob w) (h0: -9223372036854775807≤a) (h1:a≤9223372036854775807):
 Calls Tryz.prog 181 #[pR a] w fun e w'=>e= .returned (.string ⟨(Lib.itoa a).toArray⟩)∧Below w.heap.size w w':=by
 have hn:=wX;obtain ⟨s,hs⟩:∃ s:ByteArray,⟨(Lib.itoa a).toArray⟩=s:=⟨_,rfl⟩
 have HI:∀ W,Glob W→Calls Tryz.prog 43 #[.int .i64 a] W fun e w'=>e= .returned (.string s)∧∃ k os,w'=Go.Sort.grow (W.drewN k) os:=fun W h=>by
  have:=Tryz.strconv_Itoa a (by omega) (by omega) W h.tab
  rwa [hs] at this
 rw [hs];clear hs;have HI:=hide HI
 go_enter Tryz.func181,Tryz.ntmps181
 go_upto_region 0 with (fail)
 go_cut [1] (fun v1 wx=>v1=ptr w.heap.size∧aX w wx [(aK a,126)])
 case first=>
  go_wp2;go_meet;exact ⟨rfl,((aX.nil w).new (by simp) (aK a) _)⟩
 case rest=>
  obtain ⟨rfl,hB⟩:=hcut;have xI:=(hB.ah rfl).cell (j:=0) rfl;have lJ:=(hB.ah rfl).frozen 0;have ka1:=(hB.ah rfl).cell (j:=1) rfl;have lK:=(hB.ah rfl).frozen 1
  go_wp2_with (go_at_call 43;refine (HI.out _ (hg.below hB.bw)).mono ?_;rintro e w1 ⟨rfl,hw1⟩;have hB1:=hB.call (by simp) (qy hw1))
  go_ret;exact ⟨rfl,hB1.bw⟩
def Nm.text (a:Nm.Fr):List UInt8:=if a.d=1 then Lib.itoa a.n else Lib.itoa a.n++47::Lib.itoa a.d
theorem xw:∀ (k n:Nat),n<10 ^ (k+1)→(Lib.decDigits n).length≤k+1
 | 0,n,h=>by rw [Lib.decDigits,dif_pos (by omega)];simp
 | k+1,n,h=>by
   rw [Lib.decDigits]
   split
   · simp
   · have:=xw k (n / 10) (by rw [Nat.pow_succ] at h;omega)
     simp;omega
theorem OJ {n:Int} (h0: -1000000000≤n) (h1:n≤1000000000):(Lib.itoa n).length≤11:=by
 unfold Lib.itoa
 have:=xw 9 n.natAbs (by omega)
 split
 · simp;first | omega | (have e:(-n).toNat=n.natAbs:=by omega);(try rw [e]);omega
 · first | omega | (have e:n.toNat=n.natAbs:=by omega);(try rw [e]);omega
theorem KJ (a:Nm.Fr) (w:World) (hg:Glob w) (ha:Nm.ok a=true):
 Calls Tryz.prog 133 #[iI a] w fun e w'=>e= .returned (.string ⟨(Nm.text a).toArray⟩)∧Below w.heap.size w w':=by
 obtain ⟨⟨a0,a1⟩,a2,a3⟩:=tJ.1 ha;obtain ⟨n,d⟩:=a
 dsimp only at a0 a1 a2 a3
 have Sz:∀ W,Glob W→Calls Tryz.prog 181 #[pR n] W fun e w'=>e= .returned (.string ⟨(Lib.itoa n).toArray⟩)∧Below W.heap.size W w':=fun W h=>II n W h (by omega) (by omega);have HS2:∀ W,Glob W→Calls Tryz.prog 181 #[pR d] W fun e w'=>e= .returned (.string ⟨(Lib.itoa d).toArray⟩)∧Below W.heap.size W w':=fun W h=>II d W h (by omega) (by omega);have L1:=OJ (n:=n) (by omega) (by omega);have L2:=OJ (n:=d) (by omega) (by omega);have Z1:=iM (Lib.itoa n);have Z2:=iM (Lib.itoa d)
 unfold Nm.text
 by_cases hd:d=1
 · subst hd
   rw [if_pos rfl];obtain ⟨s,hs⟩:∃ s:ByteArray,⟨(Lib.itoa n).toArray⟩=s:=⟨_,rfl⟩
   simp only [hs] at Sz ⊢
   clear hs HS2 Z1 Z2 L1 L2;have Sz:=hide Sz
   go_enter Tryz.func133,Tryz.ntmps133
   go_upto_region 0 with (fail)
   go_cut [1] (fun v1 wx=>v1=ptr w.heap.size∧aX w wx [(aU ⟨n,1⟩,128)])
   case first=>
    go_wp2;go_meet;exact ⟨rfl,((aX.nil w).new (by simp) (aU ⟨n,1⟩) _)⟩
   case rest=>
    obtain ⟨rfl,hB⟩:=hcut
    go_wp2_with (first | (go_at_call 171;refine (rF n _).mono ?_;rintro e w1 ⟨rfl,hb1⟩;have hB1:=hB.call (by simp) hb1;have RP:=(hB1.ah rfl).cell (j:=0) rfl;have MX:=(hB1.ah rfl).frozen 0;have RQ:=(hB1.ah rfl).cell (j:=1) rfl;have MZ:=(hB1.ah rfl).frozen 1;have kx2:=(hB1.ah rfl).cell (j:=2) rfl;have abn:=(hB1.ah rfl).frozen 2;have kx3:=(hB1.ah rfl).cell (j:=3) rfl;have abv:=(hB1.ah rfl).frozen 3) | (go_at_call 181;refine (Sz.out _ (hg.below hB1.bw)).mono ?_;rintro e w2 ⟨rfl,hb2⟩;have hB2:=hB1.call (by simp) hb2) | (refine aB 128 (.tmp 1) rfl ?_;refine ak (hB.ah rfl) Tryz.underlying128 rfl dP rfl (.tmp 1) rfl rfl ?_))
    go_ret;exact ⟨rfl,hB2.bw⟩
 · rw [if_neg hd]
   have HE:(⟨(Lib.itoa n).toArray⟩++⟨#[47]⟩++⟨(Lib.itoa d).toArray⟩:ByteArray)=⟨(Lib.itoa n++47::Lib.itoa d).toArray⟩:=by
    have e1:(⟨#[47]⟩:ByteArray)=⟨[47].toArray⟩:=rfl;rw [e1,FD,FD];simp
   obtain ⟨E,hE⟩:∃ E:ByteArray,(⟨(Lib.itoa n++47::Lib.itoa d).toArray⟩:ByteArray)=E:=⟨_,rfl⟩;rw [hE] at HE ⊢;clear hE;obtain ⟨s1,hs1⟩:∃ s:ByteArray,⟨(Lib.itoa n).toArray⟩=s:=⟨_,rfl⟩;obtain ⟨s2,hs2⟩:∃ s:ByteArray,⟨(Lib.itoa d).toArray⟩=s:=⟨_,rfl⟩
   simp only [hs1] at Sz HE Z1
   simp only [hs2] at HS2 HE Z2
   clear hs1 hs2
   have z1:s1.size≤11:=by omega
   have z2:s2.size≤11:=by omega
   clear Z1 Z2 L1 L2
   have f1:¬ 9223372036854775807<s1.size+1:=by omega
   have f2:¬ 9223372036854775807<s1.size+1+s2.size:=by omega
   have HE:=hide HE;have Sz:=hide Sz;have HS2:=hide HS2
   go_enter Tryz.func133,Tryz.ntmps133
   go_upto_region 0 with (fail)
   go_cut [1] (fun v1 wx=>v1=ptr w.heap.size∧aX w wx [(aU ⟨n,d⟩,128)])
   case first=>
    go_wp2;go_meet;exact ⟨rfl,((aX.nil w).new (by simp) (aU ⟨n,d⟩) _)⟩
   case rest=>
    obtain ⟨rfl,hB⟩:=hcut
    go_upto_region 3 with (first | (go_at_call 171;refine (uH n d hd _).mono ?_;rintro e w1 ⟨rfl,hb1⟩;have hB1:=hB.call (by simp) hb1) | (refine aB 128 (.tmp 1) rfl ?_;refine ak (hB.ah rfl) Tryz.underlying128 rfl dP rfl (.tmp 1) rfl rfl ?_))
    refine wp_region_held_drew (S:=(fun w':World=>w'.cell? ⟨w.heap.size,0,none⟩=some (.int .i64 ((⟨n,d⟩:Nm.Fr)).n)∧w'.cell? ⟨w.heap.size,1,none⟩=some (.slice none 0 0)∧w'.cell? ⟨w.heap.size,2,none⟩=some (.int .i64 ((⟨n,d⟩:Nm.Fr)).d)∧w'.cell? ⟨w.heap.size,3,none⟩=some (.slice none 0 0))) (by kernel_rfl) ?uP (fun hHeld=>?_)
    case uP=>exact ⟨((hB1.drew).ah rfl).cell (j:=0) rfl,((hB1.drew).ah rfl).cell (j:=1) rfl,((hB1.drew).ah rfl).cell (j:=2) rfl,((hB1.drew).ah rfl).cell (j:=3) rfl⟩
    refine tk 0 ?_;refine tk 1 ?_;refine tk 4 ?_;refine tk 5 ?_;refine tr 2 fun K hK=>?_;go_simp
    (go_at_call 181;refine (Sz.out _ (hg.below hB1.drew.bw)).mono ?_;rintro e w2 ⟨rfl,hb2⟩)
    have hB2:=hB1.drew.call (by simp) hb2;refine hK.out _ _ ?apv (fun hHeld=>?_)
    case apv=>(exact ⟨((hB2).ah rfl).cell (j:=0) rfl,((hB2).ah rfl).cell (j:=1) rfl,((hB2).ah rfl).cell (j:=2) rfl,((hB2).ah rfl).cell (j:=3) rfl⟩)
    clear hK K
    try simp only [Act.put,la,lz,ls]
    refine tk 3 ?_;refine tr 6 fun K hK=>?_;go_simp
    (go_at_call 181;refine (HS2.out _ (hg.below hB2.bw)).mono ?_;rintro e w3 ⟨rfl,hb3⟩)
    have hB3:=hB2.call (by simp) hb3;refine hK.out _ _ ?apJ (fun hHeld=>?_)
    case apJ=>(exact ⟨((hB3).ah rfl).cell (j:=0) rfl,((hB3).ah rfl).cell (j:=1) rfl,((hB3).ah rfl).cell (j:=2) rfl,((hB3).ah rfl).cell (j:=3) rfl⟩)
    clear hK K
    try simp only [Act.put,la,lz,ls]
    refine tk 7 ?_;refine tk 8 ?_;refine wpAnyH_done (by kernel_rfl) ?_ _;go_wp2;go_ret;exact ⟨rfl,hB3.bw⟩
end Go.Proofs.YtcjglfbpjkdgiaaGreatDoor
