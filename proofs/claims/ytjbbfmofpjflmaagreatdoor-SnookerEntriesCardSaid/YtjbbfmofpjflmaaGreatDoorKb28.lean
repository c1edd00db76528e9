/- Parts of a proof. -/
import Derived.Test.YtjbbfmofpjflmaaGreatDoorKb13
import Derived.Test.YtjbbfmofpjflmaaGreatDoorKb27
set_option maxHeartbeats 800000
set_option maxRecDepth 100000
set_option linter.unusedVariables false
set_option linter.unusedSimpArgs false
namespace Go.Proofs.YtjbbfmofpjflmaaGreatDoor
open Go.RowKit
theorem bitLen_le (x:Nat):Lib.bitLen x≤64:=by
 have h:∀ f y:Nat,Lib.bitLenAux f y≤f:=by
  intro f
  induction f with
  | zero=>intro y;simp [Lib.bitLenAux]
  | succ f ih=>
    intro y
    unfold Lib.bitLenAux
    split
    · omega
    · have:=ih (y / 2);omega
 exact h _ _
theorem Jt (w:World):Calls Tryz.prog 205 #[nP 0] w fun e w'=>e= .returned (.tuple #[.bool false,.slice none 0 0])∧Below w.heap.size w w':=by
 have hn:=RP
 go_enter Tryz.func205,Tryz.ntmps205
 go_wp2;go_ret2;exact ⟨rfl,((aJ.nil w).new (by simp) (aQ 0) _).bw⟩
theorem Md (a:Int) (w:World) (h0: -9223372036854775807≤a) (h1:a≤9223372036854775807) (ha:a≠0):
 Calls Tryz.prog 205 #[nP a] w fun e w'=>∃ g,e= .returned (.tuple #[.bool (decide (a<0)),.slice (some ⟨g,0,none⟩) 1 1])∧w'.cell? ⟨g,0,none⟩=some (.int .u64 (sz a))∧Below w.heap.size w w':=by
 have hn:=RP
 have ha':(a == 0)=false:=by simp [ha]
 go_enter Tryz.func205,Tryz.ntmps205
 go_upto_region 0 with (fail)
 go_cut [1] (fun v1 wx=>v1=ptr w.heap.size∧aJ w wx [(aQ a,162)])
 case first=>
  go_wp2;go_meet;exact ⟨rfl,((aJ.nil w).new (by simp) (aQ a) _)⟩
 case rest=>
  obtain ⟨rfl,hB⟩:=hcut;have Dh:=(hB.aA rfl).cell (j:=0) rfl;have qP:=(hB.aA rfl).frozen 0;have ka1:=(hB.aA rfl).cell (j:=1) rfl;have qQ:=(hB.aA rfl).frozen 1
  go_upto_region 5 with (fail)
  refine wp_region_held_drew (S:=(fun w':World=>w'.cell? ⟨w.heap.size,0,none⟩=some (.int .i64 a)∧w'.cell? ⟨w.heap.size,1,none⟩=some (.slice none 0 0))) (by kernel_rfl) ?oP (fun hHeld=>?_)
  case oP=>exact ⟨(hB.drew.aA rfl).cell (j:=0) rfl,(hB.drew.aA rfl).cell (j:=1) rfl⟩
  refine tk 0 ?_;refine tk 1 ?_;refine tk 2 ?_;refine tk 3 ?_;refine tk 4 ?_;refine tr 5 fun K hK=>?_;go_simp
  (go_at_call 230;refine (EN a _ h0 h1).mono ?_;rintro e w1 ⟨rfl,rfl⟩)
  have hB1:=hB.drew;refine hK.out _ _ ?adi (fun hHeld=>?_)
  case adi=>(exact ⟨(hB1.aA rfl).cell (j:=0) rfl,(hB1.aA rfl).cell (j:=1) rfl⟩)
  clear hK K
  try simp only [Act.put,la,lz,ls]
  refine tk 7 ?_;refine tr 6 fun K hK=>?_;go_simp;refine hK.out _ _ ?adr (fun hHeld=>?_)
  case adr=>(exact ⟨((hB1.alloc (by simp) _).aA rfl).cell (j:=0) rfl,((hB1.alloc (by simp) _).aA rfl).cell (j:=1) rfl⟩)
  clear hK K
  try simp only [Act.put,la,lz,ls]
  refine tk 8 ?_;refine wpAnyH_done (by kernel_rfl) ?_ _;go_wp2;go_ret2;exact ⟨wc.heap.size,rfl,(Held.new wc [.int .u64 (sz a)] _).cell (j:=0) rfl,(hB.alloc (by simp) _).bw.drew⟩
theorem NG (a:Int) (w:World) (h0: -9223372036854775807≤a) (h1:a≤9223372036854775807):
 Calls Tryz.prog 204 #[nP a] w fun e w'=>∃ k:Int,e= .returned (.int .i64 k)∧(0≤k∧k≤64)∧Below w.heap.size w w':=by
 by_cases ha:a=0
 · subst ha
   go_enter Tryz.func204,Tryz.ntmps204
   go_upto_region 0 with (fail)
   go_cut [1] (fun v1 wx=>v1=ptr w.heap.size∧aJ w wx [(aQ 0,162)])
   case first=>
    go_wp2;go_meet;exact ⟨rfl,((aJ.nil w).new (by simp) (aQ 0) _)⟩
   case rest=>
    obtain ⟨rfl,hB⟩:=hcut
    go_wp2_with (first | (go_at_call 205;refine (Jt _).mono ?_;rintro e w1 ⟨rfl,hb1⟩;have hB1:=hB.call (by simp) hb1) | (refine ah 162 (.tmp 1) rfl ?_;refine au (hB.aA rfl) Tryz.underlying162 rfl bV rfl (.tmp 1) rfl rfl ?_))
    go_ret;exact ⟨0,rfl,by omega,hB1.bw⟩
 · obtain ⟨s0,s1⟩:=RD h0 h1
   have HB:=bitLen_le (sz a).toNat;have HL:=fun W=>Tryz.bits_Len64 (sz a) W s0 (by omega);obtain ⟨k,hk⟩:∃ k:Nat,Lib.bitLen (sz a).toNat=k:=⟨_,rfl⟩;rw [hk] at HB
   simp only [hk] at HL
   clear hk;have HL:=hide HL
   go_enter Tryz.func204,Tryz.ntmps204
   go_upto_region 0 with (fail)
   go_cut [1] (fun v1 wx=>v1=ptr w.heap.size∧aJ w wx [(aQ a,162)])
   case first=>
    go_wp2;go_meet;exact ⟨rfl,((aJ.nil w).new (by simp) (aQ a) _)⟩
   case rest=>
    obtain ⟨rfl,hB⟩:=hcut
    go_wp2_with (first | (go_at_call 205;refine (Md a _ h0 h1 ha).mono ?_;rintro e w1 ⟨g,rfl,hc1,hb1⟩;have hB1:=hB.call (by simp) hb1) | (go_at_call 237;refine (HL.out _).mono ?_;rintro e w2 ⟨rfl,rfl⟩) | (refine ah 162 (.tmp 1) rfl ?_;refine au (hB.aA rfl) Tryz.underlying162 rfl bV rfl (.tmp 1) rfl rfl ?_))
    go_ret;exact ⟨k,bf (by omega),by omega,hB1.bw⟩
theorem Gg (a:Int) (w:World) (h0: -9223372036854775807≤a) (h1:a≤9223372036854775807):
 Calls Tryz.prog 165 #[nP a] w fun e w'=>e= .returned (.bool false)∧Below w.heap.size w w':=by
 go_enter Tryz.func165,Tryz.ntmps165
 go_upto_region 0 with (fail)
 go_cut [1] (fun v1 wx=>v1=ptr w.heap.size∧aJ w wx [(aQ a,162)])
 case first=>
  go_wp2;go_meet;exact ⟨rfl,((aJ.nil w).new (by simp) (aQ a) _)⟩
 case rest=>
  obtain ⟨rfl,hB⟩:=hcut
  go_wp2_with (first | (go_at_call 204;refine (NG a _ h0 h1).mono ?_;rintro e w1 ⟨k,rfl,⟨hk0,hk1⟩,hb1⟩;have hk2:decide (1800<k)=false:=decide_eq_false (by omega);have hB1:=hB.call (by simp) hb1) | (refine ah 162 (.tmp 1) rfl ?_;refine au (hB.aA rfl) Tryz.underlying162 rfl bV rfl (.tmp 1) rfl rfl ?_))
  go_ret;exact ⟨rfl,hB1.bw⟩
theorem Dj (a:Nm.Fr) (w:World) (ha:Nm.ok a=true):Calls Tryz.prog 106 #[fQ a] w fun e w'=>e= .returned (.bool false)∧Below w.heap.size w w':=by
 obtain ⟨⟨a0,a1⟩,a2,a3⟩:=kG.1 ha;obtain ⟨n,d⟩:=a
 dsimp only at a0 a1 a2 a3
 go_enter Tryz.func106,Tryz.ntmps106
 go_upto_region 0 with (fail)
 go_cut [1] (fun v1 wx=>v1=ptr w.heap.size∧aJ w wx [(aj ⟨n,d⟩,164)])
 case first=>
  go_wp2;go_meet;exact ⟨rfl,((aJ.nil w).new (by simp) (aj ⟨n,d⟩) _)⟩
 case rest=>
  obtain ⟨rfl,hB⟩:=hcut;have Dh:=(hB.aA rfl).cell (j:=0) rfl;have qP:=(hB.aA rfl).frozen 0;have ka1:=(hB.aA rfl).cell (j:=1) rfl;have qQ:=(hB.aA rfl).frozen 1;have Xt:=(hB.aA rfl).cell (j:=2) rfl;have Jc:=(hB.aA rfl).frozen 2;have Xu:=(hB.aA rfl).cell (j:=3) rfl;have Jd:=(hB.aA rfl).frozen 3;have tok:=hide True.intro
  go_wp2_with (first | (clear tok;go_at_call 165;refine (Gg n _ (by omega) (by omega)).mono ?_;rintro e w1 ⟨rfl,hb1⟩;have hB1:=hB.call (by simp) hb1;have kx0:=(hB1.aA rfl).cell (j:=0) rfl;have O8:=(hB1.aA rfl).frozen 0;have Uw:=(hB1.aA rfl).cell (j:=1) rfl;have O9:=(hB1.aA rfl).frozen 1;have kx2:=(hB1.aA rfl).cell (j:=2) rfl;have alb:=(hB1.aA rfl).frozen 2;have kx3:=(hB1.aA rfl).cell (j:=3) rfl;have ali:=(hB1.aA rfl).frozen 3) | (go_at_call 165;refine (Gg d _ (by omega) (by omega)).mono ?_;rintro e w2 ⟨rfl,hb2⟩;have hB2:=hB1.call (by simp) hb2))
  go_ret;exact ⟨rfl,hB2.bw⟩
theorem FV (a:Int) (w:World) (hg:Glob w) (h0: -9223372036854775807≤a) (h1:a≤9223372036854775807):
 Calls Tryz.prog 167 #[nP a] w fun e w'=>e= .returned (.string ⟨(Lib.itoa a).toArray⟩)∧Below w.heap.size w w':=by
 have hn:=uJ;obtain ⟨s,hs⟩:∃ s:ByteArray,⟨(Lib.itoa a).toArray⟩=s:=⟨_,rfl⟩
 have HI:∀ W,Glob W→Calls Tryz.prog 77 #[.int .i64 a] W fun e w'=>e= .returned (.string s)∧∃ k os,w'=Go.Sort.grow (W.drewN k) os:=fun W h=>by
  have:=Tryz.strconv_Itoa a (by omega) (by omega) W h.tab
  rwa [hs] at this
 rw [hs];clear hs;have HI:=hide HI
 go_enter Tryz.func167,Tryz.ntmps167
 go_upto_region 0 with (fail)
 go_cut [1] (fun v1 wx=>v1=ptr w.heap.size∧aJ w wx [(aQ a,162)])
 case first=>
  go_wp2;go_meet;exact ⟨rfl,((aJ.nil w).new (by simp) (aQ a) _)⟩
 case rest=>
  obtain ⟨rfl,hB⟩:=hcut;have Dh:=(hB.aA rfl).cell (j:=0) rfl;have qP:=(hB.aA rfl).frozen 0;have ka1:=(hB.aA rfl).cell (j:=1) rfl;have qQ:=(hB.aA rfl).frozen 1
  go_wp2_with (go_at_call 77;refine (HI.out _ (hg.below hB.bw)).mono ?_;rintro e w1 ⟨rfl,hw1⟩;have hB1:=hB.call (by simp) (Aa hw1))
  go_ret;exact ⟨rfl,hB1.bw⟩
def Nm.text (a:Nm.Fr):List UInt8:=if a.d=1 then Lib.itoa a.n else Lib.itoa a.n++47::Lib.itoa a.d
theorem wR:∀ (k n:Nat),n<10 ^ (k+1)→(Lib.decDigits n).length≤k+1
 | 0,n,h=>by rw [Lib.decDigits,dif_pos (by omega)];simp
 | k+1,n,h=>by
   rw [Lib.decDigits]
   split
   · simp
   · have:=wR k (n / 10) (by rw [Nat.pow_succ] at h;omega)
     simp;omega
theorem ny {n:Int} (h0: -1000000000≤n) (h1:n≤1000000000):(Lib.itoa n).length≤11:=by
 unfold Lib.itoa
 have:=wR 9 n.natAbs (by omega)
 split
 · simp;first | omega | (have e:(-n).toNat=n.natAbs:=by omega);(try rw [e]);omega
 · first | omega | (have e:n.toNat=n.natAbs:=by omega);(try rw [e]);omega
theorem G7 (a:Nm.Fr) (w:World) (hg:Glob w) (ha:Nm.ok a=true):
 Calls Tryz.prog 107 #[fQ a] w fun e w'=>e= .returned (.string ⟨(Nm.text a).toArray⟩)∧Below w.heap.size w w':=by
 obtain ⟨⟨a0,a1⟩,a2,a3⟩:=kG.1 ha;obtain ⟨n,d⟩:=a
 dsimp only at a0 a1 a2 a3
 have Ho:∀ W,Glob W→Calls Tryz.prog 167 #[nP n] W fun e w'=>e= .returned (.string ⟨(Lib.itoa n).toArray⟩)∧Below W.heap.size W w':=fun W h=>FV n W h (by omega) (by omega);have HS2:∀ W,Glob W→Calls Tryz.prog 167 #[nP d] W fun e w'=>e= .returned (.string ⟨(Lib.itoa d).toArray⟩)∧Below W.heap.size W w':=fun W h=>FV d W h (by omega) (by omega);have L1:=ny (n:=n) (by omega) (by omega);have L2:=ny (n:=d) (by omega) (by omega);have Z1:=jC (Lib.itoa n);have Z2:=jC (Lib.itoa d)
 unfold Nm.text
 by_cases hd:d=1
 · subst hd
   rw [if_pos rfl];obtain ⟨s,hs⟩:∃ s:ByteArray,⟨(Lib.itoa n).toArray⟩=s:=⟨_,rfl⟩
   simp only [hs] at Ho ⊢
   clear hs HS2 Z1 Z2 L1 L2;have Ho:=hide Ho
   go_enter Tryz.func107,Tryz.ntmps107
   go_upto_region 0 with (fail)
   go_cut [1] (fun v1 wx=>v1=ptr w.heap.size∧aJ w wx [(aj ⟨n,1⟩,164)])
   case first=>
    go_wp2;go_meet;exact ⟨rfl,((aJ.nil w).new (by simp) (aj ⟨n,1⟩) _)⟩
   case rest=>
    obtain ⟨rfl,hB⟩:=hcut
    go_wp2_with (first | (go_at_call 166;refine (pR n _).mono ?_;rintro e w1 ⟨rfl,hb1⟩;have hB1:=hB.call (by simp) hb1;have kx0:=(hB1.aA rfl).cell (j:=0) rfl;have O8:=(hB1.aA rfl).frozen 0;have Uw:=(hB1.aA rfl).cell (j:=1) rfl;have O9:=(hB1.aA rfl).frozen 1;have kx2:=(hB1.aA rfl).cell (j:=2) rfl;have alb:=(hB1.aA rfl).frozen 2;have kx3:=(hB1.aA rfl).cell (j:=3) rfl;have ali:=(hB1.aA rfl).frozen 3) | (go_at_call 167;refine (Ho.out _ (hg.below hB1.bw)).mono ?_;rintro e w2 ⟨rfl,hb2⟩;have hB2:=hB1.call (by simp) hb2) | (refine ah 164 (.tmp 1) rfl ?_;refine au (hB.aA rfl) Tryz.underlying164 rfl aZ rfl (.tmp 1) rfl rfl ?_))
    go_ret;exact ⟨rfl,hB2.bw⟩
 · rw [if_neg hd]
   have HE:(⟨(Lib.itoa n).toArray⟩++⟨#[47]⟩++⟨(Lib.itoa d).toArray⟩:ByteArray)=⟨(Lib.itoa n++47::Lib.itoa d).toArray⟩:=by
    have e1:(⟨#[47]⟩:ByteArray)=⟨[47].toArray⟩:=rfl;rw [e1,sV,sV];simp
   obtain ⟨E,hE⟩:∃ E:ByteArray,(⟨(Lib.itoa n++47::Lib.itoa d).toArray⟩:ByteArray)=E:=⟨_,rfl⟩;rw [hE] at HE ⊢;clear hE;obtain ⟨s1,hs1⟩:∃ s:ByteArray,⟨(Lib.itoa n).toArray⟩=s:=⟨_,rfl⟩;obtain ⟨s2,hs2⟩:∃ s:ByteArray,⟨(Lib.itoa d).toArray⟩=s:=⟨_,rfl⟩
   simp only [hs1] at Ho HE Z1
   simp only [hs2] at HS2 HE Z2
   clear hs1 hs2
   have z1:s1.size≤11:=by omega
   have z2:s2.size≤11:=by omega
   clear Z1 Z2 L1 L2
   have f1:¬ 9223372036854775807<s1.size+1:=by omega
   have f2:¬ 9223372036854775807<s1.size+1+s2.size:=by omega
   have HE:=hide HE;have Ho:=hide Ho;have HS2:=hide HS2
   go_enter Tryz.func107,Tryz.ntmps107
   go_upto_region 0 with (fail)
   go_cut [1] (fun v1 wx=>v1=ptr w.heap.size∧aJ w wx [(aj ⟨n,d⟩,164)])
   case first=>
    go_wp2;go_meet;exact ⟨rfl,((aJ.nil w).new (by simp) (aj ⟨n,d⟩) _)⟩
   case rest=>
    obtain ⟨rfl,hB⟩:=hcut
    go_upto_region 3 with (first | (go_at_call 166;refine (tV n d hd _).mono ?_;rintro e w1 ⟨rfl,hb1⟩;have hB1:=hB.call (by simp) hb1) | (refine ah 164 (.tmp 1) rfl ?_;refine au (hB.aA rfl) Tryz.underlying164 rfl aZ rfl (.tmp 1) rfl rfl ?_))
    refine wp_region_held_drew (S:=(fun w':World=>w'.cell? ⟨w.heap.size,0,none⟩=some (.int .i64 ((⟨n,d⟩:Nm.Fr)).n)∧w'.cell? ⟨w.heap.size,1,none⟩=some (.slice none 0 0)∧w'.cell? ⟨w.heap.size,2,none⟩=some (.int .i64 ((⟨n,d⟩:Nm.Fr)).d)∧w'.cell? ⟨w.heap.size,3,none⟩=some (.slice none 0 0))) (by kernel_rfl) ?oQ (fun hHeld=>?_)
    case oQ=>exact ⟨((hB1.drew).aA rfl).cell (j:=0) rfl,((hB1.drew).aA rfl).cell (j:=1) rfl,((hB1.drew).aA rfl).cell (j:=2) rfl,((hB1.drew).aA rfl).cell (j:=3) rfl⟩
    refine tk 0 ?_;refine tk 1 ?_;refine tk 4 ?_;refine tk 5 ?_;refine tr 2 fun K hK=>?_;go_simp
    (go_at_call 167;refine (Ho.out _ (hg.below hB1.drew.bw)).mono ?_;rintro e w2 ⟨rfl,hb2⟩)
    have hB2:=hB1.drew.call (by simp) hb2;refine hK.out _ _ ?ady (fun hHeld=>?_)
    case ady=>(exact ⟨((hB2).aA rfl).cell (j:=0) rfl,((hB2).aA rfl).cell (j:=1) rfl,((hB2).aA rfl).cell (j:=2) rfl,((hB2).aA rfl).cell (j:=3) rfl⟩)
    clear hK K
    try simp only [Act.put,la,lz,ls]
    refine tk 3 ?_;refine tr 6 fun K hK=>?_;go_simp
    (go_at_call 167;refine (HS2.out _ (hg.below hB2.bw)).mono ?_;rintro e w3 ⟨rfl,hb3⟩)
    have hB3:=hB2.call (by simp) hb3;refine hK.out _ _ ?adH (fun hHeld=>?_)
    case adH=>(exact ⟨((hB3).aA rfl).cell (j:=0) rfl,((hB3).aA rfl).cell (j:=1) rfl,((hB3).aA rfl).cell (j:=2) rfl,((hB3).aA rfl).cell (j:=3) rfl⟩)
    clear hK K
    try simp only [Act.put,la,lz,ls]
    refine tk 7 ?_;refine tk 8 ?_;refine wpAnyH_done (by kernel_rfl) ?_ _;go_wp2;go_ret;exact ⟨rfl,hB3.bw⟩
end Go.Proofs.YtjbbfmofpjflmaaGreatDoor
