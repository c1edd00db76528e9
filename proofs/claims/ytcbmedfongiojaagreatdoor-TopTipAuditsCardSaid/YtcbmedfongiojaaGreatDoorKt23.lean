/- Parts of a proof. -/
import Derived.Test.YtcbmedfongiojaaGreatDoorKt22
import Derived.Test.YtcbmedfongiojaaGreatDoorKt5
set_option maxHeartbeats 4000000
set_option maxRecDepth 100000
set_option linter.unusedVariables false
set_option linter.unusedSimpArgs false
namespace Go.Proofs.YtcbmedfongiojaaGreatDoor
open Go.RowKit
theorem qR {P:Program} {f:FuncId} {args:Array Value} {v:Value} {w:World} {a:Nat} (h:Calls P f args (w.drewN a) fun e w'=>e= .returned v∧w'=w.drewN a):Calls P f args (w.drewN a) fun e w'=>e= .returned v∧∃ n,w'=w.drewN n:=
 h.mono (by rintro e w' ⟨rfl,rfl⟩;exact ⟨rfl,a,rfl⟩)
def sz (n:Int):Int:=(n.natAbs:Int)
theorem Sz {n:Int} (h0: -9223372036854775807≤n) (h1:n≤9223372036854775807):0≤sz n∧sz n≤9223372036854775807:=by unfold sz;omega
theorem Ew (n:Int) (w:World) (h0: -9223372036854775807≤n) (h1:n≤9223372036854775807):
 Calls Tryz.prog 209 #[.int .i64 n] w fun e w'=>e= .returned (.int .u64 (sz n))∧w'=w:=size_any n w h0 h1
theorem F9 (a b z:Int) (h:a*b=z) (h0: -9223372036854775807≤a) (h1:a≤9223372036854775807) (g0: -9223372036854775807≤b) (g1:b≤9223372036854775807) (k0: -9223372036854775807≤z) (k1:z≤9223372036854775807) (w:World):
 Calls Tryz.prog 208 #[.int .u64 (sz a),.int .u64 (sz b)] w fun e w'=>e= .returned (.tuple #[.int .u64 0,.int .u64 (sz z)])∧w'=w:=by
 refine (Tryz.bits_Mul64 a.natAbs b.natAbs (by omega) (by omega) w).mono ?_
 rintro e w' ⟨rfl,rfl⟩
 have hm:a.natAbs*b.natAbs=z.natAbs:=by rw [← h,Int.natAbs_mul]
 rw [hm,Nat.div_eq_of_lt (by omega),Nat.mod_eq_of_lt (by omega)];exact ⟨rfl,rfl⟩
theorem sign_mul {a b z:Int} (h:a*b=z):(!(decide (a<0) == decide (b<0)))=true→z≤0:=by
 intro hd;subst h
 by_cases ha:a<0 <;> by_cases hb:b<0 <;> simp [ha,hb] at hd
 · exact Int.mul_nonpos_of_nonpos_of_nonneg (by omega) (by omega)
 · exact Int.mul_nonpos_of_nonneg_of_nonpos (by omega) (by omega)
theorem MO {a b z:Int} (h:a*b=z):(!(decide (a<0) == decide (b<0)))=false→0≤z:=by
 intro hd;subst h
 by_cases ha:a<0 <;> by_cases hb:b<0 <;> simp [ha,hb] at hd
 · exact Int.mul_nonneg_of_nonpos_of_nonpos (by omega) (by omega)
 · exact Int.mul_nonneg (by omega) (by omega)
theorem jQ (a b:Int) (w:World) (h0: -9223372036854775807≤a) (h1:a≤9223372036854775807) (g0: -9223372036854775807≤b) (g1:b≤9223372036854775807) (k0: -9223372036854775807≤a*b) (k1:a*b≤9223372036854775807):
 Calls Tryz.prog 155 #[nK a,nK b] w fun e w'=>e= .returned (nK (a*b))∧Below w.heap.size w w':=by
 have hn:=sG;obtain ⟨z,hz⟩:∃ z,a*b=z:=⟨_,rfl⟩;have S1:=sign_mul hz;have S2:=MO hz;rw [hz] at k0 k1 ⊢;have hm:=Sz k0 k1
 rcases Bool.eq_false_or_eq_true (!(decide (a<0) == decide (b<0))) with hs | hs
 · have e: -(sz z)=z:=by have:=S1 hs;unfold sz;omega
   clear S1 S2
   go_enter Tryz.func155,Tryz.ntmps155
   go_upto_region 0 with (fail)
   go_cut [2,3,4] (fun v2 v3 v4 wx=>v2=ptr w.heap.size∧v3=ptr (w.heap.size+1)∧v4=ptr (w.heap.size+2)∧aC w wx [(aH a,107),(aH b,107),(aH 0,107)])
   case first=>
    go_wp2;go_meet;exact ⟨rfl,rfl,rfl,((((aC.nil w).new (by simp) (aH a) _).new (by simp) (aH b) _).new (by simp) (aH 0) _)⟩
   case rest=>
    obtain ⟨rfl,rfl,rfl,hB⟩:=hcut;have wE:=(hB.aj rfl).cell (j:=0) rfl;have lX:=(hB.aj rfl).frozen 0;have ka1:=(hB.aj rfl).cell (j:=1) rfl;have lY:=(hB.aj rfl).frozen 1;have ES:=(hB.get 1 rfl).cell (j:=0) rfl;have vJ:=(hB.get 1 rfl).frozen 0;have Lm:=(hB.get 1 rfl).cell (j:=1) rfl;have wW:=(hB.get 1 rfl).frozen 1;have SX:=(hB.get 2 rfl).cell (j:=0) rfl;have BJ:=(hB.get 2 rfl).frozen 0;have SY:=(hB.get 2 rfl).cell (j:=1) rfl;have BK:=(hB.get 2 rfl).frozen 1;go_wp2
    go_quiet (first | (go_at_call 209;exact qR (Ew _ _ (by assumption) (by assumption))) | (go_at_call 208;exact qR (F9 a b z hz h0 h1 g0 g1 k0 k1 _)))
    go_wp2;have hZ:=((hB.drewN nq).set 2 rfl 0 (.int .i64 z)).set 2 rfl 1 (.slice none 0 0);exact bodyPost_ret (aP (p:=4) (hZ.get 2 rfl) Tryz.underlying107 rfl bK rfl _ rfl) rfl ⟨rfl,hZ.bw⟩
 · have e:sz z=z:=by have:=S2 hs;unfold sz;omega
   clear S1 S2
   go_enter Tryz.func155,Tryz.ntmps155
   go_upto_region 0 with (fail)
   go_cut [2,3,4] (fun v2 v3 v4 wx=>v2=ptr w.heap.size∧v3=ptr (w.heap.size+1)∧v4=ptr (w.heap.size+2)∧aC w wx [(aH a,107),(aH b,107),(aH 0,107)])
   case first=>
    go_wp2;go_meet;exact ⟨rfl,rfl,rfl,((((aC.nil w).new (by simp) (aH a) _).new (by simp) (aH b) _).new (by simp) (aH 0) _)⟩
   case rest=>
    obtain ⟨rfl,rfl,rfl,hB⟩:=hcut;have wE:=(hB.aj rfl).cell (j:=0) rfl;have lX:=(hB.aj rfl).frozen 0;have ka1:=(hB.aj rfl).cell (j:=1) rfl;have lY:=(hB.aj rfl).frozen 1;have ES:=(hB.get 1 rfl).cell (j:=0) rfl;have vJ:=(hB.get 1 rfl).frozen 0;have Lm:=(hB.get 1 rfl).cell (j:=1) rfl;have wW:=(hB.get 1 rfl).frozen 1;have SX:=(hB.get 2 rfl).cell (j:=0) rfl;have BJ:=(hB.get 2 rfl).frozen 0;have SY:=(hB.get 2 rfl).cell (j:=1) rfl;have BK:=(hB.get 2 rfl).frozen 1;go_wp2
    go_quiet (first | (go_at_call 209;exact qR (Ew _ _ (by assumption) (by assumption))) | (go_at_call 208;exact qR (F9 a b z hz h0 h1 g0 g1 k0 k1 _)))
    go_wp2;have hZ:=((hB.drewN nq).set 2 rfl 0 (.int .i64 z)).set 2 rfl 1 (.slice none 0 0);exact bodyPost_ret (aP (p:=4) (hZ.get 2 rfl) Tryz.underlying107 rfl bK rfl _ rfl) rfl ⟨rfl,hZ.bw⟩
theorem CJ {W:World} {g h:Nat} {cs ds:List Value} {t1 t2:TypeId} {d1 d2:TypeDesc} {fn:Func} {p q:Tmp} (hg:Held W g cs t1) (hh:Held W h ds t2) (hu:Tryz.prog.underlying t1=some d1) (hv:Tryz.prog.underlying t2=some d2) (h1:d1.isRow=true) (h2:d2.isRow=true)
 (hi:(Tryz.prog.info? t1).map (·.size)=some cs.length) (hj:(Tryz.prog.info? t2).map (·.size)=some ds.length) (hr:fn.results= #[.cell p t1,.cell q t2]) (tmps:Array Value) (hp:tmps.getD p undef=ptr g) (hq:tmps.getD q undef=ptr h):
 (results fn tmps).run Tryz.prog W= .ok (.tuple #[.agg cs.toArray,.agg ds.toArray]) W:=by
 have e:(results fn tmps).run Tryz.prog W=((asAddr (tmps.getD p undef)).run Tryz.prog W).andThen fun a w₁=>((loadVar t1 a).run Tryz.prog w₁).andThen fun v w₂=>((asAddr (tmps.getD q undef)).run Tryz.prog w₂).andThen fun a w₃=>((loadVar t2 a).run Tryz.prog w₃).andThen fun v' w₄=> .ok (.tuple #[v,v']) w₄:=by
  simp only [results,hr]
  simp [Sem.run_bind,Result.andThen]
 rw [e,hp,hq]
 simp only [ptr,asAddr,Sem.run_pure,Result.andThen_ok,run_loadVar_row W g t1 t1 cs.toArray (0,0) d1 hg hu (by cases d1 <;> first | rfl | cases h1) (by rw [jd rfl rfl];exact hi),run_loadVar_row W h t2 t2 ds.toArray (0,0) d2 hh hv (by cases d2 <;> first | rfl | cases h2) (by rw [jd rfl rfl];exact hj)]
theorem xY (a b:Int) (w:World) (h0: -9223372036854775807≤a) (h1:a≤9223372036854775807) (g0:0<b) (g1:b≤9223372036854775807):
 Calls Tryz.prog 214 #[nK a,nK b] w fun e w'=>e= .returned (.tuple #[nK (a / b),nK (a % b)])∧Below w.heap.size w w':=by
 have hn:=sG
 have hne:(a != -9223372036854775808)=true:=by rw [bne_iff_ne];omega
 have hb:(b == 0)=false:=by rw [beq_eq_false_iff_ne];omega
 have hb':¬ b=0:=by omega
 have D:=Nm.down (a:=a) g0;have B1:=Int.natAbs_ediv_le_natAbs a b;have B2:=Int.emod_nonneg a hb';have B3:=Int.emod_lt_of_pos a g0;obtain ⟨q,hq⟩:∃ q,a.tdiv b=q:=⟨_,rfl⟩;obtain ⟨r,hr⟩:∃ r,a.tmod b=r:=⟨_,rfl⟩;obtain ⟨Z,hZ⟩:∃ Z,a / b=Z:=⟨_,rfl⟩;obtain ⟨Y,hY⟩:∃ Y,a % b=Y:=⟨_,rfl⟩
 have B4:(a.tdiv b).natAbs≤a.natAbs:=by rw [Int.natAbs_tdiv];exact Nat.div_le_self _ _
 rw [hq] at B4;rw [hq,hr,hZ,hY] at D;rw [hZ,hY];rw [hZ] at B1;rw [hY] at B2 B3;clear hZ hY
 have z0: -9223372036854775807≤Z:=by omega
 have z1:Z≤9223372036854775807:=by omega
 have y1:Y≤9223372036854775807:=by omega
 have q0: -9223372036854775807≤q:=by omega
 have q1:q≤9223372036854775807:=by omega
 clear B1 B4
 by_cases hr0:r<0
 · rw [if_pos hr0,if_pos hr0] at D
   obtain ⟨e1,e2⟩:=D
   go_enter Tryz.func214,Tryz.ntmps214
   go_upto_region 0 with (fail)
   go_cut [2,3,4,5] (fun v2 v3 v4 v5 wx=>v2=ptr w.heap.size∧v3=ptr (w.heap.size+1)∧v4=ptr (w.heap.size+2)∧v5=ptr (w.heap.size+3)∧aC w wx [(aH a,107),(aH b,107),(aH 0,107),(aH 0,107)])
   case first=>
    go_wp2;go_meet;exact ⟨rfl,rfl,rfl,rfl,(((((aC.nil w).new (by simp) (aH a) _).new (by simp) (aH b) _).new (by simp) (aH 0) _).new (by simp) (aH 0) _)⟩
   case rest=>
    obtain ⟨rfl,rfl,rfl,rfl,hB⟩:=hcut;have wE:=(hB.aj rfl).cell (j:=0) rfl;have lX:=(hB.aj rfl).frozen 0;have ka1:=(hB.aj rfl).cell (j:=1) rfl;have lY:=(hB.aj rfl).frozen 1;have ES:=(hB.get 1 rfl).cell (j:=0) rfl;have vJ:=(hB.get 1 rfl).frozen 0;have Lm:=(hB.get 1 rfl).cell (j:=1) rfl;have wW:=(hB.get 1 rfl).frozen 1;have SX:=(hB.get 2 rfl).cell (j:=0) rfl;have BJ:=(hB.get 2 rfl).frozen 0;have SY:=(hB.get 2 rfl).cell (j:=1) rfl;have BK:=(hB.get 2 rfl).frozen 1;have kd0:=(hB.get 3 rfl).cell (j:=0) rfl;have UN:=(hB.get 3 rfl).frozen 0;have kd1:=(hB.get 3 rfl).cell (j:=1) rfl;have UO:=(hB.get 3 rfl).frozen 1;go_wp2
    go_quiet (fail)
    revert nq
    intro n1;go_wp2
    go_quiet (fail)
    go_wp2;have hZ:=((((hB.drewN (n1+nq)).set 2 rfl 0 (.int .i64 Z)).set 2 rfl 1 (.slice none 0 0)).set 3 rfl 0 (.int .i64 Y)).set 3 rfl 1 (.slice none 0 0);exact bodyPost_ret (CJ (p:=4) (q:=5) (hZ.get 2 rfl) (hZ.get 3 rfl) Tryz.underlying107 Tryz.underlying107 rfl rfl bK bK rfl _ rfl rfl) rfl ⟨rfl,hZ.bw⟩
 · rw [if_neg hr0,if_neg hr0] at D
   obtain ⟨rfl,rfl⟩:=D
   go_enter Tryz.func214,Tryz.ntmps214
   go_upto_region 0 with (fail)
   go_cut [2,3,4,5] (fun v2 v3 v4 v5 wx=>v2=ptr w.heap.size∧v3=ptr (w.heap.size+1)∧v4=ptr (w.heap.size+2)∧v5=ptr (w.heap.size+3)∧aC w wx [(aH a,107),(aH b,107),(aH 0,107),(aH 0,107)])
   case first=>
    go_wp2;go_meet;exact ⟨rfl,rfl,rfl,rfl,(((((aC.nil w).new (by simp) (aH a) _).new (by simp) (aH b) _).new (by simp) (aH 0) _).new (by simp) (aH 0) _)⟩
   case rest=>
    obtain ⟨rfl,rfl,rfl,rfl,hB⟩:=hcut;have wE:=(hB.aj rfl).cell (j:=0) rfl;have lX:=(hB.aj rfl).frozen 0;have ka1:=(hB.aj rfl).cell (j:=1) rfl;have lY:=(hB.aj rfl).frozen 1;have ES:=(hB.get 1 rfl).cell (j:=0) rfl;have vJ:=(hB.get 1 rfl).frozen 0;have Lm:=(hB.get 1 rfl).cell (j:=1) rfl;have wW:=(hB.get 1 rfl).frozen 1;have SX:=(hB.get 2 rfl).cell (j:=0) rfl;have BJ:=(hB.get 2 rfl).frozen 0;have SY:=(hB.get 2 rfl).cell (j:=1) rfl;have BK:=(hB.get 2 rfl).frozen 1;have kd0:=(hB.get 3 rfl).cell (j:=0) rfl;have UN:=(hB.get 3 rfl).frozen 0;have kd1:=(hB.get 3 rfl).cell (j:=1) rfl;have UO:=(hB.get 3 rfl).frozen 1;go_wp2
    go_quiet (fail)
    go_wp2;have hZ:=((((hB.drewN nq).set 2 rfl 0 (.int .i64 q)).set 2 rfl 1 (.slice none 0 0)).set 3 rfl 0 (.int .i64 r)).set 3 rfl 1 (.slice none 0 0);exact bodyPost_ret (CJ (p:=4) (q:=5) (hZ.get 2 rfl) (hZ.get 3 rfl) Tryz.underlying107 Tryz.underlying107 rfl rfl bK bK rfl _ rfl rfl) rfl ⟨rfl,hZ.bw⟩
theorem vY (b:Int) (hb:0<b) (w:World):Calls Tryz.prog 150 #[nK b] w fun e w'=>e= .returned (.int .i64 1)∧Below w.heap.size w w':=by
 have:=AA b w
 rwa [show Nm.nC b=1 by unfold Nm.nC;rw [if_neg (by omega),if_pos hb]] at this
theorem uF {o p:Option Value} {y r:Int} (h:o=some (.int .i64 r)) (k:p=some (.int .i64 y)) (hl:r.toNat<y.toNat):(intOf (o.getD undef)).toNat<(intOf (p.getD undef)).toNat:=by subst h k;exact hl
theorem sign_zero (w:World):Calls Tryz.prog 150 #[nK 0] w fun e w'=>e= .returned (.int .i64 0)∧Below w.heap.size w w':=AA 0 w
theorem Ov (x y:Int) (hx:0≤x) (hy:0<y):Nm.gcd x y=Nm.gcd y (x % y):=by
 obtain ⟨n,rfl⟩:=Int.eq_ofNat_of_zero_le hx;obtain ⟨m,rfl⟩:=Int.eq_ofNat_of_zero_le (Int.le_of_lt hy)
 unfold Nm.gcd
 rw [← Int.natCast_emod]
 show ((Nat.gcd n m:Nat):Int)=((Nat.gcd m (n % m):Nat):Int)
 rw [Nat.gcd_comm n m,Nat.gcd_rec m n,Nat.gcd_comm]
theorem TT (x:Int) (hx:0≤x):Nm.gcd x 0=x:=by
 obtain ⟨n,rfl⟩:=Int.eq_ofNat_of_zero_le hx
 unfold Nm.gcd
 show ((Nat.gcd n 0:Nat):Int)=n
 rw [Nat.gcd_zero_right]
theorem TQ (a b:Int):Nm.gcd a b=Nm.gcd a.natAbs b.natAbs:=by
 unfold Nm.gcd
 rw [Int.gcd_eq_natAbs_gcd_natAbs,Int.gcd_eq_natAbs_gcd_natAbs,Int.natAbs_natCast,Int.natAbs_natCast]
theorem FT (a b:Int) (w:World) (h0: -9223372036854775807≤a) (h1:a≤9223372036854775807) (g0:0<b) (g1:b≤9223372036854775807):
 Calls Tryz.prog 207 #[nK a,nK b] w fun e w'=>e= .returned (nK (a / b))∧Below w.heap.size w w':=by
 obtain ⟨z,hz⟩:∃ z,a / b=z:=⟨_,rfl⟩;have HD:=xY a b;rw [hz] at HD;rw [hz];clear hz
 go_enter Tryz.func207,Tryz.ntmps207
 go_upto_region 0 with (fail)
 go_cut [2,3,4] (fun v2 v3 v4 wx=>v2=ptr w.heap.size∧v3=ptr (w.heap.size+1)∧v4=ptr (w.heap.size+2)∧aC w wx [(aH a,107),(aH b,107),(aH 0,107)])
 case first=>
  go_wp2;go_meet;exact ⟨rfl,rfl,rfl,((((aC.nil w).new (by simp) (aH a) _).new (by simp) (aH b) _).new (by simp) (aH 0) _)⟩
 case rest=>
  obtain ⟨rfl,rfl,rfl,hB⟩:=hcut;have wE:=(hB.aj rfl).cell (j:=0) rfl;have lX:=(hB.aj rfl).frozen 0;have ka1:=(hB.aj rfl).cell (j:=1) rfl;have lY:=(hB.aj rfl).frozen 1;have ES:=(hB.get 1 rfl).cell (j:=0) rfl;have vJ:=(hB.get 1 rfl).frozen 0;have Lm:=(hB.get 1 rfl).cell (j:=1) rfl;have wW:=(hB.get 1 rfl).frozen 1;have SX:=(hB.get 2 rfl).cell (j:=0) rfl;have BJ:=(hB.get 2 rfl).frozen 0;have SY:=(hB.get 2 rfl).cell (j:=1) rfl;have BK:=(hB.get 2 rfl).frozen 1;have HD:=hide HD
  go_wp2_with (first | (go_at_call 150;refine (vY b g0 _).mono ?_;rintro e w1 ⟨rfl,hb1⟩;have hC:=hB.call (by simp) hb1) | (go_at_call 214;refine (HD.out _ h0 h1 g0 g1).mono ?_;rintro e w2 ⟨rfl,hb2⟩;have hD:=hC.call (by simp) hb2) | (refine dA 107 (.tmp 3) rfl ?_;refine cO (hC.get 1 rfl) Tryz.underlying107 rfl bK rfl (.tmp 3) rfl rfl ?_) | (refine dA 107 (.tmp 3) rfl ?_;refine cO (hB.get 1 rfl) Tryz.underlying107 rfl bK rfl (.tmp 3) rfl rfl ?_) | (refine dA 107 (.tmp 2) rfl ?_;refine cO (hC.aj rfl) Tryz.underlying107 rfl bK rfl (.tmp 2) rfl rfl ?_) | (refine dA 107 (.tmp 2) rfl ?_;refine cO (hB.aj rfl) Tryz.underlying107 rfl bK rfl (.tmp 2) rfl rfl ?_) | (refine fO 107 (.tmp 4) (.tmp 20) rfl ?_;refine dP (((hD.alloc (by simp) _).alloc (by simp) _).get 2 rfl) (aH z) rfl bK (qO _) rfl (.tmp 4) (.tmp 20) rfl rfl rfl ?_))
  have hZ:=((hD.alloc (by simp) (.cells #[.int .i64 z,.slice none 0 0] 107)).alloc (by simp) (.cells #[.int .i64 (a % b),.slice none 0 0] 107)).put 2 rfl (aH z) rfl;exact bodyPost_ret (aP (p:=4) (hZ.get 2 rfl) Tryz.underlying107 rfl bK rfl _ rfl) rfl ⟨rfl,hZ.bw⟩
theorem TR (a b:Int) (w:World) (h0: -9223372036854775807≤a) (h1:a≤9223372036854775807) (g0: -9223372036854775807≤b) (g1:b≤9223372036854775807):
 Calls Tryz.prog 160 #[nK a,nK b] w fun e w'=>e= .returned (nK (Nm.gcd a b))∧Below w.heap.size w w':=by
 go_enter Tryz.func160,Tryz.ntmps160
 go_upto_region 0 with (fail)
 go_cut [2,3,4] (fun v2 v3 v4 wx=>v2=ptr w.heap.size∧v3=ptr (w.heap.size+1)∧v4=ptr (w.heap.size+2)∧aC w wx [(aH a,107),(aH b,107),(aH 0,107)])
 case first=>
  go_wp2;go_meet;exact ⟨rfl,rfl,rfl,((((aC.nil w).new (by simp) (aH a) _).new (by simp) (aH b) _).new (by simp) (aH 0) _)⟩
 case rest=>
  obtain ⟨rfl,rfl,rfl,hB⟩:=hcut;have wE:=(hB.aj rfl).cell (j:=0) rfl;have lX:=(hB.aj rfl).frozen 0;have ka1:=(hB.aj rfl).cell (j:=1) rfl;have lY:=(hB.aj rfl).frozen 1;have ES:=(hB.get 1 rfl).cell (j:=0) rfl;have vJ:=(hB.get 1 rfl).frozen 0;have Lm:=(hB.get 1 rfl).cell (j:=1) rfl;have wW:=(hB.get 1 rfl).frozen 1
  go_upto_region 1 with (fail)
  go_cut [] (fun wx=>aC w wx [(aH a.natAbs,107),(aH b.natAbs,107),(aH 0,107)])
  case first=>
   refine wp_region_held_drew (S:=(fun _:World=>True)) (by kernel_rfl) ?bU (fun hHeld=>?_)
   case bU=>trivial
   refine wpAnyH_ready (rs:=[0,2]) (by kernel_rfl) (by simp) ?_;refine AllReadyH.cons (o:=_) (ga rfl) (fun K hK=>?_) (AllReadyH.cons (o:=_) (ga rfl) (fun K hK=>?_) AllReadyH.nil)
   · go_simp
     refine hK.out _ _ ?Ve (fun hHeld=>?_)
     case Ve=>(first | (trivial) | (dsimp only;trivial))
     clear hK K
     try simp only [Act.put,la,lz,ls]
     refine wpAnyH_ready (rs:=[1,2]) (by kernel_rfl) (by simp) ?_;refine AllReadyH.cons (o:=_) (ga rfl) (fun K hK=>?_) (AllReadyH.cons (o:=_) (ga rfl) (fun K hK=>?_) AllReadyH.nil)
     · go_simp
       (go_at_call 213;refine (sJ a _ h0 h1).mono ?_;rintro e w1 ⟨rfl,hb1⟩)
       have hD:=hB.drew.call (by simp) hb1;have kd0:=(hD.get 1 rfl).cell (j:=0) rfl;have UN:=(hD.get 1 rfl).frozen 0;have kd1:=(hD.get 1 rfl).cell (j:=1) rfl;have UO:=(hD.get 1 rfl).frozen 1;refine hK.out _ _ ?PY (fun hHeld=>?_)
       case PY=>(first | (trivial) | (dsimp only;trivial))
       clear hK K
       try simp only [Act.put,la,lz,ls]
       refine tr 2 fun K hK=>?_;go_simp;refine hK.out _ _ ?P6 (fun hHeld=>?_)
       case P6=>(first | (trivial) | (dsimp only;trivial))
       clear hK K
       try simp only [Act.put,la,lz,ls]
       refine tr 3 fun K hK=>?_;go_simp
       (go_at_call 213;refine (sJ b _ g0 g1).mono ?_;rintro e w2 ⟨rfl,hb2⟩)
       have hE:=hD.call (by simp) hb2;have ke0:=(hE.aj rfl).cell (j:=0) rfl;have Z9:=(hE.aj rfl).frozen 0;have ke1:=(hE.aj rfl).cell (j:=1) rfl;have aac:=(hE.aj rfl).frozen 1;have kg0:=(hE.get 1 rfl).cell (j:=0) rfl;have aaq:=(hE.get 1 rfl).frozen 0;have kg1:=(hE.get 1 rfl).cell (j:=1) rfl;have aax:=(hE.get 1 rfl).frozen 1;refine hK.out _ _ ?P9 (fun hHeld=>?_)
       case P9=>(first | (trivial) | (dsimp only;trivial))
       clear hK K
       try simp only [Act.put,la,lz,ls]
       refine tr 4 fun K hK=>?_;go_simp;refine hK.out _ _ ?Qc (fun hHeld=>?_)
       case Qc=>(first | (trivial) | (dsimp only;trivial))
       clear hK K
       try simp only [Act.put,la,lz,ls]
       refine tr 5 fun K hK=>?_;go_simp;refine hK.out _ _ ?Qh (fun hHeld=>?_)
       case Qh=>(first | (trivial) | (dsimp only;trivial))
       clear hK K
       try simp only [Act.put,la,lz,ls]
       refine wpAnyH_done (by kernel_rfl) ?_ _;go_wp2;go_meet;exact (((hE.set 0 rfl 0 (.int .i64 a.natAbs)).set 0 rfl 1 (.slice none 0 0)).set 1 rfl 0 (.int .i64 b.natAbs)).set 1 rfl 1 (.slice none 0 0)
     · go_simp
       refine hK.out _ _ ?P7 (fun hHeld=>?_)
       case P7=>(first | (trivial) | (dsimp only;trivial))
       clear hK K
       try simp only [Act.put,la,lz,ls]
       refine tr 1 fun K hK=>?_;go_simp
       (go_at_call 213;refine (sJ a _ h0 h1).mono ?_;rintro e w1 ⟨rfl,hb1⟩)
       have hD:=hB.drew.call (by simp) hb1;have kd0:=(hD.get 1 rfl).cell (j:=0) rfl;have UN:=(hD.get 1 rfl).frozen 0;have kd1:=(hD.get 1 rfl).cell (j:=1) rfl;have UO:=(hD.get 1 rfl).frozen 1;refine hK.out _ _ ?PZ (fun hHeld=>?_)
       case PZ=>(first | (trivial) | (dsimp only;trivial))
       clear hK K
       try simp only [Act.put,la,lz,ls]
       refine tr 3 fun K hK=>?_;go_simp
       (go_at_call 213;refine (sJ b _ g0 g1).mono ?_;rintro e w2 ⟨rfl,hb2⟩)
       have hE:=hD.call (by simp) hb2;have ke0:=(hE.aj rfl).cell (j:=0) rfl;have Z9:=(hE.aj rfl).frozen 0;have ke1:=(hE.aj rfl).cell (j:=1) rfl;have aac:=(hE.aj rfl).frozen 1;have kg0:=(hE.get 1 rfl).cell (j:=0) rfl;have aaq:=(hE.get 1 rfl).frozen 0;have kg1:=(hE.get 1 rfl).cell (j:=1) rfl;have aax:=(hE.get 1 rfl).frozen 1;refine hK.out _ _ ?Qa (fun hHeld=>?_)
       case Qa=>(first | (trivial) | (dsimp only;trivial))
       clear hK K
       try simp only [Act.put,la,lz,ls]
       refine tr 4 fun K hK=>?_;go_simp;refine hK.out _ _ ?Qd (fun hHeld=>?_)
       case Qd=>(first | (trivial) | (dsimp only;trivial))
       clear hK K
       try simp only [Act.put,la,lz,ls]
       refine tr 5 fun K hK=>?_;go_simp;refine hK.out _ _ ?Qi (fun hHeld=>?_)
       case Qi=>(first | (trivial) | (dsimp only;trivial))
       clear hK K
       try simp only [Act.put,la,lz,ls]
       refine wpAnyH_done (by kernel_rfl) ?_ _;go_wp2;go_meet;exact (((hE.set 0 rfl 0 (.int .i64 a.natAbs)).set 0 rfl 1 (.slice none 0 0)).set 1 rfl 0 (.int .i64 b.natAbs)).set 1 rfl 1 (.slice none 0 0)
   · go_simp
     refine hK.out _ _ ?P8 (fun hHeld=>?_)
     case P8=>(first | (trivial) | (dsimp only;trivial))
     clear hK K
     try simp only [Act.put,la,lz,ls]
     refine tr 0 fun K hK=>?_;go_simp;refine hK.out _ _ ?PX (fun hHeld=>?_)
     case PX=>(first | (trivial) | (dsimp only;trivial))
     clear hK K
     try simp only [Act.put,la,lz,ls]
     refine tr 1 fun K hK=>?_;go_simp
     (go_at_call 213;refine (sJ a _ h0 h1).mono ?_;rintro e w1 ⟨rfl,hb1⟩)
     have hD:=hB.drew.call (by simp) hb1;have kd0:=(hD.get 1 rfl).cell (j:=0) rfl;have UN:=(hD.get 1 rfl).frozen 0;have kd1:=(hD.get 1 rfl).cell (j:=1) rfl;have UO:=(hD.get 1 rfl).frozen 1;refine hK.out _ _ ?P5 (fun hHeld=>?_)
     case P5=>(first | (trivial) | (dsimp only;trivial))
     clear hK K
     try simp only [Act.put,la,lz,ls]
     refine tr 3 fun K hK=>?_;go_simp
     (go_at_call 213;refine (sJ b _ g0 g1).mono ?_;rintro e w2 ⟨rfl,hb2⟩)
     have hE:=hD.call (by simp) hb2;have ke0:=(hE.aj rfl).cell (j:=0) rfl;have Z9:=(hE.aj rfl).frozen 0;have ke1:=(hE.aj rfl).cell (j:=1) rfl;have aac:=(hE.aj rfl).frozen 1;have kg0:=(hE.get 1 rfl).cell (j:=0) rfl;have aaq:=(hE.get 1 rfl).frozen 0;have kg1:=(hE.get 1 rfl).cell (j:=1) rfl;have aax:=(hE.get 1 rfl).frozen 1;refine hK.out _ _ ?Qb (fun hHeld=>?_)
     case Qb=>(first | (trivial) | (dsimp only;trivial))
     clear hK K
     try simp only [Act.put,la,lz,ls]
     refine tr 4 fun K hK=>?_;go_simp;refine hK.out _ _ ?Qe (fun hHeld=>?_)
     case Qe=>(first | (trivial) | (dsimp only;trivial))
     clear hK K
     try simp only [Act.put,la,lz,ls]
     refine tr 5 fun K hK=>?_;go_simp;refine hK.out _ _ ?Qj (fun hHeld=>?_)
     case Qj=>(first | (trivial) | (dsimp only;trivial))
     clear hK K
     try simp only [Act.put,la,lz,ls]
     refine wpAnyH_done (by kernel_rfl) ?_ _;go_wp2;go_meet;exact (((hE.set 0 rfl 0 (.int .i64 a.natAbs)).set 0 rfl 1 (.slice none 0 0)).set 1 rfl 0 (.int .i64 b.natAbs)).set 1 rfl 1 (.slice none 0 0)
  case rest=>
   clear hB wE lX ka1 lY ES vJ Lm wW;have HG:=hide (TQ a b);go_wp2
   go_loopw [] (fun wr=>∃ x y:Int,0≤x∧x≤9223372036854775807∧0≤y∧y≤9223372036854775807∧Aside (Nm.gcd a b=Nm.gcd x y)∧aC w wr [(aH x,107),(aH y,107),(aH 0,107)]) (fun wr=>(intOf ((wr.cell? ⟨w.heap.size+1,0,none⟩).getD undef)).toNat)
   case atStart=>exact ⟨a.natAbs,b.natAbs,by omega,by omega,by omega,by omega,HG.out,hcut⟩
   case round=>
    obtain ⟨x,y,x0,x1,y0,y1,hg,hB⟩:=hrel;have wE:=(hB.aj rfl).cell (j:=0) rfl;have lX:=(hB.aj rfl).frozen 0;have ka1:=(hB.aj rfl).cell (j:=1) rfl;have lY:=(hB.aj rfl).frozen 1;have ES:=(hB.get 1 rfl).cell (j:=0) rfl;have vJ:=(hB.get 1 rfl).frozen 0;have Lm:=(hB.get 1 rfl).cell (j:=1) rfl;have wW:=(hB.get 1 rfl).frozen 1
    by_cases hy:y=0
    · subst hy
      have HE:=hide (show nK x=nK (Nm.gcd a b) by rw [hg.out,TT x x0])
      go_wp2_with (first | (go_at_call 150;refine (sign_zero _).mono ?_;rintro e w1 ⟨rfl,hb1⟩;have hC:=hB.call (by simp) hb1) | (refine dA 107 (.tmp 3) rfl ?_;refine cO (hC.get 1 rfl) Tryz.underlying107 rfl bK rfl (.tmp 3) rfl rfl ?_) | (refine dA 107 (.tmp 3) rfl ?_;refine cO (hB.get 1 rfl) Tryz.underlying107 rfl bK rfl (.tmp 3) rfl rfl ?_) | (refine dA 107 (.tmp 2) rfl ?_;refine cO (hC.aj rfl) Tryz.underlying107 rfl bK rfl (.tmp 2) rfl rfl ?_) | (refine dA 107 (.tmp 2) rfl ?_;refine cO (hB.aj rfl) Tryz.underlying107 rfl bK rfl (.tmp 2) rfl rfl ?_) | (refine fO 107 (.tmp 4) (.tmp 22) rfl ?_;refine dP (hC.get 2 rfl) (aH x) rfl bK (qO _) rfl (.tmp 4) (.tmp 22) rfl rfl rfl ?_))
      have hZ:=hC.put 2 rfl (aH x) rfl;refine bodyPost_ret (aP (p:=4) (hZ.get 2 rfl) Tryz.underlying107 rfl bK rfl _ rfl) rfl ⟨?_,hZ.bw⟩;rw [← HE.out]
      rfl
    · have yp:0<y:=by omega
      have r0:=Int.emod_nonneg x hy;have r1:=Int.emod_lt_of_pos x yp;have HD:=xY x y;have HS:=hide (hg.out.trans (Ov x y x0 yp));clear hg;obtain ⟨r,hr⟩:∃ r,x % y=r:=⟨_,rfl⟩;obtain ⟨q,hq⟩:∃ q,x / y=q:=⟨_,rfl⟩;rw [hr] at HS r0 r1 HD;rw [hq] at HD;clear hr hq;have HD:=hide HD
      go_wp2_with (first | (go_at_call 150;refine (vY y yp _).mono ?_;rintro e w1 ⟨rfl,hb1⟩;have hC:=hB.call (by simp) hb1) | (go_at_call 214;refine (HD.out _ (by omega) x1 yp y1).mono ?_;rintro e w2 ⟨rfl,hb2⟩;have hD:=hC.call (by simp) hb2) | (refine dA 107 (.tmp 3) rfl ?_;refine cO (hC.get 1 rfl) Tryz.underlying107 rfl bK rfl (.tmp 3) rfl rfl ?_) | (refine dA 107 (.tmp 3) rfl ?_;refine cO (hB.get 1 rfl) Tryz.underlying107 rfl bK rfl (.tmp 3) rfl rfl ?_) | (refine dA 107 (.tmp 2) rfl ?_;refine cO (hC.aj rfl) Tryz.underlying107 rfl bK rfl (.tmp 2) rfl rfl ?_) | (refine dA 107 (.tmp 2) rfl ?_;refine cO (hB.aj rfl) Tryz.underlying107 rfl bK rfl (.tmp 2) rfl rfl ?_))
      have hX:=(hD.alloc (by simp) (.cells #[.int .i64 q,.slice none 0 0] 107)).alloc (by simp) (.cells #[.int .i64 r,.slice none 0 0] 107);have hsz:=hD.size (by simp)
      simp only [List.length_cons,List.length_nil] at hsz
      have hR:=Held.newAt (w2.alloc (.cells #[.int .i64 q,.slice none 0 0] 107)) [.int .i64 r,.slice none 0 0] 107 (g:=w2.heap.size+1) (by simp)
      go_upto_region 4 with (fail)
      obtain ⟨X,hXd⟩:∃ X,((w2.alloc (.cells #[.int .i64 q,.slice none 0 0] 107)).alloc (.cells #[.int .i64 r,.slice none 0 0] 107))=X:=⟨_,rfl⟩;rw [hXd] at hX
      simp only [hXd]
      rw [show (w2.alloc (.cells #[.int .i64 q,.slice none 0 0] 107)).alloc (.cells [.int .i64 r,.slice none 0 0].toArray 107)=X from hXd] at hR;clear hXd
      have hne0:w2.heap.size+1≠w.heap.size:=by omega
      have hne1:w2.heap.size+1≠w.heap.size+1:=by omega
      have YO:=(hX.aj rfl).cell (j:=0) rfl;have Lr:=(hX.aj rfl).frozen 0;have YP:=(hX.aj rfl).cell (j:=1) rfl;have Ls:=(hX.aj rfl).frozen 1;have ky0:=(hX.get 1 rfl).cell (j:=0) rfl;have alD:=(hX.get 1 rfl).frozen 0;have ky1:=(hX.get 1 rfl).cell (j:=1) rfl;have alK:=(hX.get 1 rfl).frozen 1;have kr0:=(hR).cell (j:=0) rfl;have auH:=(hR).frozen 0;have kr1:=(hR).cell (j:=1) rfl;have auO:=(hR).frozen 1;refine wp_region_held_drew (S:=(fun _:World=>True)) (by kernel_rfl) ?cu (fun hHeld=>?_)
      case cu=>trivial
      refine wpAnyH_ready (rs:=[0,1]) (by kernel_rfl) (by simp) ?_;refine AllReadyH.cons (o:=_) (ga rfl) (fun K hK=>?_) (AllReadyH.cons (o:=_) (ga rfl) (fun K hK=>?_) AllReadyH.nil)
      · go_simp
        refine hK.out _ _ ?Vf (fun hHeld=>?_)
        case Vf=>(first | (trivial) | (dsimp only;trivial))
        clear hK K
        try simp only [Act.put,la,lz,ls]
        refine wpAnyH_ready (rs:=[1,2]) (by kernel_rfl) (by simp) ?_;refine AllReadyH.cons (o:=_) (ga rfl) (fun K hK=>?_) (AllReadyH.cons (o:=_) (ga rfl) (fun K hK=>?_) AllReadyH.nil)
        · go_simp
          refine hK.out _ _ ?Ql (fun hHeld=>?_)
          case Ql=>(first | (trivial) | (dsimp only;trivial))
          clear hK K
          try simp only [Act.put,la,lz,ls]
          refine tr 2 fun K hK=>?_;go_simp;refine hK.out _ _ ?Qo (fun hHeld=>?_)
          case Qo=>(first | (trivial) | (dsimp only;trivial))
          clear hK K
          try simp only [Act.put,la,lz,ls]
          refine tr 3 fun K hK=>?_;go_simp;refine hK.out _ _ ?Qs (fun hHeld=>?_)
          case Qs=>(first | (trivial) | (dsimp only;trivial))
          clear hK K
          try simp only [Act.put,la,lz,ls]
          refine wpAnyH_done (by kernel_rfl) ?_ _;have hN:=(((hX.drew.set 0 rfl 0 (.int .i64 y)).set 0 rfl 1 (.slice none 0 0)).set 1 rfl 0 (.int .i64 r)).set 1 rfl 1 (.slice none 0 0);have hcell:=(hN.get 1 rfl).cell (j:=0) rfl;go_wp2
          go_roundw
          case rel=>exact ⟨y,r,by omega,by omega,by omega,by omega,HS.out,hN⟩
          case measure=>exact uF hcell ES (by omega)
        · go_simp
          refine hK.out _ _ ?Qp (fun hHeld=>?_)
          case Qp=>(first | (trivial) | (dsimp only;trivial))
          clear hK K
          try simp only [Act.put,la,lz,ls]
          refine tr 1 fun K hK=>?_;go_simp;refine hK.out _ _ ?Qm (fun hHeld=>?_)
          case Qm=>(first | (trivial) | (dsimp only;trivial))
          clear hK K
          try simp only [Act.put,la,lz,ls]
          refine tr 3 fun K hK=>?_;go_simp;refine hK.out _ _ ?Qu (fun hHeld=>?_)
          case Qu=>(first | (trivial) | (dsimp only;trivial))
          clear hK K
          try simp only [Act.put,la,lz,ls]
          refine wpAnyH_done (by kernel_rfl) ?_ _;have hN:=(((hX.drew.set 0 rfl 0 (.int .i64 y)).set 0 rfl 1 (.slice none 0 0)).set 1 rfl 0 (.int .i64 r)).set 1 rfl 1 (.slice none 0 0);have hcell:=(hN.get 1 rfl).cell (j:=0) rfl;go_wp2
          go_roundw
          case rel=>exact ⟨y,r,by omega,by omega,by omega,by omega,HS.out,hN⟩
          case measure=>exact uF hcell ES (by omega)
      · go_simp
        refine hK.out _ _ ?Qn (fun hHeld=>?_)
        case Qn=>(first | (trivial) | (dsimp only;trivial))
        clear hK K
        try simp only [Act.put,la,lz,ls]
        refine tr 0 fun K hK=>?_;go_simp;refine hK.out _ _ ?Qk (fun hHeld=>?_)
        case Qk=>(first | (trivial) | (dsimp only;trivial))
        clear hK K
        try simp only [Act.put,la,lz,ls]
        refine tr 2 fun K hK=>?_;go_simp;refine hK.out _ _ ?Qq (fun hHeld=>?_)
        case Qq=>(first | (trivial) | (dsimp only;trivial))
        clear hK K
        try simp only [Act.put,la,lz,ls]
        refine tr 3 fun K hK=>?_;go_simp;refine hK.out _ _ ?Qv (fun hHeld=>?_)
        case Qv=>(first | (trivial) | (dsimp only;trivial))
        clear hK K
        try simp only [Act.put,la,lz,ls]
        refine wpAnyH_done (by kernel_rfl) ?_ _;have hN:=(((hX.drew.set 0 rfl 0 (.int .i64 y)).set 0 rfl 1 (.slice none 0 0)).set 1 rfl 0 (.int .i64 r)).set 1 rfl 1 (.slice none 0 0);have hcell:=(hN.get 1 rfl).cell (j:=0) rfl;go_wp2
        go_roundw
        case rel=>exact ⟨y,r,by omega,by omega,by omega,by omega,HS.out,hN⟩
        case measure=>exact uF hcell ES (by omega)
theorem TU {n d:Int} (hd:0<d):0<Nm.gcd n d∧Nm.gcd n d≤d:=by
 have h1:Nm.gcd n d ∣ d:=Int.gcd_dvd_right n d;have h2:0≤Nm.gcd n d:=Int.natCast_nonneg _
 have h3:Nm.gcd n d≠0:=fun e=>by rw [e] at h1;have:=Int.zero_dvd.1 h1;omega
 exact ⟨by omega,Int.le_of_dvd hd h1⟩
theorem UW {n d:Int} (hd:0<d):Nm.make n d=if d=1 then ⟨n,d⟩ else ⟨n / Nm.gcd n d,d / Nm.gcd n d⟩:=by
 unfold Nm.make
 have h:¬ d<0:=by omega
 simp only [if_neg h]
theorem vO (n d:Int) (w:World) (h0: -9223372036854775807≤n) (h1:n≤9223372036854775807) (d0:0<d) (d1:d≤9223372036854775807):
 Calls Tryz.prog 154 #[nK n,nK d] w fun e w'=>e= .returned (fD (Nm.make n d))∧Below w.heap.size w w':=by
 have hn:=sG;rw [UW d0]
 by_cases hd:d=1
 · subst hd
   rw [if_pos rfl]
   go_enter Tryz.func154,Tryz.ntmps154
   go_upto_region 0 with (fail)
   go_cut [2,3,4] (fun v2 v3 v4 wx=>v2=ptr w.heap.size∧v3=ptr (w.heap.size+1)∧v4=ptr (w.heap.size+2)∧aC w wx [(aH n,107),(aH 1,107),(ah ⟨0,0⟩,109)])
   case first=>
    go_wp2;go_meet;exact ⟨rfl,rfl,rfl,((((aC.nil w).new (by simp) (aH n) _).new (by simp) (aH 1) _).new (by simp) (ah ⟨0,0⟩) _)⟩
   case rest=>
    obtain ⟨rfl,rfl,rfl,hB⟩:=hcut;have wE:=(hB.aj rfl).cell (j:=0) rfl;have lX:=(hB.aj rfl).frozen 0;have ka1:=(hB.aj rfl).cell (j:=1) rfl;have lY:=(hB.aj rfl).frozen 1;have ES:=(hB.get 1 rfl).cell (j:=0) rfl;have vJ:=(hB.get 1 rfl).frozen 0;have Lm:=(hB.get 1 rfl).cell (j:=1) rfl;have wW:=(hB.get 1 rfl).frozen 1;have SX:=(hB.get 2 rfl).cell (j:=0) rfl;have BJ:=(hB.get 2 rfl).frozen 0;have SY:=(hB.get 2 rfl).cell (j:=1) rfl;have BK:=(hB.get 2 rfl).frozen 1;have kc2:=(hB.get 2 rfl).cell (j:=2) rfl;have akU:=(hB.get 2 rfl).frozen 2;have kc3:=(hB.get 2 rfl).cell (j:=3) rfl;have ak1:=(hB.get 2 rfl).frozen 3
    go_wp2_with (first | (go_at_call 150;refine (vY _ d0 _).mono ?_;rintro e w1 ⟨rfl,hb1⟩;have hC:=hB.call (by simp) hb1;have YO:=(hC.get 1 rfl).cell (j:=0) rfl;have Lr:=(hC.get 1 rfl).frozen 0;have YP:=(hC.get 1 rfl).cell (j:=1) rfl;have Ls:=(hC.get 1 rfl).frozen 1) | (refine dA 107 (.tmp 3) rfl ?_;refine cO (cs:=[.int .i64 1,.slice none 0 0]) (hC.get 1 rfl) Tryz.underlying107 rfl bK rfl (.tmp 3) rfl rfl ?_) | (refine dA 107 (.tmp 3) rfl ?_;refine cO (hB.get 1 rfl) Tryz.underlying107 rfl bK rfl (.tmp 3) rfl rfl ?_) | (refine dA 107 (.tmp 2) rfl ?_;refine cO (cs:=[.int .i64 n,.slice none 0 0]) (hC.aj rfl) Tryz.underlying107 rfl bK rfl (.tmp 2) rfl rfl ?_) | (refine fO 109 (.tmp 4) (.tmp 23) rfl ?_;refine dP (hC.get 2 rfl) (ah ⟨n,1⟩) rfl aU (fE _) rfl (.tmp 4) (.tmp 23) rfl rfl rfl ?_))
    have hZ:=hC.put 2 rfl (ah ⟨n,1⟩) rfl;exact bodyPost_ret (aP (p:=4) (hZ.get 2 rfl) Tryz.underlying109 rfl aU rfl _ rfl) rfl ⟨rfl,hZ.bw⟩
 · rw [if_neg hd]
   have hd':(d == 1)=false:=by simp [hd]
   obtain ⟨g0,gd⟩:=TU (n:=n) d0;have HP:=FT n (Nm.gcd n d);have HQ:=FT d (Nm.gcd n d);have HGc:=TR n d;obtain ⟨g,hg⟩:∃ g,Nm.gcd n d=g:=⟨_,rfl⟩;rw [hg] at g0 gd HP HQ HGc;rw [hg];obtain ⟨p,hp⟩:∃ p,n / g=p:=⟨_,rfl⟩;obtain ⟨q,hq⟩:∃ q,d / g=q:=⟨_,rfl⟩;rw [hp] at HP;rw [hq] at HQ;rw [hp,hq];clear hg hp hq
   have gM:g≤9223372036854775807:=by omega
   have HP:=hide HP;have HQ:=hide HQ;have HGc:=hide HGc
   go_enter Tryz.func154,Tryz.ntmps154
   go_upto_region 0 with (fail)
   go_cut [2,3,4] (fun v2 v3 v4 wx=>v2=ptr w.heap.size∧v3=ptr (w.heap.size+1)∧v4=ptr (w.heap.size+2)∧aC w wx [(aH n,107),(aH d,107),(ah ⟨0,0⟩,109)])
   case first=>
    go_wp2;go_meet;exact ⟨rfl,rfl,rfl,((((aC.nil w).new (by simp) (aH n) _).new (by simp) (aH d) _).new (by simp) (ah ⟨0,0⟩) _)⟩
   case rest=>
    obtain ⟨rfl,rfl,rfl,hB⟩:=hcut;have wE:=(hB.aj rfl).cell (j:=0) rfl;have lX:=(hB.aj rfl).frozen 0;have ka1:=(hB.aj rfl).cell (j:=1) rfl;have lY:=(hB.aj rfl).frozen 1;have ES:=(hB.get 1 rfl).cell (j:=0) rfl;have vJ:=(hB.get 1 rfl).frozen 0;have Lm:=(hB.get 1 rfl).cell (j:=1) rfl;have wW:=(hB.get 1 rfl).frozen 1;have SX:=(hB.get 2 rfl).cell (j:=0) rfl;have BJ:=(hB.get 2 rfl).frozen 0;have SY:=(hB.get 2 rfl).cell (j:=1) rfl;have BK:=(hB.get 2 rfl).frozen 1;have kc2:=(hB.get 2 rfl).cell (j:=2) rfl;have akU:=(hB.get 2 rfl).frozen 2;have kc3:=(hB.get 2 rfl).cell (j:=3) rfl;have ak1:=(hB.get 2 rfl).frozen 3
    go_upto_region 6 with (first | (go_at_call 150;refine (vY _ d0 _).mono ?_;rintro e w1 ⟨rfl,hb1⟩;have hC:=hB.call (by simp) hb1;have YO:=(hC.get 1 rfl).cell (j:=0) rfl;have Lr:=(hC.get 1 rfl).frozen 0;have YP:=(hC.get 1 rfl).cell (j:=1) rfl;have Ls:=(hC.get 1 rfl).frozen 1) | (go_at_call 160;refine (HGc.out _ h0 h1 (by omega) d1).mono ?_;rintro e w2 ⟨rfl,hb2⟩;have hD:=hC.call (by simp) hb2) | (refine dA 107 (.tmp 3) rfl ?_;refine cO (hC.get 1 rfl) Tryz.underlying107 rfl bK rfl (.tmp 3) rfl rfl ?_) | (refine dA 107 (.tmp 3) rfl ?_;refine cO (hB.get 1 rfl) Tryz.underlying107 rfl bK rfl (.tmp 3) rfl rfl ?_) | (refine dA 107 (.tmp 2) rfl ?_;refine cO (hC.aj rfl) Tryz.underlying107 rfl bK rfl (.tmp 2) rfl rfl ?_))
    have hX:=hD.alloc (by simp) (.cells #[.int .i64 g,.slice none 0 0] 107);have hG:=Held.new w2 [.int .i64 g,.slice none 0 0] 107;have hsz:=hD.size (by simp)
    simp only [List.length_cons,List.length_nil] at hsz
    refine wp_region_held_drew (S:=(fun w':World=>Held w' w.heap.size (aH n) 107∧Held w' (w.heap.size+1) (aH d) 107∧Held w' w2.heap.size [.int .i64 g,.slice none 0 0] 107)) (by kernel_rfl) ?bU (fun hHeld=>?_)
    case bU=>exact ⟨hX.drew.aj rfl,hX.drew.get 1 rfl,hG.drew⟩
    refine wpAnyH_take (i:=0) (oi:=_) (v:=_) (ga rfl) (by kernel_rfl) (by kernel_rfl) (by kernel_rfl) (fun _ _ _ h=>h) (yieldsIf_load_mid (by rfl) _ _ (by rfl) _ _ (by rfl) _ _ (fun _ h=>h.1.range) Tryz.underlying107 rfl (by kernel_rfl)) (by assumption) ?_
    try simp only [Act.put,la,lz,ls]
    refine wpAnyH_take (i:=1) (oi:=_) (v:=_) (ga rfl) (by kernel_rfl) (by kernel_rfl) (by kernel_rfl) (fun _ _ _ h=>h) (yieldsIf_load_mid (by rfl) _ _ (by rfl) _ _ (by rfl) _ _ (fun _ h=>h.2.2.range) Tryz.underlying107 rfl (by kernel_rfl)) (by assumption) ?_
    try simp only [Act.put,la,lz,ls]
    refine wpAnyH_take (i:=3) (oi:=_) (v:=_) (ga rfl) (by kernel_rfl) (by kernel_rfl) (by kernel_rfl) (fun _ _ _ h=>h) (yieldsIf_load_mid (by rfl) _ _ (by rfl) _ _ (by rfl) _ _ (fun _ h=>h.2.1.range) Tryz.underlying107 rfl (by kernel_rfl)) (by assumption) ?_
    try simp only [Act.put,la,lz,ls]
    refine wpAnyH_take (i:=4) (oi:=_) (v:=_) (ga rfl) (by kernel_rfl) (by kernel_rfl) (by kernel_rfl) (fun _ _ _ h=>h) (yieldsIf_load_mid (by rfl) _ _ (by rfl) _ _ (by rfl) _ _ (fun _ h=>h.2.2.range) Tryz.underlying107 rfl (by kernel_rfl)) (by assumption) ?_
    try simp only [Act.put,la,lz,ls]
    refine tr 2 fun K hK=>?_;go_simp
    (go_at_call 207;refine (HP.out _ h0 h1 g0 gM).mono ?_;rintro e w3 ⟨rfl,hb3⟩)
    have hY:=hX.drew.call (by simp) hb3;have hG2:=hG.drew.below hb3;refine hK.out _ _ ?Gt (fun hHeld=>?_)
    case Gt=>(exact ⟨hY.aj rfl,hY.get 1 rfl,hG2⟩)
    clear hK K
    try simp only [Act.put,la,lz,ls]
    refine tr 5 fun K hK=>?_;go_simp
    (go_at_call 207;refine (HQ.out _ (by omega) d1 g0 gM).mono ?_;rintro e w4 ⟨rfl,hb4⟩)
    have hZ:=hY.call (by simp) hb4;have hG3:=hG2.below hb4
    have hlt:w.heap.size+2≠w2.heap.size:=by omega
    have yj:=(hZ.get 2 rfl).cell (j:=0) rfl;have mW:=(hZ.get 2 rfl).frozen 0;have yu:=(hZ.get 2 rfl).cell (j:=1) rfl;have mX:=(hZ.get 2 rfl).frozen 1;have yx:=(hZ.get 2 rfl).cell (j:=2) rfl;have mY:=(hZ.get 2 rfl).frozen 2;have yA:=(hZ.get 2 rfl).cell (j:=3) rfl;have mZ:=(hZ.get 2 rfl).frozen 3;have hV:=((((hZ).set 2 rfl 0 (.int .i64 p)).set 2 rfl 1 (.slice none 0 0)).set 2 rfl 2 (.int .i64 q)).set 2 rfl 3 (.slice none 0 0);have hG4:=(((hG3.other (g':=w.heap.size+2) hlt.symm 0 (.int .i64 p)).other (g':=w.heap.size+2) hlt.symm 1 (.slice none 0 0)).other (g':=w.heap.size+2) hlt.symm 2 (.int .i64 q)).other (g':=w.heap.size+2) hlt.symm 3 (.slice none 0 0);refine hK.out _ _ ?Qg (fun hHeld=>?_)
    case Qg=>(exact ⟨hZ.aj rfl,hZ.get 1 rfl,hG3⟩)
    clear hK K
    try simp only [Act.put,la,lz,ls]
    refine tk 6 ?_;refine tr 7 fun K hK=>?_;go_simp;refine hK.out _ _ ?abv (fun hHeld=>?_)
    case abv=>(exact ⟨hV.aj rfl,hV.get 1 rfl,hG4⟩)
    clear hK K
    try simp only [Act.put,la,lz,ls]
    refine wpAnyH_done (by kernel_rfl) ?_ _;go_wp2;exact bodyPost_ret (aP (p:=4) (hV.get 2 rfl) Tryz.underlying109 rfl aU rfl _ rfl) rfl ⟨rfl,hV.bw⟩
theorem kL {a:Nm.Fr}:Nm.ok a=true↔(-1000000000≤a.n∧a.n≤1000000000)∧(1≤a.d∧a.d≤1000000000):=by
 unfold Nm.ok
 rw [decide_eq_true_eq,Nm.xq,Nm.xq]
 omega
theorem mG {a b:Int} (ha: -1000000000≤a∧a≤1000000000) (hb: -1000000000≤b∧b≤1000000000): -1000000000000000000≤a*b∧a*b≤1000000000000000000:=Nm.Yp (Nm.xq.2 ha) (Nm.xq.2 hb)
theorem zX {a b:Int} (ha:1≤a) (hb:1≤b):1≤a*b:=by have:=Int.mul_pos (show 0<a by omega) (show 0<b by omega);omega
theorem xJ (n:Int) (w:World):Calls Tryz.prog 90 #[nK n] w fun e w'=>e= .returned (fD ⟨n,1⟩)∧Below w.heap.size w w':=by
 go_enter Tryz.func90,Tryz.ntmps90
 go_upto_region 0 with (fail)
 go_cut [1,2] (fun v1 v2 wx=>v1=ptr w.heap.size∧v2=ptr (w.heap.size+1)∧aC w wx [(aH n,107),(ah ⟨0,0⟩,109)])
 case first=>
  go_wp2;go_meet;exact ⟨rfl,rfl,(((aC.nil w).new (by simp) (aH n) _).new (by simp) (ah ⟨0,0⟩) _)⟩
 case rest=>
  obtain ⟨rfl,rfl,hB⟩:=hcut;have wE:=(hB.aj rfl).cell (j:=0) rfl;have lX:=(hB.aj rfl).frozen 0;have ka1:=(hB.aj rfl).cell (j:=1) rfl;have lY:=(hB.aj rfl).frozen 1;have hB0:=hB
  go_upto_region 1 with (fail)
  refine wp_region_held_drew (S:=(fun w':World=>w'.cell? ⟨w.heap.size,0,none⟩=some (.int .i64 n)∧w'.cell? ⟨w.heap.size,1,none⟩=some (.slice none 0 0))) (by kernel_rfl) ?bU (fun hHeld=>?_)
  case bU=>exact ⟨((hB0.drew).aj rfl).cell (j:=0) rfl,((hB0.drew).aj rfl).cell (j:=1) rfl⟩
  refine tk 0 ?_;refine tr 1 fun K hK=>?_;go_simp
  (go_at_call 162;refine (rO 1 _).mono ?_;rintro e w1 ⟨rfl,hb1⟩)
  have hB1:=hB0.drew.call (by simp) hb1;have yj:=(hB1.get 1 rfl).cell (j:=0) rfl;have mW:=(hB1.get 1 rfl).frozen 0;have yu:=(hB1.get 1 rfl).cell (j:=1) rfl;have mX:=(hB1.get 1 rfl).frozen 1;have yx:=(hB1.get 1 rfl).cell (j:=2) rfl;have mY:=(hB1.get 1 rfl).frozen 2;have yA:=(hB1.get 1 rfl).cell (j:=3) rfl;have mZ:=(hB1.get 1 rfl).frozen 3;have hV:=((((hB1).set 1 rfl 0 (.int .i64 ((⟨n,1⟩:Nm.Fr)).n)).set 1 rfl 1 (.slice none 0 0)).set 1 rfl 2 (.int .i64 ((⟨n,1⟩:Nm.Fr)).d)).set 1 rfl 3 (.slice none 0 0);refine hK.out _ _ ?abf (fun hHeld=>?_)
  case abf=>(exact ⟨((hB1).aj rfl).cell (j:=0) rfl,((hB1).aj rfl).cell (j:=1) rfl⟩)
  clear hK K
  try simp only [Act.put,la,lz,ls]
  refine tk 2 ?_;refine tr 3 fun K hK=>?_;go_simp;refine hK.out _ _ ?Gu (fun hHeld=>?_)
  case Gu=>(exact ⟨((hV).aj rfl).cell (j:=0) rfl,((hV).aj rfl).cell (j:=1) rfl⟩)
  clear hK K
  try simp only [Act.put,la,lz,ls]
  refine wpAnyH_done (by kernel_rfl) ?_ _;go_wp2;exact bodyPost_ret (aP (p:=2) (hV.get 1 rfl) Tryz.underlying109 rfl aU rfl _ rfl) rfl ⟨rfl,hV.bw⟩
theorem f_any (n:Int) (w:World):Calls Tryz.prog 100 #[.int .i64 n] w fun e w'=>e= .returned (fD ⟨n,1⟩)∧Below w.heap.size w w':=by
 go_enter Tryz.func100,Tryz.ntmps100
 go_upto_region 0 with (fail)
 go_cut [2] (fun v2 wx=>v2=ptr w.heap.size∧aC w wx [(ah ⟨0,0⟩,109)])
 case first=>
  go_wp2;go_meet;exact ⟨rfl,((aC.nil w).new (by simp) (ah ⟨0,0⟩) _)⟩
 case rest=>
  obtain ⟨rfl,hB⟩:=hcut
  go_wp2_with (first | (go_at_call 162;refine (rO n _).mono ?_;rintro e w1 ⟨rfl,hb1⟩;have hB1:=hB.call (by simp) hb1) | (go_at_call 90;refine (xJ n _).mono ?_;rintro e w2 ⟨rfl,hb2⟩;have hB2:=hB1.call (by simp) hb2) | (refine fO 109 (.tmp 2) (.tmp 5) rfl ?_;refine dP (hB2.aj rfl) (ah ⟨n,1⟩) rfl aU (fE _) rfl (.tmp 2) (.tmp 5) rfl rfl rfl ?_))
  have hZ:=hB2.put 0 rfl (ah ⟨n,1⟩) rfl;exact bodyPost_ret (aP (p:=2) (hZ.aj rfl) Tryz.underlying109 rfl aU rfl _ rfl) rfl ⟨rfl,hZ.bw⟩
theorem jE (a:Nm.Fr) (w:World):Calls Tryz.prog 83 #[fD a] w fun e w'=>e= .returned (.int .i64 (Nm.nC a.n))∧Below w.heap.size w w':=by
 obtain ⟨n,d⟩:=a
 go_enter Tryz.func83,Tryz.ntmps83
 go_upto_region 0 with (fail)
 go_cut [1] (fun v1 wx=>v1=ptr w.heap.size∧aC w wx [(ah ⟨n,d⟩,109)])
 case first=>
  go_wp2;go_meet;exact ⟨rfl,((aC.nil w).new (by simp) (ah ⟨n,d⟩) _)⟩
 case rest=>
  obtain ⟨rfl,hB⟩:=hcut;have wE:=(hB.aj rfl).cell (j:=0) rfl;have lX:=(hB.aj rfl).frozen 0;have ka1:=(hB.aj rfl).cell (j:=1) rfl;have lY:=(hB.aj rfl).frozen 1;have Pq:=(hB.aj rfl).cell (j:=2) rfl;have zV:=(hB.aj rfl).frozen 2;have Pv:=(hB.aj rfl).cell (j:=3) rfl;have zW:=(hB.aj rfl).frozen 3
  go_wp2_with (first | (go_at_call 150;refine (AA n _).mono ?_;rintro e w1 ⟨rfl,hb1⟩;have hB1:=hB.call (by simp) hb1))
  go_ret;exact ⟨rfl,hB1.bw⟩
theorem Fj (a:Nm.Fr) (w:World) (h0: -9223372036854775807≤a.n) (h1:a.n≤9223372036854775807):Calls Tryz.prog 101 #[fD a] w fun e w'=>e= .returned (fD (Nm.neg a))∧Below w.heap.size w w':=by
 obtain ⟨n,d⟩:=a;have HN:=Kz n;obtain ⟨m,hm⟩:∃ m, -n=m:=⟨_,rfl⟩;rw [hm] at HN;rw [show Nm.neg ⟨n,d⟩=⟨m,d⟩ by unfold Nm.neg;rw [hm]];clear hm;have HN:=hide HN
 go_enter Tryz.func101,Tryz.ntmps101
 go_upto_region 0 with (fail)
 go_cut [1,2] (fun v1 v2 wx=>v1=ptr w.heap.size∧v2=ptr (w.heap.size+1)∧aC w wx [(ah ⟨n,d⟩,109),(ah ⟨0,0⟩,109)])
 case first=>
  go_wp2;go_meet;exact ⟨rfl,rfl,(((aC.nil w).new (by simp) (ah ⟨n,d⟩) _).new (by simp) (ah ⟨0,0⟩) _)⟩
 case rest=>
  obtain ⟨rfl,rfl,hB⟩:=hcut;have wE:=(hB.aj rfl).cell (j:=0) rfl;have lX:=(hB.aj rfl).frozen 0;have ka1:=(hB.aj rfl).cell (j:=1) rfl;have lY:=(hB.aj rfl).frozen 1;have Pq:=(hB.aj rfl).cell (j:=2) rfl;have zV:=(hB.aj rfl).frozen 2;have Pv:=(hB.aj rfl).cell (j:=3) rfl;have zW:=(hB.aj rfl).frozen 3;have hB0:=hB
  go_upto_region 1 with (fail)
  refine wp_region_held_drew (S:=(fun w':World=>w'.cell? ⟨w.heap.size,0,none⟩=some (.int .i64 ((⟨n,d⟩:Nm.Fr)).n)∧w'.cell? ⟨w.heap.size,1,none⟩=some (.slice none 0 0)∧w'.cell? ⟨w.heap.size,2,none⟩=some (.int .i64 ((⟨n,d⟩:Nm.Fr)).d)∧w'.cell? ⟨w.heap.size,3,none⟩=some (.slice none 0 0))) (by kernel_rfl) ?cu (fun hHeld=>?_)
  case cu=>exact ⟨((hB0.drew).aj rfl).cell (j:=0) rfl,((hB0.drew).aj rfl).cell (j:=1) rfl,((hB0.drew).aj rfl).cell (j:=2) rfl,((hB0.drew).aj rfl).cell (j:=3) rfl⟩
  refine tk 0 ?_;refine tk 1 ?_;refine tk 3 ?_;refine tk 4 ?_;refine tr 2 fun K hK=>?_;go_simp
  (go_at_call 168;refine (HN.out _ h0 h1).mono ?_;rintro e w1 ⟨rfl,hb1⟩)
  have hB1:=hB0.drew.call (by simp) hb1;have yj:=(hB1.get 1 rfl).cell (j:=0) rfl;have mW:=(hB1.get 1 rfl).frozen 0;have yu:=(hB1.get 1 rfl).cell (j:=1) rfl;have mX:=(hB1.get 1 rfl).frozen 1;have yx:=(hB1.get 1 rfl).cell (j:=2) rfl;have mY:=(hB1.get 1 rfl).frozen 2;have yA:=(hB1.get 1 rfl).cell (j:=3) rfl;have mZ:=(hB1.get 1 rfl).frozen 3;have hV:=((((hB1).set 1 rfl 0 (.int .i64 ((⟨m,d⟩:Nm.Fr)).n)).set 1 rfl 1 (.slice none 0 0)).set 1 rfl 2 (.int .i64 ((⟨m,d⟩:Nm.Fr)).d)).set 1 rfl 3 (.slice none 0 0);refine hK.out _ _ ?Ag (fun hHeld=>?_)
  case Ag=>(exact ⟨((hB1).aj rfl).cell (j:=0) rfl,((hB1).aj rfl).cell (j:=1) rfl,((hB1).aj rfl).cell (j:=2) rfl,((hB1).aj rfl).cell (j:=3) rfl⟩)
  clear hK K
  try simp only [Act.put,la,lz,ls]
  refine tk 5 ?_;refine tr 6 fun K hK=>?_;go_simp;refine hK.out _ _ ?Qw (fun hHeld=>?_)
  case Qw=>(exact ⟨((hV).aj rfl).cell (j:=0) rfl,((hV).aj rfl).cell (j:=1) rfl,((hV).aj rfl).cell (j:=2) rfl,((hV).aj rfl).cell (j:=3) rfl⟩)
  clear hK K
  try simp only [Act.put,la,lz,ls]
  refine wpAnyH_done (by kernel_rfl) ?_ _;go_wp2;exact bodyPost_ret (aP (p:=2) (hV.get 1 rfl) Tryz.underlying109 rfl aU rfl _ rfl) rfl ⟨rfl,hV.bw⟩
theorem Om (a:Nm.Fr) (w:World) (ha:Nm.ok a=true) (hp:0<a.n):Calls Tryz.prog 170 #[fD a] w fun e w'=>e= .returned (fD (Nm.inv a))∧Below w.heap.size w w':=by
 obtain ⟨⟨a0,a1⟩,a2,a3⟩:=kL.1 ha;obtain ⟨n,d⟩:=a
 dsimp only at a0 a1 a2 a3 hp
 have HK:=vO d n;rw [show Nm.inv ⟨n,d⟩=Nm.make d n from rfl];obtain ⟨r,hr⟩:∃ r,Nm.make d n=r:=⟨_,rfl⟩;rw [hr] at HK;rw [hr];clear hr;have HK:=hide HK
 go_enter Tryz.func170,Tryz.ntmps170
 go_upto_region 0 with (fail)
 go_cut [1,2] (fun v1 v2 wx=>v1=ptr w.heap.size∧v2=ptr (w.heap.size+1)∧aC w wx [(ah ⟨n,d⟩,109),(ah ⟨0,0⟩,109)])
 case first=>
  go_wp2;go_meet;exact ⟨rfl,rfl,(((aC.nil w).new (by simp) (ah ⟨n,d⟩) _).new (by simp) (ah ⟨0,0⟩) _)⟩
 case rest=>
  obtain ⟨rfl,rfl,hB⟩:=hcut;have wE:=(hB.aj rfl).cell (j:=0) rfl;have lX:=(hB.aj rfl).frozen 0;have ka1:=(hB.aj rfl).cell (j:=1) rfl;have lY:=(hB.aj rfl).frozen 1;have Pq:=(hB.aj rfl).cell (j:=2) rfl;have zV:=(hB.aj rfl).frozen 2;have Pv:=(hB.aj rfl).cell (j:=3) rfl;have zW:=(hB.aj rfl).frozen 3
  go_wp2_with (first | (go_at_call 154;refine (HK.out _ (by omega) (by omega) hp (by omega)).mono ?_;rintro e w1 ⟨rfl,hb1⟩;have hB1:=hB.call (by simp) hb1) | (refine fO 109 (.tmp 2) (.tmp 7) rfl ?_;refine dP (hB1.get 1 rfl) (ah r) rfl aU (fE _) rfl (.tmp 2) (.tmp 7) rfl rfl rfl ?_))
  have hZ:=hB1.put 1 rfl (ah r) rfl;exact bodyPost_ret (aP (p:=2) (hZ.get 1 rfl) Tryz.underlying109 rfl aU rfl _ rfl) rfl ⟨rfl,hZ.bw⟩
theorem gG (a b:Nm.Fr) (w:World) (ha:Nm.ok a=true) (hb:Nm.ok b=true):Calls Tryz.prog 97 #[fD a,fD b] w fun e w'=>e= .returned (fD (Nm.mul a b))∧Below w.heap.size w w':=by
 obtain ⟨⟨a0,a1⟩,a2,a3⟩:=kL.1 ha;obtain ⟨⟨b0,b1⟩,b2,b3⟩:=kL.1 hb;obtain ⟨an,ad⟩:=a;obtain ⟨bn,bd⟩:=b
 dsimp only at a0 a1 a2 a3 b0 b1 b2 b3
 have P0:=mG ⟨a0,a1⟩ ⟨b0,b1⟩;have Q0:=mG (a:=ad) (b:=bd) ⟨by omega,by omega⟩ ⟨by omega,by omega⟩;have Q1:=zX a2 b2;have HM:=jQ an bn;have HN:=jQ ad bd;have HK:=vO (an*bn) (ad*bd);rw [show Nm.mul ⟨an,ad⟩ ⟨bn,bd⟩=Nm.make (an*bn) (ad*bd) from rfl];obtain ⟨p,hp⟩:∃ p,an*bn=p:=⟨_,rfl⟩
 simp only [hp] at HM HK P0 ⊢
 clear hp;obtain ⟨q,hq⟩:∃ q,ad*bd=q:=⟨_,rfl⟩
 simp only [hq] at HN HK Q0 Q1 ⊢
 clear hq;obtain ⟨r,hr⟩:∃ r,Nm.make p q=r:=⟨_,rfl⟩
 simp only [hr] at HK ⊢
 clear hr;have HM:=hide HM;have HN:=hide HN;have HK:=hide HK
 go_enter Tryz.func97,Tryz.ntmps97
 go_upto_region 0 with (fail)
 go_cut [2,3,4] (fun v2 v3 v4 wx=>v2=ptr w.heap.size∧v3=ptr (w.heap.size+1)∧v4=ptr (w.heap.size+2)∧aC w wx [(ah ⟨an,ad⟩,109),(ah ⟨bn,bd⟩,109),(ah ⟨0,0⟩,109)])
 case first=>
  go_wp2;go_meet;exact ⟨rfl,rfl,rfl,((((aC.nil w).new (by simp) (ah ⟨an,ad⟩) _).new (by simp) (ah ⟨bn,bd⟩) _).new (by simp) (ah ⟨0,0⟩) _)⟩
 case rest=>
  obtain ⟨rfl,rfl,rfl,hB⟩:=hcut;have wE:=(hB.aj rfl).cell (j:=0) rfl;have lX:=(hB.aj rfl).frozen 0;have ka1:=(hB.aj rfl).cell (j:=1) rfl;have lY:=(hB.aj rfl).frozen 1;have Pq:=(hB.aj rfl).cell (j:=2) rfl;have zV:=(hB.aj rfl).frozen 2;have Pv:=(hB.aj rfl).cell (j:=3) rfl;have zW:=(hB.aj rfl).frozen 3;have ES:=(hB.get 1 rfl).cell (j:=0) rfl;have vJ:=(hB.get 1 rfl).frozen 0;have Lm:=(hB.get 1 rfl).cell (j:=1) rfl;have wW:=(hB.get 1 rfl).frozen 1;have kb2:=(hB.get 1 rfl).cell (j:=2) rfl;have XH:=(hB.get 1 rfl).frozen 2;have kb3:=(hB.get 1 rfl).cell (j:=3) rfl;have XI:=(hB.get 1 rfl).frozen 3;have hB0:=hB
  go_upto_region 1 with (fail)
  refine wp_region_held_drew (S:=(fun w':World=>w'.cell? ⟨w.heap.size,0,none⟩=some (.int .i64 ((⟨an,ad⟩:Nm.Fr)).n)∧w'.cell? ⟨w.heap.size,1,none⟩=some (.slice none 0 0)∧w'.cell? ⟨w.heap.size,2,none⟩=some (.int .i64 ((⟨an,ad⟩:Nm.Fr)).d)∧w'.cell? ⟨w.heap.size,3,none⟩=some (.slice none 0 0)∧w'.cell? ⟨w.heap.size+1,0,none⟩=some (.int .i64 ((⟨bn,bd⟩:Nm.Fr)).n)∧w'.cell? ⟨w.heap.size+1,1,none⟩=some (.slice none 0 0)∧w'.cell? ⟨w.heap.size+1,2,none⟩=some (.int .i64 ((⟨bn,bd⟩:Nm.Fr)).d)∧w'.cell? ⟨w.heap.size+1,3,none⟩=some (.slice none 0 0))) (by kernel_rfl) ?dF (fun hHeld=>?_)
  case dF=>exact ⟨((hB0.drew).aj rfl).cell (j:=0) rfl,((hB0.drew).aj rfl).cell (j:=1) rfl,((hB0.drew).aj rfl).cell (j:=2) rfl,((hB0.drew).aj rfl).cell (j:=3) rfl,((hB0.drew).get 1 rfl).cell (j:=0) rfl,((hB0.drew).get 1 rfl).cell (j:=1) rfl,((hB0.drew).get 1 rfl).cell (j:=2) rfl,((hB0.drew).get 1 rfl).cell (j:=3) rfl⟩
  refine tk 0 ?_;refine tk 1 ?_;refine tk 2 ?_;refine tk 3 ?_;refine tk 5 ?_;refine tk 6 ?_;refine tk 7 ?_;refine tk 8 ?_;refine tr 4 fun K hK=>?_;go_simp
  (go_at_call 155;refine (HM.out _ (by omega) (by omega) (by omega) (by omega) (by omega) (by omega)).mono ?_;rintro e w1 ⟨rfl,hb1⟩)
  have hB1:=hB0.drew.call (by simp) hb1;refine hK.out _ _ ?Ah (fun hHeld=>?_)
  case Ah=>(exact ⟨((hB1).aj rfl).cell (j:=0) rfl,((hB1).aj rfl).cell (j:=1) rfl,((hB1).aj rfl).cell (j:=2) rfl,((hB1).aj rfl).cell (j:=3) rfl,((hB1).get 1 rfl).cell (j:=0) rfl,((hB1).get 1 rfl).cell (j:=1) rfl,((hB1).get 1 rfl).cell (j:=2) rfl,((hB1).get 1 rfl).cell (j:=3) rfl⟩)
  clear hK K
  try simp only [Act.put,la,lz,ls]
  refine tr 9 fun K hK=>?_;go_simp
  (go_at_call 155;refine (HN.out _ (by omega) (by omega) (by omega) (by omega) (by omega) (by omega)).mono ?_;rintro e w2 ⟨rfl,hb2⟩)
  have hB2:=hB1.call (by simp) hb2;refine hK.out _ _ ?Gw (fun hHeld=>?_)
  case Gw=>(exact ⟨((hB2).aj rfl).cell (j:=0) rfl,((hB2).aj rfl).cell (j:=1) rfl,((hB2).aj rfl).cell (j:=2) rfl,((hB2).aj rfl).cell (j:=3) rfl,((hB2).get 1 rfl).cell (j:=0) rfl,((hB2).get 1 rfl).cell (j:=1) rfl,((hB2).get 1 rfl).cell (j:=2) rfl,((hB2).get 1 rfl).cell (j:=3) rfl⟩)
  clear hK K
  try simp only [Act.put,la,lz,ls]
  refine tr 10 fun K hK=>?_;go_simp
  (go_at_call 154;refine (HK.out _ (by omega) (by omega) (by omega) (by omega)).mono ?_;rintro e w3 ⟨rfl,hb3⟩)
  have hB3:=hB2.call (by simp) hb3;have yj:=(hB3.get 2 rfl).cell (j:=0) rfl;have mW:=(hB3.get 2 rfl).frozen 0;have yu:=(hB3.get 2 rfl).cell (j:=1) rfl;have mX:=(hB3.get 2 rfl).frozen 1;have yx:=(hB3.get 2 rfl).cell (j:=2) rfl;have mY:=(hB3.get 2 rfl).frozen 2;have yA:=(hB3.get 2 rfl).cell (j:=3) rfl;have mZ:=(hB3.get 2 rfl).frozen 3;have hV:=((((hB3).set 2 rfl 0 (.int .i64 (r).n)).set 2 rfl 1 (.slice none 0 0)).set 2 rfl 2 (.int .i64 (r).d)).set 2 rfl 3 (.slice none 0 0);refine hK.out _ _ ?uH (fun hHeld=>?_)
  case uH=>(exact ⟨((hB3).aj rfl).cell (j:=0) rfl,((hB3).aj rfl).cell (j:=1) rfl,((hB3).aj rfl).cell (j:=2) rfl,((hB3).aj rfl).cell (j:=3) rfl,((hB3).get 1 rfl).cell (j:=0) rfl,((hB3).get 1 rfl).cell (j:=1) rfl,((hB3).get 1 rfl).cell (j:=2) rfl,((hB3).get 1 rfl).cell (j:=3) rfl⟩)
  clear hK K
  try simp only [Act.put,la,lz,ls]
  refine tr 11 fun K hK=>?_;go_simp;refine hK.out _ _ ?Jm (fun hHeld=>?_)
  case Jm=>(exact ⟨((hV).aj rfl).cell (j:=0) rfl,((hV).aj rfl).cell (j:=1) rfl,((hV).aj rfl).cell (j:=2) rfl,((hV).aj rfl).cell (j:=3) rfl,((hV).get 1 rfl).cell (j:=0) rfl,((hV).get 1 rfl).cell (j:=1) rfl,((hV).get 1 rfl).cell (j:=2) rfl,((hV).get 1 rfl).cell (j:=3) rfl⟩)
  clear hK K
  try simp only [Act.put,la,lz,ls]
  refine wpAnyH_done (by kernel_rfl) ?_ _;go_wp2;exact bodyPost_ret (aP (p:=4) (hV.get 2 rfl) Tryz.underlying109 rfl aU rfl _ rfl) rfl ⟨rfl,hV.bw⟩
theorem pF (n:Int) (w:World):Calls Tryz.prog 106 #[fD ⟨n,1⟩] w fun e w'=>e= .returned (.bool true)∧Below w.heap.size w w':=x9 ⟨n,1⟩ w
theorem rJ (n d:Int) (hd:d≠1) (w:World):Calls Tryz.prog 106 #[fD ⟨n,d⟩] w fun e w'=>e= .returned (.bool false)∧Below w.heap.size w w':=by
 have:=x9 ⟨n,d⟩ w
 rwa [show decide ((⟨n,d⟩:Nm.Fr).d=1)=false by simp [hd]] at this
theorem pY (a b:Nm.Fr) (w:World) (ha:Nm.ok a=true) (hb:Nm.ok b=true):Calls Tryz.prog 86 #[fD a,fD b] w fun e w'=>e= .returned (fD (Nm.add a b))∧Below w.heap.size w w':=by
 obtain ⟨⟨a0,a1⟩,a2,a3⟩:=kL.1 ha;obtain ⟨⟨b0,b1⟩,b2,b3⟩:=kL.1 hb;obtain ⟨an,ad⟩:=a;obtain ⟨bn,bd⟩:=b
 dsimp only at a0 a1 a2 a3 b0 b1 b2 b3
 by_cases had:ad=1
 · subst had
   by_cases hbd:bd=1
   · subst hbd
     have HA:=vG an bn;rw [show Nm.add ⟨an,1⟩ ⟨bn,1⟩=⟨an+bn,1⟩ from rfl];obtain ⟨s,hs⟩:∃ s,an+bn=s:=⟨_,rfl⟩
     have s0: -2000000000≤s∧s≤2000000000:=by omega
     rw [hs] at HA;rw [hs];clear hs;have HA:=hide HA
     go_enter Tryz.func86,Tryz.ntmps86
     go_upto_region 0 with (fail)
     go_cut [2,3,4] (fun v2 v3 v4 wx=>v2=ptr w.heap.size∧v3=ptr (w.heap.size+1)∧v4=ptr (w.heap.size+2)∧aC w wx [(ah ⟨an,1⟩,109),(ah ⟨bn,1⟩,109),(ah ⟨0,0⟩,109)])
     case first=>
      go_wp2;go_meet;exact ⟨rfl,rfl,rfl,((((aC.nil w).new (by simp) (ah ⟨an,1⟩) _).new (by simp) (ah ⟨bn,1⟩) _).new (by simp) (ah ⟨0,0⟩) _)⟩
     case rest=>
      obtain ⟨rfl,rfl,rfl,hB⟩:=hcut;have wE:=(hB.aj rfl).cell (j:=0) rfl;have lX:=(hB.aj rfl).frozen 0;have ka1:=(hB.aj rfl).cell (j:=1) rfl;have lY:=(hB.aj rfl).frozen 1;have Pq:=(hB.aj rfl).cell (j:=2) rfl;have zV:=(hB.aj rfl).frozen 2;have Pv:=(hB.aj rfl).cell (j:=3) rfl;have zW:=(hB.aj rfl).frozen 3;have ES:=(hB.get 1 rfl).cell (j:=0) rfl;have vJ:=(hB.get 1 rfl).frozen 0;have Lm:=(hB.get 1 rfl).cell (j:=1) rfl;have wW:=(hB.get 1 rfl).frozen 1;have kb2:=(hB.get 1 rfl).cell (j:=2) rfl;have XH:=(hB.get 1 rfl).frozen 2;have kb3:=(hB.get 1 rfl).cell (j:=3) rfl;have XI:=(hB.get 1 rfl).frozen 3;have tok:=hide True.intro
      go_upto_region 2 with (first | (clear tok;go_at_call 106;refine (pF an _).mono ?_;rintro e w11 ⟨rfl,OL⟩;have hC:=hB.call (by simp) OL;have kw0:=(hC.get 1 rfl).cell (j:=0) rfl;have ak8:=(hC.get 1 rfl).frozen 0;have kw1:=(hC.get 1 rfl).cell (j:=1) rfl;have alf:=(hC.get 1 rfl).frozen 1;have kw2:=(hC.get 1 rfl).cell (j:=2) rfl;have aln:=(hC.get 1 rfl).frozen 2;have kw3:=(hC.get 1 rfl).cell (j:=3) rfl;have alv:=(hC.get 1 rfl).frozen 3) | (go_at_call 106;refine (pF bn _).mono ?_;rintro e w12 ⟨rfl,Xf⟩;have hD:=hC.call (by simp) Xf) | (refine dA 109 (.tmp 2) rfl ?_;refine cO (hB.aj rfl) Tryz.underlying109 rfl aU rfl (.tmp 2) rfl rfl ?_))
      have YO:=(hD.aj rfl).cell (j:=0) rfl;have Lr:=(hD.aj rfl).frozen 0;have YP:=(hD.aj rfl).cell (j:=1) rfl;have Ls:=(hD.aj rfl).frozen 1;have ky0:=(hD.get 1 rfl).cell (j:=0) rfl;have alD:=(hD.get 1 rfl).frozen 0;have ky1:=(hD.get 1 rfl).cell (j:=1) rfl;have alK:=(hD.get 1 rfl).frozen 1
      go_wp2_with (first | (go_at_call 153;refine (HA.out _ (by omega) (by omega) (by omega) (by omega) (by omega) (by omega)).mono ?_;rintro e w1 ⟨rfl,hb1⟩;have hE:=hD.call (by simp) hb1) | (go_at_call 90;refine (xJ s _).mono ?_;rintro e w2 ⟨rfl,hb2⟩;have hE2:=hE.call (by simp) hb2) | (refine fO 109 (.tmp 4) (.tmp 16) rfl ?_;refine dP (hE2.get 2 rfl) (ah ⟨s,1⟩) rfl aU (fE _) rfl (.tmp 4) (.tmp 16) rfl rfl rfl ?_))
      have hZ:=hE2.put 2 rfl (ah ⟨s,1⟩) rfl;exact bodyPost_ret (aP (p:=4) (hZ.get 2 rfl) Tryz.underlying109 rfl aU rfl _ rfl) rfl ⟨rfl,hZ.bw⟩
   · obtain ⟨d1,hd1⟩:∃ d:Int,d=1:=⟨_,rfl⟩
     rw [show Nm.add ⟨an,1⟩ ⟨bn,bd⟩=Nm.make (an*bd+bn*1) (1*bd) by unfold Nm.add;rw [if_neg (fun h=>hbd h.2)]]
     have a4:1≤d1:=by omega
     have a5:d1≤1000000000:=by omega
     have HW:=pF an;clear ha a2 a3;rw [← hd1] at HW ⊢;clear hd1;have a2:=a4;have a3:=a5;have P0:=mG (a:=an) (b:=bd) ⟨by omega,by omega⟩ ⟨by omega,by omega⟩;have U0:=mG (a:=bn) (b:=d1) ⟨by omega,by omega⟩ ⟨by omega,by omega⟩;have Q0:=mG (a:=d1) (b:=bd) ⟨by omega,by omega⟩ ⟨by omega,by omega⟩;have Q1:=zX a2 b2;have HM:=jQ an bd;have HU:=jQ bn d1;have HN:=jQ d1 bd;have HA:=vG (an*bd) (bn*d1);have HK:=vO (an*bd+bn*d1) (d1*bd);obtain ⟨p,hp⟩:∃ p,an*bd=p:=⟨_,rfl⟩
     simp only [hp] at HM HA HK P0 ⊢
     clear hp;obtain ⟨u,hu⟩:∃ u,bn*d1=u:=⟨_,rfl⟩
     simp only [hu] at HU HA HK U0 ⊢
     clear hu;obtain ⟨q,hq⟩:∃ q,d1*bd=q:=⟨_,rfl⟩
     simp only [hq] at HN HK Q0 Q1 ⊢
     clear hq
     have S0: -2000000000000000000≤p+u∧p+u≤2000000000000000000:=by omega
     obtain ⟨s,hs⟩:∃ s,p+u=s:=⟨_,rfl⟩
     simp only [hs] at HA HK S0 ⊢
     clear hs;obtain ⟨r,hr⟩:∃ r,Nm.make s q=r:=⟨_,rfl⟩
     simp only [hr] at HK ⊢
     clear hr;have HM:=hide HM;have HU:=hide HU;have HN:=hide HN;have HA:=hide HA;have HK:=hide HK;have HW:=hide HW
     go_enter Tryz.func86,Tryz.ntmps86
     go_upto_region 0 with (fail)
     go_cut [2,3,4] (fun v2 v3 v4 wx=>v2=ptr w.heap.size∧v3=ptr (w.heap.size+1)∧v4=ptr (w.heap.size+2)∧aC w wx [(ah ⟨an,d1⟩,109),(ah ⟨bn,bd⟩,109),(ah ⟨0,0⟩,109)])
     case first=>
      go_wp2;go_meet;exact ⟨rfl,rfl,rfl,((((aC.nil w).new (by simp) (ah ⟨an,d1⟩) _).new (by simp) (ah ⟨bn,bd⟩) _).new (by simp) (ah ⟨0,0⟩) _)⟩
     case rest=>
      obtain ⟨rfl,rfl,rfl,hB⟩:=hcut;have tok:=hide True.intro
      go_upto_region 3 with (first | (clear tok;go_at_call 106;refine (HW.out _).mono ?_;rintro e w11 ⟨rfl,OL⟩;have hC:=hB.call (by simp) OL;have kw0:=(hC.get 1 rfl).cell (j:=0) rfl;have ak8:=(hC.get 1 rfl).frozen 0;have kw1:=(hC.get 1 rfl).cell (j:=1) rfl;have alf:=(hC.get 1 rfl).frozen 1;have kw2:=(hC.get 1 rfl).cell (j:=2) rfl;have aln:=(hC.get 1 rfl).frozen 2;have kw3:=(hC.get 1 rfl).cell (j:=3) rfl;have alv:=(hC.get 1 rfl).frozen 3) | (go_at_call 106;refine (rJ bn bd hbd _).mono ?_;rintro e w12 ⟨rfl,Xf⟩;have hB0:=hC.call (by simp) Xf) | (refine dA 109 (.tmp 2) rfl ?_;refine cO (hB.aj rfl) Tryz.underlying109 rfl aU rfl (.tmp 2) rfl rfl ?_))
      refine wp_region_held_drew (S:=(fun w':World=>w'.cell? ⟨w.heap.size,0,none⟩=some (.int .i64 ((⟨an,d1⟩:Nm.Fr)).n)∧w'.cell? ⟨w.heap.size,1,none⟩=some (.slice none 0 0)∧w'.cell? ⟨w.heap.size,2,none⟩=some (.int .i64 ((⟨an,d1⟩:Nm.Fr)).d)∧w'.cell? ⟨w.heap.size,3,none⟩=some (.slice none 0 0)∧w'.cell? ⟨w.heap.size+1,0,none⟩=some (.int .i64 ((⟨bn,bd⟩:Nm.Fr)).n)∧w'.cell? ⟨w.heap.size+1,1,none⟩=some (.slice none 0 0)∧w'.cell? ⟨w.heap.size+1,2,none⟩=some (.int .i64 ((⟨bn,bd⟩:Nm.Fr)).d)∧w'.cell? ⟨w.heap.size+1,3,none⟩=some (.slice none 0 0))) (by kernel_rfl) ?iK (fun hHeld=>?_)
      case iK=>exact ⟨((hB0.drew).aj rfl).cell (j:=0) rfl,((hB0.drew).aj rfl).cell (j:=1) rfl,((hB0.drew).aj rfl).cell (j:=2) rfl,((hB0.drew).aj rfl).cell (j:=3) rfl,((hB0.drew).get 1 rfl).cell (j:=0) rfl,((hB0.drew).get 1 rfl).cell (j:=1) rfl,((hB0.drew).get 1 rfl).cell (j:=2) rfl,((hB0.drew).get 1 rfl).cell (j:=3) rfl⟩
      refine tk 0 ?_;refine tk 1 ?_;refine tk 2 ?_;refine tk 3 ?_;refine tk 5 ?_;refine tk 6 ?_;refine tk 7 ?_;refine tk 8 ?_;refine tk 11 ?_;refine tk 12 ?_;refine tk 13 ?_;refine tk 14 ?_;refine tr 4 fun K hK=>?_;go_simp
      (go_at_call 155;refine (HM.out _ (by omega) (by omega) (by omega) (by omega) (by omega) (by omega)).mono ?_;rintro e w1 ⟨rfl,hb1⟩)
      have hB1:=hB0.drew.call (by simp) hb1;refine hK.out _ _ ?acr (fun hHeld=>?_)
      case acr=>(exact ⟨((hB1).aj rfl).cell (j:=0) rfl,((hB1).aj rfl).cell (j:=1) rfl,((hB1).aj rfl).cell (j:=2) rfl,((hB1).aj rfl).cell (j:=3) rfl,((hB1).get 1 rfl).cell (j:=0) rfl,((hB1).get 1 rfl).cell (j:=1) rfl,((hB1).get 1 rfl).cell (j:=2) rfl,((hB1).get 1 rfl).cell (j:=3) rfl⟩)
      clear hK K
      try simp only [Act.put,la,lz,ls]
      refine tr 9 fun K hK=>?_;go_simp
      (go_at_call 155;refine (HU.out _ (by omega) (by omega) (by omega) (by omega) (by omega) (by omega)).mono ?_;rintro e w2 ⟨rfl,hb2⟩)
      have hB2:=hB1.call (by simp) hb2;refine hK.out _ _ ?acA (fun hHeld=>?_)
      case acA=>(exact ⟨((hB2).aj rfl).cell (j:=0) rfl,((hB2).aj rfl).cell (j:=1) rfl,((hB2).aj rfl).cell (j:=2) rfl,((hB2).aj rfl).cell (j:=3) rfl,((hB2).get 1 rfl).cell (j:=0) rfl,((hB2).get 1 rfl).cell (j:=1) rfl,((hB2).get 1 rfl).cell (j:=2) rfl,((hB2).get 1 rfl).cell (j:=3) rfl⟩)
      clear hK K
      try simp only [Act.put,la,lz,ls]
      refine tr 10 fun K hK=>?_;go_simp
      (go_at_call 153;refine (HA.out _ (by omega) (by omega) (by omega) (by omega) (by omega) (by omega)).mono ?_;rintro e w3 ⟨rfl,hb3⟩)
      have hB3:=hB2.call (by simp) hb3;refine hK.out _ _ ?X5 (fun hHeld=>?_)
      case X5=>(exact ⟨((hB3).aj rfl).cell (j:=0) rfl,((hB3).aj rfl).cell (j:=1) rfl,((hB3).aj rfl).cell (j:=2) rfl,((hB3).aj rfl).cell (j:=3) rfl,((hB3).get 1 rfl).cell (j:=0) rfl,((hB3).get 1 rfl).cell (j:=1) rfl,((hB3).get 1 rfl).cell (j:=2) rfl,((hB3).get 1 rfl).cell (j:=3) rfl⟩)
      clear hK K
      try simp only [Act.put,la,lz,ls]
      refine tr 15 fun K hK=>?_;go_simp
      (go_at_call 155;refine (HN.out _ (by omega) (by omega) (by omega) (by omega) (by omega) (by omega)).mono ?_;rintro e w4 ⟨rfl,hb4⟩)
      have hB4:=hB3.call (by simp) hb4;refine hK.out _ _ ?X6 (fun hHeld=>?_)
      case X6=>(exact ⟨((hB4).aj rfl).cell (j:=0) rfl,((hB4).aj rfl).cell (j:=1) rfl,((hB4).aj rfl).cell (j:=2) rfl,((hB4).aj rfl).cell (j:=3) rfl,((hB4).get 1 rfl).cell (j:=0) rfl,((hB4).get 1 rfl).cell (j:=1) rfl,((hB4).get 1 rfl).cell (j:=2) rfl,((hB4).get 1 rfl).cell (j:=3) rfl⟩)
      clear hK K
      try simp only [Act.put,la,lz,ls]
      refine tr 16 fun K hK=>?_;go_simp
      (go_at_call 154;refine (HK.out _ (by omega) (by omega) (by omega) (by omega)).mono ?_;rintro e w5 ⟨rfl,hb5⟩)
      have eH:=hB4.call (by simp) hb5;have yj:=(eH.get 2 rfl).cell (j:=0) rfl;have mW:=(eH.get 2 rfl).frozen 0;have yu:=(eH.get 2 rfl).cell (j:=1) rfl;have mX:=(eH.get 2 rfl).frozen 1;have yx:=(eH.get 2 rfl).cell (j:=2) rfl;have mY:=(eH.get 2 rfl).frozen 2;have yA:=(eH.get 2 rfl).cell (j:=3) rfl;have mZ:=(eH.get 2 rfl).frozen 3;have hV:=((((eH).set 2 rfl 0 (.int .i64 (r).n)).set 2 rfl 1 (.slice none 0 0)).set 2 rfl 2 (.int .i64 (r).d)).set 2 rfl 3 (.slice none 0 0);refine hK.out _ _ ?Jo (fun hHeld=>?_)
      case Jo=>(exact ⟨((eH).aj rfl).cell (j:=0) rfl,((eH).aj rfl).cell (j:=1) rfl,((eH).aj rfl).cell (j:=2) rfl,((eH).aj rfl).cell (j:=3) rfl,((eH).get 1 rfl).cell (j:=0) rfl,((eH).get 1 rfl).cell (j:=1) rfl,((eH).get 1 rfl).cell (j:=2) rfl,((eH).get 1 rfl).cell (j:=3) rfl⟩)
      clear hK K
      try simp only [Act.put,la,lz,ls]
      refine tr 17 fun K hK=>?_;go_simp;refine hK.out _ _ ?X7 (fun hHeld=>?_)
      case X7=>(exact ⟨((hV).aj rfl).cell (j:=0) rfl,((hV).aj rfl).cell (j:=1) rfl,((hV).aj rfl).cell (j:=2) rfl,((hV).aj rfl).cell (j:=3) rfl,((hV).get 1 rfl).cell (j:=0) rfl,((hV).get 1 rfl).cell (j:=1) rfl,((hV).get 1 rfl).cell (j:=2) rfl,((hV).get 1 rfl).cell (j:=3) rfl⟩)
      clear hK K
      try simp only [Act.put,la,lz,ls]
      refine wpAnyH_done (by kernel_rfl) ?_ _;go_wp2;exact bodyPost_ret (aP (p:=4) (hV.get 2 rfl) Tryz.underlying109 rfl aU rfl _ rfl) rfl ⟨rfl,hV.bw⟩
 · rw [show Nm.add ⟨an,ad⟩ ⟨bn,bd⟩=Nm.make (an*bd+bn*ad) (ad*bd) by unfold Nm.add;rw [if_neg (fun h=>had h.1)]]
   have P0:=mG (a:=an) (b:=bd) ⟨by omega,by omega⟩ ⟨by omega,by omega⟩;have U0:=mG (a:=bn) (b:=ad) ⟨by omega,by omega⟩ ⟨by omega,by omega⟩;have Q0:=mG (a:=ad) (b:=bd) ⟨by omega,by omega⟩ ⟨by omega,by omega⟩;have Q1:=zX a2 b2;have HM:=jQ an bd;have HU:=jQ bn ad;have HN:=jQ ad bd;have HA:=vG (an*bd) (bn*ad);have HK:=vO (an*bd+bn*ad) (ad*bd);obtain ⟨p,hp⟩:∃ p,an*bd=p:=⟨_,rfl⟩
   simp only [hp] at HM HA HK P0 ⊢
   clear hp;obtain ⟨u,hu⟩:∃ u,bn*ad=u:=⟨_,rfl⟩
   simp only [hu] at HU HA HK U0 ⊢
   clear hu;obtain ⟨q,hq⟩:∃ q,ad*bd=q:=⟨_,rfl⟩
   simp only [hq] at HN HK Q0 Q1 ⊢
   clear hq
   have S0: -2000000000000000000≤p+u∧p+u≤2000000000000000000:=by omega
   obtain ⟨s,hs⟩:∃ s,p+u=s:=⟨_,rfl⟩
   simp only [hs] at HA HK S0 ⊢
   clear hs;obtain ⟨r,hr⟩:∃ r,Nm.make s q=r:=⟨_,rfl⟩
   simp only [hr] at HK ⊢
   clear hr;have HM:=hide HM;have HU:=hide HU;have HN:=hide HN;have HA:=hide HA;have HK:=hide HK
   go_enter Tryz.func86,Tryz.ntmps86
   go_upto_region 0 with (fail)
   go_cut [2,3,4] (fun v2 v3 v4 wx=>v2=ptr w.heap.size∧v3=ptr (w.heap.size+1)∧v4=ptr (w.heap.size+2)∧aC w wx [(ah ⟨an,ad⟩,109),(ah ⟨bn,bd⟩,109),(ah ⟨0,0⟩,109)])
   case first=>
    go_wp2;go_meet;exact ⟨rfl,rfl,rfl,((((aC.nil w).new (by simp) (ah ⟨an,ad⟩) _).new (by simp) (ah ⟨bn,bd⟩) _).new (by simp) (ah ⟨0,0⟩) _)⟩
   case rest=>
    obtain ⟨rfl,rfl,rfl,hB⟩:=hcut
    go_upto_region 3 with (first | (go_at_call 106;refine (rJ an ad had _).mono ?_;rintro e w11 ⟨rfl,OL⟩;have hB0:=hB.call (by simp) OL) | (refine dA 109 (.tmp 2) rfl ?_;refine cO (hB.aj rfl) Tryz.underlying109 rfl aU rfl (.tmp 2) rfl rfl ?_))
    refine wp_region_held_drew (S:=(fun w':World=>w'.cell? ⟨w.heap.size,0,none⟩=some (.int .i64 ((⟨an,ad⟩:Nm.Fr)).n)∧w'.cell? ⟨w.heap.size,1,none⟩=some (.slice none 0 0)∧w'.cell? ⟨w.heap.size,2,none⟩=some (.int .i64 ((⟨an,ad⟩:Nm.Fr)).d)∧w'.cell? ⟨w.heap.size,3,none⟩=some (.slice none 0 0)∧w'.cell? ⟨w.heap.size+1,0,none⟩=some (.int .i64 ((⟨bn,bd⟩:Nm.Fr)).n)∧w'.cell? ⟨w.heap.size+1,1,none⟩=some (.slice none 0 0)∧w'.cell? ⟨w.heap.size+1,2,none⟩=some (.int .i64 ((⟨bn,bd⟩:Nm.Fr)).d)∧w'.cell? ⟨w.heap.size+1,3,none⟩=some (.slice none 0 0))) (by kernel_rfl) ?kN (fun hHeld=>?_)
    case kN=>exact ⟨((hB0.drew).aj rfl).cell (j:=0) rfl,((hB0.drew).aj rfl).cell (j:=1) rfl,((hB0.drew).aj rfl).cell (j:=2) rfl,((hB0.drew).aj rfl).cell (j:=3) rfl,((hB0.drew).get 1 rfl).cell (j:=0) rfl,((hB0.drew).get 1 rfl).cell (j:=1) rfl,((hB0.drew).get 1 rfl).cell (j:=2) rfl,((hB0.drew).get 1 rfl).cell (j:=3) rfl⟩
    refine tk 0 ?_;refine tk 1 ?_;refine tk 2 ?_;refine tk 3 ?_;refine tk 5 ?_;refine tk 6 ?_;refine tk 7 ?_;refine tk 8 ?_;refine tk 11 ?_;refine tk 12 ?_;refine tk 13 ?_;refine tk 14 ?_;refine tr 4 fun K hK=>?_;go_simp
    (go_at_call 155;refine (HM.out _ (by omega) (by omega) (by omega) (by omega) (by omega) (by omega)).mono ?_;rintro e w1 ⟨rfl,hb1⟩)
    have hB1:=hB0.drew.call (by simp) hb1;refine hK.out _ _ ?acO (fun hHeld=>?_)
    case acO=>(exact ⟨((hB1).aj rfl).cell (j:=0) rfl,((hB1).aj rfl).cell (j:=1) rfl,((hB1).aj rfl).cell (j:=2) rfl,((hB1).aj rfl).cell (j:=3) rfl,((hB1).get 1 rfl).cell (j:=0) rfl,((hB1).get 1 rfl).cell (j:=1) rfl,((hB1).get 1 rfl).cell (j:=2) rfl,((hB1).get 1 rfl).cell (j:=3) rfl⟩)
    clear hK K
    try simp only [Act.put,la,lz,ls]
    refine tr 9 fun K hK=>?_;go_simp
    (go_at_call 155;refine (HU.out _ (by omega) (by omega) (by omega) (by omega) (by omega) (by omega)).mono ?_;rintro e w2 ⟨rfl,hb2⟩)
    have hB2:=hB1.call (by simp) hb2;refine hK.out _ _ ?ac9 (fun hHeld=>?_)
    case ac9=>(exact ⟨((hB2).aj rfl).cell (j:=0) rfl,((hB2).aj rfl).cell (j:=1) rfl,((hB2).aj rfl).cell (j:=2) rfl,((hB2).aj rfl).cell (j:=3) rfl,((hB2).get 1 rfl).cell (j:=0) rfl,((hB2).get 1 rfl).cell (j:=1) rfl,((hB2).get 1 rfl).cell (j:=2) rfl,((hB2).get 1 rfl).cell (j:=3) rfl⟩)
    clear hK K
    try simp only [Act.put,la,lz,ls]
    refine tr 10 fun K hK=>?_;go_simp
    (go_at_call 153;refine (HA.out _ (by omega) (by omega) (by omega) (by omega) (by omega) (by omega)).mono ?_;rintro e w3 ⟨rfl,hb3⟩)
    have hB3:=hB2.call (by simp) hb3;refine hK.out _ _ ?X9 (fun hHeld=>?_)
    case X9=>(exact ⟨((hB3).aj rfl).cell (j:=0) rfl,((hB3).aj rfl).cell (j:=1) rfl,((hB3).aj rfl).cell (j:=2) rfl,((hB3).aj rfl).cell (j:=3) rfl,((hB3).get 1 rfl).cell (j:=0) rfl,((hB3).get 1 rfl).cell (j:=1) rfl,((hB3).get 1 rfl).cell (j:=2) rfl,((hB3).get 1 rfl).cell (j:=3) rfl⟩)
    clear hK K
    try simp only [Act.put,la,lz,ls]
    refine tr 15 fun K hK=>?_;go_simp
    (go_at_call 155;refine (HN.out _ (by omega) (by omega) (by omega) (by omega) (by omega) (by omega)).mono ?_;rintro e w4 ⟨rfl,hb4⟩)
    have hB4:=hB3.call (by simp) hb4;refine hK.out _ _ ?Ya (fun hHeld=>?_)
    case Ya=>(exact ⟨((hB4).aj rfl).cell (j:=0) rfl,((hB4).aj rfl).cell (j:=1) rfl,((hB4).aj rfl).cell (j:=2) rfl,((hB4).aj rfl).cell (j:=3) rfl,((hB4).get 1 rfl).cell (j:=0) rfl,((hB4).get 1 rfl).cell (j:=1) rfl,((hB4).get 1 rfl).cell (j:=2) rfl,((hB4).get 1 rfl).cell (j:=3) rfl⟩)
    clear hK K
    try simp only [Act.put,la,lz,ls]
    refine tr 16 fun K hK=>?_;go_simp
    (go_at_call 154;refine (HK.out _ (by omega) (by omega) (by omega) (by omega)).mono ?_;rintro e w5 ⟨rfl,hb5⟩)
    have eH:=hB4.call (by simp) hb5;have yj:=(eH.get 2 rfl).cell (j:=0) rfl;have mW:=(eH.get 2 rfl).frozen 0;have yu:=(eH.get 2 rfl).cell (j:=1) rfl;have mX:=(eH.get 2 rfl).frozen 1;have yx:=(eH.get 2 rfl).cell (j:=2) rfl;have mY:=(eH.get 2 rfl).frozen 2;have yA:=(eH.get 2 rfl).cell (j:=3) rfl;have mZ:=(eH.get 2 rfl).frozen 3;have hV:=((((eH).set 2 rfl 0 (.int .i64 (r).n)).set 2 rfl 1 (.slice none 0 0)).set 2 rfl 2 (.int .i64 (r).d)).set 2 rfl 3 (.slice none 0 0);refine hK.out _ _ ?Yb (fun hHeld=>?_)
    case Yb=>(exact ⟨((eH).aj rfl).cell (j:=0) rfl,((eH).aj rfl).cell (j:=1) rfl,((eH).aj rfl).cell (j:=2) rfl,((eH).aj rfl).cell (j:=3) rfl,((eH).get 1 rfl).cell (j:=0) rfl,((eH).get 1 rfl).cell (j:=1) rfl,((eH).get 1 rfl).cell (j:=2) rfl,((eH).get 1 rfl).cell (j:=3) rfl⟩)
    clear hK K
    try simp only [Act.put,la,lz,ls]
    refine tr 17 fun K hK=>?_;go_simp;refine hK.out _ _ ?Yc (fun hHeld=>?_)
    case Yc=>(exact ⟨((hV).aj rfl).cell (j:=0) rfl,((hV).aj rfl).cell (j:=1) rfl,((hV).aj rfl).cell (j:=2) rfl,((hV).aj rfl).cell (j:=3) rfl,((hV).get 1 rfl).cell (j:=0) rfl,((hV).get 1 rfl).cell (j:=1) rfl,((hV).get 1 rfl).cell (j:=2) rfl,((hV).get 1 rfl).cell (j:=3) rfl⟩)
    clear hK K
    try simp only [Act.put,la,lz,ls]
    refine wpAnyH_done (by kernel_rfl) ?_ _;go_wp2;exact bodyPost_ret (aP (p:=4) (hV.get 2 rfl) Tryz.underlying109 rfl aU rfl _ rfl) rfl ⟨rfl,hV.bw⟩
theorem lQ (a b:Nm.Fr) (w:World) (ha:Nm.ok a=true) (hb:Nm.ok b=true):Calls Tryz.prog 98 #[fD a,fD b] w fun e w'=>e= .returned (fD (Nm.sub a b))∧Below w.heap.size w w':=by
 have hb':Nm.ok (Nm.neg b)=true:=by
  rw [kL] at hb ⊢
  unfold Nm.neg
  dsimp only
  omega
 have HN:=Fj b;have HK:=pY a (Nm.neg b);obtain ⟨⟨b0,b1⟩,b2,b3⟩:=kL.1 hb;rw [show Nm.sub a b=Nm.add a (Nm.neg b) from rfl];obtain ⟨c,hc⟩:∃ c,Nm.neg b=c:=⟨_,rfl⟩;rw [hc] at HN HK hb' ⊢;clear hc;obtain ⟨r,hr⟩:∃ r,Nm.add a c=r:=⟨_,rfl⟩;rw [hr] at HK ⊢;clear hr;have HN:=hide HN;have HK:=hide HK
 go_enter Tryz.func98,Tryz.ntmps98
 go_upto_region 0 with (fail)
 go_cut [2,3,4] (fun v2 v3 v4 wx=>v2=ptr w.heap.size∧v3=ptr (w.heap.size+1)∧v4=ptr (w.heap.size+2)∧aC w wx [(ah a,109),(ah b,109),(ah ⟨0,0⟩,109)])
 case first=>
  go_wp2;go_meet;exact ⟨rfl,rfl,rfl,((((aC.nil w).new (by simp) (ah a) _).new (by simp) (ah b) _).new (by simp) (ah ⟨0,0⟩) _)⟩
 case rest=>
  obtain ⟨rfl,rfl,rfl,hB⟩:=hcut;have wE:=(hB.aj rfl).cell (j:=0) rfl;have lX:=(hB.aj rfl).frozen 0;have ka1:=(hB.aj rfl).cell (j:=1) rfl;have lY:=(hB.aj rfl).frozen 1;have Pq:=(hB.aj rfl).cell (j:=2) rfl;have zV:=(hB.aj rfl).frozen 2;have Pv:=(hB.aj rfl).cell (j:=3) rfl;have zW:=(hB.aj rfl).frozen 3;have ES:=(hB.get 1 rfl).cell (j:=0) rfl;have vJ:=(hB.get 1 rfl).frozen 0;have Lm:=(hB.get 1 rfl).cell (j:=1) rfl;have wW:=(hB.get 1 rfl).frozen 1;have kb2:=(hB.get 1 rfl).cell (j:=2) rfl;have XH:=(hB.get 1 rfl).frozen 2;have kb3:=(hB.get 1 rfl).cell (j:=3) rfl;have XI:=(hB.get 1 rfl).frozen 3;have hB0:=hB
  go_upto_region 1 with (fail)
  refine wp_region_held_drew (S:=(fun w':World=>w'.cell? ⟨w.heap.size,0,none⟩=some (.int .i64 (a).n)∧w'.cell? ⟨w.heap.size,1,none⟩=some (.slice none 0 0)∧w'.cell? ⟨w.heap.size,2,none⟩=some (.int .i64 (a).d)∧w'.cell? ⟨w.heap.size,3,none⟩=some (.slice none 0 0)∧w'.cell? ⟨w.heap.size+1,0,none⟩=some (.int .i64 (b).n)∧w'.cell? ⟨w.heap.size+1,1,none⟩=some (.slice none 0 0)∧w'.cell? ⟨w.heap.size+1,2,none⟩=some (.int .i64 (b).d)∧w'.cell? ⟨w.heap.size+1,3,none⟩=some (.slice none 0 0))) (by kernel_rfl) ?oQ (fun hHeld=>?_)
  case oQ=>exact ⟨((hB0.drew).aj rfl).cell (j:=0) rfl,((hB0.drew).aj rfl).cell (j:=1) rfl,((hB0.drew).aj rfl).cell (j:=2) rfl,((hB0.drew).aj rfl).cell (j:=3) rfl,((hB0.drew).get 1 rfl).cell (j:=0) rfl,((hB0.drew).get 1 rfl).cell (j:=1) rfl,((hB0.drew).get 1 rfl).cell (j:=2) rfl,((hB0.drew).get 1 rfl).cell (j:=3) rfl⟩
  refine tk 0 ?_;refine tk 1 ?_;refine tr 2 fun K hK=>?_;go_simp
  (go_at_call 101;refine (HN.out _ (by omega) (by omega)).mono ?_;rintro e w1 ⟨rfl,hb1⟩)
  have hB1:=hB0.drew.call (by simp) hb1;refine hK.out _ _ ?adi (fun hHeld=>?_)
  case adi=>(exact ⟨((hB1).aj rfl).cell (j:=0) rfl,((hB1).aj rfl).cell (j:=1) rfl,((hB1).aj rfl).cell (j:=2) rfl,((hB1).aj rfl).cell (j:=3) rfl,((hB1).get 1 rfl).cell (j:=0) rfl,((hB1).get 1 rfl).cell (j:=1) rfl,((hB1).get 1 rfl).cell (j:=2) rfl,((hB1).get 1 rfl).cell (j:=3) rfl⟩)
  clear hK K
  try simp only [Act.put,la,lz,ls]
  refine tr 3 fun K hK=>?_;go_simp
  (go_at_call 86;refine (HK.out _ ha hb').mono ?_;rintro e w2 ⟨rfl,hb2⟩)
  have hB2:=hB1.call (by simp) hb2;have yj:=(hB2.get 2 rfl).cell (j:=0) rfl;have mW:=(hB2.get 2 rfl).frozen 0;have yu:=(hB2.get 2 rfl).cell (j:=1) rfl;have mX:=(hB2.get 2 rfl).frozen 1;have yx:=(hB2.get 2 rfl).cell (j:=2) rfl;have mY:=(hB2.get 2 rfl).frozen 2;have yA:=(hB2.get 2 rfl).cell (j:=3) rfl;have mZ:=(hB2.get 2 rfl).frozen 3;have hV:=((((hB2).set 2 rfl 0 (.int .i64 (r).n)).set 2 rfl 1 (.slice none 0 0)).set 2 rfl 2 (.int .i64 (r).d)).set 2 rfl 3 (.slice none 0 0);refine hK.out _ _ ?adr (fun hHeld=>?_)
  case adr=>(exact ⟨((hB2).aj rfl).cell (j:=0) rfl,((hB2).aj rfl).cell (j:=1) rfl,((hB2).aj rfl).cell (j:=2) rfl,((hB2).aj rfl).cell (j:=3) rfl,((hB2).get 1 rfl).cell (j:=0) rfl,((hB2).get 1 rfl).cell (j:=1) rfl,((hB2).get 1 rfl).cell (j:=2) rfl,((hB2).get 1 rfl).cell (j:=3) rfl⟩)
  clear hK K
  try simp only [Act.put,la,lz,ls]
  refine tr 4 fun K hK=>?_;go_simp;refine hK.out _ _ ?ady (fun hHeld=>?_)
  case ady=>(exact ⟨((hV).aj rfl).cell (j:=0) rfl,((hV).aj rfl).cell (j:=1) rfl,((hV).aj rfl).cell (j:=2) rfl,((hV).aj rfl).cell (j:=3) rfl,((hV).get 1 rfl).cell (j:=0) rfl,((hV).get 1 rfl).cell (j:=1) rfl,((hV).get 1 rfl).cell (j:=2) rfl,((hV).get 1 rfl).cell (j:=3) rfl⟩)
  clear hK K
  try simp only [Act.put,la,lz,ls]
  refine wpAnyH_done (by kernel_rfl) ?_ _;go_wp2;exact bodyPost_ret (aP (p:=4) (hV.get 2 rfl) Tryz.underlying109 rfl aU rfl _ rfl) rfl ⟨rfl,hV.bw⟩
theorem Fh (a b:Nm.Fr) (w:World) (ha:Nm.ok a=true) (hb:Nm.ok b=true) (hp:0<b.n) (hb':Nm.ok (Nm.inv b)=true):Calls Tryz.prog 99 #[fD a,fD b] w fun e w'=>e= .returned (fD (Nm.div a b))∧Below w.heap.size w w':=by
 have HN:=Om b;have HK:=gG a (Nm.inv b);rw [show Nm.div a b=Nm.mul a (Nm.inv b) from rfl];obtain ⟨c,hc⟩:∃ c,Nm.inv b=c:=⟨_,rfl⟩;rw [hc] at HN HK hb' ⊢;clear hc;obtain ⟨r,hr⟩:∃ r,Nm.mul a c=r:=⟨_,rfl⟩;rw [hr] at HK ⊢;clear hr;have HN:=hide HN;have HK:=hide HK
 go_enter Tryz.func99,Tryz.ntmps99
 go_upto_region 0 with (fail)
 go_cut [2,3,4] (fun v2 v3 v4 wx=>v2=ptr w.heap.size∧v3=ptr (w.heap.size+1)∧v4=ptr (w.heap.size+2)∧aC w wx [(ah a,109),(ah b,109),(ah ⟨0,0⟩,109)])
 case first=>
  go_wp2;go_meet;exact ⟨rfl,rfl,rfl,((((aC.nil w).new (by simp) (ah a) _).new (by simp) (ah b) _).new (by simp) (ah ⟨0,0⟩) _)⟩
 case rest=>
  obtain ⟨rfl,rfl,rfl,hB⟩:=hcut;have wE:=(hB.aj rfl).cell (j:=0) rfl;have lX:=(hB.aj rfl).frozen 0;have ka1:=(hB.aj rfl).cell (j:=1) rfl;have lY:=(hB.aj rfl).frozen 1;have Pq:=(hB.aj rfl).cell (j:=2) rfl;have zV:=(hB.aj rfl).frozen 2;have Pv:=(hB.aj rfl).cell (j:=3) rfl;have zW:=(hB.aj rfl).frozen 3;have ES:=(hB.get 1 rfl).cell (j:=0) rfl;have vJ:=(hB.get 1 rfl).frozen 0;have Lm:=(hB.get 1 rfl).cell (j:=1) rfl;have wW:=(hB.get 1 rfl).frozen 1;have kb2:=(hB.get 1 rfl).cell (j:=2) rfl;have XH:=(hB.get 1 rfl).frozen 2;have kb3:=(hB.get 1 rfl).cell (j:=3) rfl;have XI:=(hB.get 1 rfl).frozen 3;have hB0:=hB
  go_upto_region 1 with (fail)
  refine wp_region_held_drew (S:=(fun w':World=>w'.cell? ⟨w.heap.size,0,none⟩=some (.int .i64 (a).n)∧w'.cell? ⟨w.heap.size,1,none⟩=some (.slice none 0 0)∧w'.cell? ⟨w.heap.size,2,none⟩=some (.int .i64 (a).d)∧w'.cell? ⟨w.heap.size,3,none⟩=some (.slice none 0 0)∧w'.cell? ⟨w.heap.size+1,0,none⟩=some (.int .i64 (b).n)∧w'.cell? ⟨w.heap.size+1,1,none⟩=some (.slice none 0 0)∧w'.cell? ⟨w.heap.size+1,2,none⟩=some (.int .i64 (b).d)∧w'.cell? ⟨w.heap.size+1,3,none⟩=some (.slice none 0 0))) (by kernel_rfl) ?kP (fun hHeld=>?_)
  case kP=>exact ⟨((hB0.drew).aj rfl).cell (j:=0) rfl,((hB0.drew).aj rfl).cell (j:=1) rfl,((hB0.drew).aj rfl).cell (j:=2) rfl,((hB0.drew).aj rfl).cell (j:=3) rfl,((hB0.drew).get 1 rfl).cell (j:=0) rfl,((hB0.drew).get 1 rfl).cell (j:=1) rfl,((hB0.drew).get 1 rfl).cell (j:=2) rfl,((hB0.drew).get 1 rfl).cell (j:=3) rfl⟩
  refine tk 0 ?_;refine tk 1 ?_;refine tr 2 fun K hK=>?_;go_simp
  (go_at_call 170;refine (HN.out _ hb hp).mono ?_;rintro e w1 ⟨rfl,hb1⟩)
  have hB1:=hB0.drew.call (by simp) hb1;refine hK.out _ _ ?adF (fun hHeld=>?_)
  case adF=>(exact ⟨((hB1).aj rfl).cell (j:=0) rfl,((hB1).aj rfl).cell (j:=1) rfl,((hB1).aj rfl).cell (j:=2) rfl,((hB1).aj rfl).cell (j:=3) rfl,((hB1).get 1 rfl).cell (j:=0) rfl,((hB1).get 1 rfl).cell (j:=1) rfl,((hB1).get 1 rfl).cell (j:=2) rfl,((hB1).get 1 rfl).cell (j:=3) rfl⟩)
  clear hK K
  try simp only [Act.put,la,lz,ls]
  refine tr 3 fun K hK=>?_;go_simp
  (go_at_call 97;refine (HK.out _ ha hb').mono ?_;rintro e w2 ⟨rfl,hb2⟩)
  have hB2:=hB1.call (by simp) hb2;have yj:=(hB2.get 2 rfl).cell (j:=0) rfl;have mW:=(hB2.get 2 rfl).frozen 0;have yu:=(hB2.get 2 rfl).cell (j:=1) rfl;have mX:=(hB2.get 2 rfl).frozen 1;have yx:=(hB2.get 2 rfl).cell (j:=2) rfl;have mY:=(hB2.get 2 rfl).frozen 2;have yA:=(hB2.get 2 rfl).cell (j:=3) rfl;have mZ:=(hB2.get 2 rfl).frozen 3;have hV:=((((hB2).set 2 rfl 0 (.int .i64 (r).n)).set 2 rfl 1 (.slice none 0 0)).set 2 rfl 2 (.int .i64 (r).d)).set 2 rfl 3 (.slice none 0 0);refine hK.out _ _ ?QD (fun hHeld=>?_)
  case QD=>(exact ⟨((hB2).aj rfl).cell (j:=0) rfl,((hB2).aj rfl).cell (j:=1) rfl,((hB2).aj rfl).cell (j:=2) rfl,((hB2).aj rfl).cell (j:=3) rfl,((hB2).get 1 rfl).cell (j:=0) rfl,((hB2).get 1 rfl).cell (j:=1) rfl,((hB2).get 1 rfl).cell (j:=2) rfl,((hB2).get 1 rfl).cell (j:=3) rfl⟩)
  clear hK K
  try simp only [Act.put,la,lz,ls]
  refine tr 4 fun K hK=>?_;go_simp;refine hK.out _ _ ?QE (fun hHeld=>?_)
  case QE=>(exact ⟨((hV).aj rfl).cell (j:=0) rfl,((hV).aj rfl).cell (j:=1) rfl,((hV).aj rfl).cell (j:=2) rfl,((hV).aj rfl).cell (j:=3) rfl,((hV).get 1 rfl).cell (j:=0) rfl,((hV).get 1 rfl).cell (j:=1) rfl,((hV).get 1 rfl).cell (j:=2) rfl,((hV).get 1 rfl).cell (j:=3) rfl⟩)
  clear hK K
  try simp only [Act.put,la,lz,ls]
  refine wpAnyH_done (by kernel_rfl) ?_ _;go_wp2;exact bodyPost_ret (aP (p:=4) (hV.get 2 rfl) Tryz.underlying109 rfl aU rfl _ rfl) rfl ⟨rfl,hV.bw⟩
end Go.Proofs.YtcbmedfongiojaaGreatDoor
