/- Parts of a proof. -/
import Derived.Test.YtjbbfmofpjflmaaGreatDoorKr24
import Derived.Test.YtjbbfmofpjflmaaGreatDoorKr4
set_option maxHeartbeats 4000000
set_option maxRecDepth 100000
set_option linter.unusedVariables false
set_option linter.unusedSimpArgs false
namespace Go.Proofs.YtjbbfmofpjflmaaGreatDoor
open Go.RowKit
theorem sJ {P:Program} {f:FuncId} {args:Array Value} {v:Value} {w:World} {a:Nat} (h:Calls P f args (w.drewN a) fun e w'=>e= .returned v∧w'=w.drewN a):Calls P f args (w.drewN a) fun e w'=>e= .returned v∧∃ n,w'=w.drewN n:=
 h.mono (by rintro e w' ⟨rfl,rfl⟩;exact ⟨rfl,a,rfl⟩)
def sz (n:Int):Int:=(n.natAbs:Int)
theorem Tz {n:Int} (h0: -9223372036854775807≤n) (h1:n≤9223372036854775807):0≤sz n∧sz n≤9223372036854775807:=by unfold sz;omega
theorem Fg (n:Int) (w:World) (h0: -9223372036854775807≤n) (h1:n≤9223372036854775807):
 Calls Tryz.prog 230 #[.int .i64 n] w fun e w'=>e= .returned (.int .u64 (sz n))∧w'=w:=size_any n w h0 h1
theorem Gz (a b z:Int) (h:a*b=z) (h0: -9223372036854775807≤a) (h1:a≤9223372036854775807) (g0: -9223372036854775807≤b) (g1:b≤9223372036854775807) (k0: -9223372036854775807≤z) (k1:z≤9223372036854775807) (w:World):
 Calls Tryz.prog 229 #[.int .u64 (sz a),.int .u64 (sz b)] w fun e w'=>e= .returned (.tuple #[.int .u64 0,.int .u64 (sz z)])∧w'=w:=by
 refine (Tryz.bits_Mul64 a.natAbs b.natAbs (by omega) (by omega) w).mono ?_
 rintro e w' ⟨rfl,rfl⟩
 have hm:a.natAbs*b.natAbs=z.natAbs:=by rw [← h,Int.natAbs_mul]
 rw [hm,Nat.div_eq_of_lt (by omega),Nat.mod_eq_of_lt (by omega)];exact ⟨rfl,rfl⟩
theorem sign_mul {a b z:Int} (h:a*b=z):(!(decide (a<0) == decide (b<0)))=true→z≤0:=by
 intro hd;subst h
 by_cases ha:a<0 <;> by_cases hb:b<0 <;> simp [ha,hb] at hd
 · exact Int.mul_nonpos_of_nonpos_of_nonneg (by omega) (by omega)
 · exact Int.mul_nonpos_of_nonneg_of_nonpos (by omega) (by omega)
theorem NU {a b z:Int} (h:a*b=z):(!(decide (a<0) == decide (b<0)))=false→0≤z:=by
 intro hd;subst h
 by_cases ha:a<0 <;> by_cases hb:b<0 <;> simp [ha,hb] at hd
 · exact Int.mul_nonneg_of_nonpos_of_nonpos (by omega) (by omega)
 · exact Int.mul_nonneg (by omega) (by omega)
theorem jU (a b:Int) (w:World) (h0: -9223372036854775807≤a) (h1:a≤9223372036854775807) (g0: -9223372036854775807≤b) (g1:b≤9223372036854775807) (k0: -9223372036854775807≤a*b) (k1:a*b≤9223372036854775807):
 Calls Tryz.prog 196 #[nR a,nR b] w fun e w'=>e= .returned (nR (a*b))∧Below w.heap.size w w':=by
 have hn:=uP;obtain ⟨z,hz⟩:∃ z,a*b=z:=⟨_,rfl⟩;have S1:=sign_mul hz;have S2:=NU hz;rw [hz] at k0 k1 ⊢;have hm:=Tz k0 k1
 rcases Bool.eq_false_or_eq_true (!(decide (a<0) == decide (b<0))) with hs | hs
 · have e: -(sz z)=z:=by have:=S1 hs;unfold sz;omega
   clear S1 S2
   go_enter Tryz.func196,Tryz.ntmps196
   go_upto_region 0 with (fail)
   go_cut [2,3,4] (fun v2 v3 v4 wx=>v2=ptr w.heap.size∧v3=ptr (w.heap.size+1)∧v4=ptr (w.heap.size+2)∧aG w wx [(aP a,162),(aP b,162),(aP 0,162)])
   case first=>
    go_wp2;go_meet;exact ⟨rfl,rfl,rfl,((((aG.nil w).new (by simp) (aP a) _).new (by simp) (aP b) _).new (by simp) (aP 0) _)⟩
   case rest=>
    obtain ⟨rfl,rfl,rfl,hB⟩:=hcut;have DV:=(hB.au rfl).cell (j:=0) rfl;have rD:=(hB.au rfl).frozen 0;have ka1:=(hB.au rfl).cell (j:=1) rfl;have rE:=(hB.au rfl).frozen 1;have Ii:=(hB.get 1 rfl).cell (j:=0) rfl;have yL:=(hB.get 1 rfl).frozen 0;have Me:=(hB.get 1 rfl).cell (j:=1) rfl;have yM:=(hB.get 1 rfl).frozen 1;have Zr:=(hB.get 2 rfl).cell (j:=0) rfl;have MB:=(hB.get 2 rfl).frozen 0;have Zt:=(hB.get 2 rfl).cell (j:=1) rfl;have MC:=(hB.get 2 rfl).frozen 1;go_wp2
    go_quiet (first | (go_at_call 230;exact sJ (Fg _ _ (by assumption) (by assumption))) | (go_at_call 229;exact sJ (Gz a b z hz h0 h1 g0 g1 k0 k1 _)))
    go_wp2;have hZ:=((hB.drewN nq).set 2 rfl 0 (.int .i64 z)).set 2 rfl 1 (.slice none 0 0);exact bodyPost_ret (aI (p:=4) (hZ.get 2 rfl) Tryz.underlying162 rfl bP rfl _ rfl) rfl ⟨rfl,hZ.bw⟩
 · have e:sz z=z:=by have:=S2 hs;unfold sz;omega
   clear S1 S2
   go_enter Tryz.func196,Tryz.ntmps196
   go_upto_region 0 with (fail)
   go_cut [2,3,4] (fun v2 v3 v4 wx=>v2=ptr w.heap.size∧v3=ptr (w.heap.size+1)∧v4=ptr (w.heap.size+2)∧aG w wx [(aP a,162),(aP b,162),(aP 0,162)])
   case first=>
    go_wp2;go_meet;exact ⟨rfl,rfl,rfl,((((aG.nil w).new (by simp) (aP a) _).new (by simp) (aP b) _).new (by simp) (aP 0) _)⟩
   case rest=>
    obtain ⟨rfl,rfl,rfl,hB⟩:=hcut;have DV:=(hB.au rfl).cell (j:=0) rfl;have rD:=(hB.au rfl).frozen 0;have ka1:=(hB.au rfl).cell (j:=1) rfl;have rE:=(hB.au rfl).frozen 1;have Ii:=(hB.get 1 rfl).cell (j:=0) rfl;have yL:=(hB.get 1 rfl).frozen 0;have Me:=(hB.get 1 rfl).cell (j:=1) rfl;have yM:=(hB.get 1 rfl).frozen 1;have Zr:=(hB.get 2 rfl).cell (j:=0) rfl;have MB:=(hB.get 2 rfl).frozen 0;have Zt:=(hB.get 2 rfl).cell (j:=1) rfl;have MC:=(hB.get 2 rfl).frozen 1;go_wp2
    go_quiet (first | (go_at_call 230;exact sJ (Fg _ _ (by assumption) (by assumption))) | (go_at_call 229;exact sJ (Gz a b z hz h0 h1 g0 g1 k0 k1 _)))
    go_wp2;have hZ:=((hB.drewN nq).set 2 rfl 0 (.int .i64 z)).set 2 rfl 1 (.slice none 0 0);exact bodyPost_ret (aI (p:=4) (hZ.get 2 rfl) Tryz.underlying162 rfl bP rfl _ rfl) rfl ⟨rfl,hZ.bw⟩
theorem DN {W:World} {g h:Nat} {cs ds:List Value} {t1 t2:TypeId} {d1 d2:TypeDesc} {fn:Func} {p q:Tmp} (hg:Held W g cs t1) (hh:Held W h ds t2) (hu:Tryz.prog.underlying t1=some d1) (hv:Tryz.prog.underlying t2=some d2) (h1:d1.isRow=true) (h2:d2.isRow=true)
 (hi:(Tryz.prog.info? t1).map (·.size)=some cs.length) (hj:(Tryz.prog.info? t2).map (·.size)=some ds.length) (hr:fn.results= #[.cell p t1,.cell q t2]) (tmps:Array Value) (hp:tmps.getD p undef=ptr g) (hq:tmps.getD q undef=ptr h):
 (results fn tmps).run Tryz.prog W= .ok (.tuple #[.agg cs.toArray,.agg ds.toArray]) W:=by
 have e:(results fn tmps).run Tryz.prog W=((asAddr (tmps.getD p undef)).run Tryz.prog W).andThen fun a w₁=>((loadVar t1 a).run Tryz.prog w₁).andThen fun v w₂=>((asAddr (tmps.getD q undef)).run Tryz.prog w₂).andThen fun a w₃=>((loadVar t2 a).run Tryz.prog w₃).andThen fun v' w₄=> .ok (.tuple #[v,v']) w₄:=by
  simp only [results,hr]
  simp [Sem.run_bind,Result.andThen]
 rw [e,hp,hq]
 simp only [ptr,asAddr,Sem.run_pure,Result.andThen_ok,run_loadVar_row W g t1 t1 cs.toArray (0,0) d1 hg hu (by cases d1 <;> first | rfl | cases h1) (by rw [iJ rfl rfl];exact hi),run_loadVar_row W h t2 t2 ds.toArray (0,0) d2 hh hv (by cases d2 <;> first | rfl | cases h2) (by rw [iJ rfl rfl];exact hj)]
theorem zu (a b:Int) (w:World) (h0: -9223372036854775807≤a) (h1:a≤9223372036854775807) (g0:0<b) (g1:b≤9223372036854775807):
 Calls Tryz.prog 222 #[nR a,nR b] w fun e w'=>e= .returned (.tuple #[nR (a / b),nR (a % b)])∧Below w.heap.size w w':=by
 have hn:=uP
 have hne:(a != -9223372036854775808)=true:=by rw [bne_iff_ne];omega
 have hb:(b == 0)=false:=by rw [beq_eq_false_iff_ne];omega
 have hb':¬ b=0:=by omega
 have D:=Nm.down (a:=a) g0;have B1:=Int.natAbs_ediv_le_natAbs a b;have B2:=Int.emod_nonneg a hb';have B3:=Int.emod_lt_of_pos a g0;obtain ⟨q,hq⟩:∃ q,a.tdiv b=q:=⟨_,rfl⟩;obtain ⟨r,hr⟩:∃ r,a.tmod b=r:=⟨_,rfl⟩;obtain ⟨Z,hZ⟩:∃ Z,a / b=Z:=⟨_,rfl⟩;obtain ⟨Y,hY⟩:∃ Y,a % b=Y:=⟨_,rfl⟩
 have B4:(a.tdiv b).natAbs≤a.natAbs:=by rw [Int.natAbs_tdiv];exact Nat.div_le_self _ _
 rw [hq] at B4;rw [hq,hr,hZ,hY] at D;rw [hZ,hY];rw [hZ] at B1;rw [hY] at B2 B3;clear hZ hY
 have z0: -9223372036854775807≤Z:=by omega
 have z1:Z≤9223372036854775807:=by omega
 have y1:Y≤9223372036854775807:=by omega
 have q0: -9223372036854775807≤q:=by omega
 have q1:q≤9223372036854775807:=by omega
 clear B1 B4
 by_cases hr0:r<0
 · rw [if_pos hr0,if_pos hr0] at D
   obtain ⟨e1,e2⟩:=D
   go_enter Tryz.func222,Tryz.ntmps222
   go_upto_region 0 with (fail)
   go_cut [2,3,4,5] (fun v2 v3 v4 v5 wx=>v2=ptr w.heap.size∧v3=ptr (w.heap.size+1)∧v4=ptr (w.heap.size+2)∧v5=ptr (w.heap.size+3)∧aG w wx [(aP a,162),(aP b,162),(aP 0,162),(aP 0,162)])
   case first=>
    go_wp2;go_meet;exact ⟨rfl,rfl,rfl,rfl,(((((aG.nil w).new (by simp) (aP a) _).new (by simp) (aP b) _).new (by simp) (aP 0) _).new (by simp) (aP 0) _)⟩
   case rest=>
    obtain ⟨rfl,rfl,rfl,rfl,hB⟩:=hcut;have DV:=(hB.au rfl).cell (j:=0) rfl;have rD:=(hB.au rfl).frozen 0;have ka1:=(hB.au rfl).cell (j:=1) rfl;have rE:=(hB.au rfl).frozen 1;have Ii:=(hB.get 1 rfl).cell (j:=0) rfl;have yL:=(hB.get 1 rfl).frozen 0;have Me:=(hB.get 1 rfl).cell (j:=1) rfl;have yM:=(hB.get 1 rfl).frozen 1;have Zr:=(hB.get 2 rfl).cell (j:=0) rfl;have MB:=(hB.get 2 rfl).frozen 0;have Zt:=(hB.get 2 rfl).cell (j:=1) rfl;have MC:=(hB.get 2 rfl).frozen 1;have kd0:=(hB.get 3 rfl).cell (j:=0) rfl;have Vo:=(hB.get 3 rfl).frozen 0;have kd1:=(hB.get 3 rfl).cell (j:=1) rfl;have Vp:=(hB.get 3 rfl).frozen 1;go_wp2
    go_quiet (fail)
    revert nq
    intro n1;go_wp2
    go_quiet (fail)
    go_wp2;have hZ:=((((hB.drewN (n1+nq)).set 2 rfl 0 (.int .i64 Z)).set 2 rfl 1 (.slice none 0 0)).set 3 rfl 0 (.int .i64 Y)).set 3 rfl 1 (.slice none 0 0);exact bodyPost_ret (DN (p:=4) (q:=5) (hZ.get 2 rfl) (hZ.get 3 rfl) Tryz.underlying162 Tryz.underlying162 rfl rfl bP bP rfl _ rfl rfl) rfl ⟨rfl,hZ.bw⟩
 · rw [if_neg hr0,if_neg hr0] at D
   obtain ⟨rfl,rfl⟩:=D
   go_enter Tryz.func222,Tryz.ntmps222
   go_upto_region 0 with (fail)
   go_cut [2,3,4,5] (fun v2 v3 v4 v5 wx=>v2=ptr w.heap.size∧v3=ptr (w.heap.size+1)∧v4=ptr (w.heap.size+2)∧v5=ptr (w.heap.size+3)∧aG w wx [(aP a,162),(aP b,162),(aP 0,162),(aP 0,162)])
   case first=>
    go_wp2;go_meet;exact ⟨rfl,rfl,rfl,rfl,(((((aG.nil w).new (by simp) (aP a) _).new (by simp) (aP b) _).new (by simp) (aP 0) _).new (by simp) (aP 0) _)⟩
   case rest=>
    obtain ⟨rfl,rfl,rfl,rfl,hB⟩:=hcut;have DV:=(hB.au rfl).cell (j:=0) rfl;have rD:=(hB.au rfl).frozen 0;have ka1:=(hB.au rfl).cell (j:=1) rfl;have rE:=(hB.au rfl).frozen 1;have Ii:=(hB.get 1 rfl).cell (j:=0) rfl;have yL:=(hB.get 1 rfl).frozen 0;have Me:=(hB.get 1 rfl).cell (j:=1) rfl;have yM:=(hB.get 1 rfl).frozen 1;have Zr:=(hB.get 2 rfl).cell (j:=0) rfl;have MB:=(hB.get 2 rfl).frozen 0;have Zt:=(hB.get 2 rfl).cell (j:=1) rfl;have MC:=(hB.get 2 rfl).frozen 1;have kd0:=(hB.get 3 rfl).cell (j:=0) rfl;have Vo:=(hB.get 3 rfl).frozen 0;have kd1:=(hB.get 3 rfl).cell (j:=1) rfl;have Vp:=(hB.get 3 rfl).frozen 1;go_wp2
    go_quiet (fail)
    go_wp2;have hZ:=((((hB.drewN nq).set 2 rfl 0 (.int .i64 q)).set 2 rfl 1 (.slice none 0 0)).set 3 rfl 0 (.int .i64 r)).set 3 rfl 1 (.slice none 0 0);exact bodyPost_ret (DN (p:=4) (q:=5) (hZ.get 2 rfl) (hZ.get 3 rfl) Tryz.underlying162 Tryz.underlying162 rfl rfl bP bP rfl _ rfl rfl) rfl ⟨rfl,hZ.bw⟩
theorem xU (b:Int) (hb:0<b) (w:World):Calls Tryz.prog 191 #[nR b] w fun e w'=>e= .returned (.int .i64 1)∧Below w.heap.size w w':=by
 have:=BP b w
 rwa [show Nm.oG b=1 by unfold Nm.oG;rw [if_neg (by omega),if_pos hb]] at this
theorem wF {o p:Option Value} {y r:Int} (h:o=some (.int .i64 r)) (k:p=some (.int .i64 y)) (hl:r.toNat<y.toNat):(intOf (o.getD undef)).toNat<(intOf (p.getD undef)).toNat:=by subst h k;exact hl
theorem sign_zero (w:World):Calls Tryz.prog 191 #[nR 0] w fun e w'=>e= .returned (.int .i64 0)∧Below w.heap.size w w':=BP 0 w
theorem O4 (x y:Int) (hx:0≤x) (hy:0<y):Nm.gcd x y=Nm.gcd y (x % y):=by
 obtain ⟨n,rfl⟩:=Int.eq_ofNat_of_zero_le hx;obtain ⟨m,rfl⟩:=Int.eq_ofNat_of_zero_le (Int.le_of_lt hy)
 unfold Nm.gcd
 rw [← Int.natCast_emod]
 show ((Nat.gcd n m:Nat):Int)=((Nat.gcd m (n % m):Nat):Int)
 rw [Nat.gcd_comm n m,Nat.gcd_rec m n,Nat.gcd_comm]
theorem UG (x:Int) (hx:0≤x):Nm.gcd x 0=x:=by
 obtain ⟨n,rfl⟩:=Int.eq_ofNat_of_zero_le hx
 unfold Nm.gcd
 show ((Nat.gcd n 0:Nat):Int)=n
 rw [Nat.gcd_zero_right]
theorem UE (a b:Int):Nm.gcd a b=Nm.gcd a.natAbs b.natAbs:=by
 unfold Nm.gcd
 rw [Int.gcd_eq_natAbs_gcd_natAbs,Int.gcd_eq_natAbs_gcd_natAbs,Int.natAbs_natCast,Int.natAbs_natCast]
theorem Gh (a b:Int) (w:World) (h0: -9223372036854775807≤a) (h1:a≤9223372036854775807) (g0:0<b) (g1:b≤9223372036854775807):
 Calls Tryz.prog 236 #[nR a,nR b] w fun e w'=>e= .returned (nR (a / b))∧Below w.heap.size w w':=by
 obtain ⟨z,hz⟩:∃ z,a / b=z:=⟨_,rfl⟩;have HD:=zu a b;rw [hz] at HD;rw [hz];clear hz
 go_enter Tryz.func236,Tryz.ntmps236
 go_upto_region 0 with (fail)
 go_cut [2,3,4] (fun v2 v3 v4 wx=>v2=ptr w.heap.size∧v3=ptr (w.heap.size+1)∧v4=ptr (w.heap.size+2)∧aG w wx [(aP a,162),(aP b,162),(aP 0,162)])
 case first=>
  go_wp2;go_meet;exact ⟨rfl,rfl,rfl,((((aG.nil w).new (by simp) (aP a) _).new (by simp) (aP b) _).new (by simp) (aP 0) _)⟩
 case rest=>
  obtain ⟨rfl,rfl,rfl,hB⟩:=hcut;have DV:=(hB.au rfl).cell (j:=0) rfl;have rD:=(hB.au rfl).frozen 0;have ka1:=(hB.au rfl).cell (j:=1) rfl;have rE:=(hB.au rfl).frozen 1;have Ii:=(hB.get 1 rfl).cell (j:=0) rfl;have yL:=(hB.get 1 rfl).frozen 0;have Me:=(hB.get 1 rfl).cell (j:=1) rfl;have yM:=(hB.get 1 rfl).frozen 1;have Zr:=(hB.get 2 rfl).cell (j:=0) rfl;have MB:=(hB.get 2 rfl).frozen 0;have Zt:=(hB.get 2 rfl).cell (j:=1) rfl;have MC:=(hB.get 2 rfl).frozen 1;have HD:=hide HD
  go_wp2_with (first | (go_at_call 191;refine (xU b g0 _).mono ?_;rintro e w1 ⟨rfl,hb1⟩;have hC:=hB.call (by simp) hb1) | (go_at_call 222;refine (HD.out _ h0 h1 g0 g1).mono ?_;rintro e w2 ⟨rfl,hb2⟩;have hD:=hC.call (by simp) hb2) | (refine dw 162 (.tmp 3) rfl ?_;refine dG (hC.get 1 rfl) Tryz.underlying162 rfl bP rfl (.tmp 3) rfl rfl ?_) | (refine dw 162 (.tmp 3) rfl ?_;refine dG (hB.get 1 rfl) Tryz.underlying162 rfl bP rfl (.tmp 3) rfl rfl ?_) | (refine dw 162 (.tmp 2) rfl ?_;refine dG (hC.au rfl) Tryz.underlying162 rfl bP rfl (.tmp 2) rfl rfl ?_) | (refine dw 162 (.tmp 2) rfl ?_;refine dG (hB.au rfl) Tryz.underlying162 rfl bP rfl (.tmp 2) rfl rfl ?_) | (refine fF 162 (.tmp 4) (.tmp 20) rfl ?_;refine dU (((hD.alloc (by simp) _).alloc (by simp) _).get 2 rfl) (aP z) rfl bP (sF _) rfl (.tmp 4) (.tmp 20) rfl rfl rfl ?_))
  have hZ:=((hD.alloc (by simp) (.cells #[.int .i64 z,.slice none 0 0] 162)).alloc (by simp) (.cells #[.int .i64 (a % b),.slice none 0 0] 162)).put 2 rfl (aP z) rfl;exact bodyPost_ret (aI (p:=4) (hZ.get 2 rfl) Tryz.underlying162 rfl bP rfl _ rfl) rfl ⟨rfl,hZ.bw⟩
theorem UF (a b:Int) (w:World) (h0: -9223372036854775807≤a) (h1:a≤9223372036854775807) (g0: -9223372036854775807≤b) (g1:b≤9223372036854775807):
 Calls Tryz.prog 188 #[nR a,nR b] w fun e w'=>e= .returned (nR (Nm.gcd a b))∧Below w.heap.size w w':=by
 go_enter Tryz.func188,Tryz.ntmps188
 go_upto_region 0 with (fail)
 go_cut [2,3,4] (fun v2 v3 v4 wx=>v2=ptr w.heap.size∧v3=ptr (w.heap.size+1)∧v4=ptr (w.heap.size+2)∧aG w wx [(aP a,162),(aP b,162),(aP 0,162)])
 case first=>
  go_wp2;go_meet;exact ⟨rfl,rfl,rfl,((((aG.nil w).new (by simp) (aP a) _).new (by simp) (aP b) _).new (by simp) (aP 0) _)⟩
 case rest=>
  obtain ⟨rfl,rfl,rfl,hB⟩:=hcut;have DV:=(hB.au rfl).cell (j:=0) rfl;have rD:=(hB.au rfl).frozen 0;have ka1:=(hB.au rfl).cell (j:=1) rfl;have rE:=(hB.au rfl).frozen 1;have Ii:=(hB.get 1 rfl).cell (j:=0) rfl;have yL:=(hB.get 1 rfl).frozen 0;have Me:=(hB.get 1 rfl).cell (j:=1) rfl;have yM:=(hB.get 1 rfl).frozen 1
  go_upto_region 1 with (fail)
  go_cut [] (fun wx=>aG w wx [(aP a.natAbs,162),(aP b.natAbs,162),(aP 0,162)])
  case first=>
   refine wp_region_held_drew (S:=(fun _:World=>True)) (by kernel_rfl) ?bg (fun hHeld=>?_)
   case bg=>trivial
   refine wpAnyH_ready (rs:=[0,2]) (by kernel_rfl) (by simp) ?_;refine AllReadyH.cons (o:=_) (ga rfl) (fun K hK=>?_) (AllReadyH.cons (o:=_) (ga rfl) (fun K hK=>?_) AllReadyH.nil)
   · go_simp
     refine hK.out _ _ ?Vx (fun hHeld=>?_)
     case Vx=>(first | (trivial) | (dsimp only;trivial))
     clear hK K
     try simp only [Act.put,la,lz,ls]
     refine wpAnyH_ready (rs:=[1,2]) (by kernel_rfl) (by simp) ?_;refine AllReadyH.cons (o:=_) (ga rfl) (fun K hK=>?_) (AllReadyH.cons (o:=_) (ga rfl) (fun K hK=>?_) AllReadyH.nil)
     · go_simp
       (go_at_call 221;refine (uS a _ h0 h1).mono ?_;rintro e w1 ⟨rfl,hb1⟩)
       have hD:=hB.drew.call (by simp) hb1;have kd0:=(hD.get 1 rfl).cell (j:=0) rfl;have Vo:=(hD.get 1 rfl).frozen 0;have kd1:=(hD.get 1 rfl).cell (j:=1) rfl;have Vp:=(hD.get 1 rfl).frozen 1;refine hK.out _ _ ?Qu (fun hHeld=>?_)
       case Qu=>(first | (trivial) | (dsimp only;trivial))
       clear hK K
       try simp only [Act.put,la,lz,ls]
       refine tr 2 fun K hK=>?_;go_simp;refine hK.out _ _ ?Qx (fun hHeld=>?_)
       case Qx=>(first | (trivial) | (dsimp only;trivial))
       clear hK K
       try simp only [Act.put,la,lz,ls]
       refine tr 3 fun K hK=>?_;go_simp
       (go_at_call 221;refine (uS b _ g0 g1).mono ?_;rintro e w2 ⟨rfl,hb2⟩)
       have hE:=hD.call (by simp) hb2;have ke0:=(hE.au rfl).cell (j:=0) rfl;have afz:=(hE.au rfl).frozen 0;have ke1:=(hE.au rfl).cell (j:=1) rfl;have afG:=(hE.au rfl).frozen 1;have kg0:=(hE.get 1 rfl).cell (j:=0) rfl;have afU:=(hE.get 1 rfl).frozen 0;have kg1:=(hE.get 1 rfl).cell (j:=1) rfl;have af2:=(hE.get 1 rfl).frozen 1;refine hK.out _ _ ?QA (fun hHeld=>?_)
       case QA=>(first | (trivial) | (dsimp only;trivial))
       clear hK K
       try simp only [Act.put,la,lz,ls]
       refine tr 4 fun K hK=>?_;go_simp;refine hK.out _ _ ?QE (fun hHeld=>?_)
       case QE=>(first | (trivial) | (dsimp only;trivial))
       clear hK K
       try simp only [Act.put,la,lz,ls]
       refine tr 5 fun K hK=>?_;go_simp;refine hK.out _ _ ?QI (fun hHeld=>?_)
       case QI=>(first | (trivial) | (dsimp only;trivial))
       clear hK K
       try simp only [Act.put,la,lz,ls]
       refine wpAnyH_done (by kernel_rfl) ?_ _;go_wp2;go_meet;exact (((hE.set 0 rfl 0 (.int .i64 a.natAbs)).set 0 rfl 1 (.slice none 0 0)).set 1 rfl 0 (.int .i64 b.natAbs)).set 1 rfl 1 (.slice none 0 0)
     · go_simp
       refine hK.out _ _ ?Qy (fun hHeld=>?_)
       case Qy=>(first | (trivial) | (dsimp only;trivial))
       clear hK K
       try simp only [Act.put,la,lz,ls]
       refine tr 1 fun K hK=>?_;go_simp
       (go_at_call 221;refine (uS a _ h0 h1).mono ?_;rintro e w1 ⟨rfl,hb1⟩)
       have hD:=hB.drew.call (by simp) hb1;have kd0:=(hD.get 1 rfl).cell (j:=0) rfl;have Vo:=(hD.get 1 rfl).frozen 0;have kd1:=(hD.get 1 rfl).cell (j:=1) rfl;have Vp:=(hD.get 1 rfl).frozen 1;refine hK.out _ _ ?BF (fun hHeld=>?_)
       case BF=>(first | (trivial) | (dsimp only;trivial))
       clear hK K
       try simp only [Act.put,la,lz,ls]
       refine tr 3 fun K hK=>?_;go_simp
       (go_at_call 221;refine (uS b _ g0 g1).mono ?_;rintro e w2 ⟨rfl,hb2⟩)
       have hE:=hD.call (by simp) hb2;have ke0:=(hE.au rfl).cell (j:=0) rfl;have afz:=(hE.au rfl).frozen 0;have ke1:=(hE.au rfl).cell (j:=1) rfl;have afG:=(hE.au rfl).frozen 1;have kg0:=(hE.get 1 rfl).cell (j:=0) rfl;have afU:=(hE.get 1 rfl).frozen 0;have kg1:=(hE.get 1 rfl).cell (j:=1) rfl;have af2:=(hE.get 1 rfl).frozen 1;refine hK.out _ _ ?QB (fun hHeld=>?_)
       case QB=>(first | (trivial) | (dsimp only;trivial))
       clear hK K
       try simp only [Act.put,la,lz,ls]
       refine tr 4 fun K hK=>?_;go_simp;refine hK.out _ _ ?QG (fun hHeld=>?_)
       case QG=>(first | (trivial) | (dsimp only;trivial))
       clear hK K
       try simp only [Act.put,la,lz,ls]
       refine tr 5 fun K hK=>?_;go_simp;refine hK.out _ _ ?QK (fun hHeld=>?_)
       case QK=>(first | (trivial) | (dsimp only;trivial))
       clear hK K
       try simp only [Act.put,la,lz,ls]
       refine wpAnyH_done (by kernel_rfl) ?_ _;go_wp2;go_meet;exact (((hE.set 0 rfl 0 (.int .i64 a.natAbs)).set 0 rfl 1 (.slice none 0 0)).set 1 rfl 0 (.int .i64 b.natAbs)).set 1 rfl 1 (.slice none 0 0)
   · go_simp
     refine hK.out _ _ ?Qz (fun hHeld=>?_)
     case Qz=>(first | (trivial) | (dsimp only;trivial))
     clear hK K
     try simp only [Act.put,la,lz,ls]
     refine tr 0 fun K hK=>?_;go_simp;refine hK.out _ _ ?Qr (fun hHeld=>?_)
     case Qr=>(first | (trivial) | (dsimp only;trivial))
     clear hK K
     try simp only [Act.put,la,lz,ls]
     refine tr 1 fun K hK=>?_;go_simp
     (go_at_call 221;refine (uS a _ h0 h1).mono ?_;rintro e w1 ⟨rfl,hb1⟩)
     have hD:=hB.drew.call (by simp) hb1;have kd0:=(hD.get 1 rfl).cell (j:=0) rfl;have Vo:=(hD.get 1 rfl).frozen 0;have kd1:=(hD.get 1 rfl).cell (j:=1) rfl;have Vp:=(hD.get 1 rfl).frozen 1;refine hK.out _ _ ?Qv (fun hHeld=>?_)
     case Qv=>(first | (trivial) | (dsimp only;trivial))
     clear hK K
     try simp only [Act.put,la,lz,ls]
     refine tr 3 fun K hK=>?_;go_simp
     (go_at_call 221;refine (uS b _ g0 g1).mono ?_;rintro e w2 ⟨rfl,hb2⟩)
     have hE:=hD.call (by simp) hb2;have ke0:=(hE.au rfl).cell (j:=0) rfl;have afz:=(hE.au rfl).frozen 0;have ke1:=(hE.au rfl).cell (j:=1) rfl;have afG:=(hE.au rfl).frozen 1;have kg0:=(hE.get 1 rfl).cell (j:=0) rfl;have afU:=(hE.get 1 rfl).frozen 0;have kg1:=(hE.get 1 rfl).cell (j:=1) rfl;have af2:=(hE.get 1 rfl).frozen 1;refine hK.out _ _ ?QC (fun hHeld=>?_)
     case QC=>(first | (trivial) | (dsimp only;trivial))
     clear hK K
     try simp only [Act.put,la,lz,ls]
     refine tr 4 fun K hK=>?_;go_simp;refine hK.out _ _ ?QH (fun hHeld=>?_)
     case QH=>(first | (trivial) | (dsimp only;trivial))
     clear hK K
     try simp only [Act.put,la,lz,ls]
     refine tr 5 fun K hK=>?_;go_simp;refine hK.out _ _ ?QL (fun hHeld=>?_)
     case QL=>(first | (trivial) | (dsimp only;trivial))
     clear hK K
     try simp only [Act.put,la,lz,ls]
     refine wpAnyH_done (by kernel_rfl) ?_ _;go_wp2;go_meet;exact (((hE.set 0 rfl 0 (.int .i64 a.natAbs)).set 0 rfl 1 (.slice none 0 0)).set 1 rfl 0 (.int .i64 b.natAbs)).set 1 rfl 1 (.slice none 0 0)
  case rest=>
   clear hB DV rD ka1 rE Ii yL Me yM;have HG:=hide (UE a b);go_wp2
   go_loopw [] (fun wr=>∃ x y:Int,0≤x∧x≤9223372036854775807∧0≤y∧y≤9223372036854775807∧Aside (Nm.gcd a b=Nm.gcd x y)∧aG w wr [(aP x,162),(aP y,162),(aP 0,162)]) (fun wr=>(intOf ((wr.cell? ⟨w.heap.size+1,0,none⟩).getD undef)).toNat)
   case atStart=>exact ⟨a.natAbs,b.natAbs,by omega,by omega,by omega,by omega,HG.out,hcut⟩
   case round=>
    obtain ⟨x,y,x0,x1,y0,y1,hg,hB⟩:=hrel;have DV:=(hB.au rfl).cell (j:=0) rfl;have rD:=(hB.au rfl).frozen 0;have ka1:=(hB.au rfl).cell (j:=1) rfl;have rE:=(hB.au rfl).frozen 1;have Ii:=(hB.get 1 rfl).cell (j:=0) rfl;have yL:=(hB.get 1 rfl).frozen 0;have Me:=(hB.get 1 rfl).cell (j:=1) rfl;have yM:=(hB.get 1 rfl).frozen 1
    by_cases hy:y=0
    · subst hy
      have HE:=hide (show nR x=nR (Nm.gcd a b) by rw [hg.out,UG x x0])
      go_wp2_with (first | (go_at_call 191;refine (sign_zero _).mono ?_;rintro e w1 ⟨rfl,hb1⟩;have hC:=hB.call (by simp) hb1) | (refine dw 162 (.tmp 3) rfl ?_;refine dG (hC.get 1 rfl) Tryz.underlying162 rfl bP rfl (.tmp 3) rfl rfl ?_) | (refine dw 162 (.tmp 3) rfl ?_;refine dG (hB.get 1 rfl) Tryz.underlying162 rfl bP rfl (.tmp 3) rfl rfl ?_) | (refine dw 162 (.tmp 2) rfl ?_;refine dG (hC.au rfl) Tryz.underlying162 rfl bP rfl (.tmp 2) rfl rfl ?_) | (refine dw 162 (.tmp 2) rfl ?_;refine dG (hB.au rfl) Tryz.underlying162 rfl bP rfl (.tmp 2) rfl rfl ?_) | (refine fF 162 (.tmp 4) (.tmp 22) rfl ?_;refine dU (hC.get 2 rfl) (aP x) rfl bP (sF _) rfl (.tmp 4) (.tmp 22) rfl rfl rfl ?_))
      have hZ:=hC.put 2 rfl (aP x) rfl;refine bodyPost_ret (aI (p:=4) (hZ.get 2 rfl) Tryz.underlying162 rfl bP rfl _ rfl) rfl ⟨?_,hZ.bw⟩;rw [← HE.out]
      rfl
    · have yp:0<y:=by omega
      have r0:=Int.emod_nonneg x hy;have r1:=Int.emod_lt_of_pos x yp;have HD:=zu x y;have HS:=hide (hg.out.trans (O4 x y x0 yp));clear hg;obtain ⟨r,hr⟩:∃ r,x % y=r:=⟨_,rfl⟩;obtain ⟨q,hq⟩:∃ q,x / y=q:=⟨_,rfl⟩;rw [hr] at HS r0 r1 HD;rw [hq] at HD;clear hr hq;have HD:=hide HD
      go_wp2_with (first | (go_at_call 191;refine (xU y yp _).mono ?_;rintro e w1 ⟨rfl,hb1⟩;have hC:=hB.call (by simp) hb1) | (go_at_call 222;refine (HD.out _ (by omega) x1 yp y1).mono ?_;rintro e w2 ⟨rfl,hb2⟩;have hD:=hC.call (by simp) hb2) | (refine dw 162 (.tmp 3) rfl ?_;refine dG (hC.get 1 rfl) Tryz.underlying162 rfl bP rfl (.tmp 3) rfl rfl ?_) | (refine dw 162 (.tmp 3) rfl ?_;refine dG (hB.get 1 rfl) Tryz.underlying162 rfl bP rfl (.tmp 3) rfl rfl ?_) | (refine dw 162 (.tmp 2) rfl ?_;refine dG (hC.au rfl) Tryz.underlying162 rfl bP rfl (.tmp 2) rfl rfl ?_) | (refine dw 162 (.tmp 2) rfl ?_;refine dG (hB.au rfl) Tryz.underlying162 rfl bP rfl (.tmp 2) rfl rfl ?_))
      have hX:=(hD.alloc (by simp) (.cells #[.int .i64 q,.slice none 0 0] 162)).alloc (by simp) (.cells #[.int .i64 r,.slice none 0 0] 162);have hsz:=hD.size (by simp)
      simp only [List.length_cons,List.length_nil] at hsz
      have hR:=Held.newAt (w2.alloc (.cells #[.int .i64 q,.slice none 0 0] 162)) [.int .i64 r,.slice none 0 0] 162 (g:=w2.heap.size+1) (by simp)
      go_upto_region 4 with (fail)
      obtain ⟨X,hXd⟩:∃ X,((w2.alloc (.cells #[.int .i64 q,.slice none 0 0] 162)).alloc (.cells #[.int .i64 r,.slice none 0 0] 162))=X:=⟨_,rfl⟩;rw [hXd] at hX
      simp only [hXd]
      rw [show (w2.alloc (.cells #[.int .i64 q,.slice none 0 0] 162)).alloc (.cells [.int .i64 r,.slice none 0 0].toArray 162)=X from hXd] at hR;clear hXd
      have hne0:w2.heap.size+1≠w.heap.size:=by omega
      have hne1:w2.heap.size+1≠w.heap.size+1:=by omega
      have kx0:=(hX.au rfl).cell (j:=0) rfl;have Qb:=(hX.au rfl).frozen 0;have Vr:=(hX.au rfl).cell (j:=1) rfl;have Qc:=(hX.au rfl).frozen 1;have ky0:=(hX.get 1 rfl).cell (j:=0) rfl;have aqH:=(hX.get 1 rfl).frozen 0;have ky1:=(hX.get 1 rfl).cell (j:=1) rfl;have aqO:=(hX.get 1 rfl).frozen 1;have kr0:=(hR).cell (j:=0) rfl;have aBP:=(hR).frozen 0;have kr1:=(hR).cell (j:=1) rfl;have aBW:=(hR).frozen 1;refine wp_region_held_drew (S:=(fun _:World=>True)) (by kernel_rfl) ?bV (fun hHeld=>?_)
      case bV=>trivial
      refine wpAnyH_ready (rs:=[0,1]) (by kernel_rfl) (by simp) ?_;refine AllReadyH.cons (o:=_) (ga rfl) (fun K hK=>?_) (AllReadyH.cons (o:=_) (ga rfl) (fun K hK=>?_) AllReadyH.nil)
      · go_simp
        refine hK.out _ _ ?Vy (fun hHeld=>?_)
        case Vy=>(first | (trivial) | (dsimp only;trivial))
        clear hK K
        try simp only [Act.put,la,lz,ls]
        refine wpAnyH_ready (rs:=[1,2]) (by kernel_rfl) (by simp) ?_;refine AllReadyH.cons (o:=_) (ga rfl) (fun K hK=>?_) (AllReadyH.cons (o:=_) (ga rfl) (fun K hK=>?_) AllReadyH.nil)
        · go_simp
          refine hK.out _ _ ?QW (fun hHeld=>?_)
          case QW=>(first | (trivial) | (dsimp only;trivial))
          clear hK K
          try simp only [Act.put,la,lz,ls]
          refine tr 2 fun K hK=>?_;go_simp;refine hK.out _ _ ?Q5 (fun hHeld=>?_)
          case Q5=>(first | (trivial) | (dsimp only;trivial))
          clear hK K
          try simp only [Act.put,la,lz,ls]
          refine tr 3 fun K hK=>?_;go_simp;refine hK.out _ _ ?Rf (fun hHeld=>?_)
          case Rf=>(first | (trivial) | (dsimp only;trivial))
          clear hK K
          try simp only [Act.put,la,lz,ls]
          refine wpAnyH_done (by kernel_rfl) ?_ _;have hN:=(((hX.drew.set 0 rfl 0 (.int .i64 y)).set 0 rfl 1 (.slice none 0 0)).set 1 rfl 0 (.int .i64 r)).set 1 rfl 1 (.slice none 0 0);have hcell:=(hN.get 1 rfl).cell (j:=0) rfl;go_wp2
          go_roundw
          case rel=>exact ⟨y,r,by omega,by omega,by omega,by omega,HS.out,hN⟩
          case measure=>exact wF hcell Ii (by omega)
        · go_simp
          refine hK.out _ _ ?Q7 (fun hHeld=>?_)
          case Q7=>(first | (trivial) | (dsimp only;trivial))
          clear hK K
          try simp only [Act.put,la,lz,ls]
          refine tr 1 fun K hK=>?_;go_simp;refine hK.out _ _ ?QX (fun hHeld=>?_)
          case QX=>(first | (trivial) | (dsimp only;trivial))
          clear hK K
          try simp only [Act.put,la,lz,ls]
          refine tr 3 fun K hK=>?_;go_simp;refine hK.out _ _ ?Rh (fun hHeld=>?_)
          case Rh=>(first | (trivial) | (dsimp only;trivial))
          clear hK K
          try simp only [Act.put,la,lz,ls]
          refine wpAnyH_done (by kernel_rfl) ?_ _;have hN:=(((hX.drew.set 0 rfl 0 (.int .i64 y)).set 0 rfl 1 (.slice none 0 0)).set 1 rfl 0 (.int .i64 r)).set 1 rfl 1 (.slice none 0 0);have hcell:=(hN.get 1 rfl).cell (j:=0) rfl;go_wp2
          go_roundw
          case rel=>exact ⟨y,r,by omega,by omega,by omega,by omega,HS.out,hN⟩
          case measure=>exact wF hcell Ii (by omega)
      · go_simp
        refine hK.out _ _ ?QY (fun hHeld=>?_)
        case QY=>(first | (trivial) | (dsimp only;trivial))
        clear hK K
        try simp only [Act.put,la,lz,ls]
        refine tr 0 fun K hK=>?_;go_simp;refine hK.out _ _ ?QV (fun hHeld=>?_)
        case QV=>(first | (trivial) | (dsimp only;trivial))
        clear hK K
        try simp only [Act.put,la,lz,ls]
        refine tr 2 fun K hK=>?_;go_simp;refine hK.out _ _ ?Q8 (fun hHeld=>?_)
        case Q8=>(first | (trivial) | (dsimp only;trivial))
        clear hK K
        try simp only [Act.put,la,lz,ls]
        refine tr 3 fun K hK=>?_;go_simp;refine hK.out _ _ ?Ri (fun hHeld=>?_)
        case Ri=>(first | (trivial) | (dsimp only;trivial))
        clear hK K
        try simp only [Act.put,la,lz,ls]
        refine wpAnyH_done (by kernel_rfl) ?_ _;have hN:=(((hX.drew.set 0 rfl 0 (.int .i64 y)).set 0 rfl 1 (.slice none 0 0)).set 1 rfl 0 (.int .i64 r)).set 1 rfl 1 (.slice none 0 0);have hcell:=(hN.get 1 rfl).cell (j:=0) rfl;go_wp2
        go_roundw
        case rel=>exact ⟨y,r,by omega,by omega,by omega,by omega,HS.out,hN⟩
        case measure=>exact wF hcell Ii (by omega)
theorem UH {n d:Int} (hd:0<d):0<Nm.gcd n d∧Nm.gcd n d≤d:=by
 have h1:Nm.gcd n d ∣ d:=Int.gcd_dvd_right n d;have h2:0≤Nm.gcd n d:=Int.natCast_nonneg _
 have h3:Nm.gcd n d≠0:=fun e=>by rw [e] at h1;have:=Int.zero_dvd.1 h1;omega
 exact ⟨by omega,Int.le_of_dvd hd h1⟩
theorem Vt {n d:Int} (hd:0<d):Nm.make n d=if d=1 then ⟨n,d⟩ else ⟨n / Nm.gcd n d,d / Nm.gcd n d⟩:=by
 unfold Nm.make
 have h:¬ d<0:=by omega
 simp only [if_neg h]
theorem xK (n d:Int) (w:World) (h0: -9223372036854775807≤n) (h1:n≤9223372036854775807) (d0:0<d) (d1:d≤9223372036854775807):
 Calls Tryz.prog 201 #[nR n,nR d] w fun e w'=>e= .returned (gy (Nm.make n d))∧Below w.heap.size w w':=by
 have hn:=uP;rw [Vt d0]
 by_cases hd:d=1
 · subst hd
   rw [if_pos rfl]
   go_enter Tryz.func201,Tryz.ntmps201
   go_upto_region 0 with (fail)
   go_cut [2,3,4] (fun v2 v3 v4 wx=>v2=ptr w.heap.size∧v3=ptr (w.heap.size+1)∧v4=ptr (w.heap.size+2)∧aG w wx [(aP n,162),(aP 1,162),(ah ⟨0,0⟩,164)])
   case first=>
    go_wp2;go_meet;exact ⟨rfl,rfl,rfl,((((aG.nil w).new (by simp) (aP n) _).new (by simp) (aP 1) _).new (by simp) (ah ⟨0,0⟩) _)⟩
   case rest=>
    obtain ⟨rfl,rfl,rfl,hB⟩:=hcut;have DV:=(hB.au rfl).cell (j:=0) rfl;have rD:=(hB.au rfl).frozen 0;have ka1:=(hB.au rfl).cell (j:=1) rfl;have rE:=(hB.au rfl).frozen 1;have Ii:=(hB.get 1 rfl).cell (j:=0) rfl;have yL:=(hB.get 1 rfl).frozen 0;have Me:=(hB.get 1 rfl).cell (j:=1) rfl;have yM:=(hB.get 1 rfl).frozen 1;have Zr:=(hB.get 2 rfl).cell (j:=0) rfl;have MB:=(hB.get 2 rfl).frozen 0;have Zt:=(hB.get 2 rfl).cell (j:=1) rfl;have MC:=(hB.get 2 rfl).frozen 1;have kc2:=(hB.get 2 rfl).cell (j:=2) rfl;have apM:=(hB.get 2 rfl).frozen 2;have kc3:=(hB.get 2 rfl).cell (j:=3) rfl;have apT:=(hB.get 2 rfl).frozen 3
    go_wp2_with (first | (go_at_call 191;refine (xU _ d0 _).mono ?_;rintro e w1 ⟨rfl,hb1⟩;have hC:=hB.call (by simp) hb1;have kx0:=(hC.get 1 rfl).cell (j:=0) rfl;have Qb:=(hC.get 1 rfl).frozen 0;have Vr:=(hC.get 1 rfl).cell (j:=1) rfl;have Qc:=(hC.get 1 rfl).frozen 1) | (refine dw 162 (.tmp 3) rfl ?_;refine dG (cs:=[.int .i64 1,.slice none 0 0]) (hC.get 1 rfl) Tryz.underlying162 rfl bP rfl (.tmp 3) rfl rfl ?_) | (refine dw 162 (.tmp 3) rfl ?_;refine dG (hB.get 1 rfl) Tryz.underlying162 rfl bP rfl (.tmp 3) rfl rfl ?_) | (refine dw 162 (.tmp 2) rfl ?_;refine dG (cs:=[.int .i64 n,.slice none 0 0]) (hC.au rfl) Tryz.underlying162 rfl bP rfl (.tmp 2) rfl rfl ?_) | (refine fF 164 (.tmp 4) (.tmp 23) rfl ?_;refine dU (hC.get 2 rfl) (ah ⟨n,1⟩) rfl aW (fO _) rfl (.tmp 4) (.tmp 23) rfl rfl rfl ?_))
    have hZ:=hC.put 2 rfl (ah ⟨n,1⟩) rfl;exact bodyPost_ret (aI (p:=4) (hZ.get 2 rfl) Tryz.underlying164 rfl aW rfl _ rfl) rfl ⟨rfl,hZ.bw⟩
 · rw [if_neg hd]
   have hd':(d == 1)=false:=by simp [hd]
   obtain ⟨g0,gd⟩:=UH (n:=n) d0;have HP:=Gh n (Nm.gcd n d);have HQ:=Gh d (Nm.gcd n d);have HGc:=UF n d;obtain ⟨g,hg⟩:∃ g,Nm.gcd n d=g:=⟨_,rfl⟩;rw [hg] at g0 gd HP HQ HGc;rw [hg];obtain ⟨p,hp⟩:∃ p,n / g=p:=⟨_,rfl⟩;obtain ⟨q,hq⟩:∃ q,d / g=q:=⟨_,rfl⟩;rw [hp] at HP;rw [hq] at HQ;rw [hp,hq];clear hg hp hq
   have gM:g≤9223372036854775807:=by omega
   have HP:=hide HP;have HQ:=hide HQ;have HGc:=hide HGc
   go_enter Tryz.func201,Tryz.ntmps201
   go_upto_region 0 with (fail)
   go_cut [2,3,4] (fun v2 v3 v4 wx=>v2=ptr w.heap.size∧v3=ptr (w.heap.size+1)∧v4=ptr (w.heap.size+2)∧aG w wx [(aP n,162),(aP d,162),(ah ⟨0,0⟩,164)])
   case first=>
    go_wp2;go_meet;exact ⟨rfl,rfl,rfl,((((aG.nil w).new (by simp) (aP n) _).new (by simp) (aP d) _).new (by simp) (ah ⟨0,0⟩) _)⟩
   case rest=>
    obtain ⟨rfl,rfl,rfl,hB⟩:=hcut;have DV:=(hB.au rfl).cell (j:=0) rfl;have rD:=(hB.au rfl).frozen 0;have ka1:=(hB.au rfl).cell (j:=1) rfl;have rE:=(hB.au rfl).frozen 1;have Ii:=(hB.get 1 rfl).cell (j:=0) rfl;have yL:=(hB.get 1 rfl).frozen 0;have Me:=(hB.get 1 rfl).cell (j:=1) rfl;have yM:=(hB.get 1 rfl).frozen 1;have Zr:=(hB.get 2 rfl).cell (j:=0) rfl;have MB:=(hB.get 2 rfl).frozen 0;have Zt:=(hB.get 2 rfl).cell (j:=1) rfl;have MC:=(hB.get 2 rfl).frozen 1;have kc2:=(hB.get 2 rfl).cell (j:=2) rfl;have apM:=(hB.get 2 rfl).frozen 2;have kc3:=(hB.get 2 rfl).cell (j:=3) rfl;have apT:=(hB.get 2 rfl).frozen 3
    go_upto_region 6 with (first | (go_at_call 191;refine (xU _ d0 _).mono ?_;rintro e w1 ⟨rfl,hb1⟩;have hC:=hB.call (by simp) hb1;have kx0:=(hC.get 1 rfl).cell (j:=0) rfl;have Qb:=(hC.get 1 rfl).frozen 0;have Vr:=(hC.get 1 rfl).cell (j:=1) rfl;have Qc:=(hC.get 1 rfl).frozen 1) | (go_at_call 188;refine (HGc.out _ h0 h1 (by omega) d1).mono ?_;rintro e w2 ⟨rfl,hb2⟩;have hD:=hC.call (by simp) hb2) | (refine dw 162 (.tmp 3) rfl ?_;refine dG (hC.get 1 rfl) Tryz.underlying162 rfl bP rfl (.tmp 3) rfl rfl ?_) | (refine dw 162 (.tmp 3) rfl ?_;refine dG (hB.get 1 rfl) Tryz.underlying162 rfl bP rfl (.tmp 3) rfl rfl ?_) | (refine dw 162 (.tmp 2) rfl ?_;refine dG (hC.au rfl) Tryz.underlying162 rfl bP rfl (.tmp 2) rfl rfl ?_))
    have hX:=hD.alloc (by simp) (.cells #[.int .i64 g,.slice none 0 0] 162);have hG:=Held.new w2 [.int .i64 g,.slice none 0 0] 162;have hsz:=hD.size (by simp)
    simp only [List.length_cons,List.length_nil] at hsz
    refine wp_region_held_drew (S:=(fun w':World=>Held w' w.heap.size (aP n) 162∧Held w' (w.heap.size+1) (aP d) 162∧Held w' w2.heap.size [.int .i64 g,.slice none 0 0] 162)) (by kernel_rfl) ?bg (fun hHeld=>?_)
    case bg=>exact ⟨hX.drew.au rfl,hX.drew.get 1 rfl,hG.drew⟩
    refine wpAnyH_take (i:=0) (oi:=_) (v:=_) (ga rfl) (by kernel_rfl) (by kernel_rfl) (by kernel_rfl) (fun _ _ _ h=>h) (yieldsIf_load_mid (by rfl) _ _ (by rfl) _ _ (by rfl) _ _ (fun _ h=>h.1.range) Tryz.underlying162 rfl (by kernel_rfl)) (by assumption) ?_
    try simp only [Act.put,la,lz,ls]
    refine wpAnyH_take (i:=1) (oi:=_) (v:=_) (ga rfl) (by kernel_rfl) (by kernel_rfl) (by kernel_rfl) (fun _ _ _ h=>h) (yieldsIf_load_mid (by rfl) _ _ (by rfl) _ _ (by rfl) _ _ (fun _ h=>h.2.2.range) Tryz.underlying162 rfl (by kernel_rfl)) (by assumption) ?_
    try simp only [Act.put,la,lz,ls]
    refine wpAnyH_take (i:=3) (oi:=_) (v:=_) (ga rfl) (by kernel_rfl) (by kernel_rfl) (by kernel_rfl) (fun _ _ _ h=>h) (yieldsIf_load_mid (by rfl) _ _ (by rfl) _ _ (by rfl) _ _ (fun _ h=>h.2.1.range) Tryz.underlying162 rfl (by kernel_rfl)) (by assumption) ?_
    try simp only [Act.put,la,lz,ls]
    refine wpAnyH_take (i:=4) (oi:=_) (v:=_) (ga rfl) (by kernel_rfl) (by kernel_rfl) (by kernel_rfl) (fun _ _ _ h=>h) (yieldsIf_load_mid (by rfl) _ _ (by rfl) _ _ (by rfl) _ _ (fun _ h=>h.2.2.range) Tryz.underlying162 rfl (by kernel_rfl)) (by assumption) ?_
    try simp only [Act.put,la,lz,ls]
    refine tr 2 fun K hK=>?_;go_simp
    (go_at_call 236;refine (HP.out _ h0 h1 g0 gM).mono ?_;rintro e w3 ⟨rfl,hb3⟩)
    have hY:=hX.drew.call (by simp) hb3;have hG2:=hG.drew.below hb3;refine hK.out _ _ ?Qw (fun hHeld=>?_)
    case Qw=>(exact ⟨hY.au rfl,hY.get 1 rfl,hG2⟩)
    clear hK K
    try simp only [Act.put,la,lz,ls]
    refine tr 5 fun K hK=>?_;go_simp
    (go_at_call 236;refine (HQ.out _ (by omega) d1 g0 gM).mono ?_;rintro e w4 ⟨rfl,hb4⟩)
    have hZ:=hY.call (by simp) hb4;have hG3:=hG2.below hb4
    have hlt:w.heap.size+2≠w2.heap.size:=by omega
    have TW:=(hZ.get 2 rfl).cell (j:=0) rfl;have C9:=(hZ.get 2 rfl).frozen 0;have TY:=(hZ.get 2 rfl).cell (j:=1) rfl;have Dc:=(hZ.get 2 rfl).frozen 1;have Ua:=(hZ.get 2 rfl).cell (j:=2) rfl;have Df:=(hZ.get 2 rfl).frozen 2;have Ub:=(hZ.get 2 rfl).cell (j:=3) rfl;have Dh:=(hZ.get 2 rfl).frozen 3;have hV:=((((hZ).set 2 rfl 0 (.int .i64 p)).set 2 rfl 1 (.slice none 0 0)).set 2 rfl 2 (.int .i64 q)).set 2 rfl 3 (.slice none 0 0);have hG4:=(((hG3.other (g':=w.heap.size+2) hlt.symm 0 (.int .i64 p)).other (g':=w.heap.size+2) hlt.symm 1 (.slice none 0 0)).other (g':=w.heap.size+2) hlt.symm 2 (.int .i64 q)).other (g':=w.heap.size+2) hlt.symm 3 (.slice none 0 0);refine hK.out _ _ ?GY (fun hHeld=>?_)
    case GY=>(exact ⟨hZ.au rfl,hZ.get 1 rfl,hG3⟩)
    clear hK K
    try simp only [Act.put,la,lz,ls]
    refine tk 6 ?_;refine tr 7 fun K hK=>?_;go_simp;refine hK.out _ _ ?agy (fun hHeld=>?_)
    case agy=>(exact ⟨hV.au rfl,hV.get 1 rfl,hG4⟩)
    clear hK K
    try simp only [Act.put,la,lz,ls]
    refine wpAnyH_done (by kernel_rfl) ?_ _;go_wp2;exact bodyPost_ret (aI (p:=4) (hV.get 2 rfl) Tryz.underlying164 rfl aW rfl _ rfl) rfl ⟨rfl,hV.bw⟩
theorem kG {a:Nm.Fr}:Nm.ok a=true↔(-1000000000≤a.n∧a.n≤1000000000)∧(1≤a.d∧a.d≤1000000000):=by
 unfold Nm.ok
 rw [decide_eq_true_eq,Nm.yT,Nm.yT]
 omega
theorem nG {a b:Int} (ha: -1000000000≤a∧a≤1000000000) (hb: -1000000000≤b∧b≤1000000000): -1000000000000000000≤a*b∧a*b≤1000000000000000000:=Nm.YZ (Nm.yT.2 ha) (Nm.yT.2 hb)
theorem Bv {a b:Int} (ha:1≤a) (hb:1≤b):1≤a*b:=by have:=Int.mul_pos (show 0<a by omega) (show 0<b by omega);omega
theorem y5 (n:Int) (w:World):Calls Tryz.prog 149 #[nR n] w fun e w'=>e= .returned (gy ⟨n,1⟩)∧Below w.heap.size w w':=by
 go_enter Tryz.func149,Tryz.ntmps149
 go_upto_region 0 with (fail)
 go_cut [1,2] (fun v1 v2 wx=>v1=ptr w.heap.size∧v2=ptr (w.heap.size+1)∧aG w wx [(aP n,162),(ah ⟨0,0⟩,164)])
 case first=>
  go_wp2;go_meet;exact ⟨rfl,rfl,(((aG.nil w).new (by simp) (aP n) _).new (by simp) (ah ⟨0,0⟩) _)⟩
 case rest=>
  obtain ⟨rfl,rfl,hB⟩:=hcut;have DV:=(hB.au rfl).cell (j:=0) rfl;have rD:=(hB.au rfl).frozen 0;have ka1:=(hB.au rfl).cell (j:=1) rfl;have rE:=(hB.au rfl).frozen 1;have hB0:=hB
  go_upto_region 1 with (fail)
  refine wp_region_held_drew (S:=(fun w':World=>w'.cell? ⟨w.heap.size,0,none⟩=some (.int .i64 n)∧w'.cell? ⟨w.heap.size,1,none⟩=some (.slice none 0 0))) (by kernel_rfl) ?bg (fun hHeld=>?_)
  case bg=>exact ⟨((hB0.drew).au rfl).cell (j:=0) rfl,((hB0.drew).au rfl).cell (j:=1) rfl⟩
  refine tk 0 ?_;refine tr 1 fun K hK=>?_;go_simp
  (go_at_call 190;refine (um 1 _).mono ?_;rintro e w1 ⟨rfl,hb1⟩)
  have hB1:=hB0.drew.call (by simp) hb1;have TW:=(hB1.get 1 rfl).cell (j:=0) rfl;have C9:=(hB1.get 1 rfl).frozen 0;have TY:=(hB1.get 1 rfl).cell (j:=1) rfl;have Dc:=(hB1.get 1 rfl).frozen 1;have Ua:=(hB1.get 1 rfl).cell (j:=2) rfl;have Df:=(hB1.get 1 rfl).frozen 2;have Ub:=(hB1.get 1 rfl).cell (j:=3) rfl;have Dh:=(hB1.get 1 rfl).frozen 3;have hV:=((((hB1).set 1 rfl 0 (.int .i64 ((⟨n,1⟩:Nm.Fr)).n)).set 1 rfl 1 (.slice none 0 0)).set 1 rfl 2 (.int .i64 ((⟨n,1⟩:Nm.Fr)).d)).set 1 rfl 3 (.slice none 0 0);refine hK.out _ _ ?agr (fun hHeld=>?_)
  case agr=>(exact ⟨((hB1).au rfl).cell (j:=0) rfl,((hB1).au rfl).cell (j:=1) rfl⟩)
  clear hK K
  try simp only [Act.put,la,lz,ls]
  refine tk 2 ?_;refine tr 3 fun K hK=>?_;go_simp;refine hK.out _ _ ?GX (fun hHeld=>?_)
  case GX=>(exact ⟨((hV).au rfl).cell (j:=0) rfl,((hV).au rfl).cell (j:=1) rfl⟩)
  clear hK K
  try simp only [Act.put,la,lz,ls]
  refine wpAnyH_done (by kernel_rfl) ?_ _;go_wp2;exact bodyPost_ret (aI (p:=2) (hV.get 1 rfl) Tryz.underlying164 rfl aW rfl _ rfl) rfl ⟨rfl,hV.bw⟩
theorem f_any (n:Int) (w:World):Calls Tryz.prog 159 #[.int .i64 n] w fun e w'=>e= .returned (gy ⟨n,1⟩)∧Below w.heap.size w w':=by
 go_enter Tryz.func159,Tryz.ntmps159
 go_upto_region 0 with (fail)
 go_cut [2] (fun v2 wx=>v2=ptr w.heap.size∧aG w wx [(ah ⟨0,0⟩,164)])
 case first=>
  go_wp2;go_meet;exact ⟨rfl,((aG.nil w).new (by simp) (ah ⟨0,0⟩) _)⟩
 case rest=>
  obtain ⟨rfl,hB⟩:=hcut
  go_wp2_with (first | (go_at_call 190;refine (um n _).mono ?_;rintro e w1 ⟨rfl,hb1⟩;have hB1:=hB.call (by simp) hb1) | (go_at_call 149;refine (y5 n _).mono ?_;rintro e w2 ⟨rfl,hb2⟩;have hB2:=hB1.call (by simp) hb2) | (refine fF 164 (.tmp 2) (.tmp 5) rfl ?_;refine dU (hB2.au rfl) (ah ⟨n,1⟩) rfl aW (fO _) rfl (.tmp 2) (.tmp 5) rfl rfl rfl ?_))
  have hZ:=hB2.put 0 rfl (ah ⟨n,1⟩) rfl;exact bodyPost_ret (aI (p:=2) (hZ.au rfl) Tryz.underlying164 rfl aW rfl _ rfl) rfl ⟨rfl,hZ.bw⟩
theorem jY (a:Nm.Fr) (w:World):Calls Tryz.prog 147 #[gy a] w fun e w'=>e= .returned (.int .i64 (Nm.oG a.n))∧Below w.heap.size w w':=by
 obtain ⟨n,d⟩:=a
 go_enter Tryz.func147,Tryz.ntmps147
 go_upto_region 0 with (fail)
 go_cut [1] (fun v1 wx=>v1=ptr w.heap.size∧aG w wx [(ah ⟨n,d⟩,164)])
 case first=>
  go_wp2;go_meet;exact ⟨rfl,((aG.nil w).new (by simp) (ah ⟨n,d⟩) _)⟩
 case rest=>
  obtain ⟨rfl,hB⟩:=hcut;have DV:=(hB.au rfl).cell (j:=0) rfl;have rD:=(hB.au rfl).frozen 0;have ka1:=(hB.au rfl).cell (j:=1) rfl;have rE:=(hB.au rfl).frozen 1;have Yh:=(hB.au rfl).cell (j:=2) rfl;have Js:=(hB.au rfl).frozen 2;have Yi:=(hB.au rfl).cell (j:=3) rfl;have Jt:=(hB.au rfl).frozen 3
  go_wp2_with (first | (go_at_call 191;refine (BP n _).mono ?_;rintro e w1 ⟨rfl,hb1⟩;have hB1:=hB.call (by simp) hb1))
  go_ret;exact ⟨rfl,hB1.bw⟩
theorem FW (a:Nm.Fr) (w:World) (h0: -9223372036854775807≤a.n) (h1:a.n≤9223372036854775807):Calls Tryz.prog 160 #[gy a] w fun e w'=>e= .returned (gy (Nm.neg a))∧Below w.heap.size w w':=by
 obtain ⟨n,d⟩:=a;have HN:=KY n;obtain ⟨m,hm⟩:∃ m, -n=m:=⟨_,rfl⟩;rw [hm] at HN;rw [show Nm.neg ⟨n,d⟩=⟨m,d⟩ by unfold Nm.neg;rw [hm]];clear hm;have HN:=hide HN
 go_enter Tryz.func160,Tryz.ntmps160
 go_upto_region 0 with (fail)
 go_cut [1,2] (fun v1 v2 wx=>v1=ptr w.heap.size∧v2=ptr (w.heap.size+1)∧aG w wx [(ah ⟨n,d⟩,164),(ah ⟨0,0⟩,164)])
 case first=>
  go_wp2;go_meet;exact ⟨rfl,rfl,(((aG.nil w).new (by simp) (ah ⟨n,d⟩) _).new (by simp) (ah ⟨0,0⟩) _)⟩
 case rest=>
  obtain ⟨rfl,rfl,hB⟩:=hcut;have DV:=(hB.au rfl).cell (j:=0) rfl;have rD:=(hB.au rfl).frozen 0;have ka1:=(hB.au rfl).cell (j:=1) rfl;have rE:=(hB.au rfl).frozen 1;have Yh:=(hB.au rfl).cell (j:=2) rfl;have Js:=(hB.au rfl).frozen 2;have Yi:=(hB.au rfl).cell (j:=3) rfl;have Jt:=(hB.au rfl).frozen 3;have hB0:=hB
  go_upto_region 1 with (fail)
  refine wp_region_held_drew (S:=(fun w':World=>w'.cell? ⟨w.heap.size,0,none⟩=some (.int .i64 ((⟨n,d⟩:Nm.Fr)).n)∧w'.cell? ⟨w.heap.size,1,none⟩=some (.slice none 0 0)∧w'.cell? ⟨w.heap.size,2,none⟩=some (.int .i64 ((⟨n,d⟩:Nm.Fr)).d)∧w'.cell? ⟨w.heap.size,3,none⟩=some (.slice none 0 0))) (by kernel_rfl) ?bV (fun hHeld=>?_)
  case bV=>exact ⟨((hB0.drew).au rfl).cell (j:=0) rfl,((hB0.drew).au rfl).cell (j:=1) rfl,((hB0.drew).au rfl).cell (j:=2) rfl,((hB0.drew).au rfl).cell (j:=3) rfl⟩
  refine tk 0 ?_;refine tk 1 ?_;refine tk 3 ?_;refine tk 4 ?_;refine tr 2 fun K hK=>?_;go_simp
  (go_at_call 199;refine (HN.out _ h0 h1).mono ?_;rintro e w1 ⟨rfl,hb1⟩)
  have hB1:=hB0.drew.call (by simp) hb1;have TW:=(hB1.get 1 rfl).cell (j:=0) rfl;have C9:=(hB1.get 1 rfl).frozen 0;have TY:=(hB1.get 1 rfl).cell (j:=1) rfl;have Dc:=(hB1.get 1 rfl).frozen 1;have Ua:=(hB1.get 1 rfl).cell (j:=2) rfl;have Df:=(hB1.get 1 rfl).frozen 2;have Ub:=(hB1.get 1 rfl).cell (j:=3) rfl;have Dh:=(hB1.get 1 rfl).frozen 3;have hV:=((((hB1).set 1 rfl 0 (.int .i64 ((⟨m,d⟩:Nm.Fr)).n)).set 1 rfl 1 (.slice none 0 0)).set 1 rfl 2 (.int .i64 ((⟨m,d⟩:Nm.Fr)).d)).set 1 rfl 3 (.slice none 0 0);refine hK.out _ _ ?QZ (fun hHeld=>?_)
  case QZ=>(exact ⟨((hB1).au rfl).cell (j:=0) rfl,((hB1).au rfl).cell (j:=1) rfl,((hB1).au rfl).cell (j:=2) rfl,((hB1).au rfl).cell (j:=3) rfl⟩)
  clear hK K
  try simp only [Act.put,la,lz,ls]
  refine tk 5 ?_;refine tr 6 fun K hK=>?_;go_simp;refine hK.out _ _ ?xQ (fun hHeld=>?_)
  case xQ=>(exact ⟨((hV).au rfl).cell (j:=0) rfl,((hV).au rfl).cell (j:=1) rfl,((hV).au rfl).cell (j:=2) rfl,((hV).au rfl).cell (j:=3) rfl⟩)
  clear hK K
  try simp only [Act.put,la,lz,ls]
  refine wpAnyH_done (by kernel_rfl) ?_ _;go_wp2;exact bodyPost_ret (aI (p:=2) (hV.get 1 rfl) Tryz.underlying164 rfl aW rfl _ rfl) rfl ⟨rfl,hV.bw⟩
theorem OX (a:Nm.Fr) (w:World) (ha:Nm.ok a=true) (hp:0<a.n):Calls Tryz.prog 202 #[gy a] w fun e w'=>e= .returned (gy (Nm.inv a))∧Below w.heap.size w w':=by
 obtain ⟨⟨a0,a1⟩,a2,a3⟩:=kG.1 ha;obtain ⟨n,d⟩:=a
 dsimp only at a0 a1 a2 a3 hp
 have HK:=xK d n;rw [show Nm.inv ⟨n,d⟩=Nm.make d n from rfl];obtain ⟨r,hr⟩:∃ r,Nm.make d n=r:=⟨_,rfl⟩;rw [hr] at HK;rw [hr];clear hr;have HK:=hide HK
 go_enter Tryz.func202,Tryz.ntmps202
 go_upto_region 0 with (fail)
 go_cut [1,2] (fun v1 v2 wx=>v1=ptr w.heap.size∧v2=ptr (w.heap.size+1)∧aG w wx [(ah ⟨n,d⟩,164),(ah ⟨0,0⟩,164)])
 case first=>
  go_wp2;go_meet;exact ⟨rfl,rfl,(((aG.nil w).new (by simp) (ah ⟨n,d⟩) _).new (by simp) (ah ⟨0,0⟩) _)⟩
 case rest=>
  obtain ⟨rfl,rfl,hB⟩:=hcut;have DV:=(hB.au rfl).cell (j:=0) rfl;have rD:=(hB.au rfl).frozen 0;have ka1:=(hB.au rfl).cell (j:=1) rfl;have rE:=(hB.au rfl).frozen 1;have Yh:=(hB.au rfl).cell (j:=2) rfl;have Js:=(hB.au rfl).frozen 2;have Yi:=(hB.au rfl).cell (j:=3) rfl;have Jt:=(hB.au rfl).frozen 3
  go_wp2_with (first | (go_at_call 201;refine (HK.out _ (by omega) (by omega) hp (by omega)).mono ?_;rintro e w1 ⟨rfl,hb1⟩;have hB1:=hB.call (by simp) hb1) | (refine fF 164 (.tmp 2) (.tmp 7) rfl ?_;refine dU (hB1.get 1 rfl) (ah r) rfl aW (fO _) rfl (.tmp 2) (.tmp 7) rfl rfl rfl ?_))
  have hZ:=hB1.put 1 rfl (ah r) rfl;exact bodyPost_ret (aI (p:=2) (hZ.get 1 rfl) Tryz.underlying164 rfl aW rfl _ rfl) rfl ⟨rfl,hZ.bw⟩
theorem iU (a b:Nm.Fr) (w:World) (ha:Nm.ok a=true) (hb:Nm.ok b=true):Calls Tryz.prog 156 #[gy a,gy b] w fun e w'=>e= .returned (gy (Nm.mul a b))∧Below w.heap.size w w':=by
 obtain ⟨⟨a0,a1⟩,a2,a3⟩:=kG.1 ha;obtain ⟨⟨b0,b1⟩,b2,b3⟩:=kG.1 hb;obtain ⟨an,ad⟩:=a;obtain ⟨bn,bd⟩:=b
 dsimp only at a0 a1 a2 a3 b0 b1 b2 b3
 have P0:=nG ⟨a0,a1⟩ ⟨b0,b1⟩;have Q0:=nG (a:=ad) (b:=bd) ⟨by omega,by omega⟩ ⟨by omega,by omega⟩;have Q1:=Bv a2 b2;have HM:=jU an bn;have HN:=jU ad bd;have HK:=xK (an*bn) (ad*bd);rw [show Nm.mul ⟨an,ad⟩ ⟨bn,bd⟩=Nm.make (an*bn) (ad*bd) from rfl];obtain ⟨p,hp⟩:∃ p,an*bn=p:=⟨_,rfl⟩
 simp only [hp] at HM HK P0 ⊢
 clear hp;obtain ⟨q,hq⟩:∃ q,ad*bd=q:=⟨_,rfl⟩
 simp only [hq] at HN HK Q0 Q1 ⊢
 clear hq;obtain ⟨r,hr⟩:∃ r,Nm.make p q=r:=⟨_,rfl⟩
 simp only [hr] at HK ⊢
 clear hr;have HM:=hide HM;have HN:=hide HN;have HK:=hide HK
 go_enter Tryz.func156,Tryz.ntmps156
 go_upto_region 0 with (fail)
 go_cut [2,3,4] (fun v2 v3 v4 wx=>v2=ptr w.heap.size∧v3=ptr (w.heap.size+1)∧v4=ptr (w.heap.size+2)∧aG w wx [(ah ⟨an,ad⟩,164),(ah ⟨bn,bd⟩,164),(ah ⟨0,0⟩,164)])
 case first=>
  go_wp2;go_meet;exact ⟨rfl,rfl,rfl,((((aG.nil w).new (by simp) (ah ⟨an,ad⟩) _).new (by simp) (ah ⟨bn,bd⟩) _).new (by simp) (ah ⟨0,0⟩) _)⟩
 case rest=>
  obtain ⟨rfl,rfl,rfl,hB⟩:=hcut;have DV:=(hB.au rfl).cell (j:=0) rfl;have rD:=(hB.au rfl).frozen 0;have ka1:=(hB.au rfl).cell (j:=1) rfl;have rE:=(hB.au rfl).frozen 1;have Yh:=(hB.au rfl).cell (j:=2) rfl;have Js:=(hB.au rfl).frozen 2;have Yi:=(hB.au rfl).cell (j:=3) rfl;have Jt:=(hB.au rfl).frozen 3;have Ii:=(hB.get 1 rfl).cell (j:=0) rfl;have yL:=(hB.get 1 rfl).frozen 0;have Me:=(hB.get 1 rfl).cell (j:=1) rfl;have yM:=(hB.get 1 rfl).frozen 1;have kb2:=(hB.get 1 rfl).cell (j:=2) rfl;have Yj:=(hB.get 1 rfl).frozen 2;have kb3:=(hB.get 1 rfl).cell (j:=3) rfl;have Yk:=(hB.get 1 rfl).frozen 3;have hB0:=hB
  go_upto_region 1 with (fail)
  refine wp_region_held_drew (S:=(fun w':World=>w'.cell? ⟨w.heap.size,0,none⟩=some (.int .i64 ((⟨an,ad⟩:Nm.Fr)).n)∧w'.cell? ⟨w.heap.size,1,none⟩=some (.slice none 0 0)∧w'.cell? ⟨w.heap.size,2,none⟩=some (.int .i64 ((⟨an,ad⟩:Nm.Fr)).d)∧w'.cell? ⟨w.heap.size,3,none⟩=some (.slice none 0 0)∧w'.cell? ⟨w.heap.size+1,0,none⟩=some (.int .i64 ((⟨bn,bd⟩:Nm.Fr)).n)∧w'.cell? ⟨w.heap.size+1,1,none⟩=some (.slice none 0 0)∧w'.cell? ⟨w.heap.size+1,2,none⟩=some (.int .i64 ((⟨bn,bd⟩:Nm.Fr)).d)∧w'.cell? ⟨w.heap.size+1,3,none⟩=some (.slice none 0 0))) (by kernel_rfl) ?dJ (fun hHeld=>?_)
  case dJ=>exact ⟨((hB0.drew).au rfl).cell (j:=0) rfl,((hB0.drew).au rfl).cell (j:=1) rfl,((hB0.drew).au rfl).cell (j:=2) rfl,((hB0.drew).au rfl).cell (j:=3) rfl,((hB0.drew).get 1 rfl).cell (j:=0) rfl,((hB0.drew).get 1 rfl).cell (j:=1) rfl,((hB0.drew).get 1 rfl).cell (j:=2) rfl,((hB0.drew).get 1 rfl).cell (j:=3) rfl⟩
  refine tk 0 ?_;refine tk 1 ?_;refine tk 2 ?_;refine tk 3 ?_;refine tk 5 ?_;refine tk 6 ?_;refine tk 7 ?_;refine tk 8 ?_;refine tr 4 fun K hK=>?_;go_simp
  (go_at_call 196;refine (HM.out _ (by omega) (by omega) (by omega) (by omega) (by omega) (by omega)).mono ?_;rintro e w1 ⟨rfl,hb1⟩)
  have hB1:=hB0.drew.call (by simp) hb1;refine hK.out _ _ ?Rn (fun hHeld=>?_)
  case Rn=>(exact ⟨((hB1).au rfl).cell (j:=0) rfl,((hB1).au rfl).cell (j:=1) rfl,((hB1).au rfl).cell (j:=2) rfl,((hB1).au rfl).cell (j:=3) rfl,((hB1).get 1 rfl).cell (j:=0) rfl,((hB1).get 1 rfl).cell (j:=1) rfl,((hB1).get 1 rfl).cell (j:=2) rfl,((hB1).get 1 rfl).cell (j:=3) rfl⟩)
  clear hK K
  try simp only [Act.put,la,lz,ls]
  refine tr 9 fun K hK=>?_;go_simp
  (go_at_call 196;refine (HN.out _ (by omega) (by omega) (by omega) (by omega) (by omega) (by omega)).mono ?_;rintro e w2 ⟨rfl,hb2⟩)
  have hB2:=hB1.call (by simp) hb2;refine hK.out _ _ ?ahN (fun hHeld=>?_)
  case ahN=>(exact ⟨((hB2).au rfl).cell (j:=0) rfl,((hB2).au rfl).cell (j:=1) rfl,((hB2).au rfl).cell (j:=2) rfl,((hB2).au rfl).cell (j:=3) rfl,((hB2).get 1 rfl).cell (j:=0) rfl,((hB2).get 1 rfl).cell (j:=1) rfl,((hB2).get 1 rfl).cell (j:=2) rfl,((hB2).get 1 rfl).cell (j:=3) rfl⟩)
  clear hK K
  try simp only [Act.put,la,lz,ls]
  refine tr 10 fun K hK=>?_;go_simp
  (go_at_call 201;refine (HK.out _ (by omega) (by omega) (by omega) (by omega)).mono ?_;rintro e w3 ⟨rfl,hb3⟩)
  have hB3:=hB2.call (by simp) hb3;have TW:=(hB3.get 2 rfl).cell (j:=0) rfl;have C9:=(hB3.get 2 rfl).frozen 0;have TY:=(hB3.get 2 rfl).cell (j:=1) rfl;have Dc:=(hB3.get 2 rfl).frozen 1;have Ua:=(hB3.get 2 rfl).cell (j:=2) rfl;have Df:=(hB3.get 2 rfl).frozen 2;have Ub:=(hB3.get 2 rfl).cell (j:=3) rfl;have Dh:=(hB3.get 2 rfl).frozen 3;have hV:=((((hB3).set 2 rfl 0 (.int .i64 (r).n)).set 2 rfl 1 (.slice none 0 0)).set 2 rfl 2 (.int .i64 (r).d)).set 2 rfl 3 (.slice none 0 0);refine hK.out _ _ ?JL (fun hHeld=>?_)
  case JL=>(exact ⟨((hB3).au rfl).cell (j:=0) rfl,((hB3).au rfl).cell (j:=1) rfl,((hB3).au rfl).cell (j:=2) rfl,((hB3).au rfl).cell (j:=3) rfl,((hB3).get 1 rfl).cell (j:=0) rfl,((hB3).get 1 rfl).cell (j:=1) rfl,((hB3).get 1 rfl).cell (j:=2) rfl,((hB3).get 1 rfl).cell (j:=3) rfl⟩)
  clear hK K
  try simp only [Act.put,la,lz,ls]
  refine tr 11 fun K hK=>?_;go_simp;refine hK.out _ _ ?Yz (fun hHeld=>?_)
  case Yz=>(exact ⟨((hV).au rfl).cell (j:=0) rfl,((hV).au rfl).cell (j:=1) rfl,((hV).au rfl).cell (j:=2) rfl,((hV).au rfl).cell (j:=3) rfl,((hV).get 1 rfl).cell (j:=0) rfl,((hV).get 1 rfl).cell (j:=1) rfl,((hV).get 1 rfl).cell (j:=2) rfl,((hV).get 1 rfl).cell (j:=3) rfl⟩)
  clear hK K
  try simp only [Act.put,la,lz,ls]
  refine wpAnyH_done (by kernel_rfl) ?_ _;go_wp2;exact bodyPost_ret (aI (p:=4) (hV.get 2 rfl) Tryz.underlying164 rfl aW rfl _ rfl) rfl ⟨rfl,hV.bw⟩
theorem qh (n:Int) (w:World):Calls Tryz.prog 166 #[gy ⟨n,1⟩] w fun e w'=>e= .returned (.bool true)∧Below w.heap.size w w':=zy ⟨n,1⟩ w
theorem ug (n d:Int) (hd:d≠1) (w:World):Calls Tryz.prog 166 #[gy ⟨n,d⟩] w fun e w'=>e= .returned (.bool false)∧Below w.heap.size w w':=by
 have:=zy ⟨n,d⟩ w
 rwa [show decide ((⟨n,d⟩:Nm.Fr).d=1)=false by simp [hd]] at this
theorem Au (a b:Nm.Fr) (w:World) (ha:Nm.ok a=true) (hb:Nm.ok b=true):Calls Tryz.prog 164 #[gy a,gy b] w fun e w'=>e= .returned (gy (Nm.add a b))∧Below w.heap.size w w':=by
 obtain ⟨⟨a0,a1⟩,a2,a3⟩:=kG.1 ha;obtain ⟨⟨b0,b1⟩,b2,b3⟩:=kG.1 hb;obtain ⟨an,ad⟩:=a;obtain ⟨bn,bd⟩:=b
 dsimp only at a0 a1 a2 a3 b0 b1 b2 b3
 by_cases had:ad=1
 · subst had
   by_cases hbd:bd=1
   · subst hbd
     have HA:=xG an bn;rw [show Nm.add ⟨an,1⟩ ⟨bn,1⟩=⟨an+bn,1⟩ from rfl];obtain ⟨s,hs⟩:∃ s,an+bn=s:=⟨_,rfl⟩
     have s0: -2000000000≤s∧s≤2000000000:=by omega
     rw [hs] at HA;rw [hs];clear hs;have HA:=hide HA
     go_enter Tryz.func164,Tryz.ntmps164
     go_upto_region 0 with (fail)
     go_cut [2,3,4] (fun v2 v3 v4 wx=>v2=ptr w.heap.size∧v3=ptr (w.heap.size+1)∧v4=ptr (w.heap.size+2)∧aG w wx [(ah ⟨an,1⟩,164),(ah ⟨bn,1⟩,164),(ah ⟨0,0⟩,164)])
     case first=>
      go_wp2;go_meet;exact ⟨rfl,rfl,rfl,((((aG.nil w).new (by simp) (ah ⟨an,1⟩) _).new (by simp) (ah ⟨bn,1⟩) _).new (by simp) (ah ⟨0,0⟩) _)⟩
     case rest=>
      obtain ⟨rfl,rfl,rfl,hB⟩:=hcut;have DV:=(hB.au rfl).cell (j:=0) rfl;have rD:=(hB.au rfl).frozen 0;have ka1:=(hB.au rfl).cell (j:=1) rfl;have rE:=(hB.au rfl).frozen 1;have Yh:=(hB.au rfl).cell (j:=2) rfl;have Js:=(hB.au rfl).frozen 2;have Yi:=(hB.au rfl).cell (j:=3) rfl;have Jt:=(hB.au rfl).frozen 3;have Ii:=(hB.get 1 rfl).cell (j:=0) rfl;have yL:=(hB.get 1 rfl).frozen 0;have Me:=(hB.get 1 rfl).cell (j:=1) rfl;have yM:=(hB.get 1 rfl).frozen 1;have kb2:=(hB.get 1 rfl).cell (j:=2) rfl;have Yj:=(hB.get 1 rfl).frozen 2;have kb3:=(hB.get 1 rfl).cell (j:=3) rfl;have Yk:=(hB.get 1 rfl).frozen 3;have tok:=hide True.intro
      go_upto_region 2 with (first | (clear tok;go_at_call 166;refine (qh an _).mono ?_;rintro e w11 ⟨rfl,Pv⟩;have hC:=hB.call (by simp) Pv;have kw0:=(hC.get 1 rfl).cell (j:=0) rfl;have ap0:=(hC.get 1 rfl).frozen 0;have kw1:=(hC.get 1 rfl).cell (j:=1) rfl;have ap7:=(hC.get 1 rfl).frozen 1;have kw2:=(hC.get 1 rfl).cell (j:=2) rfl;have aqe:=(hC.get 1 rfl).frozen 2;have kw3:=(hC.get 1 rfl).cell (j:=3) rfl;have aql:=(hC.get 1 rfl).frozen 3) | (go_at_call 166;refine (qh bn _).mono ?_;rintro e w12 ⟨rfl,kN⟩;have hD:=hC.call (by simp) kN) | (refine dw 164 (.tmp 2) rfl ?_;refine dG (hB.au rfl) Tryz.underlying164 rfl aW rfl (.tmp 2) rfl rfl ?_))
      have kx0:=(hD.au rfl).cell (j:=0) rfl;have Qb:=(hD.au rfl).frozen 0;have Vr:=(hD.au rfl).cell (j:=1) rfl;have Qc:=(hD.au rfl).frozen 1;have ky0:=(hD.get 1 rfl).cell (j:=0) rfl;have aqH:=(hD.get 1 rfl).frozen 0;have ky1:=(hD.get 1 rfl).cell (j:=1) rfl;have aqO:=(hD.get 1 rfl).frozen 1
      go_wp2_with (first | (go_at_call 198;refine (HA.out _ (by omega) (by omega) (by omega) (by omega) (by omega) (by omega)).mono ?_;rintro e w1 ⟨rfl,hb1⟩;have hE:=hD.call (by simp) hb1) | (go_at_call 149;refine (y5 s _).mono ?_;rintro e w2 ⟨rfl,hb2⟩;have hE2:=hE.call (by simp) hb2) | (refine fF 164 (.tmp 4) (.tmp 16) rfl ?_;refine dU (hE2.get 2 rfl) (ah ⟨s,1⟩) rfl aW (fO _) rfl (.tmp 4) (.tmp 16) rfl rfl rfl ?_))
      have hZ:=hE2.put 2 rfl (ah ⟨s,1⟩) rfl;exact bodyPost_ret (aI (p:=4) (hZ.get 2 rfl) Tryz.underlying164 rfl aW rfl _ rfl) rfl ⟨rfl,hZ.bw⟩
   · obtain ⟨d1,hd1⟩:∃ d:Int,d=1:=⟨_,rfl⟩
     rw [show Nm.add ⟨an,1⟩ ⟨bn,bd⟩=Nm.make (an*bd+bn*1) (1*bd) by unfold Nm.add;rw [if_neg (fun h=>hbd h.2)]]
     have a4:1≤d1:=by omega
     have a5:d1≤1000000000:=by omega
     have HW:=qh an;clear ha a2 a3;rw [← hd1] at HW ⊢;clear hd1;have a2:=a4;have a3:=a5;have P0:=nG (a:=an) (b:=bd) ⟨by omega,by omega⟩ ⟨by omega,by omega⟩;have U0:=nG (a:=bn) (b:=d1) ⟨by omega,by omega⟩ ⟨by omega,by omega⟩;have Q0:=nG (a:=d1) (b:=bd) ⟨by omega,by omega⟩ ⟨by omega,by omega⟩;have Q1:=Bv a2 b2;have HM:=jU an bd;have HU:=jU bn d1;have HN:=jU d1 bd;have HA:=xG (an*bd) (bn*d1);have HK:=xK (an*bd+bn*d1) (d1*bd);obtain ⟨p,hp⟩:∃ p,an*bd=p:=⟨_,rfl⟩
     simp only [hp] at HM HA HK P0 ⊢
     clear hp;obtain ⟨u,hu⟩:∃ u,bn*d1=u:=⟨_,rfl⟩
     simp only [hu] at HU HA HK U0 ⊢
     clear hu;obtain ⟨q,hq⟩:∃ q,d1*bd=q:=⟨_,rfl⟩
     simp only [hq] at HN HK Q0 Q1 ⊢
     clear hq
     have S0: -2000000000000000000≤p+u∧p+u≤2000000000000000000:=by omega
     obtain ⟨s,hs⟩:∃ s,p+u=s:=⟨_,rfl⟩
     simp only [hs] at HA HK S0 ⊢
     clear hs;obtain ⟨r,hr⟩:∃ r,Nm.make s q=r:=⟨_,rfl⟩
     simp only [hr] at HK ⊢
     clear hr;have HM:=hide HM;have HU:=hide HU;have HN:=hide HN;have HA:=hide HA;have HK:=hide HK;have HW:=hide HW
     go_enter Tryz.func164,Tryz.ntmps164
     go_upto_region 0 with (fail)
     go_cut [2,3,4] (fun v2 v3 v4 wx=>v2=ptr w.heap.size∧v3=ptr (w.heap.size+1)∧v4=ptr (w.heap.size+2)∧aG w wx [(ah ⟨an,d1⟩,164),(ah ⟨bn,bd⟩,164),(ah ⟨0,0⟩,164)])
     case first=>
      go_wp2;go_meet;exact ⟨rfl,rfl,rfl,((((aG.nil w).new (by simp) (ah ⟨an,d1⟩) _).new (by simp) (ah ⟨bn,bd⟩) _).new (by simp) (ah ⟨0,0⟩) _)⟩
     case rest=>
      obtain ⟨rfl,rfl,rfl,hB⟩:=hcut;have tok:=hide True.intro
      go_upto_region 3 with (first | (clear tok;go_at_call 166;refine (HW.out _).mono ?_;rintro e w11 ⟨rfl,Pv⟩;have hC:=hB.call (by simp) Pv;have kw0:=(hC.get 1 rfl).cell (j:=0) rfl;have ap0:=(hC.get 1 rfl).frozen 0;have kw1:=(hC.get 1 rfl).cell (j:=1) rfl;have ap7:=(hC.get 1 rfl).frozen 1;have kw2:=(hC.get 1 rfl).cell (j:=2) rfl;have aqe:=(hC.get 1 rfl).frozen 2;have kw3:=(hC.get 1 rfl).cell (j:=3) rfl;have aql:=(hC.get 1 rfl).frozen 3) | (go_at_call 166;refine (ug bn bd hbd _).mono ?_;rintro e w12 ⟨rfl,kN⟩;have hB0:=hC.call (by simp) kN) | (refine dw 164 (.tmp 2) rfl ?_;refine dG (hB.au rfl) Tryz.underlying164 rfl aW rfl (.tmp 2) rfl rfl ?_))
      refine wp_region_held_drew (S:=(fun w':World=>w'.cell? ⟨w.heap.size,0,none⟩=some (.int .i64 ((⟨an,d1⟩:Nm.Fr)).n)∧w'.cell? ⟨w.heap.size,1,none⟩=some (.slice none 0 0)∧w'.cell? ⟨w.heap.size,2,none⟩=some (.int .i64 ((⟨an,d1⟩:Nm.Fr)).d)∧w'.cell? ⟨w.heap.size,3,none⟩=some (.slice none 0 0)∧w'.cell? ⟨w.heap.size+1,0,none⟩=some (.int .i64 ((⟨bn,bd⟩:Nm.Fr)).n)∧w'.cell? ⟨w.heap.size+1,1,none⟩=some (.slice none 0 0)∧w'.cell? ⟨w.heap.size+1,2,none⟩=some (.int .i64 ((⟨bn,bd⟩:Nm.Fr)).d)∧w'.cell? ⟨w.heap.size+1,3,none⟩=some (.slice none 0 0))) (by kernel_rfl) ?gW (fun hHeld=>?_)
      case gW=>exact ⟨((hB0.drew).au rfl).cell (j:=0) rfl,((hB0.drew).au rfl).cell (j:=1) rfl,((hB0.drew).au rfl).cell (j:=2) rfl,((hB0.drew).au rfl).cell (j:=3) rfl,((hB0.drew).get 1 rfl).cell (j:=0) rfl,((hB0.drew).get 1 rfl).cell (j:=1) rfl,((hB0.drew).get 1 rfl).cell (j:=2) rfl,((hB0.drew).get 1 rfl).cell (j:=3) rfl⟩
      refine tk 0 ?_;refine tk 1 ?_;refine tk 2 ?_;refine tk 3 ?_;refine tk 5 ?_;refine tk 6 ?_;refine tk 7 ?_;refine tk 8 ?_;refine tk 11 ?_;refine tk 12 ?_;refine tk 13 ?_;refine tk 14 ?_;refine tr 4 fun K hK=>?_;go_simp
      (go_at_call 196;refine (HM.out _ (by omega) (by omega) (by omega) (by omega) (by omega) (by omega)).mono ?_;rintro e w1 ⟨rfl,hb1⟩)
      have hB1:=hB0.drew.call (by simp) hb1;refine hK.out _ _ ?Ro (fun hHeld=>?_)
      case Ro=>(exact ⟨((hB1).au rfl).cell (j:=0) rfl,((hB1).au rfl).cell (j:=1) rfl,((hB1).au rfl).cell (j:=2) rfl,((hB1).au rfl).cell (j:=3) rfl,((hB1).get 1 rfl).cell (j:=0) rfl,((hB1).get 1 rfl).cell (j:=1) rfl,((hB1).get 1 rfl).cell (j:=2) rfl,((hB1).get 1 rfl).cell (j:=3) rfl⟩)
      clear hK K
      try simp only [Act.put,la,lz,ls]
      refine tr 9 fun K hK=>?_;go_simp
      (go_at_call 196;refine (HU.out _ (by omega) (by omega) (by omega) (by omega) (by omega) (by omega)).mono ?_;rintro e w2 ⟨rfl,hb2⟩)
      have hB2:=hB1.call (by simp) hb2;refine hK.out _ _ ?ah1 (fun hHeld=>?_)
      case ah1=>(exact ⟨((hB2).au rfl).cell (j:=0) rfl,((hB2).au rfl).cell (j:=1) rfl,((hB2).au rfl).cell (j:=2) rfl,((hB2).au rfl).cell (j:=3) rfl,((hB2).get 1 rfl).cell (j:=0) rfl,((hB2).get 1 rfl).cell (j:=1) rfl,((hB2).get 1 rfl).cell (j:=2) rfl,((hB2).get 1 rfl).cell (j:=3) rfl⟩)
      clear hK K
      try simp only [Act.put,la,lz,ls]
      refine tr 10 fun K hK=>?_;go_simp
      (go_at_call 198;refine (HA.out _ (by omega) (by omega) (by omega) (by omega) (by omega) (by omega)).mono ?_;rintro e w3 ⟨rfl,hb3⟩)
      have hB3:=hB2.call (by simp) hb3;refine hK.out _ _ ?YC (fun hHeld=>?_)
      case YC=>(exact ⟨((hB3).au rfl).cell (j:=0) rfl,((hB3).au rfl).cell (j:=1) rfl,((hB3).au rfl).cell (j:=2) rfl,((hB3).au rfl).cell (j:=3) rfl,((hB3).get 1 rfl).cell (j:=0) rfl,((hB3).get 1 rfl).cell (j:=1) rfl,((hB3).get 1 rfl).cell (j:=2) rfl,((hB3).get 1 rfl).cell (j:=3) rfl⟩)
      clear hK K
      try simp only [Act.put,la,lz,ls]
      refine tr 15 fun K hK=>?_;go_simp
      (go_at_call 196;refine (HN.out _ (by omega) (by omega) (by omega) (by omega) (by omega) (by omega)).mono ?_;rintro e w4 ⟨rfl,hb4⟩)
      have hB4:=hB3.call (by simp) hb4;refine hK.out _ _ ?YF (fun hHeld=>?_)
      case YF=>(exact ⟨((hB4).au rfl).cell (j:=0) rfl,((hB4).au rfl).cell (j:=1) rfl,((hB4).au rfl).cell (j:=2) rfl,((hB4).au rfl).cell (j:=3) rfl,((hB4).get 1 rfl).cell (j:=0) rfl,((hB4).get 1 rfl).cell (j:=1) rfl,((hB4).get 1 rfl).cell (j:=2) rfl,((hB4).get 1 rfl).cell (j:=3) rfl⟩)
      clear hK K
      try simp only [Act.put,la,lz,ls]
      refine tr 16 fun K hK=>?_;go_simp
      (go_at_call 201;refine (HK.out _ (by omega) (by omega) (by omega) (by omega)).mono ?_;rintro e w5 ⟨rfl,hb5⟩)
      have jc:=hB4.call (by simp) hb5;have TW:=(jc.get 2 rfl).cell (j:=0) rfl;have C9:=(jc.get 2 rfl).frozen 0;have TY:=(jc.get 2 rfl).cell (j:=1) rfl;have Dc:=(jc.get 2 rfl).frozen 1;have Ua:=(jc.get 2 rfl).cell (j:=2) rfl;have Df:=(jc.get 2 rfl).frozen 2;have Ub:=(jc.get 2 rfl).cell (j:=3) rfl;have Dh:=(jc.get 2 rfl).frozen 3;have hV:=((((jc).set 2 rfl 0 (.int .i64 (r).n)).set 2 rfl 1 (.slice none 0 0)).set 2 rfl 2 (.int .i64 (r).d)).set 2 rfl 3 (.slice none 0 0);refine hK.out _ _ ?JM (fun hHeld=>?_)
      case JM=>(exact ⟨((jc).au rfl).cell (j:=0) rfl,((jc).au rfl).cell (j:=1) rfl,((jc).au rfl).cell (j:=2) rfl,((jc).au rfl).cell (j:=3) rfl,((jc).get 1 rfl).cell (j:=0) rfl,((jc).get 1 rfl).cell (j:=1) rfl,((jc).get 1 rfl).cell (j:=2) rfl,((jc).get 1 rfl).cell (j:=3) rfl⟩)
      clear hK K
      try simp only [Act.put,la,lz,ls]
      refine tr 17 fun K hK=>?_;go_simp;refine hK.out _ _ ?YG (fun hHeld=>?_)
      case YG=>(exact ⟨((hV).au rfl).cell (j:=0) rfl,((hV).au rfl).cell (j:=1) rfl,((hV).au rfl).cell (j:=2) rfl,((hV).au rfl).cell (j:=3) rfl,((hV).get 1 rfl).cell (j:=0) rfl,((hV).get 1 rfl).cell (j:=1) rfl,((hV).get 1 rfl).cell (j:=2) rfl,((hV).get 1 rfl).cell (j:=3) rfl⟩)
      clear hK K
      try simp only [Act.put,la,lz,ls]
      refine wpAnyH_done (by kernel_rfl) ?_ _;go_wp2;exact bodyPost_ret (aI (p:=4) (hV.get 2 rfl) Tryz.underlying164 rfl aW rfl _ rfl) rfl ⟨rfl,hV.bw⟩
 · rw [show Nm.add ⟨an,ad⟩ ⟨bn,bd⟩=Nm.make (an*bd+bn*ad) (ad*bd) by unfold Nm.add;rw [if_neg (fun h=>had h.1)]]
   have P0:=nG (a:=an) (b:=bd) ⟨by omega,by omega⟩ ⟨by omega,by omega⟩;have U0:=nG (a:=bn) (b:=ad) ⟨by omega,by omega⟩ ⟨by omega,by omega⟩;have Q0:=nG (a:=ad) (b:=bd) ⟨by omega,by omega⟩ ⟨by omega,by omega⟩;have Q1:=Bv a2 b2;have HM:=jU an bd;have HU:=jU bn ad;have HN:=jU ad bd;have HA:=xG (an*bd) (bn*ad);have HK:=xK (an*bd+bn*ad) (ad*bd);obtain ⟨p,hp⟩:∃ p,an*bd=p:=⟨_,rfl⟩
   simp only [hp] at HM HA HK P0 ⊢
   clear hp;obtain ⟨u,hu⟩:∃ u,bn*ad=u:=⟨_,rfl⟩
   simp only [hu] at HU HA HK U0 ⊢
   clear hu;obtain ⟨q,hq⟩:∃ q,ad*bd=q:=⟨_,rfl⟩
   simp only [hq] at HN HK Q0 Q1 ⊢
   clear hq
   have S0: -2000000000000000000≤p+u∧p+u≤2000000000000000000:=by omega
   obtain ⟨s,hs⟩:∃ s,p+u=s:=⟨_,rfl⟩
   simp only [hs] at HA HK S0 ⊢
   clear hs;obtain ⟨r,hr⟩:∃ r,Nm.make s q=r:=⟨_,rfl⟩
   simp only [hr] at HK ⊢
   clear hr;have HM:=hide HM;have HU:=hide HU;have HN:=hide HN;have HA:=hide HA;have HK:=hide HK
   go_enter Tryz.func164,Tryz.ntmps164
   go_upto_region 0 with (fail)
   go_cut [2,3,4] (fun v2 v3 v4 wx=>v2=ptr w.heap.size∧v3=ptr (w.heap.size+1)∧v4=ptr (w.heap.size+2)∧aG w wx [(ah ⟨an,ad⟩,164),(ah ⟨bn,bd⟩,164),(ah ⟨0,0⟩,164)])
   case first=>
    go_wp2;go_meet;exact ⟨rfl,rfl,rfl,((((aG.nil w).new (by simp) (ah ⟨an,ad⟩) _).new (by simp) (ah ⟨bn,bd⟩) _).new (by simp) (ah ⟨0,0⟩) _)⟩
   case rest=>
    obtain ⟨rfl,rfl,rfl,hB⟩:=hcut
    go_upto_region 3 with (first | (go_at_call 166;refine (ug an ad had _).mono ?_;rintro e w11 ⟨rfl,Pv⟩;have hB0:=hB.call (by simp) Pv) | (refine dw 164 (.tmp 2) rfl ?_;refine dG (hB.au rfl) Tryz.underlying164 rfl aW rfl (.tmp 2) rfl rfl ?_))
    refine wp_region_held_drew (S:=(fun w':World=>w'.cell? ⟨w.heap.size,0,none⟩=some (.int .i64 ((⟨an,ad⟩:Nm.Fr)).n)∧w'.cell? ⟨w.heap.size,1,none⟩=some (.slice none 0 0)∧w'.cell? ⟨w.heap.size,2,none⟩=some (.int .i64 ((⟨an,ad⟩:Nm.Fr)).d)∧w'.cell? ⟨w.heap.size,3,none⟩=some (.slice none 0 0)∧w'.cell? ⟨w.heap.size+1,0,none⟩=some (.int .i64 ((⟨bn,bd⟩:Nm.Fr)).n)∧w'.cell? ⟨w.heap.size+1,1,none⟩=some (.slice none 0 0)∧w'.cell? ⟨w.heap.size+1,2,none⟩=some (.int .i64 ((⟨bn,bd⟩:Nm.Fr)).d)∧w'.cell? ⟨w.heap.size+1,3,none⟩=some (.slice none 0 0))) (by kernel_rfl) ?mG (fun hHeld=>?_)
    case mG=>exact ⟨((hB0.drew).au rfl).cell (j:=0) rfl,((hB0.drew).au rfl).cell (j:=1) rfl,((hB0.drew).au rfl).cell (j:=2) rfl,((hB0.drew).au rfl).cell (j:=3) rfl,((hB0.drew).get 1 rfl).cell (j:=0) rfl,((hB0.drew).get 1 rfl).cell (j:=1) rfl,((hB0.drew).get 1 rfl).cell (j:=2) rfl,((hB0.drew).get 1 rfl).cell (j:=3) rfl⟩
    refine tk 0 ?_;refine tk 1 ?_;refine tk 2 ?_;refine tk 3 ?_;refine tk 5 ?_;refine tk 6 ?_;refine tk 7 ?_;refine tk 8 ?_;refine tk 11 ?_;refine tk 12 ?_;refine tk 13 ?_;refine tk 14 ?_;refine tr 4 fun K hK=>?_;go_simp
    (go_at_call 196;refine (HM.out _ (by omega) (by omega) (by omega) (by omega) (by omega) (by omega)).mono ?_;rintro e w1 ⟨rfl,hb1⟩)
    have hB1:=hB0.drew.call (by simp) hb1;refine hK.out _ _ ?ah8 (fun hHeld=>?_)
    case ah8=>(exact ⟨((hB1).au rfl).cell (j:=0) rfl,((hB1).au rfl).cell (j:=1) rfl,((hB1).au rfl).cell (j:=2) rfl,((hB1).au rfl).cell (j:=3) rfl,((hB1).get 1 rfl).cell (j:=0) rfl,((hB1).get 1 rfl).cell (j:=1) rfl,((hB1).get 1 rfl).cell (j:=2) rfl,((hB1).get 1 rfl).cell (j:=3) rfl⟩)
    clear hK K
    try simp only [Act.put,la,lz,ls]
    refine tr 9 fun K hK=>?_;go_simp
    (go_at_call 196;refine (HU.out _ (by omega) (by omega) (by omega) (by omega) (by omega) (by omega)).mono ?_;rintro e w2 ⟨rfl,hb2⟩)
    have hB2:=hB1.call (by simp) hb2;refine hK.out _ _ ?aii (fun hHeld=>?_)
    case aii=>(exact ⟨((hB2).au rfl).cell (j:=0) rfl,((hB2).au rfl).cell (j:=1) rfl,((hB2).au rfl).cell (j:=2) rfl,((hB2).au rfl).cell (j:=3) rfl,((hB2).get 1 rfl).cell (j:=0) rfl,((hB2).get 1 rfl).cell (j:=1) rfl,((hB2).get 1 rfl).cell (j:=2) rfl,((hB2).get 1 rfl).cell (j:=3) rfl⟩)
    clear hK K
    try simp only [Act.put,la,lz,ls]
    refine tr 10 fun K hK=>?_;go_simp
    (go_at_call 198;refine (HA.out _ (by omega) (by omega) (by omega) (by omega) (by omega) (by omega)).mono ?_;rintro e w3 ⟨rfl,hb3⟩)
    have hB3:=hB2.call (by simp) hb3;refine hK.out _ _ ?YJ (fun hHeld=>?_)
    case YJ=>(exact ⟨((hB3).au rfl).cell (j:=0) rfl,((hB3).au rfl).cell (j:=1) rfl,((hB3).au rfl).cell (j:=2) rfl,((hB3).au rfl).cell (j:=3) rfl,((hB3).get 1 rfl).cell (j:=0) rfl,((hB3).get 1 rfl).cell (j:=1) rfl,((hB3).get 1 rfl).cell (j:=2) rfl,((hB3).get 1 rfl).cell (j:=3) rfl⟩)
    clear hK K
    try simp only [Act.put,la,lz,ls]
    refine tr 15 fun K hK=>?_;go_simp
    (go_at_call 196;refine (HN.out _ (by omega) (by omega) (by omega) (by omega) (by omega) (by omega)).mono ?_;rintro e w4 ⟨rfl,hb4⟩)
    have hB4:=hB3.call (by simp) hb4;refine hK.out _ _ ?YK (fun hHeld=>?_)
    case YK=>(exact ⟨((hB4).au rfl).cell (j:=0) rfl,((hB4).au rfl).cell (j:=1) rfl,((hB4).au rfl).cell (j:=2) rfl,((hB4).au rfl).cell (j:=3) rfl,((hB4).get 1 rfl).cell (j:=0) rfl,((hB4).get 1 rfl).cell (j:=1) rfl,((hB4).get 1 rfl).cell (j:=2) rfl,((hB4).get 1 rfl).cell (j:=3) rfl⟩)
    clear hK K
    try simp only [Act.put,la,lz,ls]
    refine tr 16 fun K hK=>?_;go_simp
    (go_at_call 201;refine (HK.out _ (by omega) (by omega) (by omega) (by omega)).mono ?_;rintro e w5 ⟨rfl,hb5⟩)
    have jc:=hB4.call (by simp) hb5;have TW:=(jc.get 2 rfl).cell (j:=0) rfl;have C9:=(jc.get 2 rfl).frozen 0;have TY:=(jc.get 2 rfl).cell (j:=1) rfl;have Dc:=(jc.get 2 rfl).frozen 1;have Ua:=(jc.get 2 rfl).cell (j:=2) rfl;have Df:=(jc.get 2 rfl).frozen 2;have Ub:=(jc.get 2 rfl).cell (j:=3) rfl;have Dh:=(jc.get 2 rfl).frozen 3;have hV:=((((jc).set 2 rfl 0 (.int .i64 (r).n)).set 2 rfl 1 (.slice none 0 0)).set 2 rfl 2 (.int .i64 (r).d)).set 2 rfl 3 (.slice none 0 0);refine hK.out _ _ ?YL (fun hHeld=>?_)
    case YL=>(exact ⟨((jc).au rfl).cell (j:=0) rfl,((jc).au rfl).cell (j:=1) rfl,((jc).au rfl).cell (j:=2) rfl,((jc).au rfl).cell (j:=3) rfl,((jc).get 1 rfl).cell (j:=0) rfl,((jc).get 1 rfl).cell (j:=1) rfl,((jc).get 1 rfl).cell (j:=2) rfl,((jc).get 1 rfl).cell (j:=3) rfl⟩)
    clear hK K
    try simp only [Act.put,la,lz,ls]
    refine tr 17 fun K hK=>?_;go_simp;refine hK.out _ _ ?YM (fun hHeld=>?_)
    case YM=>(exact ⟨((hV).au rfl).cell (j:=0) rfl,((hV).au rfl).cell (j:=1) rfl,((hV).au rfl).cell (j:=2) rfl,((hV).au rfl).cell (j:=3) rfl,((hV).get 1 rfl).cell (j:=0) rfl,((hV).get 1 rfl).cell (j:=1) rfl,((hV).get 1 rfl).cell (j:=2) rfl,((hV).get 1 rfl).cell (j:=3) rfl⟩)
    clear hK K
    try simp only [Act.put,la,lz,ls]
    refine wpAnyH_done (by kernel_rfl) ?_ _;go_wp2;exact bodyPost_ret (aI (p:=4) (hV.get 2 rfl) Tryz.underlying164 rfl aW rfl _ rfl) rfl ⟨rfl,hV.bw⟩
theorem qV (a b:Nm.Fr) (w:World) (ha:Nm.ok a=true) (hb:Nm.ok b=true):Calls Tryz.prog 157 #[gy a,gy b] w fun e w'=>e= .returned (gy (Nm.sub a b))∧Below w.heap.size w w':=by
 have hb':Nm.ok (Nm.neg b)=true:=by
  rw [kG] at hb ⊢
  unfold Nm.neg
  dsimp only
  omega
 have HN:=FW b;have HK:=Au a (Nm.neg b);obtain ⟨⟨b0,b1⟩,b2,b3⟩:=kG.1 hb;rw [show Nm.sub a b=Nm.add a (Nm.neg b) from rfl];obtain ⟨c,hc⟩:∃ c,Nm.neg b=c:=⟨_,rfl⟩;rw [hc] at HN HK hb' ⊢;clear hc;obtain ⟨r,hr⟩:∃ r,Nm.add a c=r:=⟨_,rfl⟩;rw [hr] at HK ⊢;clear hr;have HN:=hide HN;have HK:=hide HK
 go_enter Tryz.func157,Tryz.ntmps157
 go_upto_region 0 with (fail)
 go_cut [2,3,4] (fun v2 v3 v4 wx=>v2=ptr w.heap.size∧v3=ptr (w.heap.size+1)∧v4=ptr (w.heap.size+2)∧aG w wx [(ah a,164),(ah b,164),(ah ⟨0,0⟩,164)])
 case first=>
  go_wp2;go_meet;exact ⟨rfl,rfl,rfl,((((aG.nil w).new (by simp) (ah a) _).new (by simp) (ah b) _).new (by simp) (ah ⟨0,0⟩) _)⟩
 case rest=>
  obtain ⟨rfl,rfl,rfl,hB⟩:=hcut;have DV:=(hB.au rfl).cell (j:=0) rfl;have rD:=(hB.au rfl).frozen 0;have ka1:=(hB.au rfl).cell (j:=1) rfl;have rE:=(hB.au rfl).frozen 1;have Yh:=(hB.au rfl).cell (j:=2) rfl;have Js:=(hB.au rfl).frozen 2;have Yi:=(hB.au rfl).cell (j:=3) rfl;have Jt:=(hB.au rfl).frozen 3;have Ii:=(hB.get 1 rfl).cell (j:=0) rfl;have yL:=(hB.get 1 rfl).frozen 0;have Me:=(hB.get 1 rfl).cell (j:=1) rfl;have yM:=(hB.get 1 rfl).frozen 1;have kb2:=(hB.get 1 rfl).cell (j:=2) rfl;have Yj:=(hB.get 1 rfl).frozen 2;have kb3:=(hB.get 1 rfl).cell (j:=3) rfl;have Yk:=(hB.get 1 rfl).frozen 3;have hB0:=hB
  go_upto_region 1 with (fail)
  refine wp_region_held_drew (S:=(fun w':World=>w'.cell? ⟨w.heap.size,0,none⟩=some (.int .i64 (a).n)∧w'.cell? ⟨w.heap.size,1,none⟩=some (.slice none 0 0)∧w'.cell? ⟨w.heap.size,2,none⟩=some (.int .i64 (a).d)∧w'.cell? ⟨w.heap.size,3,none⟩=some (.slice none 0 0)∧w'.cell? ⟨w.heap.size+1,0,none⟩=some (.int .i64 (b).n)∧w'.cell? ⟨w.heap.size+1,1,none⟩=some (.slice none 0 0)∧w'.cell? ⟨w.heap.size+1,2,none⟩=some (.int .i64 (b).d)∧w'.cell? ⟨w.heap.size+1,3,none⟩=some (.slice none 0 0))) (by kernel_rfl) ?mJ (fun hHeld=>?_)
  case mJ=>exact ⟨((hB0.drew).au rfl).cell (j:=0) rfl,((hB0.drew).au rfl).cell (j:=1) rfl,((hB0.drew).au rfl).cell (j:=2) rfl,((hB0.drew).au rfl).cell (j:=3) rfl,((hB0.drew).get 1 rfl).cell (j:=0) rfl,((hB0.drew).get 1 rfl).cell (j:=1) rfl,((hB0.drew).get 1 rfl).cell (j:=2) rfl,((hB0.drew).get 1 rfl).cell (j:=3) rfl⟩
  refine tk 0 ?_;refine tk 1 ?_;refine tr 2 fun K hK=>?_;go_simp
  (go_at_call 160;refine (HN.out _ (by omega) (by omega)).mono ?_;rintro e w1 ⟨rfl,hb1⟩)
  have hB1:=hB0.drew.call (by simp) hb1;refine hK.out _ _ ?aiq (fun hHeld=>?_)
  case aiq=>(exact ⟨((hB1).au rfl).cell (j:=0) rfl,((hB1).au rfl).cell (j:=1) rfl,((hB1).au rfl).cell (j:=2) rfl,((hB1).au rfl).cell (j:=3) rfl,((hB1).get 1 rfl).cell (j:=0) rfl,((hB1).get 1 rfl).cell (j:=1) rfl,((hB1).get 1 rfl).cell (j:=2) rfl,((hB1).get 1 rfl).cell (j:=3) rfl⟩)
  clear hK K
  try simp only [Act.put,la,lz,ls]
  refine tr 3 fun K hK=>?_;go_simp
  (go_at_call 164;refine (HK.out _ ha hb').mono ?_;rintro e w2 ⟨rfl,hb2⟩)
  have hB2:=hB1.call (by simp) hb2;have TW:=(hB2.get 2 rfl).cell (j:=0) rfl;have C9:=(hB2.get 2 rfl).frozen 0;have TY:=(hB2.get 2 rfl).cell (j:=1) rfl;have Dc:=(hB2.get 2 rfl).frozen 1;have Ua:=(hB2.get 2 rfl).cell (j:=2) rfl;have Df:=(hB2.get 2 rfl).frozen 2;have Ub:=(hB2.get 2 rfl).cell (j:=3) rfl;have Dh:=(hB2.get 2 rfl).frozen 3;have hV:=((((hB2).set 2 rfl 0 (.int .i64 (r).n)).set 2 rfl 1 (.slice none 0 0)).set 2 rfl 2 (.int .i64 (r).d)).set 2 rfl 3 (.slice none 0 0);refine hK.out _ _ ?aix (fun hHeld=>?_)
  case aix=>(exact ⟨((hB2).au rfl).cell (j:=0) rfl,((hB2).au rfl).cell (j:=1) rfl,((hB2).au rfl).cell (j:=2) rfl,((hB2).au rfl).cell (j:=3) rfl,((hB2).get 1 rfl).cell (j:=0) rfl,((hB2).get 1 rfl).cell (j:=1) rfl,((hB2).get 1 rfl).cell (j:=2) rfl,((hB2).get 1 rfl).cell (j:=3) rfl⟩)
  clear hK K
  try simp only [Act.put,la,lz,ls]
  refine tr 4 fun K hK=>?_;go_simp;refine hK.out _ _ ?aiE (fun hHeld=>?_)
  case aiE=>(exact ⟨((hV).au rfl).cell (j:=0) rfl,((hV).au rfl).cell (j:=1) rfl,((hV).au rfl).cell (j:=2) rfl,((hV).au rfl).cell (j:=3) rfl,((hV).get 1 rfl).cell (j:=0) rfl,((hV).get 1 rfl).cell (j:=1) rfl,((hV).get 1 rfl).cell (j:=2) rfl,((hV).get 1 rfl).cell (j:=3) rfl⟩)
  clear hK K
  try simp only [Act.put,la,lz,ls]
  refine wpAnyH_done (by kernel_rfl) ?_ _;go_wp2;exact bodyPost_ret (aI (p:=4) (hV.get 2 rfl) Tryz.underlying164 rfl aW rfl _ rfl) rfl ⟨rfl,hV.bw⟩
theorem FV (a b:Nm.Fr) (w:World) (ha:Nm.ok a=true) (hb:Nm.ok b=true) (hp:0<b.n) (hb':Nm.ok (Nm.inv b)=true):Calls Tryz.prog 158 #[gy a,gy b] w fun e w'=>e= .returned (gy (Nm.div a b))∧Below w.heap.size w w':=by
 have HN:=OX b;have HK:=iU a (Nm.inv b);rw [show Nm.div a b=Nm.mul a (Nm.inv b) from rfl];obtain ⟨c,hc⟩:∃ c,Nm.inv b=c:=⟨_,rfl⟩;rw [hc] at HN HK hb' ⊢;clear hc;obtain ⟨r,hr⟩:∃ r,Nm.mul a c=r:=⟨_,rfl⟩;rw [hr] at HK ⊢;clear hr;have HN:=hide HN;have HK:=hide HK
 go_enter Tryz.func158,Tryz.ntmps158
 go_upto_region 0 with (fail)
 go_cut [2,3,4] (fun v2 v3 v4 wx=>v2=ptr w.heap.size∧v3=ptr (w.heap.size+1)∧v4=ptr (w.heap.size+2)∧aG w wx [(ah a,164),(ah b,164),(ah ⟨0,0⟩,164)])
 case first=>
  go_wp2;go_meet;exact ⟨rfl,rfl,rfl,((((aG.nil w).new (by simp) (ah a) _).new (by simp) (ah b) _).new (by simp) (ah ⟨0,0⟩) _)⟩
 case rest=>
  obtain ⟨rfl,rfl,rfl,hB⟩:=hcut;have DV:=(hB.au rfl).cell (j:=0) rfl;have rD:=(hB.au rfl).frozen 0;have ka1:=(hB.au rfl).cell (j:=1) rfl;have rE:=(hB.au rfl).frozen 1;have Yh:=(hB.au rfl).cell (j:=2) rfl;have Js:=(hB.au rfl).frozen 2;have Yi:=(hB.au rfl).cell (j:=3) rfl;have Jt:=(hB.au rfl).frozen 3;have Ii:=(hB.get 1 rfl).cell (j:=0) rfl;have yL:=(hB.get 1 rfl).frozen 0;have Me:=(hB.get 1 rfl).cell (j:=1) rfl;have yM:=(hB.get 1 rfl).frozen 1;have kb2:=(hB.get 1 rfl).cell (j:=2) rfl;have Yj:=(hB.get 1 rfl).frozen 2;have kb3:=(hB.get 1 rfl).cell (j:=3) rfl;have Yk:=(hB.get 1 rfl).frozen 3;have hB0:=hB
  go_upto_region 1 with (fail)
  refine wp_region_held_drew (S:=(fun w':World=>w'.cell? ⟨w.heap.size,0,none⟩=some (.int .i64 (a).n)∧w'.cell? ⟨w.heap.size,1,none⟩=some (.slice none 0 0)∧w'.cell? ⟨w.heap.size,2,none⟩=some (.int .i64 (a).d)∧w'.cell? ⟨w.heap.size,3,none⟩=some (.slice none 0 0)∧w'.cell? ⟨w.heap.size+1,0,none⟩=some (.int .i64 (b).n)∧w'.cell? ⟨w.heap.size+1,1,none⟩=some (.slice none 0 0)∧w'.cell? ⟨w.heap.size+1,2,none⟩=some (.int .i64 (b).d)∧w'.cell? ⟨w.heap.size+1,3,none⟩=some (.slice none 0 0))) (by kernel_rfl) ?uw (fun hHeld=>?_)
  case uw=>exact ⟨((hB0.drew).au rfl).cell (j:=0) rfl,((hB0.drew).au rfl).cell (j:=1) rfl,((hB0.drew).au rfl).cell (j:=2) rfl,((hB0.drew).au rfl).cell (j:=3) rfl,((hB0.drew).get 1 rfl).cell (j:=0) rfl,((hB0.drew).get 1 rfl).cell (j:=1) rfl,((hB0.drew).get 1 rfl).cell (j:=2) rfl,((hB0.drew).get 1 rfl).cell (j:=3) rfl⟩
  refine tk 0 ?_;refine tk 1 ?_;refine tr 2 fun K hK=>?_;go_simp
  (go_at_call 202;refine (HN.out _ hb hp).mono ?_;rintro e w1 ⟨rfl,hb1⟩)
  have hB1:=hB0.drew.call (by simp) hb1;refine hK.out _ _ ?aiL (fun hHeld=>?_)
  case aiL=>(exact ⟨((hB1).au rfl).cell (j:=0) rfl,((hB1).au rfl).cell (j:=1) rfl,((hB1).au rfl).cell (j:=2) rfl,((hB1).au rfl).cell (j:=3) rfl,((hB1).get 1 rfl).cell (j:=0) rfl,((hB1).get 1 rfl).cell (j:=1) rfl,((hB1).get 1 rfl).cell (j:=2) rfl,((hB1).get 1 rfl).cell (j:=3) rfl⟩)
  clear hK K
  try simp only [Act.put,la,lz,ls]
  refine tr 3 fun K hK=>?_;go_simp
  (go_at_call 156;refine (HK.out _ ha hb').mono ?_;rintro e w2 ⟨rfl,hb2⟩)
  have hB2:=hB1.call (by simp) hb2;have TW:=(hB2.get 2 rfl).cell (j:=0) rfl;have C9:=(hB2.get 2 rfl).frozen 0;have TY:=(hB2.get 2 rfl).cell (j:=1) rfl;have Dc:=(hB2.get 2 rfl).frozen 1;have Ua:=(hB2.get 2 rfl).cell (j:=2) rfl;have Df:=(hB2.get 2 rfl).frozen 2;have Ub:=(hB2.get 2 rfl).cell (j:=3) rfl;have Dh:=(hB2.get 2 rfl).frozen 3;have hV:=((((hB2).set 2 rfl 0 (.int .i64 (r).n)).set 2 rfl 1 (.slice none 0 0)).set 2 rfl 2 (.int .i64 (r).d)).set 2 rfl 3 (.slice none 0 0);refine hK.out _ _ ?aiS (fun hHeld=>?_)
  case aiS=>(exact ⟨((hB2).au rfl).cell (j:=0) rfl,((hB2).au rfl).cell (j:=1) rfl,((hB2).au rfl).cell (j:=2) rfl,((hB2).au rfl).cell (j:=3) rfl,((hB2).get 1 rfl).cell (j:=0) rfl,((hB2).get 1 rfl).cell (j:=1) rfl,((hB2).get 1 rfl).cell (j:=2) rfl,((hB2).get 1 rfl).cell (j:=3) rfl⟩)
  clear hK K
  try simp only [Act.put,la,lz,ls]
  refine tr 4 fun K hK=>?_;go_simp;refine hK.out _ _ ?aiZ (fun hHeld=>?_)
  case aiZ=>(exact ⟨((hV).au rfl).cell (j:=0) rfl,((hV).au rfl).cell (j:=1) rfl,((hV).au rfl).cell (j:=2) rfl,((hV).au rfl).cell (j:=3) rfl,((hV).get 1 rfl).cell (j:=0) rfl,((hV).get 1 rfl).cell (j:=1) rfl,((hV).get 1 rfl).cell (j:=2) rfl,((hV).get 1 rfl).cell (j:=3) rfl⟩)
  clear hK K
  try simp only [Act.put,la,lz,ls]
  refine wpAnyH_done (by kernel_rfl) ?_ _;go_wp2;exact bodyPost_ret (aI (p:=4) (hV.get 2 rfl) Tryz.underlying164 rfl aW rfl _ rfl) rfl ⟨rfl,hV.bw⟩
end Go.Proofs.YtjbbfmofpjflmaaGreatDoor
