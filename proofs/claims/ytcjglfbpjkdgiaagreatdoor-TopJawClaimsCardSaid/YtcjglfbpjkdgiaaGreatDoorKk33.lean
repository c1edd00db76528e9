/- Parts of a proof. -/
import Derived.Test.YtcjglfbpjkdgiaaGreatDoorKk32
import Derived.Test.YtcjglfbpjkdgiaaGreatDoorKk5
set_option maxHeartbeats 4000000
set_option maxRecDepth 100000
set_option linter.unusedVariables false
set_option linter.unusedSimpArgs false
namespace Go.Proofs.YtcjglfbpjkdgiaaGreatDoor
open Go.RowKit
theorem tN {P:Program} {f:FuncId} {args:Array Value} {v:Value} {w:World} {a:Nat} (h:Calls P f args (w.drewN a) fun e w'=>e= .returned v∧w'=w.drewN a):Calls P f args (w.drewN a) fun e w'=>e= .returned v∧∃ n,w'=w.drewN n:=
 h.mono (by rintro e w' ⟨rfl,rfl⟩;exact ⟨rfl,a,rfl⟩)
def sz (n:Int):Int:=(n.natAbs:Int)
theorem WT {n:Int} (h0: -9223372036854775807≤n) (h1:n≤9223372036854775807):0≤sz n∧sz n≤9223372036854775807:=by unfold sz;omega
theorem Hg (n:Int) (w:World) (h0: -9223372036854775807≤n) (h1:n≤9223372036854775807):
 Calls Tryz.prog 216 #[.int .i64 n] w fun e w'=>e= .returned (.int .u64 (sz n))∧w'=w:=size_any n w h0 h1
theorem Je (a b z:Int) (h:a*b=z) (h0: -9223372036854775807≤a) (h1:a≤9223372036854775807) (g0: -9223372036854775807≤b) (g1:b≤9223372036854775807) (k0: -9223372036854775807≤z) (k1:z≤9223372036854775807) (w:World):
 Calls Tryz.prog 215 #[.int .u64 (sz a),.int .u64 (sz b)] w fun e w'=>e= .returned (.tuple #[.int .u64 0,.int .u64 (sz z)])∧w'=w:=by
 refine (Tryz.bits_Mul64 a.natAbs b.natAbs (by omega) (by omega) w).mono ?_
 rintro e w' ⟨rfl,rfl⟩
 have hm:a.natAbs*b.natAbs=z.natAbs:=by rw [← h,Int.natAbs_mul]
 rw [hm,Nat.div_eq_of_lt (by omega),Nat.mod_eq_of_lt (by omega)];exact ⟨rfl,rfl⟩
theorem sign_mul {a b z:Int} (h:a*b=z):(!(decide (a<0) == decide (b<0)))=true→z≤0:=by
 intro hd;subst h
 by_cases ha:a<0 <;> by_cases hb:b<0 <;> simp [ha,hb] at hd
 · exact Int.mul_nonpos_of_nonpos_of_nonneg (by omega) (by omega)
 · exact Int.mul_nonpos_of_nonneg_of_nonpos (by omega) (by omega)
theorem Rj {a b z:Int} (h:a*b=z):(!(decide (a<0) == decide (b<0)))=false→0≤z:=by
 intro hd;subst h
 by_cases ha:a<0 <;> by_cases hb:b<0 <;> simp [ha,hb] at hd
 · exact Int.mul_nonneg_of_nonpos_of_nonpos (by omega) (by omega)
 · exact Int.mul_nonneg (by omega) (by omega)
theorem kP (a b:Int) (w:World) (h0: -9223372036854775807≤a) (h1:a≤9223372036854775807) (g0: -9223372036854775807≤b) (g1:b≤9223372036854775807) (k0: -9223372036854775807≤a*b) (k1:a*b≤9223372036854775807):
 Calls Tryz.prog 174 #[pR a,pR b] w fun e w'=>e= .returned (pR (a*b))∧Below w.heap.size w w':=by
 have hn:=wX;obtain ⟨z,hz⟩:∃ z,a*b=z:=⟨_,rfl⟩;have S1:=sign_mul hz;have S2:=Rj hz;rw [hz] at k0 k1 ⊢;have hm:=WT k0 k1
 rcases Bool.eq_false_or_eq_true (!(decide (a<0) == decide (b<0))) with hs | hs
 · have e: -(sz z)=z:=by have:=S1 hs;unfold sz;omega
   clear S1 S2
   go_enter Tryz.func174,Tryz.ntmps174
   go_upto_region 0 with (fail)
   go_cut [2,3,4] (fun v2 v3 v4 wx=>v2=ptr w.heap.size∧v3=ptr (w.heap.size+1)∧v4=ptr (w.heap.size+2)∧aX w wx [(aK a,126),(aK b,126),(aK 0,126)])
   case first=>
    go_wp2;go_meet;exact ⟨rfl,rfl,rfl,((((aX.nil w).new (by simp) (aK a) _).new (by simp) (aK b) _).new (by simp) (aK 0) _)⟩
   case rest=>
    obtain ⟨rfl,rfl,rfl,hB⟩:=hcut;have xI:=(hB.ah rfl).cell (j:=0) rfl;have lJ:=(hB.ah rfl).frozen 0;have ka1:=(hB.ah rfl).cell (j:=1) rfl;have lK:=(hB.ah rfl).frozen 1;have Hw:=(hB.get 1 rfl).cell (j:=0) rfl;have xJ:=(hB.get 1 rfl).frozen 0;have Qa:=(hB.get 1 rfl).cell (j:=1) rfl;have yY:=(hB.get 1 rfl).frozen 1;have OO:=(hB.get 2 rfl).cell (j:=0) rfl;have Ed:=(hB.get 2 rfl).frozen 0;have Xe:=(hB.get 2 rfl).cell (j:=1) rfl;have Ee:=(hB.get 2 rfl).frozen 1;go_wp2
    go_quiet (first | (go_at_call 216;exact tN (Hg _ _ (by assumption) (by assumption))) | (go_at_call 215;exact tN (Je a b z hz h0 h1 g0 g1 k0 k1 _)))
    go_wp2;have hZ:=((hB.drewN nq).set 2 rfl 0 (.int .i64 z)).set 2 rfl 1 (.slice none 0 0);exact bodyPost_ret (bf (p:=4) (hZ.get 2 rfl) Tryz.underlying126 rfl bJ rfl _ rfl) rfl ⟨rfl,hZ.bw⟩
 · have e:sz z=z:=by have:=S2 hs;unfold sz;omega
   clear S1 S2
   go_enter Tryz.func174,Tryz.ntmps174
   go_upto_region 0 with (fail)
   go_cut [2,3,4] (fun v2 v3 v4 wx=>v2=ptr w.heap.size∧v3=ptr (w.heap.size+1)∧v4=ptr (w.heap.size+2)∧aX w wx [(aK a,126),(aK b,126),(aK 0,126)])
   case first=>
    go_wp2;go_meet;exact ⟨rfl,rfl,rfl,((((aX.nil w).new (by simp) (aK a) _).new (by simp) (aK b) _).new (by simp) (aK 0) _)⟩
   case rest=>
    obtain ⟨rfl,rfl,rfl,hB⟩:=hcut;have xI:=(hB.ah rfl).cell (j:=0) rfl;have lJ:=(hB.ah rfl).frozen 0;have ka1:=(hB.ah rfl).cell (j:=1) rfl;have lK:=(hB.ah rfl).frozen 1;have Hw:=(hB.get 1 rfl).cell (j:=0) rfl;have xJ:=(hB.get 1 rfl).frozen 0;have Qa:=(hB.get 1 rfl).cell (j:=1) rfl;have yY:=(hB.get 1 rfl).frozen 1;have OO:=(hB.get 2 rfl).cell (j:=0) rfl;have Ed:=(hB.get 2 rfl).frozen 0;have Xe:=(hB.get 2 rfl).cell (j:=1) rfl;have Ee:=(hB.get 2 rfl).frozen 1;go_wp2
    go_quiet (first | (go_at_call 216;exact tN (Hg _ _ (by assumption) (by assumption))) | (go_at_call 215;exact tN (Je a b z hz h0 h1 g0 g1 k0 k1 _)))
    go_wp2;have hZ:=((hB.drewN nq).set 2 rfl 0 (.int .i64 z)).set 2 rfl 1 (.slice none 0 0);exact bodyPost_ret (bf (p:=4) (hZ.get 2 rfl) Tryz.underlying126 rfl bJ rfl _ rfl) rfl ⟨rfl,hZ.bw⟩
theorem EH {W:World} {g h:Nat} {cs ds:List Value} {t1 t2:TypeId} {d1 d2:TypeDesc} {fn:Func} {p q:Tmp} (hg:Held W g cs t1) (hh:Held W h ds t2) (hu:Tryz.prog.underlying t1=some d1) (hv:Tryz.prog.underlying t2=some d2) (h1:d1.isRow=true) (h2:d2.isRow=true)
 (hi:(Tryz.prog.info? t1).map (·.size)=some cs.length) (hj:(Tryz.prog.info? t2).map (·.size)=some ds.length) (hr:fn.results= #[.cell p t1,.cell q t2]) (tmps:Array Value) (hp:tmps.getD p undef=ptr g) (hq:tmps.getD q undef=ptr h):
 (results fn tmps).run Tryz.prog W= .ok (.tuple #[.agg cs.toArray,.agg ds.toArray]) W:=by
 have e:(results fn tmps).run Tryz.prog W=((asAddr (tmps.getD p undef)).run Tryz.prog W).andThen fun a w₁=>((loadVar t1 a).run Tryz.prog w₁).andThen fun v w₂=>((asAddr (tmps.getD q undef)).run Tryz.prog w₂).andThen fun a w₃=>((loadVar t2 a).run Tryz.prog w₃).andThen fun v' w₄=> .ok (.tuple #[v,v']) w₄:=by
  simp only [results,hr]
  simp [Sem.run_bind,Result.andThen]
 rw [e,hp,hq]
 simp only [ptr,asAddr,Sem.run_pure,Result.andThen_ok,run_loadVar_row W g t1 t1 cs.toArray (0,0) d1 hg hu (by cases d1 <;> first | rfl | cases h1) (by rw [gU rfl rfl];exact hi),run_loadVar_row W h t2 t2 ds.toArray (0,0) d2 hh hv (by cases d2 <;> first | rfl | cases h2) (by rw [gU rfl rfl];exact hj)]
theorem zL (a b:Int) (w:World) (h0: -9223372036854775807≤a) (h1:a≤9223372036854775807) (g0:0<b) (g1:b≤9223372036854775807):
 Calls Tryz.prog 241 #[pR a,pR b] w fun e w'=>e= .returned (.tuple #[pR (a / b),pR (a % b)])∧Below w.heap.size w w':=by
 have hn:=wX
 have hne:(a != -9223372036854775808)=true:=by rw [bne_iff_ne];omega
 have hb:(b == 0)=false:=by rw [beq_eq_false_iff_ne];omega
 have hb':¬ b=0:=by omega
 have D:=Nm.down (a:=a) g0;have B1:=Int.natAbs_ediv_le_natAbs a b;have B2:=Int.emod_nonneg a hb';have B3:=Int.emod_lt_of_pos a g0;obtain ⟨q,hq⟩:∃ q,a.tdiv b=q:=⟨_,rfl⟩;obtain ⟨r,hr⟩:∃ r,a.tmod b=r:=⟨_,rfl⟩;obtain ⟨Z,hZ⟩:∃ Z,a / b=Z:=⟨_,rfl⟩;obtain ⟨Y,hY⟩:∃ Y,a % b=Y:=⟨_,rfl⟩
 have B4:(a.tdiv b).natAbs≤a.natAbs:=by rw [Int.natAbs_tdiv];exact Nat.div_le_self _ _
 rw [hq] at B4;rw [hq,hr,hZ,hY] at D;rw [hZ,hY];rw [hZ] at B1;rw [hY] at B2 B3;clear hZ hY
 have z0: -9223372036854775807≤Z:=by omega
 have z1:Z≤9223372036854775807:=by omega
 have y1:Y≤9223372036854775807:=by omega
 have q0: -9223372036854775807≤q:=by omega
 have q1:q≤9223372036854775807:=by omega
 clear B1 B4
 by_cases hr0:r<0
 · rw [if_pos hr0,if_pos hr0] at D
   obtain ⟨e1,e2⟩:=D
   go_enter Tryz.func241,Tryz.ntmps241
   go_upto_region 0 with (fail)
   go_cut [2,3,4,5] (fun v2 v3 v4 v5 wx=>v2=ptr w.heap.size∧v3=ptr (w.heap.size+1)∧v4=ptr (w.heap.size+2)∧v5=ptr (w.heap.size+3)∧aX w wx [(aK a,126),(aK b,126),(aK 0,126),(aK 0,126)])
   case first=>
    go_wp2;go_meet;exact ⟨rfl,rfl,rfl,rfl,(((((aX.nil w).new (by simp) (aK a) _).new (by simp) (aK b) _).new (by simp) (aK 0) _).new (by simp) (aK 0) _)⟩
   case rest=>
    obtain ⟨rfl,rfl,rfl,rfl,hB⟩:=hcut;have xI:=(hB.ah rfl).cell (j:=0) rfl;have lJ:=(hB.ah rfl).frozen 0;have ka1:=(hB.ah rfl).cell (j:=1) rfl;have lK:=(hB.ah rfl).frozen 1;have Hw:=(hB.get 1 rfl).cell (j:=0) rfl;have xJ:=(hB.get 1 rfl).frozen 0;have Qa:=(hB.get 1 rfl).cell (j:=1) rfl;have yY:=(hB.get 1 rfl).frozen 1;have OO:=(hB.get 2 rfl).cell (j:=0) rfl;have Ed:=(hB.get 2 rfl).frozen 0;have Xe:=(hB.get 2 rfl).cell (j:=1) rfl;have Ee:=(hB.get 2 rfl).frozen 1;have kd0:=(hB.get 3 rfl).cell (j:=0) rfl;have Yj:=(hB.get 3 rfl).frozen 0;have kd1:=(hB.get 3 rfl).cell (j:=1) rfl;have Yk:=(hB.get 3 rfl).frozen 1;go_wp2
    go_quiet (fail)
    revert nq
    intro n1;go_wp2
    go_quiet (fail)
    go_wp2;have hZ:=((((hB.drewN (n1+nq)).set 2 rfl 0 (.int .i64 Z)).set 2 rfl 1 (.slice none 0 0)).set 3 rfl 0 (.int .i64 Y)).set 3 rfl 1 (.slice none 0 0);exact bodyPost_ret (EH (p:=4) (q:=5) (hZ.get 2 rfl) (hZ.get 3 rfl) Tryz.underlying126 Tryz.underlying126 rfl rfl bJ bJ rfl _ rfl rfl) rfl ⟨rfl,hZ.bw⟩
 · rw [if_neg hr0,if_neg hr0] at D
   obtain ⟨rfl,rfl⟩:=D
   go_enter Tryz.func241,Tryz.ntmps241
   go_upto_region 0 with (fail)
   go_cut [2,3,4,5] (fun v2 v3 v4 v5 wx=>v2=ptr w.heap.size∧v3=ptr (w.heap.size+1)∧v4=ptr (w.heap.size+2)∧v5=ptr (w.heap.size+3)∧aX w wx [(aK a,126),(aK b,126),(aK 0,126),(aK 0,126)])
   case first=>
    go_wp2;go_meet;exact ⟨rfl,rfl,rfl,rfl,(((((aX.nil w).new (by simp) (aK a) _).new (by simp) (aK b) _).new (by simp) (aK 0) _).new (by simp) (aK 0) _)⟩
   case rest=>
    obtain ⟨rfl,rfl,rfl,rfl,hB⟩:=hcut;have xI:=(hB.ah rfl).cell (j:=0) rfl;have lJ:=(hB.ah rfl).frozen 0;have ka1:=(hB.ah rfl).cell (j:=1) rfl;have lK:=(hB.ah rfl).frozen 1;have Hw:=(hB.get 1 rfl).cell (j:=0) rfl;have xJ:=(hB.get 1 rfl).frozen 0;have Qa:=(hB.get 1 rfl).cell (j:=1) rfl;have yY:=(hB.get 1 rfl).frozen 1;have OO:=(hB.get 2 rfl).cell (j:=0) rfl;have Ed:=(hB.get 2 rfl).frozen 0;have Xe:=(hB.get 2 rfl).cell (j:=1) rfl;have Ee:=(hB.get 2 rfl).frozen 1;have kd0:=(hB.get 3 rfl).cell (j:=0) rfl;have Yj:=(hB.get 3 rfl).frozen 0;have kd1:=(hB.get 3 rfl).cell (j:=1) rfl;have Yk:=(hB.get 3 rfl).frozen 1;go_wp2
    go_quiet (fail)
    go_wp2;have hZ:=((((hB.drewN nq).set 2 rfl 0 (.int .i64 q)).set 2 rfl 1 (.slice none 0 0)).set 3 rfl 0 (.int .i64 r)).set 3 rfl 1 (.slice none 0 0);exact bodyPost_ret (EH (p:=4) (q:=5) (hZ.get 2 rfl) (hZ.get 3 rfl) Tryz.underlying126 Tryz.underlying126 rfl rfl bJ bJ rfl _ rfl rfl) rfl ⟨rfl,hZ.bw⟩
theorem x9 (b:Int) (hb:0<b) (w:World):Calls Tryz.prog 179 #[pR b] w fun e w'=>e= .returned (.int .i64 1)∧Below w.heap.size w w':=by
 have:=DJ b w
 rwa [show Nm.Zp b=1 by unfold Nm.Zp;rw [if_neg (by omega),if_pos hb]] at this
theorem wL {o p:Option Value} {y r:Int} (h:o=some (.int .i64 r)) (k:p=some (.int .i64 y)) (hl:r.toNat<y.toNat):(intOf (o.getD undef)).toNat<(intOf (p.getD undef)).toNat:=by subst h k;exact hl
theorem sign_zero (w:World):Calls Tryz.prog 179 #[pR 0] w fun e w'=>e= .returned (.int .i64 0)∧Below w.heap.size w w':=DJ 0 w
theorem TK (x y:Int) (hx:0≤x) (hy:0<y):Nm.gcd x y=Nm.gcd y (x % y):=by
 obtain ⟨n,rfl⟩:=Int.eq_ofNat_of_zero_le hx;obtain ⟨m,rfl⟩:=Int.eq_ofNat_of_zero_le (Int.le_of_lt hy)
 unfold Nm.gcd
 rw [← Int.natCast_emod]
 show ((Nat.gcd n m:Nat):Int)=((Nat.gcd m (n % m):Nat):Int)
 rw [Nat.gcd_comm n m,Nat.gcd_rec m n,Nat.gcd_comm]
theorem XP (x:Int) (hx:0≤x):Nm.gcd x 0=x:=by
 obtain ⟨n,rfl⟩:=Int.eq_ofNat_of_zero_le hx
 unfold Nm.gcd
 show ((Nat.gcd n 0:Nat):Int)=n
 rw [Nat.gcd_zero_right]
theorem XM (a b:Int):Nm.gcd a b=Nm.gcd a.natAbs b.natAbs:=by
 unfold Nm.gcd
 rw [Int.gcd_eq_natAbs_gcd_natAbs,Int.gcd_eq_natAbs_gcd_natAbs,Int.natAbs_natCast,Int.natAbs_natCast]
theorem IG (a b:Int) (w:World) (h0: -9223372036854775807≤a) (h1:a≤9223372036854775807) (g0:0<b) (g1:b≤9223372036854775807):
 Calls Tryz.prog 214 #[pR a,pR b] w fun e w'=>e= .returned (pR (a / b))∧Below w.heap.size w w':=by
 obtain ⟨z,hz⟩:∃ z,a / b=z:=⟨_,rfl⟩;have HD:=zL a b;rw [hz] at HD;rw [hz];clear hz
 go_enter Tryz.func214,Tryz.ntmps214
 go_upto_region 0 with (fail)
 go_cut [2,3,4] (fun v2 v3 v4 wx=>v2=ptr w.heap.size∧v3=ptr (w.heap.size+1)∧v4=ptr (w.heap.size+2)∧aX w wx [(aK a,126),(aK b,126),(aK 0,126)])
 case first=>
  go_wp2;go_meet;exact ⟨rfl,rfl,rfl,((((aX.nil w).new (by simp) (aK a) _).new (by simp) (aK b) _).new (by simp) (aK 0) _)⟩
 case rest=>
  obtain ⟨rfl,rfl,rfl,hB⟩:=hcut;have xI:=(hB.ah rfl).cell (j:=0) rfl;have lJ:=(hB.ah rfl).frozen 0;have ka1:=(hB.ah rfl).cell (j:=1) rfl;have lK:=(hB.ah rfl).frozen 1;have Hw:=(hB.get 1 rfl).cell (j:=0) rfl;have xJ:=(hB.get 1 rfl).frozen 0;have Qa:=(hB.get 1 rfl).cell (j:=1) rfl;have yY:=(hB.get 1 rfl).frozen 1;have OO:=(hB.get 2 rfl).cell (j:=0) rfl;have Ed:=(hB.get 2 rfl).frozen 0;have Xe:=(hB.get 2 rfl).cell (j:=1) rfl;have Ee:=(hB.get 2 rfl).frozen 1;have HD:=hide HD
  go_wp2_with (first | (go_at_call 179;refine (x9 b g0 _).mono ?_;rintro e w1 ⟨rfl,hb1⟩;have hC:=hB.call (by simp) hb1) | (go_at_call 241;refine (HD.out _ h0 h1 g0 g1).mono ?_;rintro e w2 ⟨rfl,hb2⟩;have hD:=hC.call (by simp) hb2) | (refine aB 126 (.tmp 3) rfl ?_;refine ak (hC.get 1 rfl) Tryz.underlying126 rfl bJ rfl (.tmp 3) rfl rfl ?_) | (refine aB 126 (.tmp 3) rfl ?_;refine ak (hB.get 1 rfl) Tryz.underlying126 rfl bJ rfl (.tmp 3) rfl rfl ?_) | (refine aB 126 (.tmp 2) rfl ?_;refine ak (hC.ah rfl) Tryz.underlying126 rfl bJ rfl (.tmp 2) rfl rfl ?_) | (refine aB 126 (.tmp 2) rfl ?_;refine ak (hB.ah rfl) Tryz.underlying126 rfl bJ rfl (.tmp 2) rfl rfl ?_) | (refine aO 126 (.tmp 4) (.tmp 20) rfl ?_;refine aF (((hD.alloc (by simp) _).alloc (by simp) _).get 2 rfl) (aK z) rfl bJ (tH _) rfl (.tmp 4) (.tmp 20) rfl rfl rfl ?_))
  have hZ:=((hD.alloc (by simp) (.cells #[.int .i64 z,.slice none 0 0] 126)).alloc (by simp) (.cells #[.int .i64 (a % b),.slice none 0 0] 126)).put 2 rfl (aK z) rfl;exact bodyPost_ret (bf (p:=4) (hZ.get 2 rfl) Tryz.underlying126 rfl bJ rfl _ rfl) rfl ⟨rfl,hZ.bw⟩
theorem XO (a b:Int) (w:World) (h0: -9223372036854775807≤a) (h1:a≤9223372036854775807) (g0: -9223372036854775807≤b) (g1:b≤9223372036854775807):
 Calls Tryz.prog 205 #[pR a,pR b] w fun e w'=>e= .returned (pR (Nm.gcd a b))∧Below w.heap.size w w':=by
 go_enter Tryz.func205,Tryz.ntmps205
 go_upto_region 0 with (fail)
 go_cut [2,3,4] (fun v2 v3 v4 wx=>v2=ptr w.heap.size∧v3=ptr (w.heap.size+1)∧v4=ptr (w.heap.size+2)∧aX w wx [(aK a,126),(aK b,126),(aK 0,126)])
 case first=>
  go_wp2;go_meet;exact ⟨rfl,rfl,rfl,((((aX.nil w).new (by simp) (aK a) _).new (by simp) (aK b) _).new (by simp) (aK 0) _)⟩
 case rest=>
  obtain ⟨rfl,rfl,rfl,hB⟩:=hcut;have xI:=(hB.ah rfl).cell (j:=0) rfl;have lJ:=(hB.ah rfl).frozen 0;have ka1:=(hB.ah rfl).cell (j:=1) rfl;have lK:=(hB.ah rfl).frozen 1;have Hw:=(hB.get 1 rfl).cell (j:=0) rfl;have xJ:=(hB.get 1 rfl).frozen 0;have Qa:=(hB.get 1 rfl).cell (j:=1) rfl;have yY:=(hB.get 1 rfl).frozen 1
  go_upto_region 1 with (fail)
  go_cut [] (fun wx=>aX w wx [(aK a.natAbs,126),(aK b.natAbs,126),(aK 0,126)])
  case first=>
   refine wp_region_held_drew (S:=(fun _:World=>True)) (by kernel_rfl) ?dL (fun hHeld=>?_)
   case dL=>trivial
   refine wpAnyH_ready (rs:=[0,2]) (by kernel_rfl) (by simp) ?_;refine AllReadyH.cons (o:=_) (ga rfl) (fun K hK=>?_) (AllReadyH.cons (o:=_) (ga rfl) (fun K hK=>?_) AllReadyH.nil)
   · go_simp
     refine hK.out _ _ ?YJ (fun hHeld=>?_)
     case YJ=>(first | (trivial) | (dsimp only;trivial))
     clear hK K
     try simp only [Act.put,la,lz,ls]
     refine wpAnyH_ready (rs:=[1,2]) (by kernel_rfl) (by simp) ?_;refine AllReadyH.cons (o:=_) (ga rfl) (fun K hK=>?_) (AllReadyH.cons (o:=_) (ga rfl) (fun K hK=>?_) AllReadyH.nil)
     · go_simp
       (go_at_call 240;refine (uX a _ h0 h1).mono ?_;rintro e w1 ⟨rfl,hb1⟩)
       have hD:=hB.drew.call (by simp) hb1;have kd0:=(hD.get 1 rfl).cell (j:=0) rfl;have Yj:=(hD.get 1 rfl).frozen 0;have kd1:=(hD.get 1 rfl).cell (j:=1) rfl;have Yk:=(hD.get 1 rfl).frozen 1;refine hK.out _ _ ?UO (fun hHeld=>?_)
       case UO=>(first | (trivial) | (dsimp only;trivial))
       clear hK K
       try simp only [Act.put,la,lz,ls]
       refine tr 2 fun K hK=>?_;go_simp;refine hK.out _ _ ?UW (fun hHeld=>?_)
       case UW=>(first | (trivial) | (dsimp only;trivial))
       clear hK K
       try simp only [Act.put,la,lz,ls]
       refine tr 3 fun K hK=>?_;go_simp
       (go_at_call 240;refine (uX b _ g0 g1).mono ?_;rintro e w2 ⟨rfl,hb2⟩)
       have hE:=hD.call (by simp) hb2;have ke0:=(hE.ah rfl).cell (j:=0) rfl;have ak1:=(hE.ah rfl).frozen 0;have ke1:=(hE.ah rfl).cell (j:=1) rfl;have ak8:=(hE.ah rfl).frozen 1;have kg0:=(hE.get 1 rfl).cell (j:=0) rfl;have aln:=(hE.get 1 rfl).frozen 0;have kg1:=(hE.get 1 rfl).cell (j:=1) rfl;have alv:=(hE.get 1 rfl).frozen 1;refine hK.out _ _ ?U1 (fun hHeld=>?_)
       case U1=>(first | (trivial) | (dsimp only;trivial))
       clear hK K
       try simp only [Act.put,la,lz,ls]
       refine tr 4 fun K hK=>?_;go_simp;refine hK.out _ _ ?U4 (fun hHeld=>?_)
       case U4=>(first | (trivial) | (dsimp only;trivial))
       clear hK K
       try simp only [Act.put,la,lz,ls]
       refine tr 5 fun K hK=>?_;go_simp;refine hK.out _ _ ?U8 (fun hHeld=>?_)
       case U8=>(first | (trivial) | (dsimp only;trivial))
       clear hK K
       try simp only [Act.put,la,lz,ls]
       refine wpAnyH_done (by kernel_rfl) ?_ _;go_wp2;go_meet;exact (((hE.set 0 rfl 0 (.int .i64 a.natAbs)).set 0 rfl 1 (.slice none 0 0)).set 1 rfl 0 (.int .i64 b.natAbs)).set 1 rfl 1 (.slice none 0 0)
     · go_simp
       refine hK.out _ _ ?UY (fun hHeld=>?_)
       case UY=>(first | (trivial) | (dsimp only;trivial))
       clear hK K
       try simp only [Act.put,la,lz,ls]
       refine tr 1 fun K hK=>?_;go_simp
       (go_at_call 240;refine (uX a _ h0 h1).mono ?_;rintro e w1 ⟨rfl,hb1⟩)
       have hD:=hB.drew.call (by simp) hb1;have kd0:=(hD.get 1 rfl).cell (j:=0) rfl;have Yj:=(hD.get 1 rfl).frozen 0;have kd1:=(hD.get 1 rfl).cell (j:=1) rfl;have Yk:=(hD.get 1 rfl).frozen 1;refine hK.out _ _ ?UQ (fun hHeld=>?_)
       case UQ=>(first | (trivial) | (dsimp only;trivial))
       clear hK K
       try simp only [Act.put,la,lz,ls]
       refine tr 3 fun K hK=>?_;go_simp
       (go_at_call 240;refine (uX b _ g0 g1).mono ?_;rintro e w2 ⟨rfl,hb2⟩)
       have hE:=hD.call (by simp) hb2;have ke0:=(hE.ah rfl).cell (j:=0) rfl;have ak1:=(hE.ah rfl).frozen 0;have ke1:=(hE.ah rfl).cell (j:=1) rfl;have ak8:=(hE.ah rfl).frozen 1;have kg0:=(hE.get 1 rfl).cell (j:=0) rfl;have aln:=(hE.get 1 rfl).frozen 0;have kg1:=(hE.get 1 rfl).cell (j:=1) rfl;have alv:=(hE.get 1 rfl).frozen 1;refine hK.out _ _ ?U2 (fun hHeld=>?_)
       case U2=>(first | (trivial) | (dsimp only;trivial))
       clear hK K
       try simp only [Act.put,la,lz,ls]
       refine tr 4 fun K hK=>?_;go_simp;refine hK.out _ _ ?U5 (fun hHeld=>?_)
       case U5=>(first | (trivial) | (dsimp only;trivial))
       clear hK K
       try simp only [Act.put,la,lz,ls]
       refine tr 5 fun K hK=>?_;go_simp;refine hK.out _ _ ?U9 (fun hHeld=>?_)
       case U9=>(first | (trivial) | (dsimp only;trivial))
       clear hK K
       try simp only [Act.put,la,lz,ls]
       refine wpAnyH_done (by kernel_rfl) ?_ _;go_wp2;go_meet;exact (((hE.set 0 rfl 0 (.int .i64 a.natAbs)).set 0 rfl 1 (.slice none 0 0)).set 1 rfl 0 (.int .i64 b.natAbs)).set 1 rfl 1 (.slice none 0 0)
   · go_simp
     refine hK.out _ _ ?UZ (fun hHeld=>?_)
     case UZ=>(first | (trivial) | (dsimp only;trivial))
     clear hK K
     try simp only [Act.put,la,lz,ls]
     refine tr 0 fun K hK=>?_;go_simp;refine hK.out _ _ ?UN (fun hHeld=>?_)
     case UN=>(first | (trivial) | (dsimp only;trivial))
     clear hK K
     try simp only [Act.put,la,lz,ls]
     refine tr 1 fun K hK=>?_;go_simp
     (go_at_call 240;refine (uX a _ h0 h1).mono ?_;rintro e w1 ⟨rfl,hb1⟩)
     have hD:=hB.drew.call (by simp) hb1;have kd0:=(hD.get 1 rfl).cell (j:=0) rfl;have Yj:=(hD.get 1 rfl).frozen 0;have kd1:=(hD.get 1 rfl).cell (j:=1) rfl;have Yk:=(hD.get 1 rfl).frozen 1;refine hK.out _ _ ?UR (fun hHeld=>?_)
     case UR=>(first | (trivial) | (dsimp only;trivial))
     clear hK K
     try simp only [Act.put,la,lz,ls]
     refine tr 3 fun K hK=>?_;go_simp
     (go_at_call 240;refine (uX b _ g0 g1).mono ?_;rintro e w2 ⟨rfl,hb2⟩)
     have hE:=hD.call (by simp) hb2;have ke0:=(hE.ah rfl).cell (j:=0) rfl;have ak1:=(hE.ah rfl).frozen 0;have ke1:=(hE.ah rfl).cell (j:=1) rfl;have ak8:=(hE.ah rfl).frozen 1;have kg0:=(hE.get 1 rfl).cell (j:=0) rfl;have aln:=(hE.get 1 rfl).frozen 0;have kg1:=(hE.get 1 rfl).cell (j:=1) rfl;have alv:=(hE.get 1 rfl).frozen 1;refine hK.out _ _ ?U3 (fun hHeld=>?_)
     case U3=>(first | (trivial) | (dsimp only;trivial))
     clear hK K
     try simp only [Act.put,la,lz,ls]
     refine tr 4 fun K hK=>?_;go_simp;refine hK.out _ _ ?U6 (fun hHeld=>?_)
     case U6=>(first | (trivial) | (dsimp only;trivial))
     clear hK K
     try simp only [Act.put,la,lz,ls]
     refine tr 5 fun K hK=>?_;go_simp;refine hK.out _ _ ?Va (fun hHeld=>?_)
     case Va=>(first | (trivial) | (dsimp only;trivial))
     clear hK K
     try simp only [Act.put,la,lz,ls]
     refine wpAnyH_done (by kernel_rfl) ?_ _;go_wp2;go_meet;exact (((hE.set 0 rfl 0 (.int .i64 a.natAbs)).set 0 rfl 1 (.slice none 0 0)).set 1 rfl 0 (.int .i64 b.natAbs)).set 1 rfl 1 (.slice none 0 0)
  case rest=>
   clear hB xI lJ ka1 lK Hw xJ Qa yY;have HG:=hide (XM a b);go_wp2
   go_loopw [] (fun wr=>∃ x y:Int,0≤x∧x≤9223372036854775807∧0≤y∧y≤9223372036854775807∧Aside (Nm.gcd a b=Nm.gcd x y)∧aX w wr [(aK x,126),(aK y,126),(aK 0,126)]) (fun wr=>(intOf ((wr.cell? ⟨w.heap.size+1,0,none⟩).getD undef)).toNat)
   case atStart=>exact ⟨a.natAbs,b.natAbs,by omega,by omega,by omega,by omega,HG.out,hcut⟩
   case round=>
    obtain ⟨x,y,x0,x1,y0,y1,hg,hB⟩:=hrel;have xI:=(hB.ah rfl).cell (j:=0) rfl;have lJ:=(hB.ah rfl).frozen 0;have ka1:=(hB.ah rfl).cell (j:=1) rfl;have lK:=(hB.ah rfl).frozen 1;have Hw:=(hB.get 1 rfl).cell (j:=0) rfl;have xJ:=(hB.get 1 rfl).frozen 0;have Qa:=(hB.get 1 rfl).cell (j:=1) rfl;have yY:=(hB.get 1 rfl).frozen 1
    by_cases hy:y=0
    · subst hy
      have HE:=hide (show pR x=pR (Nm.gcd a b) by rw [hg.out,XP x x0])
      go_wp2_with (first | (go_at_call 179;refine (sign_zero _).mono ?_;rintro e w1 ⟨rfl,hb1⟩;have hC:=hB.call (by simp) hb1) | (refine aB 126 (.tmp 3) rfl ?_;refine ak (hC.get 1 rfl) Tryz.underlying126 rfl bJ rfl (.tmp 3) rfl rfl ?_) | (refine aB 126 (.tmp 3) rfl ?_;refine ak (hB.get 1 rfl) Tryz.underlying126 rfl bJ rfl (.tmp 3) rfl rfl ?_) | (refine aB 126 (.tmp 2) rfl ?_;refine ak (hC.ah rfl) Tryz.underlying126 rfl bJ rfl (.tmp 2) rfl rfl ?_) | (refine aB 126 (.tmp 2) rfl ?_;refine ak (hB.ah rfl) Tryz.underlying126 rfl bJ rfl (.tmp 2) rfl rfl ?_) | (refine aO 126 (.tmp 4) (.tmp 22) rfl ?_;refine aF (hC.get 2 rfl) (aK x) rfl bJ (tH _) rfl (.tmp 4) (.tmp 22) rfl rfl rfl ?_))
      have hZ:=hC.put 2 rfl (aK x) rfl;refine bodyPost_ret (bf (p:=4) (hZ.get 2 rfl) Tryz.underlying126 rfl bJ rfl _ rfl) rfl ⟨?_,hZ.bw⟩;rw [← HE.out]
      rfl
    · have yp:0<y:=by omega
      have r0:=Int.emod_nonneg x hy;have r1:=Int.emod_lt_of_pos x yp;have HD:=zL x y;have HS:=hide (hg.out.trans (TK x y x0 yp));clear hg;obtain ⟨r,hr⟩:∃ r,x % y=r:=⟨_,rfl⟩;obtain ⟨q,hq⟩:∃ q,x / y=q:=⟨_,rfl⟩;rw [hr] at HS r0 r1 HD;rw [hq] at HD;clear hr hq;have HD:=hide HD
      go_wp2_with (first | (go_at_call 179;refine (x9 y yp _).mono ?_;rintro e w1 ⟨rfl,hb1⟩;have hC:=hB.call (by simp) hb1) | (go_at_call 241;refine (HD.out _ (by omega) x1 yp y1).mono ?_;rintro e w2 ⟨rfl,hb2⟩;have hD:=hC.call (by simp) hb2) | (refine aB 126 (.tmp 3) rfl ?_;refine ak (hC.get 1 rfl) Tryz.underlying126 rfl bJ rfl (.tmp 3) rfl rfl ?_) | (refine aB 126 (.tmp 3) rfl ?_;refine ak (hB.get 1 rfl) Tryz.underlying126 rfl bJ rfl (.tmp 3) rfl rfl ?_) | (refine aB 126 (.tmp 2) rfl ?_;refine ak (hC.ah rfl) Tryz.underlying126 rfl bJ rfl (.tmp 2) rfl rfl ?_) | (refine aB 126 (.tmp 2) rfl ?_;refine ak (hB.ah rfl) Tryz.underlying126 rfl bJ rfl (.tmp 2) rfl rfl ?_))
      have hX:=(hD.alloc (by simp) (.cells #[.int .i64 q,.slice none 0 0] 126)).alloc (by simp) (.cells #[.int .i64 r,.slice none 0 0] 126);have hsz:=hD.size (by simp)
      simp only [List.length_cons,List.length_nil] at hsz
      have hR:=Held.newAt (w2.alloc (.cells #[.int .i64 q,.slice none 0 0] 126)) [.int .i64 r,.slice none 0 0] 126 (g:=w2.heap.size+1) (by simp)
      go_upto_region 4 with (fail)
      obtain ⟨X,hXd⟩:∃ X,((w2.alloc (.cells #[.int .i64 q,.slice none 0 0] 126)).alloc (.cells #[.int .i64 r,.slice none 0 0] 126))=X:=⟨_,rfl⟩;rw [hXd] at hX
      simp only [hXd]
      rw [show (w2.alloc (.cells #[.int .i64 q,.slice none 0 0] 126)).alloc (.cells [.int .i64 r,.slice none 0 0].toArray 126)=X from hXd] at hR;clear hXd
      have hne0:w2.heap.size+1≠w.heap.size:=by omega
      have hne1:w2.heap.size+1≠w.heap.size+1:=by omega
      have RP:=(hX.ah rfl).cell (j:=0) rfl;have MX:=(hX.ah rfl).frozen 0;have RQ:=(hX.ah rfl).cell (j:=1) rfl;have MZ:=(hX.ah rfl).frozen 1;have ky0:=(hX.get 1 rfl).cell (j:=0) rfl;have awS:=(hX.get 1 rfl).frozen 0;have ky1:=(hX.get 1 rfl).cell (j:=1) rfl;have awZ:=(hX.get 1 rfl).frozen 1;have kr0:=(hR).cell (j:=0) rfl;have aFD:=(hR).frozen 0;have kr1:=(hR).cell (j:=1) rfl;have aFK:=(hR).frozen 1;refine wp_region_held_drew (S:=(fun _:World=>True)) (by kernel_rfl) ?dY (fun hHeld=>?_)
      case dY=>trivial
      refine wpAnyH_ready (rs:=[0,1]) (by kernel_rfl) (by simp) ?_;refine AllReadyH.cons (o:=_) (ga rfl) (fun K hK=>?_) (AllReadyH.cons (o:=_) (ga rfl) (fun K hK=>?_) AllReadyH.nil)
      · go_simp
        refine hK.out _ _ ?YK (fun hHeld=>?_)
        case YK=>(first | (trivial) | (dsimp only;trivial))
        clear hK K
        try simp only [Act.put,la,lz,ls]
        refine wpAnyH_ready (rs:=[1,2]) (by kernel_rfl) (by simp) ?_;refine AllReadyH.cons (o:=_) (ga rfl) (fun K hK=>?_) (AllReadyH.cons (o:=_) (ga rfl) (fun K hK=>?_) AllReadyH.nil)
        · go_simp
          refine hK.out _ _ ?Ve (fun hHeld=>?_)
          case Ve=>(first | (trivial) | (dsimp only;trivial))
          clear hK K
          try simp only [Act.put,la,lz,ls]
          refine tr 2 fun K hK=>?_;go_simp;refine hK.out _ _ ?Vj (fun hHeld=>?_)
          case Vj=>(first | (trivial) | (dsimp only;trivial))
          clear hK K
          try simp only [Act.put,la,lz,ls]
          refine tr 3 fun K hK=>?_;go_simp;refine hK.out _ _ ?Vm (fun hHeld=>?_)
          case Vm=>(first | (trivial) | (dsimp only;trivial))
          clear hK K
          try simp only [Act.put,la,lz,ls]
          refine wpAnyH_done (by kernel_rfl) ?_ _;have hN:=(((hX.drew.set 0 rfl 0 (.int .i64 y)).set 0 rfl 1 (.slice none 0 0)).set 1 rfl 0 (.int .i64 r)).set 1 rfl 1 (.slice none 0 0);have hcell:=(hN.get 1 rfl).cell (j:=0) rfl;go_wp2
          go_roundw
          case rel=>exact ⟨y,r,by omega,by omega,by omega,by omega,HS.out,hN⟩
          case measure=>exact wL hcell Hw (by omega)
        · go_simp
          refine hK.out _ _ ?Vk (fun hHeld=>?_)
          case Vk=>(first | (trivial) | (dsimp only;trivial))
          clear hK K
          try simp only [Act.put,la,lz,ls]
          refine tr 1 fun K hK=>?_;go_simp;refine hK.out _ _ ?Vf (fun hHeld=>?_)
          case Vf=>(first | (trivial) | (dsimp only;trivial))
          clear hK K
          try simp only [Act.put,la,lz,ls]
          refine tr 3 fun K hK=>?_;go_simp;refine hK.out _ _ ?Vo (fun hHeld=>?_)
          case Vo=>(first | (trivial) | (dsimp only;trivial))
          clear hK K
          try simp only [Act.put,la,lz,ls]
          refine wpAnyH_done (by kernel_rfl) ?_ _;have hN:=(((hX.drew.set 0 rfl 0 (.int .i64 y)).set 0 rfl 1 (.slice none 0 0)).set 1 rfl 0 (.int .i64 r)).set 1 rfl 1 (.slice none 0 0);have hcell:=(hN.get 1 rfl).cell (j:=0) rfl;go_wp2
          go_roundw
          case rel=>exact ⟨y,r,by omega,by omega,by omega,by omega,HS.out,hN⟩
          case measure=>exact wL hcell Hw (by omega)
      · go_simp
        refine hK.out _ _ ?Vg (fun hHeld=>?_)
        case Vg=>(first | (trivial) | (dsimp only;trivial))
        clear hK K
        try simp only [Act.put,la,lz,ls]
        refine tr 0 fun K hK=>?_;go_simp;refine hK.out _ _ ?Vd (fun hHeld=>?_)
        case Vd=>(first | (trivial) | (dsimp only;trivial))
        clear hK K
        try simp only [Act.put,la,lz,ls]
        refine tr 2 fun K hK=>?_;go_simp;refine hK.out _ _ ?Vl (fun hHeld=>?_)
        case Vl=>(first | (trivial) | (dsimp only;trivial))
        clear hK K
        try simp only [Act.put,la,lz,ls]
        refine tr 3 fun K hK=>?_;go_simp;refine hK.out _ _ ?Vp (fun hHeld=>?_)
        case Vp=>(first | (trivial) | (dsimp only;trivial))
        clear hK K
        try simp only [Act.put,la,lz,ls]
        refine wpAnyH_done (by kernel_rfl) ?_ _;have hN:=(((hX.drew.set 0 rfl 0 (.int .i64 y)).set 0 rfl 1 (.slice none 0 0)).set 1 rfl 0 (.int .i64 r)).set 1 rfl 1 (.slice none 0 0);have hcell:=(hN.get 1 rfl).cell (j:=0) rfl;go_wp2
        go_roundw
        case rel=>exact ⟨y,r,by omega,by omega,by omega,by omega,HS.out,hN⟩
        case measure=>exact wL hcell Hw (by omega)
theorem XQ {n d:Int} (hd:0<d):0<Nm.gcd n d∧Nm.gcd n d≤d:=by
 have h1:Nm.gcd n d ∣ d:=Int.gcd_dvd_right n d;have h2:0≤Nm.gcd n d:=Int.natCast_nonneg _
 have h3:Nm.gcd n d≠0:=fun e=>by rw [e] at h1;have:=Int.zero_dvd.1 h1;omega
 exact ⟨by omega,Int.le_of_dvd hd h1⟩
theorem Yp {n d:Int} (hd:0<d):Nm.make n d=if d=1 then ⟨n,d⟩ else ⟨n / Nm.gcd n d,d / Nm.gcd n d⟩:=by
 unfold Nm.make
 have h:¬ d<0:=by omega
 simp only [if_neg h]
theorem xR (n d:Int) (w:World) (h0: -9223372036854775807≤n) (h1:n≤9223372036854775807) (d0:0<d) (d1:d≤9223372036854775807):
 Calls Tryz.prog 173 #[pR n,pR d] w fun e w'=>e= .returned (iI (Nm.make n d))∧Below w.heap.size w w':=by
 have hn:=wX;rw [Yp d0]
 by_cases hd:d=1
 · subst hd
   rw [if_pos rfl]
   go_enter Tryz.func173,Tryz.ntmps173
   go_upto_region 0 with (fail)
   go_cut [2,3,4] (fun v2 v3 v4 wx=>v2=ptr w.heap.size∧v3=ptr (w.heap.size+1)∧v4=ptr (w.heap.size+2)∧aX w wx [(aK n,126),(aK 1,126),(aU ⟨0,0⟩,128)])
   case first=>
    go_wp2;go_meet;exact ⟨rfl,rfl,rfl,((((aX.nil w).new (by simp) (aK n) _).new (by simp) (aK 1) _).new (by simp) (aU ⟨0,0⟩) _)⟩
   case rest=>
    obtain ⟨rfl,rfl,rfl,hB⟩:=hcut;have xI:=(hB.ah rfl).cell (j:=0) rfl;have lJ:=(hB.ah rfl).frozen 0;have ka1:=(hB.ah rfl).cell (j:=1) rfl;have lK:=(hB.ah rfl).frozen 1;have Hw:=(hB.get 1 rfl).cell (j:=0) rfl;have xJ:=(hB.get 1 rfl).frozen 0;have Qa:=(hB.get 1 rfl).cell (j:=1) rfl;have yY:=(hB.get 1 rfl).frozen 1;have OO:=(hB.get 2 rfl).cell (j:=0) rfl;have Ed:=(hB.get 2 rfl).frozen 0;have Xe:=(hB.get 2 rfl).cell (j:=1) rfl;have Ee:=(hB.get 2 rfl).frozen 1;have kc2:=(hB.get 2 rfl).cell (j:=2) rfl;have aul:=(hB.get 2 rfl).frozen 2;have kc3:=(hB.get 2 rfl).cell (j:=3) rfl;have aus:=(hB.get 2 rfl).frozen 3
    go_wp2_with (first | (go_at_call 179;refine (x9 _ d0 _).mono ?_;rintro e w1 ⟨rfl,hb1⟩;have hC:=hB.call (by simp) hb1;have RP:=(hC.get 1 rfl).cell (j:=0) rfl;have MX:=(hC.get 1 rfl).frozen 0;have RQ:=(hC.get 1 rfl).cell (j:=1) rfl;have MZ:=(hC.get 1 rfl).frozen 1) | (refine aB 126 (.tmp 3) rfl ?_;refine ak (cs:=[.int .i64 1,.slice none 0 0]) (hC.get 1 rfl) Tryz.underlying126 rfl bJ rfl (.tmp 3) rfl rfl ?_) | (refine aB 126 (.tmp 3) rfl ?_;refine ak (hB.get 1 rfl) Tryz.underlying126 rfl bJ rfl (.tmp 3) rfl rfl ?_) | (refine aB 126 (.tmp 2) rfl ?_;refine ak (cs:=[.int .i64 n,.slice none 0 0]) (hC.ah rfl) Tryz.underlying126 rfl bJ rfl (.tmp 2) rfl rfl ?_) | (refine aO 128 (.tmp 4) (.tmp 23) rfl ?_;refine aF (hC.get 2 rfl) (aU ⟨n,1⟩) rfl dP (uG _) rfl (.tmp 4) (.tmp 23) rfl rfl rfl ?_))
    have hZ:=hC.put 2 rfl (aU ⟨n,1⟩) rfl;exact bodyPost_ret (bf (p:=4) (hZ.get 2 rfl) Tryz.underlying128 rfl dP rfl _ rfl) rfl ⟨rfl,hZ.bw⟩
 · rw [if_neg hd]
   have hd':(d == 1)=false:=by simp [hd]
   obtain ⟨g0,gd⟩:=XQ (n:=n) d0;have HP:=IG n (Nm.gcd n d);have HQ:=IG d (Nm.gcd n d);have HGc:=XO n d;obtain ⟨g,hg⟩:∃ g,Nm.gcd n d=g:=⟨_,rfl⟩;rw [hg] at g0 gd HP HQ HGc;rw [hg];obtain ⟨p,hp⟩:∃ p,n / g=p:=⟨_,rfl⟩;obtain ⟨q,hq⟩:∃ q,d / g=q:=⟨_,rfl⟩;rw [hp] at HP;rw [hq] at HQ;rw [hp,hq];clear hg hp hq
   have gM:g≤9223372036854775807:=by omega
   have HP:=hide HP;have HQ:=hide HQ;have HGc:=hide HGc
   go_enter Tryz.func173,Tryz.ntmps173
   go_upto_region 0 with (fail)
   go_cut [2,3,4] (fun v2 v3 v4 wx=>v2=ptr w.heap.size∧v3=ptr (w.heap.size+1)∧v4=ptr (w.heap.size+2)∧aX w wx [(aK n,126),(aK d,126),(aU ⟨0,0⟩,128)])
   case first=>
    go_wp2;go_meet;exact ⟨rfl,rfl,rfl,((((aX.nil w).new (by simp) (aK n) _).new (by simp) (aK d) _).new (by simp) (aU ⟨0,0⟩) _)⟩
   case rest=>
    obtain ⟨rfl,rfl,rfl,hB⟩:=hcut;have xI:=(hB.ah rfl).cell (j:=0) rfl;have lJ:=(hB.ah rfl).frozen 0;have ka1:=(hB.ah rfl).cell (j:=1) rfl;have lK:=(hB.ah rfl).frozen 1;have Hw:=(hB.get 1 rfl).cell (j:=0) rfl;have xJ:=(hB.get 1 rfl).frozen 0;have Qa:=(hB.get 1 rfl).cell (j:=1) rfl;have yY:=(hB.get 1 rfl).frozen 1;have OO:=(hB.get 2 rfl).cell (j:=0) rfl;have Ed:=(hB.get 2 rfl).frozen 0;have Xe:=(hB.get 2 rfl).cell (j:=1) rfl;have Ee:=(hB.get 2 rfl).frozen 1;have kc2:=(hB.get 2 rfl).cell (j:=2) rfl;have aul:=(hB.get 2 rfl).frozen 2;have kc3:=(hB.get 2 rfl).cell (j:=3) rfl;have aus:=(hB.get 2 rfl).frozen 3
    go_upto_region 6 with (first | (go_at_call 179;refine (x9 _ d0 _).mono ?_;rintro e w1 ⟨rfl,hb1⟩;have hC:=hB.call (by simp) hb1;have RP:=(hC.get 1 rfl).cell (j:=0) rfl;have MX:=(hC.get 1 rfl).frozen 0;have RQ:=(hC.get 1 rfl).cell (j:=1) rfl;have MZ:=(hC.get 1 rfl).frozen 1) | (go_at_call 205;refine (HGc.out _ h0 h1 (by omega) d1).mono ?_;rintro e w2 ⟨rfl,hb2⟩;have hD:=hC.call (by simp) hb2) | (refine aB 126 (.tmp 3) rfl ?_;refine ak (hC.get 1 rfl) Tryz.underlying126 rfl bJ rfl (.tmp 3) rfl rfl ?_) | (refine aB 126 (.tmp 3) rfl ?_;refine ak (hB.get 1 rfl) Tryz.underlying126 rfl bJ rfl (.tmp 3) rfl rfl ?_) | (refine aB 126 (.tmp 2) rfl ?_;refine ak (hC.ah rfl) Tryz.underlying126 rfl bJ rfl (.tmp 2) rfl rfl ?_))
    have hX:=hD.alloc (by simp) (.cells #[.int .i64 g,.slice none 0 0] 126);have hG:=Held.new w2 [.int .i64 g,.slice none 0 0] 126;have hsz:=hD.size (by simp)
    simp only [List.length_cons,List.length_nil] at hsz
    refine wp_region_held_drew (S:=(fun w':World=>Held w' w.heap.size (aK n) 126∧Held w' (w.heap.size+1) (aK d) 126∧Held w' w2.heap.size [.int .i64 g,.slice none 0 0] 126)) (by kernel_rfl) ?dL (fun hHeld=>?_)
    case dL=>exact ⟨hX.drew.ah rfl,hX.drew.get 1 rfl,hG.drew⟩
    refine wpAnyH_take (i:=0) (oi:=_) (v:=_) (ga rfl) (by kernel_rfl) (by kernel_rfl) (by kernel_rfl) (fun _ _ _ h=>h) (yieldsIf_load_mid (by rfl) _ _ (by rfl) _ _ (by rfl) _ _ (fun _ h=>h.1.range) Tryz.underlying126 rfl (by kernel_rfl)) (by assumption) ?_
    try simp only [Act.put,la,lz,ls]
    refine wpAnyH_take (i:=1) (oi:=_) (v:=_) (ga rfl) (by kernel_rfl) (by kernel_rfl) (by kernel_rfl) (fun _ _ _ h=>h) (yieldsIf_load_mid (by rfl) _ _ (by rfl) _ _ (by rfl) _ _ (fun _ h=>h.2.2.range) Tryz.underlying126 rfl (by kernel_rfl)) (by assumption) ?_
    try simp only [Act.put,la,lz,ls]
    refine wpAnyH_take (i:=3) (oi:=_) (v:=_) (ga rfl) (by kernel_rfl) (by kernel_rfl) (by kernel_rfl) (fun _ _ _ h=>h) (yieldsIf_load_mid (by rfl) _ _ (by rfl) _ _ (by rfl) _ _ (fun _ h=>h.2.1.range) Tryz.underlying126 rfl (by kernel_rfl)) (by assumption) ?_
    try simp only [Act.put,la,lz,ls]
    refine wpAnyH_take (i:=4) (oi:=_) (v:=_) (ga rfl) (by kernel_rfl) (by kernel_rfl) (by kernel_rfl) (fun _ _ _ h=>h) (yieldsIf_load_mid (by rfl) _ _ (by rfl) _ _ (by rfl) _ _ (fun _ h=>h.2.2.range) Tryz.underlying126 rfl (by kernel_rfl)) (by assumption) ?_
    try simp only [Act.put,la,lz,ls]
    refine tr 2 fun K hK=>?_;go_simp
    (go_at_call 214;refine (HP.out _ h0 h1 g0 gM).mono ?_;rintro e w3 ⟨rfl,hb3⟩)
    have hY:=hX.drew.call (by simp) hb3;have hG2:=hG.drew.below hb3;refine hK.out _ _ ?UU (fun hHeld=>?_)
    case UU=>(exact ⟨hY.ah rfl,hY.get 1 rfl,hG2⟩)
    clear hK K
    try simp only [Act.put,la,lz,ls]
    refine tr 5 fun K hK=>?_;go_simp
    (go_at_call 214;refine (HQ.out _ (by omega) d1 g0 gM).mono ?_;rintro e w4 ⟨rfl,hb4⟩)
    have hZ:=hY.call (by simp) hb4;have hG3:=hG2.below hb4
    have hlt:w.heap.size+2≠w2.heap.size:=by omega
    have CV:=(hZ.get 2 rfl).cell (j:=0) rfl;have qE:=(hZ.get 2 rfl).frozen 0;have CW:=(hZ.get 2 rfl).cell (j:=1) rfl;have qF:=(hZ.get 2 rfl).frozen 1;have DU:=(hZ.get 2 rfl).cell (j:=2) rfl;have qR:=(hZ.get 2 rfl).frozen 2;have DV:=(hZ.get 2 rfl).cell (j:=3) rfl;have qU:=(hZ.get 2 rfl).frozen 3;have hV:=((((hZ).set 2 rfl 0 (.int .i64 p)).set 2 rfl 1 (.slice none 0 0)).set 2 rfl 2 (.int .i64 q)).set 2 rfl 3 (.slice none 0 0);have hG4:=(((hG3.other (g':=w.heap.size+2) hlt.symm 0 (.int .i64 p)).other (g':=w.heap.size+2) hlt.symm 1 (.slice none 0 0)).other (g':=w.heap.size+2) hlt.symm 2 (.int .i64 q)).other (g':=w.heap.size+2) hlt.symm 3 (.slice none 0 0);refine hK.out _ _ ?U7 (fun hHeld=>?_)
    case U7=>(exact ⟨hZ.ah rfl,hZ.get 1 rfl,hG3⟩)
    clear hK K
    try simp only [Act.put,la,lz,ls]
    refine tk 6 ?_;refine tr 7 fun K hK=>?_;go_simp;refine hK.out _ _ ?amA (fun hHeld=>?_)
    case amA=>(exact ⟨hV.ah rfl,hV.get 1 rfl,hG4⟩)
    clear hK K
    try simp only [Act.put,la,lz,ls]
    refine wpAnyH_done (by kernel_rfl) ?_ _;go_wp2;exact bodyPost_ret (bf (p:=4) (hV.get 2 rfl) Tryz.underlying128 rfl dP rfl _ rfl) rfl ⟨rfl,hV.bw⟩
theorem tJ {a:Nm.Fr}:Nm.ok a=true↔(-1000000000≤a.n∧a.n≤1000000000)∧(1≤a.d∧a.d≤1000000000):=by
 unfold Nm.ok
 rw [decide_eq_true_eq,Nm.zy,Nm.zy]
 omega
theorem rH {a b:Int} (ha: -1000000000≤a∧a≤1000000000) (hb: -1000000000≤b∧b≤1000000000): -1000000000000000000≤a*b∧a*b≤1000000000000000000:=Nm.agv (Nm.zy.2 ha) (Nm.zy.2 hb)
theorem CY {a b:Int} (ha:1≤a) (hb:1≤b):1≤a*b:=by have:=Int.mul_pos (show 0<a by omega) (show 0<b by omega);omega
theorem zB (n:Int) (w:World):Calls Tryz.prog 123 #[pR n] w fun e w'=>e= .returned (iI ⟨n,1⟩)∧Below w.heap.size w w':=by
 go_enter Tryz.func123,Tryz.ntmps123
 go_upto_region 0 with (fail)
 go_cut [1,2] (fun v1 v2 wx=>v1=ptr w.heap.size∧v2=ptr (w.heap.size+1)∧aX w wx [(aK n,126),(aU ⟨0,0⟩,128)])
 case first=>
  go_wp2;go_meet;exact ⟨rfl,rfl,(((aX.nil w).new (by simp) (aK n) _).new (by simp) (aU ⟨0,0⟩) _)⟩
 case rest=>
  obtain ⟨rfl,rfl,hB⟩:=hcut;have xI:=(hB.ah rfl).cell (j:=0) rfl;have lJ:=(hB.ah rfl).frozen 0;have ka1:=(hB.ah rfl).cell (j:=1) rfl;have lK:=(hB.ah rfl).frozen 1;have hB0:=hB
  go_upto_region 1 with (fail)
  refine wp_region_held_drew (S:=(fun w':World=>w'.cell? ⟨w.heap.size,0,none⟩=some (.int .i64 n)∧w'.cell? ⟨w.heap.size,1,none⟩=some (.slice none 0 0))) (by kernel_rfl) ?dL (fun hHeld=>?_)
  case dL=>exact ⟨((hB0.drew).ah rfl).cell (j:=0) rfl,((hB0.drew).ah rfl).cell (j:=1) rfl⟩
  refine tk 0 ?_;refine tr 1 fun K hK=>?_;go_simp
  (go_at_call 124;refine (uN 1 _).mono ?_;rintro e w1 ⟨rfl,hb1⟩)
  have hB1:=hB0.drew.call (by simp) hb1;have CV:=(hB1.get 1 rfl).cell (j:=0) rfl;have qE:=(hB1.get 1 rfl).frozen 0;have CW:=(hB1.get 1 rfl).cell (j:=1) rfl;have qF:=(hB1.get 1 rfl).frozen 1;have DU:=(hB1.get 1 rfl).cell (j:=2) rfl;have qR:=(hB1.get 1 rfl).frozen 2;have DV:=(hB1.get 1 rfl).cell (j:=3) rfl;have qU:=(hB1.get 1 rfl).frozen 3;have hV:=((((hB1).set 1 rfl 0 (.int .i64 ((⟨n,1⟩:Nm.Fr)).n)).set 1 rfl 1 (.slice none 0 0)).set 1 rfl 2 (.int .i64 ((⟨n,1⟩:Nm.Fr)).d)).set 1 rfl 3 (.slice none 0 0);refine hK.out _ _ ?amj (fun hHeld=>?_)
  case amj=>(exact ⟨((hB1).ah rfl).cell (j:=0) rfl,((hB1).ah rfl).cell (j:=1) rfl⟩)
  clear hK K
  try simp only [Act.put,la,lz,ls]
  refine tk 2 ?_;refine tr 3 fun K hK=>?_;go_simp;refine hK.out _ _ ?J5 (fun hHeld=>?_)
  case J5=>(exact ⟨((hV).ah rfl).cell (j:=0) rfl,((hV).ah rfl).cell (j:=1) rfl⟩)
  clear hK K
  try simp only [Act.put,la,lz,ls]
  refine wpAnyH_done (by kernel_rfl) ?_ _;go_wp2;exact bodyPost_ret (bf (p:=2) (hV.get 1 rfl) Tryz.underlying128 rfl dP rfl _ rfl) rfl ⟨rfl,hV.bw⟩
theorem f_any (n:Int) (w:World):Calls Tryz.prog 58 #[.int .i64 n] w fun e w'=>e= .returned (iI ⟨n,1⟩)∧Below w.heap.size w w':=by
 go_enter Tryz.func58,Tryz.ntmps58
 go_upto_region 0 with (fail)
 go_cut [2] (fun v2 wx=>v2=ptr w.heap.size∧aX w wx [(aU ⟨0,0⟩,128)])
 case first=>
  go_wp2;go_meet;exact ⟨rfl,((aX.nil w).new (by simp) (aU ⟨0,0⟩) _)⟩
 case rest=>
  obtain ⟨rfl,hB⟩:=hcut
  go_wp2_with (first | (go_at_call 124;refine (uN n _).mono ?_;rintro e w1 ⟨rfl,hb1⟩;have hB1:=hB.call (by simp) hb1) | (go_at_call 123;refine (zB n _).mono ?_;rintro e w2 ⟨rfl,hb2⟩;have hB2:=hB1.call (by simp) hb2) | (refine aO 128 (.tmp 2) (.tmp 5) rfl ?_;refine aF (hB2.ah rfl) (aU ⟨n,1⟩) rfl dP (uG _) rfl (.tmp 2) (.tmp 5) rfl rfl rfl ?_))
  have hZ:=hB2.put 0 rfl (aU ⟨n,1⟩) rfl;exact bodyPost_ret (bf (p:=2) (hZ.ah rfl) Tryz.underlying128 rfl dP rfl _ rfl) rfl ⟨rfl,hZ.bw⟩
theorem PV (a:Nm.Fr) (w:World):Calls Tryz.prog 131 #[iI a] w fun e w'=>e= .returned (.int .i64 (Nm.Zp a.n))∧Below w.heap.size w w':=by
 obtain ⟨n,d⟩:=a
 go_enter Tryz.func131,Tryz.ntmps131
 go_upto_region 0 with (fail)
 go_cut [1] (fun v1 wx=>v1=ptr w.heap.size∧aX w wx [(aU ⟨n,d⟩,128)])
 case first=>
  go_wp2;go_meet;exact ⟨rfl,((aX.nil w).new (by simp) (aU ⟨n,d⟩) _)⟩
 case rest=>
  obtain ⟨rfl,hB⟩:=hcut;have xI:=(hB.ah rfl).cell (j:=0) rfl;have lJ:=(hB.ah rfl).frozen 0;have ka1:=(hB.ah rfl).cell (j:=1) rfl;have lK:=(hB.ah rfl).frozen 1;have RI:=(hB.ah rfl).cell (j:=2) rfl;have AA:=(hB.ah rfl).frozen 2;have RN:=(hB.ah rfl).cell (j:=3) rfl;have AB:=(hB.ah rfl).frozen 3
  go_wp2_with (first | (go_at_call 179;refine (DJ n _).mono ?_;rintro e w1 ⟨rfl,hb1⟩;have hB1:=hB.call (by simp) hb1))
  go_ret;exact ⟨rfl,hB1.bw⟩
theorem TG (a:Nm.Fr) (w:World) (h0: -9223372036854775807≤a.n) (h1:a.n≤9223372036854775807):Calls Tryz.prog 127 #[iI a] w fun e w'=>e= .returned (iI (Nm.neg a))∧Below w.heap.size w w':=by
 obtain ⟨n,d⟩:=a;have HN:=OW n;obtain ⟨m,hm⟩:∃ m, -n=m:=⟨_,rfl⟩;rw [hm] at HN;rw [show Nm.neg ⟨n,d⟩=⟨m,d⟩ by unfold Nm.neg;rw [hm]];clear hm;have HN:=hide HN
 go_enter Tryz.func127,Tryz.ntmps127
 go_upto_region 0 with (fail)
 go_cut [1,2] (fun v1 v2 wx=>v1=ptr w.heap.size∧v2=ptr (w.heap.size+1)∧aX w wx [(aU ⟨n,d⟩,128),(aU ⟨0,0⟩,128)])
 case first=>
  go_wp2;go_meet;exact ⟨rfl,rfl,(((aX.nil w).new (by simp) (aU ⟨n,d⟩) _).new (by simp) (aU ⟨0,0⟩) _)⟩
 case rest=>
  obtain ⟨rfl,rfl,hB⟩:=hcut;have xI:=(hB.ah rfl).cell (j:=0) rfl;have lJ:=(hB.ah rfl).frozen 0;have ka1:=(hB.ah rfl).cell (j:=1) rfl;have lK:=(hB.ah rfl).frozen 1;have RI:=(hB.ah rfl).cell (j:=2) rfl;have AA:=(hB.ah rfl).frozen 2;have RN:=(hB.ah rfl).cell (j:=3) rfl;have AB:=(hB.ah rfl).frozen 3;have hB0:=hB
  go_upto_region 1 with (fail)
  refine wp_region_held_drew (S:=(fun w':World=>w'.cell? ⟨w.heap.size,0,none⟩=some (.int .i64 ((⟨n,d⟩:Nm.Fr)).n)∧w'.cell? ⟨w.heap.size,1,none⟩=some (.slice none 0 0)∧w'.cell? ⟨w.heap.size,2,none⟩=some (.int .i64 ((⟨n,d⟩:Nm.Fr)).d)∧w'.cell? ⟨w.heap.size,3,none⟩=some (.slice none 0 0))) (by kernel_rfl) ?dY (fun hHeld=>?_)
  case dY=>exact ⟨((hB0.drew).ah rfl).cell (j:=0) rfl,((hB0.drew).ah rfl).cell (j:=1) rfl,((hB0.drew).ah rfl).cell (j:=2) rfl,((hB0.drew).ah rfl).cell (j:=3) rfl⟩
  refine tk 0 ?_;refine tk 1 ?_;refine tk 3 ?_;refine tk 4 ?_;refine tr 2 fun K hK=>?_;go_simp
  (go_at_call 175;refine (HN.out _ h0 h1).mono ?_;rintro e w1 ⟨rfl,hb1⟩)
  have hB1:=hB0.drew.call (by simp) hb1;have CV:=(hB1.get 1 rfl).cell (j:=0) rfl;have qE:=(hB1.get 1 rfl).frozen 0;have CW:=(hB1.get 1 rfl).cell (j:=1) rfl;have qF:=(hB1.get 1 rfl).frozen 1;have DU:=(hB1.get 1 rfl).cell (j:=2) rfl;have qR:=(hB1.get 1 rfl).frozen 2;have DV:=(hB1.get 1 rfl).cell (j:=3) rfl;have qU:=(hB1.get 1 rfl).frozen 3;have hV:=((((hB1).set 1 rfl 0 (.int .i64 ((⟨m,d⟩:Nm.Fr)).n)).set 1 rfl 1 (.slice none 0 0)).set 1 rfl 2 (.int .i64 ((⟨m,d⟩:Nm.Fr)).d)).set 1 rfl 3 (.slice none 0 0);refine hK.out _ _ ?Vh (fun hHeld=>?_)
  case Vh=>(exact ⟨((hB1).ah rfl).cell (j:=0) rfl,((hB1).ah rfl).cell (j:=1) rfl,((hB1).ah rfl).cell (j:=2) rfl,((hB1).ah rfl).cell (j:=3) rfl⟩)
  clear hK K
  try simp only [Act.put,la,lz,ls]
  refine tk 5 ?_;refine tr 6 fun K hK=>?_;go_simp;refine hK.out _ _ ?Vr (fun hHeld=>?_)
  case Vr=>(exact ⟨((hV).ah rfl).cell (j:=0) rfl,((hV).ah rfl).cell (j:=1) rfl,((hV).ah rfl).cell (j:=2) rfl,((hV).ah rfl).cell (j:=3) rfl⟩)
  clear hK K
  try simp only [Act.put,la,lz,ls]
  refine wpAnyH_done (by kernel_rfl) ?_ _;go_wp2;exact bodyPost_ret (bf (p:=2) (hV.get 1 rfl) Tryz.underlying128 rfl dP rfl _ rfl) rfl ⟨rfl,hV.bw⟩
theorem TF (a:Nm.Fr) (w:World) (ha:Nm.ok a=true) (hp:0<a.n):Calls Tryz.prog 126 #[iI a] w fun e w'=>e= .returned (iI (Nm.inv a))∧Below w.heap.size w w':=by
 obtain ⟨⟨a0,a1⟩,a2,a3⟩:=tJ.1 ha;obtain ⟨n,d⟩:=a
 dsimp only at a0 a1 a2 a3 hp
 have HK:=xR d n;rw [show Nm.inv ⟨n,d⟩=Nm.make d n from rfl];obtain ⟨r,hr⟩:∃ r,Nm.make d n=r:=⟨_,rfl⟩;rw [hr] at HK;rw [hr];clear hr;have HK:=hide HK
 go_enter Tryz.func126,Tryz.ntmps126
 go_upto_region 0 with (fail)
 go_cut [1,2] (fun v1 v2 wx=>v1=ptr w.heap.size∧v2=ptr (w.heap.size+1)∧aX w wx [(aU ⟨n,d⟩,128),(aU ⟨0,0⟩,128)])
 case first=>
  go_wp2;go_meet;exact ⟨rfl,rfl,(((aX.nil w).new (by simp) (aU ⟨n,d⟩) _).new (by simp) (aU ⟨0,0⟩) _)⟩
 case rest=>
  obtain ⟨rfl,rfl,hB⟩:=hcut;have xI:=(hB.ah rfl).cell (j:=0) rfl;have lJ:=(hB.ah rfl).frozen 0;have ka1:=(hB.ah rfl).cell (j:=1) rfl;have lK:=(hB.ah rfl).frozen 1;have RI:=(hB.ah rfl).cell (j:=2) rfl;have AA:=(hB.ah rfl).frozen 2;have RN:=(hB.ah rfl).cell (j:=3) rfl;have AB:=(hB.ah rfl).frozen 3
  go_wp2_with (first | (go_at_call 173;refine (HK.out _ (by omega) (by omega) hp (by omega)).mono ?_;rintro e w1 ⟨rfl,hb1⟩;have hB1:=hB.call (by simp) hb1) | (refine aO 128 (.tmp 2) (.tmp 7) rfl ?_;refine aF (hB1.get 1 rfl) (aU r) rfl dP (uG _) rfl (.tmp 2) (.tmp 7) rfl rfl rfl ?_))
  have hZ:=hB1.put 1 rfl (aU r) rfl;exact bodyPost_ret (bf (p:=2) (hZ.get 1 rfl) Tryz.underlying128 rfl dP rfl _ rfl) rfl ⟨rfl,hZ.bw⟩
theorem Cc (a b:Nm.Fr) (w:World) (ha:Nm.ok a=true) (hb:Nm.ok b=true):Calls Tryz.prog 125 #[iI a,iI b] w fun e w'=>e= .returned (iI (Nm.mul a b))∧Below w.heap.size w w':=by
 obtain ⟨⟨a0,a1⟩,a2,a3⟩:=tJ.1 ha;obtain ⟨⟨b0,b1⟩,b2,b3⟩:=tJ.1 hb;obtain ⟨an,ad⟩:=a;obtain ⟨bn,bd⟩:=b
 dsimp only at a0 a1 a2 a3 b0 b1 b2 b3
 have P0:=rH ⟨a0,a1⟩ ⟨b0,b1⟩;have Q0:=rH (a:=ad) (b:=bd) ⟨by omega,by omega⟩ ⟨by omega,by omega⟩;have Q1:=CY a2 b2;have HM:=kP an bn;have HN:=kP ad bd;have HK:=xR (an*bn) (ad*bd);rw [show Nm.mul ⟨an,ad⟩ ⟨bn,bd⟩=Nm.make (an*bn) (ad*bd) from rfl];obtain ⟨p,hp⟩:∃ p,an*bn=p:=⟨_,rfl⟩
 simp only [hp] at HM HK P0 ⊢
 clear hp;obtain ⟨q,hq⟩:∃ q,ad*bd=q:=⟨_,rfl⟩
 simp only [hq] at HN HK Q0 Q1 ⊢
 clear hq;obtain ⟨r,hr⟩:∃ r,Nm.make p q=r:=⟨_,rfl⟩
 simp only [hr] at HK ⊢
 clear hr;have HM:=hide HM;have HN:=hide HN;have HK:=hide HK
 go_enter Tryz.func125,Tryz.ntmps125
 go_upto_region 0 with (fail)
 go_cut [2,3,4] (fun v2 v3 v4 wx=>v2=ptr w.heap.size∧v3=ptr (w.heap.size+1)∧v4=ptr (w.heap.size+2)∧aX w wx [(aU ⟨an,ad⟩,128),(aU ⟨bn,bd⟩,128),(aU ⟨0,0⟩,128)])
 case first=>
  go_wp2;go_meet;exact ⟨rfl,rfl,rfl,((((aX.nil w).new (by simp) (aU ⟨an,ad⟩) _).new (by simp) (aU ⟨bn,bd⟩) _).new (by simp) (aU ⟨0,0⟩) _)⟩
 case rest=>
  obtain ⟨rfl,rfl,rfl,hB⟩:=hcut;have xI:=(hB.ah rfl).cell (j:=0) rfl;have lJ:=(hB.ah rfl).frozen 0;have ka1:=(hB.ah rfl).cell (j:=1) rfl;have lK:=(hB.ah rfl).frozen 1;have RI:=(hB.ah rfl).cell (j:=2) rfl;have AA:=(hB.ah rfl).frozen 2;have RN:=(hB.ah rfl).cell (j:=3) rfl;have AB:=(hB.ah rfl).frozen 3;have Hw:=(hB.get 1 rfl).cell (j:=0) rfl;have xJ:=(hB.get 1 rfl).frozen 0;have Qa:=(hB.get 1 rfl).cell (j:=1) rfl;have yY:=(hB.get 1 rfl).frozen 1;have kb2:=(hB.get 1 rfl).cell (j:=2) rfl;have aa6:=(hB.get 1 rfl).frozen 2;have kb3:=(hB.get 1 rfl).cell (j:=3) rfl;have abf:=(hB.get 1 rfl).frozen 3;have hB0:=hB
  go_upto_region 1 with (fail)
  refine wp_region_held_drew (S:=(fun w':World=>w'.cell? ⟨w.heap.size,0,none⟩=some (.int .i64 ((⟨an,ad⟩:Nm.Fr)).n)∧w'.cell? ⟨w.heap.size,1,none⟩=some (.slice none 0 0)∧w'.cell? ⟨w.heap.size,2,none⟩=some (.int .i64 ((⟨an,ad⟩:Nm.Fr)).d)∧w'.cell? ⟨w.heap.size,3,none⟩=some (.slice none 0 0)∧w'.cell? ⟨w.heap.size+1,0,none⟩=some (.int .i64 ((⟨bn,bd⟩:Nm.Fr)).n)∧w'.cell? ⟨w.heap.size+1,1,none⟩=some (.slice none 0 0)∧w'.cell? ⟨w.heap.size+1,2,none⟩=some (.int .i64 ((⟨bn,bd⟩:Nm.Fr)).d)∧w'.cell? ⟨w.heap.size+1,3,none⟩=some (.slice none 0 0))) (by kernel_rfl) ?jm (fun hHeld=>?_)
  case jm=>exact ⟨((hB0.drew).ah rfl).cell (j:=0) rfl,((hB0.drew).ah rfl).cell (j:=1) rfl,((hB0.drew).ah rfl).cell (j:=2) rfl,((hB0.drew).ah rfl).cell (j:=3) rfl,((hB0.drew).get 1 rfl).cell (j:=0) rfl,((hB0.drew).get 1 rfl).cell (j:=1) rfl,((hB0.drew).get 1 rfl).cell (j:=2) rfl,((hB0.drew).get 1 rfl).cell (j:=3) rfl⟩
  refine tk 0 ?_;refine tk 1 ?_;refine tk 2 ?_;refine tk 3 ?_;refine tk 5 ?_;refine tk 6 ?_;refine tk 7 ?_;refine tk 8 ?_;refine tr 4 fun K hK=>?_;go_simp
  (go_at_call 174;refine (HM.out _ (by omega) (by omega) (by omega) (by omega) (by omega) (by omega)).mono ?_;rintro e w1 ⟨rfl,hb1⟩)
  have hB1:=hB0.drew.call (by simp) hb1;refine hK.out _ _ ?J6 (fun hHeld=>?_)
  case J6=>(exact ⟨((hB1).ah rfl).cell (j:=0) rfl,((hB1).ah rfl).cell (j:=1) rfl,((hB1).ah rfl).cell (j:=2) rfl,((hB1).ah rfl).cell (j:=3) rfl,((hB1).get 1 rfl).cell (j:=0) rfl,((hB1).get 1 rfl).cell (j:=1) rfl,((hB1).get 1 rfl).cell (j:=2) rfl,((hB1).get 1 rfl).cell (j:=3) rfl⟩)
  clear hK K
  try simp only [Act.put,la,lz,ls]
  refine tr 9 fun K hK=>?_;go_simp
  (go_at_call 174;refine (HN.out _ (by omega) (by omega) (by omega) (by omega) (by omega) (by omega)).mono ?_;rintro e w2 ⟨rfl,hb2⟩)
  have hB2:=hB1.call (by simp) hb2;refine hK.out _ _ ?Vs (fun hHeld=>?_)
  case Vs=>(exact ⟨((hB2).ah rfl).cell (j:=0) rfl,((hB2).ah rfl).cell (j:=1) rfl,((hB2).ah rfl).cell (j:=2) rfl,((hB2).ah rfl).cell (j:=3) rfl,((hB2).get 1 rfl).cell (j:=0) rfl,((hB2).get 1 rfl).cell (j:=1) rfl,((hB2).get 1 rfl).cell (j:=2) rfl,((hB2).get 1 rfl).cell (j:=3) rfl⟩)
  clear hK K
  try simp only [Act.put,la,lz,ls]
  refine tr 10 fun K hK=>?_;go_simp
  (go_at_call 173;refine (HK.out _ (by omega) (by omega) (by omega) (by omega)).mono ?_;rintro e w3 ⟨rfl,hb3⟩)
  have hB3:=hB2.call (by simp) hb3;have CV:=(hB3.get 2 rfl).cell (j:=0) rfl;have qE:=(hB3.get 2 rfl).frozen 0;have CW:=(hB3.get 2 rfl).cell (j:=1) rfl;have qF:=(hB3.get 2 rfl).frozen 1;have DU:=(hB3.get 2 rfl).cell (j:=2) rfl;have qR:=(hB3.get 2 rfl).frozen 2;have DV:=(hB3.get 2 rfl).cell (j:=3) rfl;have qU:=(hB3.get 2 rfl).frozen 3;have hV:=((((hB3).set 2 rfl 0 (.int .i64 (r).n)).set 2 rfl 1 (.slice none 0 0)).set 2 rfl 2 (.int .i64 (r).d)).set 2 rfl 3 (.slice none 0 0);refine hK.out _ _ ?Dv (fun hHeld=>?_)
  case Dv=>(exact ⟨((hB3).ah rfl).cell (j:=0) rfl,((hB3).ah rfl).cell (j:=1) rfl,((hB3).ah rfl).cell (j:=2) rfl,((hB3).ah rfl).cell (j:=3) rfl,((hB3).get 1 rfl).cell (j:=0) rfl,((hB3).get 1 rfl).cell (j:=1) rfl,((hB3).get 1 rfl).cell (j:=2) rfl,((hB3).get 1 rfl).cell (j:=3) rfl⟩)
  clear hK K
  try simp only [Act.put,la,lz,ls]
  refine tr 11 fun K hK=>?_;go_simp;refine hK.out _ _ ?NU (fun hHeld=>?_)
  case NU=>(exact ⟨((hV).ah rfl).cell (j:=0) rfl,((hV).ah rfl).cell (j:=1) rfl,((hV).ah rfl).cell (j:=2) rfl,((hV).ah rfl).cell (j:=3) rfl,((hV).get 1 rfl).cell (j:=0) rfl,((hV).get 1 rfl).cell (j:=1) rfl,((hV).get 1 rfl).cell (j:=2) rfl,((hV).get 1 rfl).cell (j:=3) rfl⟩)
  clear hK K
  try simp only [Act.put,la,lz,ls]
  refine wpAnyH_done (by kernel_rfl) ?_ _;go_wp2;exact bodyPost_ret (bf (p:=4) (hV.get 2 rfl) Tryz.underlying128 rfl dP rfl _ rfl) rfl ⟨rfl,hV.bw⟩
theorem rF (n:Int) (w:World):Calls Tryz.prog 171 #[iI ⟨n,1⟩] w fun e w'=>e= .returned (.bool true)∧Below w.heap.size w w':=zN ⟨n,1⟩ w
theorem uH (n d:Int) (hd:d≠1) (w:World):Calls Tryz.prog 171 #[iI ⟨n,d⟩] w fun e w'=>e= .returned (.bool false)∧Below w.heap.size w w':=by
 have:=zN ⟨n,d⟩ w
 rwa [show decide ((⟨n,d⟩:Nm.Fr).d=1)=false by simp [hd]] at this
theorem BU (a b:Nm.Fr) (w:World) (ha:Nm.ok a=true) (hb:Nm.ok b=true):Calls Tryz.prog 122 #[iI a,iI b] w fun e w'=>e= .returned (iI (Nm.add a b))∧Below w.heap.size w w':=by
 obtain ⟨⟨a0,a1⟩,a2,a3⟩:=tJ.1 ha;obtain ⟨⟨b0,b1⟩,b2,b3⟩:=tJ.1 hb;obtain ⟨an,ad⟩:=a;obtain ⟨bn,bd⟩:=b
 dsimp only at a0 a1 a2 a3 b0 b1 b2 b3
 by_cases had:ad=1
 · subst had
   by_cases hbd:bd=1
   · subst hbd
     have HA:=xH an bn;rw [show Nm.add ⟨an,1⟩ ⟨bn,1⟩=⟨an+bn,1⟩ from rfl];obtain ⟨s,hs⟩:∃ s,an+bn=s:=⟨_,rfl⟩
     have s0: -2000000000≤s∧s≤2000000000:=by omega
     rw [hs] at HA;rw [hs];clear hs;have HA:=hide HA
     go_enter Tryz.func122,Tryz.ntmps122
     go_upto_region 0 with (fail)
     go_cut [2,3,4] (fun v2 v3 v4 wx=>v2=ptr w.heap.size∧v3=ptr (w.heap.size+1)∧v4=ptr (w.heap.size+2)∧aX w wx [(aU ⟨an,1⟩,128),(aU ⟨bn,1⟩,128),(aU ⟨0,0⟩,128)])
     case first=>
      go_wp2;go_meet;exact ⟨rfl,rfl,rfl,((((aX.nil w).new (by simp) (aU ⟨an,1⟩) _).new (by simp) (aU ⟨bn,1⟩) _).new (by simp) (aU ⟨0,0⟩) _)⟩
     case rest=>
      obtain ⟨rfl,rfl,rfl,hB⟩:=hcut;have xI:=(hB.ah rfl).cell (j:=0) rfl;have lJ:=(hB.ah rfl).frozen 0;have ka1:=(hB.ah rfl).cell (j:=1) rfl;have lK:=(hB.ah rfl).frozen 1;have RI:=(hB.ah rfl).cell (j:=2) rfl;have AA:=(hB.ah rfl).frozen 2;have RN:=(hB.ah rfl).cell (j:=3) rfl;have AB:=(hB.ah rfl).frozen 3;have Hw:=(hB.get 1 rfl).cell (j:=0) rfl;have xJ:=(hB.get 1 rfl).frozen 0;have Qa:=(hB.get 1 rfl).cell (j:=1) rfl;have yY:=(hB.get 1 rfl).frozen 1;have kb2:=(hB.get 1 rfl).cell (j:=2) rfl;have aa6:=(hB.get 1 rfl).frozen 2;have kb3:=(hB.get 1 rfl).cell (j:=3) rfl;have abf:=(hB.get 1 rfl).frozen 3;have tok:=hide True.intro
      go_upto_region 2 with (first | (clear tok;go_at_call 171;refine (rF an _).mono ?_;rintro e Xg ⟨rfl,oD⟩;have hC:=hB.call (by simp) oD;have kw0:=(hC.get 1 rfl).cell (j:=0) rfl;have awn:=(hC.get 1 rfl).frozen 0;have kw1:=(hC.get 1 rfl).cell (j:=1) rfl;have awv:=(hC.get 1 rfl).frozen 1;have kw2:=(hC.get 1 rfl).cell (j:=2) rfl;have awE:=(hC.get 1 rfl).frozen 2;have kw3:=(hC.get 1 rfl).cell (j:=3) rfl;have awL:=(hC.get 1 rfl).frozen 3) | (go_at_call 171;refine (rF bn _).mono ?_;rintro e w12 ⟨rfl,oh⟩;have hD:=hC.call (by simp) oh) | (refine aB 128 (.tmp 2) rfl ?_;refine ak (hB.ah rfl) Tryz.underlying128 rfl dP rfl (.tmp 2) rfl rfl ?_))
      have RP:=(hD.ah rfl).cell (j:=0) rfl;have MX:=(hD.ah rfl).frozen 0;have RQ:=(hD.ah rfl).cell (j:=1) rfl;have MZ:=(hD.ah rfl).frozen 1;have ky0:=(hD.get 1 rfl).cell (j:=0) rfl;have awS:=(hD.get 1 rfl).frozen 0;have ky1:=(hD.get 1 rfl).cell (j:=1) rfl;have awZ:=(hD.get 1 rfl).frozen 1
      go_wp2_with (first | (go_at_call 172;refine (HA.out _ (by omega) (by omega) (by omega) (by omega) (by omega) (by omega)).mono ?_;rintro e w1 ⟨rfl,hb1⟩;have hE:=hD.call (by simp) hb1) | (go_at_call 123;refine (zB s _).mono ?_;rintro e w2 ⟨rfl,hb2⟩;have hE2:=hE.call (by simp) hb2) | (refine aO 128 (.tmp 4) (.tmp 16) rfl ?_;refine aF (hE2.get 2 rfl) (aU ⟨s,1⟩) rfl dP (uG _) rfl (.tmp 4) (.tmp 16) rfl rfl rfl ?_))
      have hZ:=hE2.put 2 rfl (aU ⟨s,1⟩) rfl;exact bodyPost_ret (bf (p:=4) (hZ.get 2 rfl) Tryz.underlying128 rfl dP rfl _ rfl) rfl ⟨rfl,hZ.bw⟩
   · obtain ⟨d1,hd1⟩:∃ d:Int,d=1:=⟨_,rfl⟩
     rw [show Nm.add ⟨an,1⟩ ⟨bn,bd⟩=Nm.make (an*bd+bn*1) (1*bd) by unfold Nm.add;rw [if_neg (fun h=>hbd h.2)]]
     have a4:1≤d1:=by omega
     have a5:d1≤1000000000:=by omega
     have HW:=rF an;clear ha a2 a3;rw [← hd1] at HW ⊢;clear hd1;have a2:=a4;have a3:=a5;have P0:=rH (a:=an) (b:=bd) ⟨by omega,by omega⟩ ⟨by omega,by omega⟩;have U0:=rH (a:=bn) (b:=d1) ⟨by omega,by omega⟩ ⟨by omega,by omega⟩;have Q0:=rH (a:=d1) (b:=bd) ⟨by omega,by omega⟩ ⟨by omega,by omega⟩;have Q1:=CY a2 b2;have HM:=kP an bd;have HU:=kP bn d1;have HN:=kP d1 bd;have HA:=xH (an*bd) (bn*d1);have HK:=xR (an*bd+bn*d1) (d1*bd);obtain ⟨p,hp⟩:∃ p,an*bd=p:=⟨_,rfl⟩
     simp only [hp] at HM HA HK P0 ⊢
     clear hp;obtain ⟨u,hu⟩:∃ u,bn*d1=u:=⟨_,rfl⟩
     simp only [hu] at HU HA HK U0 ⊢
     clear hu;obtain ⟨q,hq⟩:∃ q,d1*bd=q:=⟨_,rfl⟩
     simp only [hq] at HN HK Q0 Q1 ⊢
     clear hq
     have S0: -2000000000000000000≤p+u∧p+u≤2000000000000000000:=by omega
     obtain ⟨s,hs⟩:∃ s,p+u=s:=⟨_,rfl⟩
     simp only [hs] at HA HK S0 ⊢
     clear hs;obtain ⟨r,hr⟩:∃ r,Nm.make s q=r:=⟨_,rfl⟩
     simp only [hr] at HK ⊢
     clear hr;have HM:=hide HM;have HU:=hide HU;have HN:=hide HN;have HA:=hide HA;have HK:=hide HK;have HW:=hide HW
     go_enter Tryz.func122,Tryz.ntmps122
     go_upto_region 0 with (fail)
     go_cut [2,3,4] (fun v2 v3 v4 wx=>v2=ptr w.heap.size∧v3=ptr (w.heap.size+1)∧v4=ptr (w.heap.size+2)∧aX w wx [(aU ⟨an,d1⟩,128),(aU ⟨bn,bd⟩,128),(aU ⟨0,0⟩,128)])
     case first=>
      go_wp2;go_meet;exact ⟨rfl,rfl,rfl,((((aX.nil w).new (by simp) (aU ⟨an,d1⟩) _).new (by simp) (aU ⟨bn,bd⟩) _).new (by simp) (aU ⟨0,0⟩) _)⟩
     case rest=>
      obtain ⟨rfl,rfl,rfl,hB⟩:=hcut;have tok:=hide True.intro
      go_upto_region 3 with (first | (clear tok;go_at_call 171;refine (HW.out _).mono ?_;rintro e Xg ⟨rfl,oD⟩;have hC:=hB.call (by simp) oD;have kw0:=(hC.get 1 rfl).cell (j:=0) rfl;have awn:=(hC.get 1 rfl).frozen 0;have kw1:=(hC.get 1 rfl).cell (j:=1) rfl;have awv:=(hC.get 1 rfl).frozen 1;have kw2:=(hC.get 1 rfl).cell (j:=2) rfl;have awE:=(hC.get 1 rfl).frozen 2;have kw3:=(hC.get 1 rfl).cell (j:=3) rfl;have awL:=(hC.get 1 rfl).frozen 3) | (go_at_call 171;refine (uH bn bd hbd _).mono ?_;rintro e w12 ⟨rfl,oh⟩;have hB0:=hC.call (by simp) oh) | (refine aB 128 (.tmp 2) rfl ?_;refine ak (hB.ah rfl) Tryz.underlying128 rfl dP rfl (.tmp 2) rfl rfl ?_))
      refine wp_region_held_drew (S:=(fun w':World=>w'.cell? ⟨w.heap.size,0,none⟩=some (.int .i64 ((⟨an,d1⟩:Nm.Fr)).n)∧w'.cell? ⟨w.heap.size,1,none⟩=some (.slice none 0 0)∧w'.cell? ⟨w.heap.size,2,none⟩=some (.int .i64 ((⟨an,d1⟩:Nm.Fr)).d)∧w'.cell? ⟨w.heap.size,3,none⟩=some (.slice none 0 0)∧w'.cell? ⟨w.heap.size+1,0,none⟩=some (.int .i64 ((⟨bn,bd⟩:Nm.Fr)).n)∧w'.cell? ⟨w.heap.size+1,1,none⟩=some (.slice none 0 0)∧w'.cell? ⟨w.heap.size+1,2,none⟩=some (.int .i64 ((⟨bn,bd⟩:Nm.Fr)).d)∧w'.cell? ⟨w.heap.size+1,3,none⟩=some (.slice none 0 0))) (by kernel_rfl) ?jo (fun hHeld=>?_)
      case jo=>exact ⟨((hB0.drew).ah rfl).cell (j:=0) rfl,((hB0.drew).ah rfl).cell (j:=1) rfl,((hB0.drew).ah rfl).cell (j:=2) rfl,((hB0.drew).ah rfl).cell (j:=3) rfl,((hB0.drew).get 1 rfl).cell (j:=0) rfl,((hB0.drew).get 1 rfl).cell (j:=1) rfl,((hB0.drew).get 1 rfl).cell (j:=2) rfl,((hB0.drew).get 1 rfl).cell (j:=3) rfl⟩
      refine tk 0 ?_;refine tk 1 ?_;refine tk 2 ?_;refine tk 3 ?_;refine tk 5 ?_;refine tk 6 ?_;refine tk 7 ?_;refine tk 8 ?_;refine tk 11 ?_;refine tk 12 ?_;refine tk 13 ?_;refine tk 14 ?_;refine tr 4 fun K hK=>?_;go_simp
      (go_at_call 174;refine (HM.out _ (by omega) (by omega) (by omega) (by omega) (by omega) (by omega)).mono ?_;rintro e w1 ⟨rfl,hb1⟩)
      have hB1:=hB0.drew.call (by simp) hb1;refine hK.out _ _ ?Vu (fun hHeld=>?_)
      case Vu=>(exact ⟨((hB1).ah rfl).cell (j:=0) rfl,((hB1).ah rfl).cell (j:=1) rfl,((hB1).ah rfl).cell (j:=2) rfl,((hB1).ah rfl).cell (j:=3) rfl,((hB1).get 1 rfl).cell (j:=0) rfl,((hB1).get 1 rfl).cell (j:=1) rfl,((hB1).get 1 rfl).cell (j:=2) rfl,((hB1).get 1 rfl).cell (j:=3) rfl⟩)
      clear hK K
      try simp only [Act.put,la,lz,ls]
      refine tr 9 fun K hK=>?_;go_simp
      (go_at_call 174;refine (HU.out _ (by omega) (by omega) (by omega) (by omega) (by omega) (by omega)).mono ?_;rintro e w2 ⟨rfl,hb2⟩)
      have hB2:=hB1.call (by simp) hb2;refine hK.out _ _ ?anT (fun hHeld=>?_)
      case anT=>(exact ⟨((hB2).ah rfl).cell (j:=0) rfl,((hB2).ah rfl).cell (j:=1) rfl,((hB2).ah rfl).cell (j:=2) rfl,((hB2).ah rfl).cell (j:=3) rfl,((hB2).get 1 rfl).cell (j:=0) rfl,((hB2).get 1 rfl).cell (j:=1) rfl,((hB2).get 1 rfl).cell (j:=2) rfl,((hB2).get 1 rfl).cell (j:=3) rfl⟩)
      clear hK K
      try simp only [Act.put,la,lz,ls]
      refine tr 10 fun K hK=>?_;go_simp
      (go_at_call 172;refine (HA.out _ (by omega) (by omega) (by omega) (by omega) (by omega) (by omega)).mono ?_;rintro e w3 ⟨rfl,hb3⟩)
      have hB3:=hB2.call (by simp) hb3;refine hK.out _ _ ?NV (fun hHeld=>?_)
      case NV=>(exact ⟨((hB3).ah rfl).cell (j:=0) rfl,((hB3).ah rfl).cell (j:=1) rfl,((hB3).ah rfl).cell (j:=2) rfl,((hB3).ah rfl).cell (j:=3) rfl,((hB3).get 1 rfl).cell (j:=0) rfl,((hB3).get 1 rfl).cell (j:=1) rfl,((hB3).get 1 rfl).cell (j:=2) rfl,((hB3).get 1 rfl).cell (j:=3) rfl⟩)
      clear hK K
      try simp only [Act.put,la,lz,ls]
      refine tr 15 fun K hK=>?_;go_simp
      (go_at_call 174;refine (HN.out _ (by omega) (by omega) (by omega) (by omega) (by omega) (by omega)).mono ?_;rintro e w4 ⟨rfl,hb4⟩)
      have hB4:=hB3.call (by simp) hb4;refine hK.out _ _ ?aeX (fun hHeld=>?_)
      case aeX=>(exact ⟨((hB4).ah rfl).cell (j:=0) rfl,((hB4).ah rfl).cell (j:=1) rfl,((hB4).ah rfl).cell (j:=2) rfl,((hB4).ah rfl).cell (j:=3) rfl,((hB4).get 1 rfl).cell (j:=0) rfl,((hB4).get 1 rfl).cell (j:=1) rfl,((hB4).get 1 rfl).cell (j:=2) rfl,((hB4).get 1 rfl).cell (j:=3) rfl⟩)
      clear hK K
      try simp only [Act.put,la,lz,ls]
      refine tr 16 fun K hK=>?_;go_simp
      (go_at_call 173;refine (HK.out _ (by omega) (by omega) (by omega) (by omega)).mono ?_;rintro e w5 ⟨rfl,hb5⟩)
      have fM:=hB4.call (by simp) hb5;have CV:=(fM.get 2 rfl).cell (j:=0) rfl;have qE:=(fM.get 2 rfl).frozen 0;have CW:=(fM.get 2 rfl).cell (j:=1) rfl;have qF:=(fM.get 2 rfl).frozen 1;have DU:=(fM.get 2 rfl).cell (j:=2) rfl;have qR:=(fM.get 2 rfl).frozen 2;have DV:=(fM.get 2 rfl).cell (j:=3) rfl;have qU:=(fM.get 2 rfl).frozen 3;have hV:=((((fM).set 2 rfl 0 (.int .i64 (r).n)).set 2 rfl 1 (.slice none 0 0)).set 2 rfl 2 (.int .i64 (r).d)).set 2 rfl 3 (.slice none 0 0);refine hK.out _ _ ?NW (fun hHeld=>?_)
      case NW=>(exact ⟨((fM).ah rfl).cell (j:=0) rfl,((fM).ah rfl).cell (j:=1) rfl,((fM).ah rfl).cell (j:=2) rfl,((fM).ah rfl).cell (j:=3) rfl,((fM).get 1 rfl).cell (j:=0) rfl,((fM).get 1 rfl).cell (j:=1) rfl,((fM).get 1 rfl).cell (j:=2) rfl,((fM).get 1 rfl).cell (j:=3) rfl⟩)
      clear hK K
      try simp only [Act.put,la,lz,ls]
      refine tr 17 fun K hK=>?_;go_simp;refine hK.out _ _ ?ae4 (fun hHeld=>?_)
      case ae4=>(exact ⟨((hV).ah rfl).cell (j:=0) rfl,((hV).ah rfl).cell (j:=1) rfl,((hV).ah rfl).cell (j:=2) rfl,((hV).ah rfl).cell (j:=3) rfl,((hV).get 1 rfl).cell (j:=0) rfl,((hV).get 1 rfl).cell (j:=1) rfl,((hV).get 1 rfl).cell (j:=2) rfl,((hV).get 1 rfl).cell (j:=3) rfl⟩)
      clear hK K
      try simp only [Act.put,la,lz,ls]
      refine wpAnyH_done (by kernel_rfl) ?_ _;go_wp2;exact bodyPost_ret (bf (p:=4) (hV.get 2 rfl) Tryz.underlying128 rfl dP rfl _ rfl) rfl ⟨rfl,hV.bw⟩
 · rw [show Nm.add ⟨an,ad⟩ ⟨bn,bd⟩=Nm.make (an*bd+bn*ad) (ad*bd) by unfold Nm.add;rw [if_neg (fun h=>had h.1)]]
   have P0:=rH (a:=an) (b:=bd) ⟨by omega,by omega⟩ ⟨by omega,by omega⟩;have U0:=rH (a:=bn) (b:=ad) ⟨by omega,by omega⟩ ⟨by omega,by omega⟩;have Q0:=rH (a:=ad) (b:=bd) ⟨by omega,by omega⟩ ⟨by omega,by omega⟩;have Q1:=CY a2 b2;have HM:=kP an bd;have HU:=kP bn ad;have HN:=kP ad bd;have HA:=xH (an*bd) (bn*ad);have HK:=xR (an*bd+bn*ad) (ad*bd);obtain ⟨p,hp⟩:∃ p,an*bd=p:=⟨_,rfl⟩
   simp only [hp] at HM HA HK P0 ⊢
   clear hp;obtain ⟨u,hu⟩:∃ u,bn*ad=u:=⟨_,rfl⟩
   simp only [hu] at HU HA HK U0 ⊢
   clear hu;obtain ⟨q,hq⟩:∃ q,ad*bd=q:=⟨_,rfl⟩
   simp only [hq] at HN HK Q0 Q1 ⊢
   clear hq
   have S0: -2000000000000000000≤p+u∧p+u≤2000000000000000000:=by omega
   obtain ⟨s,hs⟩:∃ s,p+u=s:=⟨_,rfl⟩
   simp only [hs] at HA HK S0 ⊢
   clear hs;obtain ⟨r,hr⟩:∃ r,Nm.make s q=r:=⟨_,rfl⟩
   simp only [hr] at HK ⊢
   clear hr;have HM:=hide HM;have HU:=hide HU;have HN:=hide HN;have HA:=hide HA;have HK:=hide HK
   go_enter Tryz.func122,Tryz.ntmps122
   go_upto_region 0 with (fail)
   go_cut [2,3,4] (fun v2 v3 v4 wx=>v2=ptr w.heap.size∧v3=ptr (w.heap.size+1)∧v4=ptr (w.heap.size+2)∧aX w wx [(aU ⟨an,ad⟩,128),(aU ⟨bn,bd⟩,128),(aU ⟨0,0⟩,128)])
   case first=>
    go_wp2;go_meet;exact ⟨rfl,rfl,rfl,((((aX.nil w).new (by simp) (aU ⟨an,ad⟩) _).new (by simp) (aU ⟨bn,bd⟩) _).new (by simp) (aU ⟨0,0⟩) _)⟩
   case rest=>
    obtain ⟨rfl,rfl,rfl,hB⟩:=hcut
    go_upto_region 3 with (first | (go_at_call 171;refine (uH an ad had _).mono ?_;rintro e Xg ⟨rfl,oD⟩;have hB0:=hB.call (by simp) oD) | (refine aB 128 (.tmp 2) rfl ?_;refine ak (hB.ah rfl) Tryz.underlying128 rfl dP rfl (.tmp 2) rfl rfl ?_))
    refine wp_region_held_drew (S:=(fun w':World=>w'.cell? ⟨w.heap.size,0,none⟩=some (.int .i64 ((⟨an,ad⟩:Nm.Fr)).n)∧w'.cell? ⟨w.heap.size,1,none⟩=some (.slice none 0 0)∧w'.cell? ⟨w.heap.size,2,none⟩=some (.int .i64 ((⟨an,ad⟩:Nm.Fr)).d)∧w'.cell? ⟨w.heap.size,3,none⟩=some (.slice none 0 0)∧w'.cell? ⟨w.heap.size+1,0,none⟩=some (.int .i64 ((⟨bn,bd⟩:Nm.Fr)).n)∧w'.cell? ⟨w.heap.size+1,1,none⟩=some (.slice none 0 0)∧w'.cell? ⟨w.heap.size+1,2,none⟩=some (.int .i64 ((⟨bn,bd⟩:Nm.Fr)).d)∧w'.cell? ⟨w.heap.size+1,3,none⟩=some (.slice none 0 0))) (by kernel_rfl) ?jX (fun hHeld=>?_)
    case jX=>exact ⟨((hB0.drew).ah rfl).cell (j:=0) rfl,((hB0.drew).ah rfl).cell (j:=1) rfl,((hB0.drew).ah rfl).cell (j:=2) rfl,((hB0.drew).ah rfl).cell (j:=3) rfl,((hB0.drew).get 1 rfl).cell (j:=0) rfl,((hB0.drew).get 1 rfl).cell (j:=1) rfl,((hB0.drew).get 1 rfl).cell (j:=2) rfl,((hB0.drew).get 1 rfl).cell (j:=3) rfl⟩
    refine tk 0 ?_;refine tk 1 ?_;refine tk 2 ?_;refine tk 3 ?_;refine tk 5 ?_;refine tk 6 ?_;refine tk 7 ?_;refine tk 8 ?_;refine tk 11 ?_;refine tk 12 ?_;refine tk 13 ?_;refine tk 14 ?_;refine tr 4 fun K hK=>?_;go_simp
    (go_at_call 174;refine (HM.out _ (by omega) (by omega) (by omega) (by omega) (by omega) (by omega)).mono ?_;rintro e w1 ⟨rfl,hb1⟩)
    have hB1:=hB0.drew.call (by simp) hb1;refine hK.out _ _ ?an7 (fun hHeld=>?_)
    case an7=>(exact ⟨((hB1).ah rfl).cell (j:=0) rfl,((hB1).ah rfl).cell (j:=1) rfl,((hB1).ah rfl).cell (j:=2) rfl,((hB1).ah rfl).cell (j:=3) rfl,((hB1).get 1 rfl).cell (j:=0) rfl,((hB1).get 1 rfl).cell (j:=1) rfl,((hB1).get 1 rfl).cell (j:=2) rfl,((hB1).get 1 rfl).cell (j:=3) rfl⟩)
    clear hK K
    try simp only [Act.put,la,lz,ls]
    refine tr 9 fun K hK=>?_;go_simp
    (go_at_call 174;refine (HU.out _ (by omega) (by omega) (by omega) (by omega) (by omega) (by omega)).mono ?_;rintro e w2 ⟨rfl,hb2⟩)
    have hB2:=hB1.call (by simp) hb2;refine hK.out _ _ ?aol (fun hHeld=>?_)
    case aol=>(exact ⟨((hB2).ah rfl).cell (j:=0) rfl,((hB2).ah rfl).cell (j:=1) rfl,((hB2).ah rfl).cell (j:=2) rfl,((hB2).ah rfl).cell (j:=3) rfl,((hB2).get 1 rfl).cell (j:=0) rfl,((hB2).get 1 rfl).cell (j:=1) rfl,((hB2).get 1 rfl).cell (j:=2) rfl,((hB2).get 1 rfl).cell (j:=3) rfl⟩)
    clear hK K
    try simp only [Act.put,la,lz,ls]
    refine tr 10 fun K hK=>?_;go_simp
    (go_at_call 172;refine (HA.out _ (by omega) (by omega) (by omega) (by omega) (by omega) (by omega)).mono ?_;rintro e w3 ⟨rfl,hb3⟩)
    have hB3:=hB2.call (by simp) hb3;refine hK.out _ _ ?afw (fun hHeld=>?_)
    case afw=>(exact ⟨((hB3).ah rfl).cell (j:=0) rfl,((hB3).ah rfl).cell (j:=1) rfl,((hB3).ah rfl).cell (j:=2) rfl,((hB3).ah rfl).cell (j:=3) rfl,((hB3).get 1 rfl).cell (j:=0) rfl,((hB3).get 1 rfl).cell (j:=1) rfl,((hB3).get 1 rfl).cell (j:=2) rfl,((hB3).get 1 rfl).cell (j:=3) rfl⟩)
    clear hK K
    try simp only [Act.put,la,lz,ls]
    refine tr 15 fun K hK=>?_;go_simp
    (go_at_call 174;refine (HN.out _ (by omega) (by omega) (by omega) (by omega) (by omega) (by omega)).mono ?_;rintro e w4 ⟨rfl,hb4⟩)
    have hB4:=hB3.call (by simp) hb4;refine hK.out _ _ ?afD (fun hHeld=>?_)
    case afD=>(exact ⟨((hB4).ah rfl).cell (j:=0) rfl,((hB4).ah rfl).cell (j:=1) rfl,((hB4).ah rfl).cell (j:=2) rfl,((hB4).ah rfl).cell (j:=3) rfl,((hB4).get 1 rfl).cell (j:=0) rfl,((hB4).get 1 rfl).cell (j:=1) rfl,((hB4).get 1 rfl).cell (j:=2) rfl,((hB4).get 1 rfl).cell (j:=3) rfl⟩)
    clear hK K
    try simp only [Act.put,la,lz,ls]
    refine tr 16 fun K hK=>?_;go_simp
    (go_at_call 173;refine (HK.out _ (by omega) (by omega) (by omega) (by omega)).mono ?_;rintro e w5 ⟨rfl,hb5⟩)
    have fM:=hB4.call (by simp) hb5;have CV:=(fM.get 2 rfl).cell (j:=0) rfl;have qE:=(fM.get 2 rfl).frozen 0;have CW:=(fM.get 2 rfl).cell (j:=1) rfl;have qF:=(fM.get 2 rfl).frozen 1;have DU:=(fM.get 2 rfl).cell (j:=2) rfl;have qR:=(fM.get 2 rfl).frozen 2;have DV:=(fM.get 2 rfl).cell (j:=3) rfl;have qU:=(fM.get 2 rfl).frozen 3;have hV:=((((fM).set 2 rfl 0 (.int .i64 (r).n)).set 2 rfl 1 (.slice none 0 0)).set 2 rfl 2 (.int .i64 (r).d)).set 2 rfl 3 (.slice none 0 0);refine hK.out _ _ ?afK (fun hHeld=>?_)
    case afK=>(exact ⟨((fM).ah rfl).cell (j:=0) rfl,((fM).ah rfl).cell (j:=1) rfl,((fM).ah rfl).cell (j:=2) rfl,((fM).ah rfl).cell (j:=3) rfl,((fM).get 1 rfl).cell (j:=0) rfl,((fM).get 1 rfl).cell (j:=1) rfl,((fM).get 1 rfl).cell (j:=2) rfl,((fM).get 1 rfl).cell (j:=3) rfl⟩)
    clear hK K
    try simp only [Act.put,la,lz,ls]
    refine tr 17 fun K hK=>?_;go_simp;refine hK.out _ _ ?afR (fun hHeld=>?_)
    case afR=>(exact ⟨((hV).ah rfl).cell (j:=0) rfl,((hV).ah rfl).cell (j:=1) rfl,((hV).ah rfl).cell (j:=2) rfl,((hV).ah rfl).cell (j:=3) rfl,((hV).get 1 rfl).cell (j:=0) rfl,((hV).get 1 rfl).cell (j:=1) rfl,((hV).get 1 rfl).cell (j:=2) rfl,((hV).get 1 rfl).cell (j:=3) rfl⟩)
    clear hK K
    try simp only [Act.put,la,lz,ls]
    refine wpAnyH_done (by kernel_rfl) ?_ _;go_wp2;exact bodyPost_ret (bf (p:=4) (hV.get 2 rfl) Tryz.underlying128 rfl dP rfl _ rfl) rfl ⟨rfl,hV.bw⟩
theorem Cj (a b:Nm.Fr) (w:World) (ha:Nm.ok a=true) (hb:Nm.ok b=true):Calls Tryz.prog 178 #[iI a,iI b] w fun e w'=>e= .returned (iI (Nm.sub a b))∧Below w.heap.size w w':=by
 have hb':Nm.ok (Nm.neg b)=true:=by
  rw [tJ] at hb ⊢
  unfold Nm.neg
  dsimp only
  omega
 have HN:=TG b;have HK:=BU a (Nm.neg b);obtain ⟨⟨b0,b1⟩,b2,b3⟩:=tJ.1 hb;rw [show Nm.sub a b=Nm.add a (Nm.neg b) from rfl];obtain ⟨c,hc⟩:∃ c,Nm.neg b=c:=⟨_,rfl⟩;rw [hc] at HN HK hb' ⊢;clear hc;obtain ⟨r,hr⟩:∃ r,Nm.add a c=r:=⟨_,rfl⟩;rw [hr] at HK ⊢;clear hr;have HN:=hide HN;have HK:=hide HK
 go_enter Tryz.func178,Tryz.ntmps178
 go_upto_region 0 with (fail)
 go_cut [2,3,4] (fun v2 v3 v4 wx=>v2=ptr w.heap.size∧v3=ptr (w.heap.size+1)∧v4=ptr (w.heap.size+2)∧aX w wx [(aU a,128),(aU b,128),(aU ⟨0,0⟩,128)])
 case first=>
  go_wp2;go_meet;exact ⟨rfl,rfl,rfl,((((aX.nil w).new (by simp) (aU a) _).new (by simp) (aU b) _).new (by simp) (aU ⟨0,0⟩) _)⟩
 case rest=>
  obtain ⟨rfl,rfl,rfl,hB⟩:=hcut;have xI:=(hB.ah rfl).cell (j:=0) rfl;have lJ:=(hB.ah rfl).frozen 0;have ka1:=(hB.ah rfl).cell (j:=1) rfl;have lK:=(hB.ah rfl).frozen 1;have RI:=(hB.ah rfl).cell (j:=2) rfl;have AA:=(hB.ah rfl).frozen 2;have RN:=(hB.ah rfl).cell (j:=3) rfl;have AB:=(hB.ah rfl).frozen 3;have Hw:=(hB.get 1 rfl).cell (j:=0) rfl;have xJ:=(hB.get 1 rfl).frozen 0;have Qa:=(hB.get 1 rfl).cell (j:=1) rfl;have yY:=(hB.get 1 rfl).frozen 1;have kb2:=(hB.get 1 rfl).cell (j:=2) rfl;have aa6:=(hB.get 1 rfl).frozen 2;have kb3:=(hB.get 1 rfl).cell (j:=3) rfl;have abf:=(hB.get 1 rfl).frozen 3;have hB0:=hB
  go_upto_region 1 with (fail)
  refine wp_region_held_drew (S:=(fun w':World=>w'.cell? ⟨w.heap.size,0,none⟩=some (.int .i64 (a).n)∧w'.cell? ⟨w.heap.size,1,none⟩=some (.slice none 0 0)∧w'.cell? ⟨w.heap.size,2,none⟩=some (.int .i64 (a).d)∧w'.cell? ⟨w.heap.size,3,none⟩=some (.slice none 0 0)∧w'.cell? ⟨w.heap.size+1,0,none⟩=some (.int .i64 (b).n)∧w'.cell? ⟨w.heap.size+1,1,none⟩=some (.slice none 0 0)∧w'.cell? ⟨w.heap.size+1,2,none⟩=some (.int .i64 (b).d)∧w'.cell? ⟨w.heap.size+1,3,none⟩=some (.slice none 0 0))) (by kernel_rfl) ?lQ (fun hHeld=>?_)
  case lQ=>exact ⟨((hB0.drew).ah rfl).cell (j:=0) rfl,((hB0.drew).ah rfl).cell (j:=1) rfl,((hB0.drew).ah rfl).cell (j:=2) rfl,((hB0.drew).ah rfl).cell (j:=3) rfl,((hB0.drew).get 1 rfl).cell (j:=0) rfl,((hB0.drew).get 1 rfl).cell (j:=1) rfl,((hB0.drew).get 1 rfl).cell (j:=2) rfl,((hB0.drew).get 1 rfl).cell (j:=3) rfl⟩
  refine tk 0 ?_;refine tk 1 ?_;refine tr 2 fun K hK=>?_;go_simp
  (go_at_call 127;refine (HN.out _ (by omega) (by omega)).mono ?_;rintro e w1 ⟨rfl,hb1⟩)
  have hB1:=hB0.drew.call (by simp) hb1;refine hK.out _ _ ?J7 (fun hHeld=>?_)
  case J7=>(exact ⟨((hB1).ah rfl).cell (j:=0) rfl,((hB1).ah rfl).cell (j:=1) rfl,((hB1).ah rfl).cell (j:=2) rfl,((hB1).ah rfl).cell (j:=3) rfl,((hB1).get 1 rfl).cell (j:=0) rfl,((hB1).get 1 rfl).cell (j:=1) rfl,((hB1).get 1 rfl).cell (j:=2) rfl,((hB1).get 1 rfl).cell (j:=3) rfl⟩)
  clear hK K
  try simp only [Act.put,la,lz,ls]
  refine tr 3 fun K hK=>?_;go_simp
  (go_at_call 122;refine (HK.out _ ha hb').mono ?_;rintro e w2 ⟨rfl,hb2⟩)
  have hB2:=hB1.call (by simp) hb2;have CV:=(hB2.get 2 rfl).cell (j:=0) rfl;have qE:=(hB2.get 2 rfl).frozen 0;have CW:=(hB2.get 2 rfl).cell (j:=1) rfl;have qF:=(hB2.get 2 rfl).frozen 1;have DU:=(hB2.get 2 rfl).cell (j:=2) rfl;have qR:=(hB2.get 2 rfl).frozen 2;have DV:=(hB2.get 2 rfl).cell (j:=3) rfl;have qU:=(hB2.get 2 rfl).frozen 3;have hV:=((((hB2).set 2 rfl 0 (.int .i64 (r).n)).set 2 rfl 1 (.slice none 0 0)).set 2 rfl 2 (.int .i64 (r).d)).set 2 rfl 3 (.slice none 0 0);refine hK.out _ _ ?aos (fun hHeld=>?_)
  case aos=>(exact ⟨((hB2).ah rfl).cell (j:=0) rfl,((hB2).ah rfl).cell (j:=1) rfl,((hB2).ah rfl).cell (j:=2) rfl,((hB2).ah rfl).cell (j:=3) rfl,((hB2).get 1 rfl).cell (j:=0) rfl,((hB2).get 1 rfl).cell (j:=1) rfl,((hB2).get 1 rfl).cell (j:=2) rfl,((hB2).get 1 rfl).cell (j:=3) rfl⟩)
  clear hK K
  try simp only [Act.put,la,lz,ls]
  refine tr 4 fun K hK=>?_;go_simp;refine hK.out _ _ ?J8 (fun hHeld=>?_)
  case J8=>(exact ⟨((hV).ah rfl).cell (j:=0) rfl,((hV).ah rfl).cell (j:=1) rfl,((hV).ah rfl).cell (j:=2) rfl,((hV).ah rfl).cell (j:=3) rfl,((hV).get 1 rfl).cell (j:=0) rfl,((hV).get 1 rfl).cell (j:=1) rfl,((hV).get 1 rfl).cell (j:=2) rfl,((hV).get 1 rfl).cell (j:=3) rfl⟩)
  clear hK K
  try simp only [Act.put,la,lz,ls]
  refine wpAnyH_done (by kernel_rfl) ?_ _;go_wp2;exact bodyPost_ret (bf (p:=4) (hV.get 2 rfl) Tryz.underlying128 rfl dP rfl _ rfl) rfl ⟨rfl,hV.bw⟩
theorem TD (a b:Nm.Fr) (w:World) (ha:Nm.ok a=true) (hb:Nm.ok b=true) (hp:0<b.n) (hb':Nm.ok (Nm.inv b)=true):Calls Tryz.prog 59 #[iI a,iI b] w fun e w'=>e= .returned (iI (Nm.div a b))∧Below w.heap.size w w':=by
 have HN:=TF b;have HK:=Cc a (Nm.inv b);rw [show Nm.div a b=Nm.mul a (Nm.inv b) from rfl];obtain ⟨c,hc⟩:∃ c,Nm.inv b=c:=⟨_,rfl⟩;rw [hc] at HN HK hb' ⊢;clear hc;obtain ⟨r,hr⟩:∃ r,Nm.mul a c=r:=⟨_,rfl⟩;rw [hr] at HK ⊢;clear hr;have HN:=hide HN;have HK:=hide HK
 go_enter Tryz.func59,Tryz.ntmps59
 go_upto_region 0 with (fail)
 go_cut [2,3,4] (fun v2 v3 v4 wx=>v2=ptr w.heap.size∧v3=ptr (w.heap.size+1)∧v4=ptr (w.heap.size+2)∧aX w wx [(aU a,128),(aU b,128),(aU ⟨0,0⟩,128)])
 case first=>
  go_wp2;go_meet;exact ⟨rfl,rfl,rfl,((((aX.nil w).new (by simp) (aU a) _).new (by simp) (aU b) _).new (by simp) (aU ⟨0,0⟩) _)⟩
 case rest=>
  obtain ⟨rfl,rfl,rfl,hB⟩:=hcut;have xI:=(hB.ah rfl).cell (j:=0) rfl;have lJ:=(hB.ah rfl).frozen 0;have ka1:=(hB.ah rfl).cell (j:=1) rfl;have lK:=(hB.ah rfl).frozen 1;have RI:=(hB.ah rfl).cell (j:=2) rfl;have AA:=(hB.ah rfl).frozen 2;have RN:=(hB.ah rfl).cell (j:=3) rfl;have AB:=(hB.ah rfl).frozen 3;have Hw:=(hB.get 1 rfl).cell (j:=0) rfl;have xJ:=(hB.get 1 rfl).frozen 0;have Qa:=(hB.get 1 rfl).cell (j:=1) rfl;have yY:=(hB.get 1 rfl).frozen 1;have kb2:=(hB.get 1 rfl).cell (j:=2) rfl;have aa6:=(hB.get 1 rfl).frozen 2;have kb3:=(hB.get 1 rfl).cell (j:=3) rfl;have abf:=(hB.get 1 rfl).frozen 3;have hB0:=hB
  go_upto_region 1 with (fail)
  refine wp_region_held_drew (S:=(fun w':World=>w'.cell? ⟨w.heap.size,0,none⟩=some (.int .i64 (a).n)∧w'.cell? ⟨w.heap.size,1,none⟩=some (.slice none 0 0)∧w'.cell? ⟨w.heap.size,2,none⟩=some (.int .i64 (a).d)∧w'.cell? ⟨w.heap.size,3,none⟩=some (.slice none 0 0)∧w'.cell? ⟨w.heap.size+1,0,none⟩=some (.int .i64 (b).n)∧w'.cell? ⟨w.heap.size+1,1,none⟩=some (.slice none 0 0)∧w'.cell? ⟨w.heap.size+1,2,none⟩=some (.int .i64 (b).d)∧w'.cell? ⟨w.heap.size+1,3,none⟩=some (.slice none 0 0))) (by kernel_rfl) ?lS (fun hHeld=>?_)
  case lS=>exact ⟨((hB0.drew).ah rfl).cell (j:=0) rfl,((hB0.drew).ah rfl).cell (j:=1) rfl,((hB0.drew).ah rfl).cell (j:=2) rfl,((hB0.drew).ah rfl).cell (j:=3) rfl,((hB0.drew).get 1 rfl).cell (j:=0) rfl,((hB0.drew).get 1 rfl).cell (j:=1) rfl,((hB0.drew).get 1 rfl).cell (j:=2) rfl,((hB0.drew).get 1 rfl).cell (j:=3) rfl⟩
  refine tk 0 ?_;refine tk 1 ?_;refine tr 2 fun K hK=>?_;go_simp
  (go_at_call 126;refine (HN.out _ hb hp).mono ?_;rintro e w1 ⟨rfl,hb1⟩)
  have hB1:=hB0.drew.call (by simp) hb1;refine hK.out _ _ ?aoN (fun hHeld=>?_)
  case aoN=>(exact ⟨((hB1).ah rfl).cell (j:=0) rfl,((hB1).ah rfl).cell (j:=1) rfl,((hB1).ah rfl).cell (j:=2) rfl,((hB1).ah rfl).cell (j:=3) rfl,((hB1).get 1 rfl).cell (j:=0) rfl,((hB1).get 1 rfl).cell (j:=1) rfl,((hB1).get 1 rfl).cell (j:=2) rfl,((hB1).get 1 rfl).cell (j:=3) rfl⟩)
  clear hK K
  try simp only [Act.put,la,lz,ls]
  refine tr 3 fun K hK=>?_;go_simp
  (go_at_call 125;refine (HK.out _ ha hb').mono ?_;rintro e w2 ⟨rfl,hb2⟩)
  have hB2:=hB1.call (by simp) hb2;have CV:=(hB2.get 2 rfl).cell (j:=0) rfl;have qE:=(hB2.get 2 rfl).frozen 0;have CW:=(hB2.get 2 rfl).cell (j:=1) rfl;have qF:=(hB2.get 2 rfl).frozen 1;have DU:=(hB2.get 2 rfl).cell (j:=2) rfl;have qR:=(hB2.get 2 rfl).frozen 2;have DV:=(hB2.get 2 rfl).cell (j:=3) rfl;have qU:=(hB2.get 2 rfl).frozen 3;have hV:=((((hB2).set 2 rfl 0 (.int .i64 (r).n)).set 2 rfl 1 (.slice none 0 0)).set 2 rfl 2 (.int .i64 (r).d)).set 2 rfl 3 (.slice none 0 0);refine hK.out _ _ ?VI (fun hHeld=>?_)
  case VI=>(exact ⟨((hB2).ah rfl).cell (j:=0) rfl,((hB2).ah rfl).cell (j:=1) rfl,((hB2).ah rfl).cell (j:=2) rfl,((hB2).ah rfl).cell (j:=3) rfl,((hB2).get 1 rfl).cell (j:=0) rfl,((hB2).get 1 rfl).cell (j:=1) rfl,((hB2).get 1 rfl).cell (j:=2) rfl,((hB2).get 1 rfl).cell (j:=3) rfl⟩)
  clear hK K
  try simp only [Act.put,la,lz,ls]
  refine tr 4 fun K hK=>?_;go_simp;refine hK.out _ _ ?J9 (fun hHeld=>?_)
  case J9=>(exact ⟨((hV).ah rfl).cell (j:=0) rfl,((hV).ah rfl).cell (j:=1) rfl,((hV).ah rfl).cell (j:=2) rfl,((hV).ah rfl).cell (j:=3) rfl,((hV).get 1 rfl).cell (j:=0) rfl,((hV).get 1 rfl).cell (j:=1) rfl,((hV).get 1 rfl).cell (j:=2) rfl,((hV).get 1 rfl).cell (j:=3) rfl⟩)
  clear hK K
  try simp only [Act.put,la,lz,ls]
  refine wpAnyH_done (by kernel_rfl) ?_ _;go_wp2;exact bodyPost_ret (bf (p:=4) (hV.get 2 rfl) Tryz.underlying128 rfl dP rfl _ rfl) rfl ⟨rfl,hV.bw⟩
end Go.Proofs.YtcjglfbpjkdgiaaGreatDoor
