/- Parts of a proof. -/
import Derived.Test.YtcjglfbpjkdgiaaGreatDoorKc29
import Derived.Test.YtcjglfbpjkdgiaaGreatDoorKc5
set_option maxHeartbeats 4000000
set_option maxRecDepth 100000
set_option linter.unusedVariables false
set_option linter.unusedSimpArgs false
namespace Go.Proofs.YtcjglfbpjkdgiaaGreatDoor
open Go.RowKit
theorem qH {P:Program} {f:FuncId} {args:Array Value} {v:Value} {w:World} {a:Nat} (h:Calls P f args (w.drewN a) fun e w'=>e= .returned v∧w'=w.drewN a):Calls P f args (w.drewN a) fun e w'=>e= .returned v∧∃ n,w'=w.drewN n:=
 h.mono (by rintro e w' ⟨rfl,rfl⟩;exact ⟨rfl,a,rfl⟩)
def sz (n:Int):Int:=(n.natAbs:Int)
theorem SN {n:Int} (h0: -9223372036854775807≤n) (h1:n≤9223372036854775807):0≤sz n∧sz n≤9223372036854775807:=by unfold sz;omega
theorem Em (n:Int) (w:World) (h0: -9223372036854775807≤n) (h1:n≤9223372036854775807):
 Calls Tryz.prog 216 #[.int .i64 n] w fun e w'=>e= .returned (.int .u64 (sz n))∧w'=w:=size_any n w h0 h1
theorem FM (a b z:Int) (h:a*b=z) (h0: -9223372036854775807≤a) (h1:a≤9223372036854775807) (g0: -9223372036854775807≤b) (g1:b≤9223372036854775807) (k0: -9223372036854775807≤z) (k1:z≤9223372036854775807) (w:World):
 Calls Tryz.prog 215 #[.int .u64 (sz a),.int .u64 (sz b)] w fun e w'=>e= .returned (.tuple #[.int .u64 0,.int .u64 (sz z)])∧w'=w:=by
 refine (Tryz.bits_Mul64 a.natAbs b.natAbs (by omega) (by omega) w).mono ?_
 rintro e w' ⟨rfl,rfl⟩
 have hm:a.natAbs*b.natAbs=z.natAbs:=by rw [← h,Int.natAbs_mul]
 rw [hm,Nat.div_eq_of_lt (by omega),Nat.mod_eq_of_lt (by omega)];exact ⟨rfl,rfl⟩
theorem sign_mul {a b z:Int} (h:a*b=z):(!(decide (a<0) == decide (b<0)))=true→z≤0:=by
 intro hd;subst h
 by_cases ha:a<0 <;> by_cases hb:b<0 <;> simp [ha,hb] at hd
 · exact Int.mul_nonpos_of_nonpos_of_nonneg (by omega) (by omega)
 · exact Int.mul_nonpos_of_nonneg_of_nonpos (by omega) (by omega)
theorem Nv {a b z:Int} (h:a*b=z):(!(decide (a<0) == decide (b<0)))=false→0≤z:=by
 intro hd;subst h
 by_cases ha:a<0 <;> by_cases hb:b<0 <;> simp [ha,hb] at hd
 · exact Int.mul_nonneg_of_nonpos_of_nonpos (by omega) (by omega)
 · exact Int.mul_nonneg (by omega) (by omega)
theorem jL (a b:Int) (w:World) (h0: -9223372036854775807≤a) (h1:a≤9223372036854775807) (g0: -9223372036854775807≤b) (g1:b≤9223372036854775807) (k0: -9223372036854775807≤a*b) (k1:a*b≤9223372036854775807):
 Calls Tryz.prog 174 #[nR a,nR b] w fun e w'=>e= .returned (nR (a*b))∧Below w.heap.size w w':=by
 have hn:=uw;obtain ⟨z,hz⟩:∃ z,a*b=z:=⟨_,rfl⟩;have S1:=sign_mul hz;have S2:=Nv hz;rw [hz] at k0 k1 ⊢;have hm:=SN k0 k1
 rcases Bool.eq_false_or_eq_true (!(decide (a<0) == decide (b<0))) with hs | hs
 · have e: -(sz z)=z:=by have:=S1 hs;unfold sz;omega
   clear S1 S2
   go_enter Tryz.func174,Tryz.ntmps174
   go_upto_region 0 with (fail)
   go_cut [2,3,4] (fun v2 v3 v4 wx=>v2=ptr w.heap.size∧v3=ptr (w.heap.size+1)∧v4=ptr (w.heap.size+2)∧aS w wx [(aJ a,126),(aJ b,126),(aJ 0,126)])
   case first=>
    go_wp2;go_meet;exact ⟨rfl,rfl,rfl,((((aS.nil w).new (by simp) (aJ a) _).new (by simp) (aJ b) _).new (by simp) (aJ 0) _)⟩
   case rest=>
    obtain ⟨rfl,rfl,rfl,hB⟩:=hcut;have uQ:=(hB.ah rfl).cell (j:=0) rfl;have jZ:=(hB.ah rfl).frozen 0;have ka1:=(hB.ah rfl).cell (j:=1) rfl;have ku:=(hB.ah rfl).frozen 1;have Ew:=(hB.get 1 rfl).cell (j:=0) rfl;have uS:=(hB.get 1 rfl).frozen 0;have LC:=(hB.get 1 rfl).cell (j:=1) rfl;have wF:=(hB.get 1 rfl).frozen 1;have JZ:=(hB.get 2 rfl).cell (j:=0) rfl;have Ba:=(hB.get 2 rfl).frozen 0;have Tt:=(hB.get 2 rfl).cell (j:=1) rfl;have Bd:=(hB.get 2 rfl).frozen 1;go_wp2
    go_quiet (first | (go_at_call 216;exact qH (Em _ _ (by assumption) (by assumption))) | (go_at_call 215;exact qH (FM a b z hz h0 h1 g0 g1 k0 k1 _)))
    go_wp2;have hZ:=((hB.drewN nq).set 2 rfl 0 (.int .i64 z)).set 2 rfl 1 (.slice none 0 0);exact bodyPost_ret (aY (p:=4) (hZ.get 2 rfl) Tryz.underlying126 rfl bg rfl _ rfl) rfl ⟨rfl,hZ.bw⟩
 · have e:sz z=z:=by have:=S2 hs;unfold sz;omega
   clear S1 S2
   go_enter Tryz.func174,Tryz.ntmps174
   go_upto_region 0 with (fail)
   go_cut [2,3,4] (fun v2 v3 v4 wx=>v2=ptr w.heap.size∧v3=ptr (w.heap.size+1)∧v4=ptr (w.heap.size+2)∧aS w wx [(aJ a,126),(aJ b,126),(aJ 0,126)])
   case first=>
    go_wp2;go_meet;exact ⟨rfl,rfl,rfl,((((aS.nil w).new (by simp) (aJ a) _).new (by simp) (aJ b) _).new (by simp) (aJ 0) _)⟩
   case rest=>
    obtain ⟨rfl,rfl,rfl,hB⟩:=hcut;have uQ:=(hB.ah rfl).cell (j:=0) rfl;have jZ:=(hB.ah rfl).frozen 0;have ka1:=(hB.ah rfl).cell (j:=1) rfl;have ku:=(hB.ah rfl).frozen 1;have Ew:=(hB.get 1 rfl).cell (j:=0) rfl;have uS:=(hB.get 1 rfl).frozen 0;have LC:=(hB.get 1 rfl).cell (j:=1) rfl;have wF:=(hB.get 1 rfl).frozen 1;have JZ:=(hB.get 2 rfl).cell (j:=0) rfl;have Ba:=(hB.get 2 rfl).frozen 0;have Tt:=(hB.get 2 rfl).cell (j:=1) rfl;have Bd:=(hB.get 2 rfl).frozen 1;go_wp2
    go_quiet (first | (go_at_call 216;exact qH (Em _ _ (by assumption) (by assumption))) | (go_at_call 215;exact qH (FM a b z hz h0 h1 g0 g1 k0 k1 _)))
    go_wp2;have hZ:=((hB.drewN nq).set 2 rfl 0 (.int .i64 z)).set 2 rfl 1 (.slice none 0 0);exact bodyPost_ret (aY (p:=4) (hZ.get 2 rfl) Tryz.underlying126 rfl bg rfl _ rfl) rfl ⟨rfl,hZ.bw⟩
theorem BR {W:World} {g h:Nat} {cs ds:List Value} {t1 t2:TypeId} {d1 d2:TypeDesc} {fn:Func} {p q:Tmp} (hg:Held W g cs t1) (hh:Held W h ds t2) (hu:Tryz.prog.underlying t1=some d1) (hv:Tryz.prog.underlying t2=some d2) (h1:d1.isRow=true) (h2:d2.isRow=true)
 (hi:(Tryz.prog.info? t1).map (·.size)=some cs.length) (hj:(Tryz.prog.info? t2).map (·.size)=some ds.length) (hr:fn.results= #[.cell p t1,.cell q t2]) (tmps:Array Value) (hp:tmps.getD p undef=ptr g) (hq:tmps.getD q undef=ptr h):
 (results fn tmps).run Tryz.prog W= .ok (.tuple #[.agg cs.toArray,.agg ds.toArray]) W:=by
 have e:(results fn tmps).run Tryz.prog W=((asAddr (tmps.getD p undef)).run Tryz.prog W).andThen fun a w₁=>((loadVar t1 a).run Tryz.prog w₁).andThen fun v w₂=>((asAddr (tmps.getD q undef)).run Tryz.prog w₂).andThen fun a w₃=>((loadVar t2 a).run Tryz.prog w₃).andThen fun v' w₄=> .ok (.tuple #[v,v']) w₄:=by
  simp only [results,hr]
  simp [Sem.run_bind,Result.andThen]
 rw [e,hp,hq]
 simp only [ptr,asAddr,Sem.run_pure,Result.andThen_ok,run_loadVar_row W g t1 t1 cs.toArray (0,0) d1 hg hu (by cases d1 <;> first | rfl | cases h1) (by rw [fG rfl rfl];exact hi),run_loadVar_row W h t2 t2 ds.toArray (0,0) d2 hh hv (by cases d2 <;> first | rfl | cases h2) (by rw [fG rfl rfl];exact hj)]
theorem xg (a b:Int) (w:World) (h0: -9223372036854775807≤a) (h1:a≤9223372036854775807) (g0:0<b) (g1:b≤9223372036854775807):
 Calls Tryz.prog 241 #[nR a,nR b] w fun e w'=>e= .returned (.tuple #[nR (a / b),nR (a % b)])∧Below w.heap.size w w':=by
 have hn:=uw
 have hne:(a != -9223372036854775808)=true:=by rw [bne_iff_ne];omega
 have hb:(b == 0)=false:=by rw [beq_eq_false_iff_ne];omega
 have hb':¬ b=0:=by omega
 have D:=Nm.down (a:=a) g0;have B1:=Int.natAbs_ediv_le_natAbs a b;have B2:=Int.emod_nonneg a hb';have B3:=Int.emod_lt_of_pos a g0;obtain ⟨q,hq⟩:∃ q,a.tdiv b=q:=⟨_,rfl⟩;obtain ⟨r,hr⟩:∃ r,a.tmod b=r:=⟨_,rfl⟩;obtain ⟨Z,hZ⟩:∃ Z,a / b=Z:=⟨_,rfl⟩;obtain ⟨Y,hY⟩:∃ Y,a % b=Y:=⟨_,rfl⟩
 have B4:(a.tdiv b).natAbs≤a.natAbs:=by rw [Int.natAbs_tdiv];exact Nat.div_le_self _ _
 rw [hq] at B4;rw [hq,hr,hZ,hY] at D;rw [hZ,hY];rw [hZ] at B1;rw [hY] at B2 B3;clear hZ hY
 have z0: -9223372036854775807≤Z:=by omega
 have z1:Z≤9223372036854775807:=by omega
 have y1:Y≤9223372036854775807:=by omega
 have q0: -9223372036854775807≤q:=by omega
 have q1:q≤9223372036854775807:=by omega
 clear B1 B4
 by_cases hr0:r<0
 · rw [if_pos hr0,if_pos hr0] at D
   obtain ⟨e1,e2⟩:=D
   go_enter Tryz.func241,Tryz.ntmps241
   go_upto_region 0 with (fail)
   go_cut [2,3,4,5] (fun v2 v3 v4 v5 wx=>v2=ptr w.heap.size∧v3=ptr (w.heap.size+1)∧v4=ptr (w.heap.size+2)∧v5=ptr (w.heap.size+3)∧aS w wx [(aJ a,126),(aJ b,126),(aJ 0,126),(aJ 0,126)])
   case first=>
    go_wp2;go_meet;exact ⟨rfl,rfl,rfl,rfl,(((((aS.nil w).new (by simp) (aJ a) _).new (by simp) (aJ b) _).new (by simp) (aJ 0) _).new (by simp) (aJ 0) _)⟩
   case rest=>
    obtain ⟨rfl,rfl,rfl,rfl,hB⟩:=hcut;have uQ:=(hB.ah rfl).cell (j:=0) rfl;have jZ:=(hB.ah rfl).frozen 0;have ka1:=(hB.ah rfl).cell (j:=1) rfl;have ku:=(hB.ah rfl).frozen 1;have Ew:=(hB.get 1 rfl).cell (j:=0) rfl;have uS:=(hB.get 1 rfl).frozen 0;have LC:=(hB.get 1 rfl).cell (j:=1) rfl;have wF:=(hB.get 1 rfl).frozen 1;have JZ:=(hB.get 2 rfl).cell (j:=0) rfl;have Ba:=(hB.get 2 rfl).frozen 0;have Tt:=(hB.get 2 rfl).cell (j:=1) rfl;have Bd:=(hB.get 2 rfl).frozen 1;have kd0:=(hB.get 3 rfl).cell (j:=0) rfl;have UA:=(hB.get 3 rfl).frozen 0;have kd1:=(hB.get 3 rfl).cell (j:=1) rfl;have UC:=(hB.get 3 rfl).frozen 1;go_wp2
    go_quiet (fail)
    revert nq
    intro n1;go_wp2
    go_quiet (fail)
    go_wp2;have hZ:=((((hB.drewN (n1+nq)).set 2 rfl 0 (.int .i64 Z)).set 2 rfl 1 (.slice none 0 0)).set 3 rfl 0 (.int .i64 Y)).set 3 rfl 1 (.slice none 0 0);exact bodyPost_ret (BR (p:=4) (q:=5) (hZ.get 2 rfl) (hZ.get 3 rfl) Tryz.underlying126 Tryz.underlying126 rfl rfl bg bg rfl _ rfl rfl) rfl ⟨rfl,hZ.bw⟩
 · rw [if_neg hr0,if_neg hr0] at D
   obtain ⟨rfl,rfl⟩:=D
   go_enter Tryz.func241,Tryz.ntmps241
   go_upto_region 0 with (fail)
   go_cut [2,3,4,5] (fun v2 v3 v4 v5 wx=>v2=ptr w.heap.size∧v3=ptr (w.heap.size+1)∧v4=ptr (w.heap.size+2)∧v5=ptr (w.heap.size+3)∧aS w wx [(aJ a,126),(aJ b,126),(aJ 0,126),(aJ 0,126)])
   case first=>
    go_wp2;go_meet;exact ⟨rfl,rfl,rfl,rfl,(((((aS.nil w).new (by simp) (aJ a) _).new (by simp) (aJ b) _).new (by simp) (aJ 0) _).new (by simp) (aJ 0) _)⟩
   case rest=>
    obtain ⟨rfl,rfl,rfl,rfl,hB⟩:=hcut;have uQ:=(hB.ah rfl).cell (j:=0) rfl;have jZ:=(hB.ah rfl).frozen 0;have ka1:=(hB.ah rfl).cell (j:=1) rfl;have ku:=(hB.ah rfl).frozen 1;have Ew:=(hB.get 1 rfl).cell (j:=0) rfl;have uS:=(hB.get 1 rfl).frozen 0;have LC:=(hB.get 1 rfl).cell (j:=1) rfl;have wF:=(hB.get 1 rfl).frozen 1;have JZ:=(hB.get 2 rfl).cell (j:=0) rfl;have Ba:=(hB.get 2 rfl).frozen 0;have Tt:=(hB.get 2 rfl).cell (j:=1) rfl;have Bd:=(hB.get 2 rfl).frozen 1;have kd0:=(hB.get 3 rfl).cell (j:=0) rfl;have UA:=(hB.get 3 rfl).frozen 0;have kd1:=(hB.get 3 rfl).cell (j:=1) rfl;have UC:=(hB.get 3 rfl).frozen 1;go_wp2
    go_quiet (fail)
    go_wp2;have hZ:=((((hB.drewN nq).set 2 rfl 0 (.int .i64 q)).set 2 rfl 1 (.slice none 0 0)).set 3 rfl 0 (.int .i64 r)).set 3 rfl 1 (.slice none 0 0);exact bodyPost_ret (BR (p:=4) (q:=5) (hZ.get 2 rfl) (hZ.get 3 rfl) Tryz.underlying126 Tryz.underlying126 rfl rfl bg bg rfl _ rfl rfl) rfl ⟨rfl,hZ.bw⟩
theorem vG (b:Int) (hb:0<b) (w:World):Calls Tryz.prog 179 #[nR b] w fun e w'=>e= .returned (.int .i64 1)∧Below w.heap.size w w':=by
 have:=Ag b w
 rwa [show Nm.VG b=1 by unfold Nm.VG;rw [if_neg (by omega),if_pos hb]] at this
theorem tX {o p:Option Value} {y r:Int} (h:o=some (.int .i64 r)) (k:p=some (.int .i64 y)) (hl:r.toNat<y.toNat):(intOf (o.getD undef)).toNat<(intOf (p.getD undef)).toNat:=by subst h k;exact hl
theorem sign_zero (w:World):Calls Tryz.prog 179 #[nR 0] w fun e w'=>e= .returned (.int .i64 0)∧Below w.heap.size w w':=Ag 0 w
theorem O1 (x y:Int) (hx:0≤x) (hy:0<y):Nm.gcd x y=Nm.gcd y (x % y):=by
 obtain ⟨n,rfl⟩:=Int.eq_ofNat_of_zero_le hx;obtain ⟨m,rfl⟩:=Int.eq_ofNat_of_zero_le (Int.le_of_lt hy)
 unfold Nm.gcd
 rw [← Int.natCast_emod]
 show ((Nat.gcd n m:Nat):Int)=((Nat.gcd m (n % m):Nat):Int)
 rw [Nat.gcd_comm n m,Nat.gcd_rec m n,Nat.gcd_comm]
theorem Ua (x:Int) (hx:0≤x):Nm.gcd x 0=x:=by
 obtain ⟨n,rfl⟩:=Int.eq_ofNat_of_zero_le hx
 unfold Nm.gcd
 show ((Nat.gcd n 0:Nat):Int)=n
 rw [Nat.gcd_zero_right]
theorem TW (a b:Int):Nm.gcd a b=Nm.gcd a.natAbs b.natAbs:=by
 unfold Nm.gcd
 rw [Int.gcd_eq_natAbs_gcd_natAbs,Int.gcd_eq_natAbs_gcd_natAbs,Int.natAbs_natCast,Int.natAbs_natCast]
theorem EZ (a b:Int) (w:World) (h0: -9223372036854775807≤a) (h1:a≤9223372036854775807) (g0:0<b) (g1:b≤9223372036854775807):
 Calls Tryz.prog 214 #[nR a,nR b] w fun e w'=>e= .returned (nR (a / b))∧Below w.heap.size w w':=by
 obtain ⟨z,hz⟩:∃ z,a / b=z:=⟨_,rfl⟩;have HD:=xg a b;rw [hz] at HD;rw [hz];clear hz
 go_enter Tryz.func214,Tryz.ntmps214
 go_upto_region 0 with (fail)
 go_cut [2,3,4] (fun v2 v3 v4 wx=>v2=ptr w.heap.size∧v3=ptr (w.heap.size+1)∧v4=ptr (w.heap.size+2)∧aS w wx [(aJ a,126),(aJ b,126),(aJ 0,126)])
 case first=>
  go_wp2;go_meet;exact ⟨rfl,rfl,rfl,((((aS.nil w).new (by simp) (aJ a) _).new (by simp) (aJ b) _).new (by simp) (aJ 0) _)⟩
 case rest=>
  obtain ⟨rfl,rfl,rfl,hB⟩:=hcut;have uQ:=(hB.ah rfl).cell (j:=0) rfl;have jZ:=(hB.ah rfl).frozen 0;have ka1:=(hB.ah rfl).cell (j:=1) rfl;have ku:=(hB.ah rfl).frozen 1;have Ew:=(hB.get 1 rfl).cell (j:=0) rfl;have uS:=(hB.get 1 rfl).frozen 0;have LC:=(hB.get 1 rfl).cell (j:=1) rfl;have wF:=(hB.get 1 rfl).frozen 1;have JZ:=(hB.get 2 rfl).cell (j:=0) rfl;have Ba:=(hB.get 2 rfl).frozen 0;have Tt:=(hB.get 2 rfl).cell (j:=1) rfl;have Bd:=(hB.get 2 rfl).frozen 1;have HD:=hide HD
  go_wp2_with (first | (go_at_call 179;refine (vG b g0 _).mono ?_;rintro e w1 ⟨rfl,hb1⟩;have hC:=hB.call (by simp) hb1) | (go_at_call 241;refine (HD.out _ h0 h1 g0 g1).mono ?_;rintro e w2 ⟨rfl,hb2⟩;have hD:=hC.call (by simp) hb2) | (refine aC 126 (.tmp 3) rfl ?_;refine au (hC.get 1 rfl) Tryz.underlying126 rfl bg rfl (.tmp 3) rfl rfl ?_) | (refine aC 126 (.tmp 3) rfl ?_;refine au (hB.get 1 rfl) Tryz.underlying126 rfl bg rfl (.tmp 3) rfl rfl ?_) | (refine aC 126 (.tmp 2) rfl ?_;refine au (hC.ah rfl) Tryz.underlying126 rfl bg rfl (.tmp 2) rfl rfl ?_) | (refine aC 126 (.tmp 2) rfl ?_;refine au (hB.ah rfl) Tryz.underlying126 rfl bg rfl (.tmp 2) rfl rfl ?_) | (refine aQ 126 (.tmp 4) (.tmp 20) rfl ?_;refine aI (((hD.alloc (by simp) _).alloc (by simp) _).get 2 rfl) (aJ z) rfl bg (qB _) rfl (.tmp 4) (.tmp 20) rfl rfl rfl ?_))
  have hZ:=((hD.alloc (by simp) (.cells #[.int .i64 z,.slice none 0 0] 126)).alloc (by simp) (.cells #[.int .i64 (a % b),.slice none 0 0] 126)).put 2 rfl (aJ z) rfl;exact bodyPost_ret (aY (p:=4) (hZ.get 2 rfl) Tryz.underlying126 rfl bg rfl _ rfl) rfl ⟨rfl,hZ.bw⟩
theorem TY (a b:Int) (w:World) (h0: -9223372036854775807≤a) (h1:a≤9223372036854775807) (g0: -9223372036854775807≤b) (g1:b≤9223372036854775807):
 Calls Tryz.prog 205 #[nR a,nR b] w fun e w'=>e= .returned (nR (Nm.gcd a b))∧Below w.heap.size w w':=by
 go_enter Tryz.func205,Tryz.ntmps205
 go_upto_region 0 with (fail)
 go_cut [2,3,4] (fun v2 v3 v4 wx=>v2=ptr w.heap.size∧v3=ptr (w.heap.size+1)∧v4=ptr (w.heap.size+2)∧aS w wx [(aJ a,126),(aJ b,126),(aJ 0,126)])
 case first=>
  go_wp2;go_meet;exact ⟨rfl,rfl,rfl,((((aS.nil w).new (by simp) (aJ a) _).new (by simp) (aJ b) _).new (by simp) (aJ 0) _)⟩
 case rest=>
  obtain ⟨rfl,rfl,rfl,hB⟩:=hcut;have uQ:=(hB.ah rfl).cell (j:=0) rfl;have jZ:=(hB.ah rfl).frozen 0;have ka1:=(hB.ah rfl).cell (j:=1) rfl;have ku:=(hB.ah rfl).frozen 1;have Ew:=(hB.get 1 rfl).cell (j:=0) rfl;have uS:=(hB.get 1 rfl).frozen 0;have LC:=(hB.get 1 rfl).cell (j:=1) rfl;have wF:=(hB.get 1 rfl).frozen 1
  go_upto_region 1 with (fail)
  go_cut [] (fun wx=>aS w wx [(aJ a.natAbs,126),(aJ b.natAbs,126),(aJ 0,126)])
  case first=>
   refine wp_region_held_drew (S:=(fun _:World=>True)) (by kernel_rfl) ?dS (fun hHeld=>?_)
   case dS=>trivial
   refine wpAnyH_ready (rs:=[0,2]) (by kernel_rfl) (by simp) ?_;refine AllReadyH.cons (o:=_) (ga rfl) (fun K hK=>?_) (AllReadyH.cons (o:=_) (ga rfl) (fun K hK=>?_) AllReadyH.nil)
   · go_simp
     refine hK.out _ _ ?U5 (fun hHeld=>?_)
     case U5=>(first | (trivial) | (dsimp only;trivial))
     clear hK K
     try simp only [Act.put,la,lz,ls]
     refine wpAnyH_ready (rs:=[1,2]) (by kernel_rfl) (by simp) ?_;refine AllReadyH.cons (o:=_) (ga rfl) (fun K hK=>?_) (AllReadyH.cons (o:=_) (ga rfl) (fun K hK=>?_) AllReadyH.nil)
     · go_simp
       (go_at_call 240;refine (su a _ h0 h1).mono ?_;rintro e w1 ⟨rfl,hb1⟩)
       have hD:=hB.drew.call (by simp) hb1;have kd0:=(hD.get 1 rfl).cell (j:=0) rfl;have UA:=(hD.get 1 rfl).frozen 0;have kd1:=(hD.get 1 rfl).cell (j:=1) rfl;have UC:=(hD.get 1 rfl).frozen 1;refine hK.out _ _ ?Qh (fun hHeld=>?_)
       case Qh=>(first | (trivial) | (dsimp only;trivial))
       clear hK K
       try simp only [Act.put,la,lz,ls]
       refine tr 2 fun K hK=>?_;go_simp;refine hK.out _ _ ?Ql (fun hHeld=>?_)
       case Ql=>(first | (trivial) | (dsimp only;trivial))
       clear hK K
       try simp only [Act.put,la,lz,ls]
       refine tr 3 fun K hK=>?_;go_simp
       (go_at_call 240;refine (su b _ g0 g1).mono ?_;rintro e w2 ⟨rfl,hb2⟩)
       have hE:=hD.call (by simp) hb2;have ke0:=(hE.ah rfl).cell (j:=0) rfl;have Y5:=(hE.ah rfl).frozen 0;have ke1:=(hE.ah rfl).cell (j:=1) rfl;have Y6:=(hE.ah rfl).frozen 1;have kg0:=(hE.get 1 rfl).cell (j:=0) rfl;have Y9:=(hE.get 1 rfl).frozen 0;have kg1:=(hE.get 1 rfl).cell (j:=1) rfl;have Za:=(hE.get 1 rfl).frozen 1;refine hK.out _ _ ?Qo (fun hHeld=>?_)
       case Qo=>(first | (trivial) | (dsimp only;trivial))
       clear hK K
       try simp only [Act.put,la,lz,ls]
       refine tr 4 fun K hK=>?_;go_simp;refine hK.out _ _ ?Qr (fun hHeld=>?_)
       case Qr=>(first | (trivial) | (dsimp only;trivial))
       clear hK K
       try simp only [Act.put,la,lz,ls]
       refine tr 5 fun K hK=>?_;go_simp;refine hK.out _ _ ?Qw (fun hHeld=>?_)
       case Qw=>(first | (trivial) | (dsimp only;trivial))
       clear hK K
       try simp only [Act.put,la,lz,ls]
       refine wpAnyH_done (by kernel_rfl) ?_ _;go_wp2;go_meet;exact (((hE.set 0 rfl 0 (.int .i64 a.natAbs)).set 0 rfl 1 (.slice none 0 0)).set 1 rfl 0 (.int .i64 b.natAbs)).set 1 rfl 1 (.slice none 0 0)
     · go_simp
       refine hK.out _ _ ?Qm (fun hHeld=>?_)
       case Qm=>(first | (trivial) | (dsimp only;trivial))
       clear hK K
       try simp only [Act.put,la,lz,ls]
       refine tr 1 fun K hK=>?_;go_simp
       (go_at_call 240;refine (su a _ h0 h1).mono ?_;rintro e w1 ⟨rfl,hb1⟩)
       have hD:=hB.drew.call (by simp) hb1;have kd0:=(hD.get 1 rfl).cell (j:=0) rfl;have UA:=(hD.get 1 rfl).frozen 0;have kd1:=(hD.get 1 rfl).cell (j:=1) rfl;have UC:=(hD.get 1 rfl).frozen 1;refine hK.out _ _ ?Qi (fun hHeld=>?_)
       case Qi=>(first | (trivial) | (dsimp only;trivial))
       clear hK K
       try simp only [Act.put,la,lz,ls]
       refine tr 3 fun K hK=>?_;go_simp
       (go_at_call 240;refine (su b _ g0 g1).mono ?_;rintro e w2 ⟨rfl,hb2⟩)
       have hE:=hD.call (by simp) hb2;have ke0:=(hE.ah rfl).cell (j:=0) rfl;have Y5:=(hE.ah rfl).frozen 0;have ke1:=(hE.ah rfl).cell (j:=1) rfl;have Y6:=(hE.ah rfl).frozen 1;have kg0:=(hE.get 1 rfl).cell (j:=0) rfl;have Y9:=(hE.get 1 rfl).frozen 0;have kg1:=(hE.get 1 rfl).cell (j:=1) rfl;have Za:=(hE.get 1 rfl).frozen 1;refine hK.out _ _ ?Qp (fun hHeld=>?_)
       case Qp=>(first | (trivial) | (dsimp only;trivial))
       clear hK K
       try simp only [Act.put,la,lz,ls]
       refine tr 4 fun K hK=>?_;go_simp;refine hK.out _ _ ?Qs (fun hHeld=>?_)
       case Qs=>(first | (trivial) | (dsimp only;trivial))
       clear hK K
       try simp only [Act.put,la,lz,ls]
       refine tr 5 fun K hK=>?_;go_simp;refine hK.out _ _ ?Qx (fun hHeld=>?_)
       case Qx=>(first | (trivial) | (dsimp only;trivial))
       clear hK K
       try simp only [Act.put,la,lz,ls]
       refine wpAnyH_done (by kernel_rfl) ?_ _;go_wp2;go_meet;exact (((hE.set 0 rfl 0 (.int .i64 a.natAbs)).set 0 rfl 1 (.slice none 0 0)).set 1 rfl 0 (.int .i64 b.natAbs)).set 1 rfl 1 (.slice none 0 0)
   · go_simp
     refine hK.out _ _ ?Qn (fun hHeld=>?_)
     case Qn=>(first | (trivial) | (dsimp only;trivial))
     clear hK K
     try simp only [Act.put,la,lz,ls]
     refine tr 0 fun K hK=>?_;go_simp;refine hK.out _ _ ?Qg (fun hHeld=>?_)
     case Qg=>(first | (trivial) | (dsimp only;trivial))
     clear hK K
     try simp only [Act.put,la,lz,ls]
     refine tr 1 fun K hK=>?_;go_simp
     (go_at_call 240;refine (su a _ h0 h1).mono ?_;rintro e w1 ⟨rfl,hb1⟩)
     have hD:=hB.drew.call (by simp) hb1;have kd0:=(hD.get 1 rfl).cell (j:=0) rfl;have UA:=(hD.get 1 rfl).frozen 0;have kd1:=(hD.get 1 rfl).cell (j:=1) rfl;have UC:=(hD.get 1 rfl).frozen 1;refine hK.out _ _ ?Qj (fun hHeld=>?_)
     case Qj=>(first | (trivial) | (dsimp only;trivial))
     clear hK K
     try simp only [Act.put,la,lz,ls]
     refine tr 3 fun K hK=>?_;go_simp
     (go_at_call 240;refine (su b _ g0 g1).mono ?_;rintro e w2 ⟨rfl,hb2⟩)
     have hE:=hD.call (by simp) hb2;have ke0:=(hE.ah rfl).cell (j:=0) rfl;have Y5:=(hE.ah rfl).frozen 0;have ke1:=(hE.ah rfl).cell (j:=1) rfl;have Y6:=(hE.ah rfl).frozen 1;have kg0:=(hE.get 1 rfl).cell (j:=0) rfl;have Y9:=(hE.get 1 rfl).frozen 0;have kg1:=(hE.get 1 rfl).cell (j:=1) rfl;have Za:=(hE.get 1 rfl).frozen 1;refine hK.out _ _ ?Qq (fun hHeld=>?_)
     case Qq=>(first | (trivial) | (dsimp only;trivial))
     clear hK K
     try simp only [Act.put,la,lz,ls]
     refine tr 4 fun K hK=>?_;go_simp;refine hK.out _ _ ?Qu (fun hHeld=>?_)
     case Qu=>(first | (trivial) | (dsimp only;trivial))
     clear hK K
     try simp only [Act.put,la,lz,ls]
     refine tr 5 fun K hK=>?_;go_simp;refine hK.out _ _ ?Qy (fun hHeld=>?_)
     case Qy=>(first | (trivial) | (dsimp only;trivial))
     clear hK K
     try simp only [Act.put,la,lz,ls]
     refine wpAnyH_done (by kernel_rfl) ?_ _;go_wp2;go_meet;exact (((hE.set 0 rfl 0 (.int .i64 a.natAbs)).set 0 rfl 1 (.slice none 0 0)).set 1 rfl 0 (.int .i64 b.natAbs)).set 1 rfl 1 (.slice none 0 0)
  case rest=>
   clear hB uQ jZ ka1 ku Ew uS LC wF;have HG:=hide (TW a b);go_wp2
   go_loopw [] (fun wr=>∃ x y:Int,0≤x∧x≤9223372036854775807∧0≤y∧y≤9223372036854775807∧Aside (Nm.gcd a b=Nm.gcd x y)∧aS w wr [(aJ x,126),(aJ y,126),(aJ 0,126)]) (fun wr=>(intOf ((wr.cell? ⟨w.heap.size+1,0,none⟩).getD undef)).toNat)
   case atStart=>exact ⟨a.natAbs,b.natAbs,by omega,by omega,by omega,by omega,HG.out,hcut⟩
   case round=>
    obtain ⟨x,y,x0,x1,y0,y1,hg,hB⟩:=hrel;have uQ:=(hB.ah rfl).cell (j:=0) rfl;have jZ:=(hB.ah rfl).frozen 0;have ka1:=(hB.ah rfl).cell (j:=1) rfl;have ku:=(hB.ah rfl).frozen 1;have Ew:=(hB.get 1 rfl).cell (j:=0) rfl;have uS:=(hB.get 1 rfl).frozen 0;have LC:=(hB.get 1 rfl).cell (j:=1) rfl;have wF:=(hB.get 1 rfl).frozen 1
    by_cases hy:y=0
    · subst hy
      have HE:=hide (show nR x=nR (Nm.gcd a b) by rw [hg.out,Ua x x0])
      go_wp2_with (first | (go_at_call 179;refine (sign_zero _).mono ?_;rintro e w1 ⟨rfl,hb1⟩;have hC:=hB.call (by simp) hb1) | (refine aC 126 (.tmp 3) rfl ?_;refine au (hC.get 1 rfl) Tryz.underlying126 rfl bg rfl (.tmp 3) rfl rfl ?_) | (refine aC 126 (.tmp 3) rfl ?_;refine au (hB.get 1 rfl) Tryz.underlying126 rfl bg rfl (.tmp 3) rfl rfl ?_) | (refine aC 126 (.tmp 2) rfl ?_;refine au (hC.ah rfl) Tryz.underlying126 rfl bg rfl (.tmp 2) rfl rfl ?_) | (refine aC 126 (.tmp 2) rfl ?_;refine au (hB.ah rfl) Tryz.underlying126 rfl bg rfl (.tmp 2) rfl rfl ?_) | (refine aQ 126 (.tmp 4) (.tmp 22) rfl ?_;refine aI (hC.get 2 rfl) (aJ x) rfl bg (qB _) rfl (.tmp 4) (.tmp 22) rfl rfl rfl ?_))
      have hZ:=hC.put 2 rfl (aJ x) rfl;refine bodyPost_ret (aY (p:=4) (hZ.get 2 rfl) Tryz.underlying126 rfl bg rfl _ rfl) rfl ⟨?_,hZ.bw⟩;rw [← HE.out]
      rfl
    · have yp:0<y:=by omega
      have r0:=Int.emod_nonneg x hy;have r1:=Int.emod_lt_of_pos x yp;have HD:=xg x y;have HS:=hide (hg.out.trans (O1 x y x0 yp));clear hg;obtain ⟨r,hr⟩:∃ r,x % y=r:=⟨_,rfl⟩;obtain ⟨q,hq⟩:∃ q,x / y=q:=⟨_,rfl⟩;rw [hr] at HS r0 r1 HD;rw [hq] at HD;clear hr hq;have HD:=hide HD
      go_wp2_with (first | (go_at_call 179;refine (vG y yp _).mono ?_;rintro e w1 ⟨rfl,hb1⟩;have hC:=hB.call (by simp) hb1) | (go_at_call 241;refine (HD.out _ (by omega) x1 yp y1).mono ?_;rintro e w2 ⟨rfl,hb2⟩;have hD:=hC.call (by simp) hb2) | (refine aC 126 (.tmp 3) rfl ?_;refine au (hC.get 1 rfl) Tryz.underlying126 rfl bg rfl (.tmp 3) rfl rfl ?_) | (refine aC 126 (.tmp 3) rfl ?_;refine au (hB.get 1 rfl) Tryz.underlying126 rfl bg rfl (.tmp 3) rfl rfl ?_) | (refine aC 126 (.tmp 2) rfl ?_;refine au (hC.ah rfl) Tryz.underlying126 rfl bg rfl (.tmp 2) rfl rfl ?_) | (refine aC 126 (.tmp 2) rfl ?_;refine au (hB.ah rfl) Tryz.underlying126 rfl bg rfl (.tmp 2) rfl rfl ?_))
      have hX:=(hD.alloc (by simp) (.cells #[.int .i64 q,.slice none 0 0] 126)).alloc (by simp) (.cells #[.int .i64 r,.slice none 0 0] 126);have hsz:=hD.size (by simp)
      simp only [List.length_cons,List.length_nil] at hsz
      have hR:=Held.newAt (w2.alloc (.cells #[.int .i64 q,.slice none 0 0] 126)) [.int .i64 r,.slice none 0 0] 126 (g:=w2.heap.size+1) (by simp)
      go_upto_region 4 with (fail)
      obtain ⟨X,hXd⟩:∃ X,((w2.alloc (.cells #[.int .i64 q,.slice none 0 0] 126)).alloc (.cells #[.int .i64 r,.slice none 0 0] 126))=X:=⟨_,rfl⟩;rw [hXd] at hX
      simp only [hXd]
      rw [show (w2.alloc (.cells #[.int .i64 q,.slice none 0 0] 126)).alloc (.cells [.int .i64 r,.slice none 0 0].toArray 126)=X from hXd] at hR;clear hXd
      have hne0:w2.heap.size+1≠w.heap.size:=by omega
      have hne1:w2.heap.size+1≠w.heap.size+1:=by omega
      have NR:=(hX.ah rfl).cell (j:=0) rfl;have IL:=(hX.ah rfl).frozen 0;have NS:=(hX.ah rfl).cell (j:=1) rfl;have IQ:=(hX.ah rfl).frozen 1;have ky0:=(hX.get 1 rfl).cell (j:=0) rfl;have afY:=(hX.get 1 rfl).frozen 0;have ky1:=(hX.get 1 rfl).cell (j:=1) rfl;have af7:=(hX.get 1 rfl).frozen 1;have kr0:=(hR).cell (j:=0) rfl;have aoz:=(hR).frozen 0;have kr1:=(hR).cell (j:=1) rfl;have aoG:=(hR).frozen 1;refine wp_region_held_drew (S:=(fun _:World=>True)) (by kernel_rfl) ?eU (fun hHeld=>?_)
      case eU=>trivial
      refine wpAnyH_ready (rs:=[0,1]) (by kernel_rfl) (by simp) ?_;refine AllReadyH.cons (o:=_) (ga rfl) (fun K hK=>?_) (AllReadyH.cons (o:=_) (ga rfl) (fun K hK=>?_) AllReadyH.nil)
      · go_simp
        refine hK.out _ _ ?U6 (fun hHeld=>?_)
        case U6=>(first | (trivial) | (dsimp only;trivial))
        clear hK K
        try simp only [Act.put,la,lz,ls]
        refine wpAnyH_ready (rs:=[1,2]) (by kernel_rfl) (by simp) ?_;refine AllReadyH.cons (o:=_) (ga rfl) (fun K hK=>?_) (AllReadyH.cons (o:=_) (ga rfl) (fun K hK=>?_) AllReadyH.nil)
        · go_simp
          refine hK.out _ _ ?QA (fun hHeld=>?_)
          case QA=>(first | (trivial) | (dsimp only;trivial))
          clear hK K
          try simp only [Act.put,la,lz,ls]
          refine tr 2 fun K hK=>?_;go_simp;refine hK.out _ _ ?QE (fun hHeld=>?_)
          case QE=>(first | (trivial) | (dsimp only;trivial))
          clear hK K
          try simp only [Act.put,la,lz,ls]
          refine tr 3 fun K hK=>?_;go_simp;refine hK.out _ _ ?QH (fun hHeld=>?_)
          case QH=>(first | (trivial) | (dsimp only;trivial))
          clear hK K
          try simp only [Act.put,la,lz,ls]
          refine wpAnyH_done (by kernel_rfl) ?_ _;have hN:=(((hX.drew.set 0 rfl 0 (.int .i64 y)).set 0 rfl 1 (.slice none 0 0)).set 1 rfl 0 (.int .i64 r)).set 1 rfl 1 (.slice none 0 0);have hcell:=(hN.get 1 rfl).cell (j:=0) rfl;go_wp2
          go_roundw
          case rel=>exact ⟨y,r,by omega,by omega,by omega,by omega,HS.out,hN⟩
          case measure=>exact tX hcell Ew (by omega)
        · go_simp
          refine hK.out _ _ ?QF (fun hHeld=>?_)
          case QF=>(first | (trivial) | (dsimp only;trivial))
          clear hK K
          try simp only [Act.put,la,lz,ls]
          refine tr 1 fun K hK=>?_;go_simp;refine hK.out _ _ ?QB (fun hHeld=>?_)
          case QB=>(first | (trivial) | (dsimp only;trivial))
          clear hK K
          try simp only [Act.put,la,lz,ls]
          refine tr 3 fun K hK=>?_;go_simp;refine hK.out _ _ ?QI (fun hHeld=>?_)
          case QI=>(first | (trivial) | (dsimp only;trivial))
          clear hK K
          try simp only [Act.put,la,lz,ls]
          refine wpAnyH_done (by kernel_rfl) ?_ _;have hN:=(((hX.drew.set 0 rfl 0 (.int .i64 y)).set 0 rfl 1 (.slice none 0 0)).set 1 rfl 0 (.int .i64 r)).set 1 rfl 1 (.slice none 0 0);have hcell:=(hN.get 1 rfl).cell (j:=0) rfl;go_wp2
          go_roundw
          case rel=>exact ⟨y,r,by omega,by omega,by omega,by omega,HS.out,hN⟩
          case measure=>exact tX hcell Ew (by omega)
      · go_simp
        refine hK.out _ _ ?QC (fun hHeld=>?_)
        case QC=>(first | (trivial) | (dsimp only;trivial))
        clear hK K
        try simp only [Act.put,la,lz,ls]
        refine tr 0 fun K hK=>?_;go_simp;refine hK.out _ _ ?Qz (fun hHeld=>?_)
        case Qz=>(first | (trivial) | (dsimp only;trivial))
        clear hK K
        try simp only [Act.put,la,lz,ls]
        refine tr 2 fun K hK=>?_;go_simp;refine hK.out _ _ ?QG (fun hHeld=>?_)
        case QG=>(first | (trivial) | (dsimp only;trivial))
        clear hK K
        try simp only [Act.put,la,lz,ls]
        refine tr 3 fun K hK=>?_;go_simp;refine hK.out _ _ ?QJ (fun hHeld=>?_)
        case QJ=>(first | (trivial) | (dsimp only;trivial))
        clear hK K
        try simp only [Act.put,la,lz,ls]
        refine wpAnyH_done (by kernel_rfl) ?_ _;have hN:=(((hX.drew.set 0 rfl 0 (.int .i64 y)).set 0 rfl 1 (.slice none 0 0)).set 1 rfl 0 (.int .i64 r)).set 1 rfl 1 (.slice none 0 0);have hcell:=(hN.get 1 rfl).cell (j:=0) rfl;go_wp2
        go_roundw
        case rel=>exact ⟨y,r,by omega,by omega,by omega,by omega,HS.out,hN⟩
        case measure=>exact tX hcell Ew (by omega)
theorem Ub {n d:Int} (hd:0<d):0<Nm.gcd n d∧Nm.gcd n d≤d:=by
 have h1:Nm.gcd n d ∣ d:=Int.gcd_dvd_right n d;have h2:0≤Nm.gcd n d:=Int.natCast_nonneg _
 have h3:Nm.gcd n d≠0:=fun e=>by rw [e] at h1;have:=Int.zero_dvd.1 h1;omega
 exact ⟨by omega,Int.le_of_dvd hd h1⟩
theorem UH {n d:Int} (hd:0<d):Nm.make n d=if d=1 then ⟨n,d⟩ else ⟨n / Nm.gcd n d,d / Nm.gcd n d⟩:=by
 unfold Nm.make
 have h:¬ d<0:=by omega
 simp only [if_neg h]
theorem uZ (n d:Int) (w:World) (h0: -9223372036854775807≤n) (h1:n≤9223372036854775807) (d0:0<d) (d1:d≤9223372036854775807):
 Calls Tryz.prog 173 #[nR n,nR d] w fun e w'=>e= .returned (gJ (Nm.make n d))∧Below w.heap.size w w':=by
 have hn:=uw;rw [UH d0]
 by_cases hd:d=1
 · subst hd
   rw [if_pos rfl]
   go_enter Tryz.func173,Tryz.ntmps173
   go_upto_region 0 with (fail)
   go_cut [2,3,4] (fun v2 v3 v4 wx=>v2=ptr w.heap.size∧v3=ptr (w.heap.size+1)∧v4=ptr (w.heap.size+2)∧aS w wx [(aJ n,126),(aJ 1,126),(aP ⟨0,0⟩,128)])
   case first=>
    go_wp2;go_meet;exact ⟨rfl,rfl,rfl,((((aS.nil w).new (by simp) (aJ n) _).new (by simp) (aJ 1) _).new (by simp) (aP ⟨0,0⟩) _)⟩
   case rest=>
    obtain ⟨rfl,rfl,rfl,hB⟩:=hcut;have uQ:=(hB.ah rfl).cell (j:=0) rfl;have jZ:=(hB.ah rfl).frozen 0;have ka1:=(hB.ah rfl).cell (j:=1) rfl;have ku:=(hB.ah rfl).frozen 1;have Ew:=(hB.get 1 rfl).cell (j:=0) rfl;have uS:=(hB.get 1 rfl).frozen 0;have LC:=(hB.get 1 rfl).cell (j:=1) rfl;have wF:=(hB.get 1 rfl).frozen 1;have JZ:=(hB.get 2 rfl).cell (j:=0) rfl;have Ba:=(hB.get 2 rfl).frozen 0;have Tt:=(hB.get 2 rfl).cell (j:=1) rfl;have Bd:=(hB.get 2 rfl).frozen 1;have kc2:=(hB.get 2 rfl).cell (j:=2) rfl;have ady:=(hB.get 2 rfl).frozen 2;have kc3:=(hB.get 2 rfl).cell (j:=3) rfl;have adF:=(hB.get 2 rfl).frozen 3
    go_wp2_with (first | (go_at_call 179;refine (vG _ d0 _).mono ?_;rintro e w1 ⟨rfl,hb1⟩;have hC:=hB.call (by simp) hb1;have NR:=(hC.get 1 rfl).cell (j:=0) rfl;have IL:=(hC.get 1 rfl).frozen 0;have NS:=(hC.get 1 rfl).cell (j:=1) rfl;have IQ:=(hC.get 1 rfl).frozen 1) | (refine aC 126 (.tmp 3) rfl ?_;refine au (cs:=[.int .i64 1,.slice none 0 0]) (hC.get 1 rfl) Tryz.underlying126 rfl bg rfl (.tmp 3) rfl rfl ?_) | (refine aC 126 (.tmp 3) rfl ?_;refine au (hB.get 1 rfl) Tryz.underlying126 rfl bg rfl (.tmp 3) rfl rfl ?_) | (refine aC 126 (.tmp 2) rfl ?_;refine au (cs:=[.int .i64 n,.slice none 0 0]) (hC.ah rfl) Tryz.underlying126 rfl bg rfl (.tmp 2) rfl rfl ?_) | (refine aQ 128 (.tmp 4) (.tmp 23) rfl ?_;refine aI (hC.get 2 rfl) (aP ⟨n,1⟩) rfl dL (qY _) rfl (.tmp 4) (.tmp 23) rfl rfl rfl ?_))
    have hZ:=hC.put 2 rfl (aP ⟨n,1⟩) rfl;exact bodyPost_ret (aY (p:=4) (hZ.get 2 rfl) Tryz.underlying128 rfl dL rfl _ rfl) rfl ⟨rfl,hZ.bw⟩
 · rw [if_neg hd]
   have hd':(d == 1)=false:=by simp [hd]
   obtain ⟨g0,gd⟩:=Ub (n:=n) d0;have HP:=EZ n (Nm.gcd n d);have HQ:=EZ d (Nm.gcd n d);have Z5:=TY n d;obtain ⟨g,hg⟩:∃ g,Nm.gcd n d=g:=⟨_,rfl⟩;rw [hg] at g0 gd HP HQ Z5;rw [hg];obtain ⟨p,hp⟩:∃ p,n / g=p:=⟨_,rfl⟩;obtain ⟨q,hq⟩:∃ q,d / g=q:=⟨_,rfl⟩;rw [hp] at HP;rw [hq] at HQ;rw [hp,hq];clear hg hp hq
   have gM:g≤9223372036854775807:=by omega
   have HP:=hide HP;have HQ:=hide HQ;have Z5:=hide Z5
   go_enter Tryz.func173,Tryz.ntmps173
   go_upto_region 0 with (fail)
   go_cut [2,3,4] (fun v2 v3 v4 wx=>v2=ptr w.heap.size∧v3=ptr (w.heap.size+1)∧v4=ptr (w.heap.size+2)∧aS w wx [(aJ n,126),(aJ d,126),(aP ⟨0,0⟩,128)])
   case first=>
    go_wp2;go_meet;exact ⟨rfl,rfl,rfl,((((aS.nil w).new (by simp) (aJ n) _).new (by simp) (aJ d) _).new (by simp) (aP ⟨0,0⟩) _)⟩
   case rest=>
    obtain ⟨rfl,rfl,rfl,hB⟩:=hcut;have uQ:=(hB.ah rfl).cell (j:=0) rfl;have jZ:=(hB.ah rfl).frozen 0;have ka1:=(hB.ah rfl).cell (j:=1) rfl;have ku:=(hB.ah rfl).frozen 1;have Ew:=(hB.get 1 rfl).cell (j:=0) rfl;have uS:=(hB.get 1 rfl).frozen 0;have LC:=(hB.get 1 rfl).cell (j:=1) rfl;have wF:=(hB.get 1 rfl).frozen 1;have JZ:=(hB.get 2 rfl).cell (j:=0) rfl;have Ba:=(hB.get 2 rfl).frozen 0;have Tt:=(hB.get 2 rfl).cell (j:=1) rfl;have Bd:=(hB.get 2 rfl).frozen 1;have kc2:=(hB.get 2 rfl).cell (j:=2) rfl;have ady:=(hB.get 2 rfl).frozen 2;have kc3:=(hB.get 2 rfl).cell (j:=3) rfl;have adF:=(hB.get 2 rfl).frozen 3
    go_upto_region 6 with (first | (go_at_call 179;refine (vG _ d0 _).mono ?_;rintro e w1 ⟨rfl,hb1⟩;have hC:=hB.call (by simp) hb1;have NR:=(hC.get 1 rfl).cell (j:=0) rfl;have IL:=(hC.get 1 rfl).frozen 0;have NS:=(hC.get 1 rfl).cell (j:=1) rfl;have IQ:=(hC.get 1 rfl).frozen 1) | (go_at_call 205;refine (Z5.out _ h0 h1 (by omega) d1).mono ?_;rintro e w2 ⟨rfl,hb2⟩;have hD:=hC.call (by simp) hb2) | (refine aC 126 (.tmp 3) rfl ?_;refine au (hC.get 1 rfl) Tryz.underlying126 rfl bg rfl (.tmp 3) rfl rfl ?_) | (refine aC 126 (.tmp 3) rfl ?_;refine au (hB.get 1 rfl) Tryz.underlying126 rfl bg rfl (.tmp 3) rfl rfl ?_) | (refine aC 126 (.tmp 2) rfl ?_;refine au (hC.ah rfl) Tryz.underlying126 rfl bg rfl (.tmp 2) rfl rfl ?_))
    have hX:=hD.alloc (by simp) (.cells #[.int .i64 g,.slice none 0 0] 126);have hG:=Held.new w2 [.int .i64 g,.slice none 0 0] 126;have hsz:=hD.size (by simp)
    simp only [List.length_cons,List.length_nil] at hsz
    refine wp_region_held_drew (S:=(fun w':World=>Held w' w.heap.size (aJ n) 126∧Held w' (w.heap.size+1) (aJ d) 126∧Held w' w2.heap.size [.int .i64 g,.slice none 0 0] 126)) (by kernel_rfl) ?dS (fun hHeld=>?_)
    case dS=>exact ⟨hX.drew.ah rfl,hX.drew.get 1 rfl,hG.drew⟩
    refine wpAnyH_take (i:=0) (oi:=_) (v:=_) (ga rfl) (by kernel_rfl) (by kernel_rfl) (by kernel_rfl) (fun _ _ _ h=>h) (yieldsIf_load_mid (by rfl) _ _ (by rfl) _ _ (by rfl) _ _ (fun _ h=>h.1.range) Tryz.underlying126 rfl (by kernel_rfl)) (by assumption) ?_
    try simp only [Act.put,la,lz,ls]
    refine wpAnyH_take (i:=1) (oi:=_) (v:=_) (ga rfl) (by kernel_rfl) (by kernel_rfl) (by kernel_rfl) (fun _ _ _ h=>h) (yieldsIf_load_mid (by rfl) _ _ (by rfl) _ _ (by rfl) _ _ (fun _ h=>h.2.2.range) Tryz.underlying126 rfl (by kernel_rfl)) (by assumption) ?_
    try simp only [Act.put,la,lz,ls]
    refine wpAnyH_take (i:=3) (oi:=_) (v:=_) (ga rfl) (by kernel_rfl) (by kernel_rfl) (by kernel_rfl) (fun _ _ _ h=>h) (yieldsIf_load_mid (by rfl) _ _ (by rfl) _ _ (by rfl) _ _ (fun _ h=>h.2.1.range) Tryz.underlying126 rfl (by kernel_rfl)) (by assumption) ?_
    try simp only [Act.put,la,lz,ls]
    refine wpAnyH_take (i:=4) (oi:=_) (v:=_) (ga rfl) (by kernel_rfl) (by kernel_rfl) (by kernel_rfl) (fun _ _ _ h=>h) (yieldsIf_load_mid (by rfl) _ _ (by rfl) _ _ (by rfl) _ _ (fun _ h=>h.2.2.range) Tryz.underlying126 rfl (by kernel_rfl)) (by assumption) ?_
    try simp only [Act.put,la,lz,ls]
    refine tr 2 fun K hK=>?_;go_simp
    (go_at_call 214;refine (HP.out _ h0 h1 g0 gM).mono ?_;rintro e w3 ⟨rfl,hb3⟩)
    have hY:=hX.drew.call (by simp) hb3;have hG2:=hG.drew.below hb3;refine hK.out _ _ ?Qk (fun hHeld=>?_)
    case Qk=>(exact ⟨hY.ah rfl,hY.get 1 rfl,hG2⟩)
    clear hK K
    try simp only [Act.put,la,lz,ls]
    refine tr 5 fun K hK=>?_;go_simp
    (go_at_call 214;refine (HQ.out _ (by omega) d1 g0 gM).mono ?_;rintro e w4 ⟨rfl,hb4⟩)
    have hZ:=hY.call (by simp) hb4;have hG3:=hG2.below hb4
    have hlt:w.heap.size+2≠w2.heap.size:=by omega
    have zI:=(hZ.get 2 rfl).cell (j:=0) rfl;have ou:=(hZ.get 2 rfl).frozen 0;have zJ:=(hZ.get 2 rfl).cell (j:=1) rfl;have oz:=(hZ.get 2 rfl).frozen 1;have Aw:=(hZ.get 2 rfl).cell (j:=2) rfl;have oL:=(hZ.get 2 rfl).frozen 2;have Az:=(hZ.get 2 rfl).cell (j:=3) rfl;have oM:=(hZ.get 2 rfl).frozen 3;have hV:=((((hZ).set 2 rfl 0 (.int .i64 p)).set 2 rfl 1 (.slice none 0 0)).set 2 rfl 2 (.int .i64 q)).set 2 rfl 3 (.slice none 0 0);have hG4:=(((hG3.other (g':=w.heap.size+2) hlt.symm 0 (.int .i64 p)).other (g':=w.heap.size+2) hlt.symm 1 (.slice none 0 0)).other (g':=w.heap.size+2) hlt.symm 2 (.int .i64 q)).other (g':=w.heap.size+2) hlt.symm 3 (.slice none 0 0);refine hK.out _ _ ?Qv (fun hHeld=>?_)
    case Qv=>(exact ⟨hZ.ah rfl,hZ.get 1 rfl,hG3⟩)
    clear hK K
    try simp only [Act.put,la,lz,ls]
    refine tk 6 ?_;refine tr 7 fun K hK=>?_;go_simp;refine hK.out _ _ ?Zo (fun hHeld=>?_)
    case Zo=>(exact ⟨hV.ah rfl,hV.get 1 rfl,hG4⟩)
    clear hK K
    try simp only [Act.put,la,lz,ls]
    refine wpAnyH_done (by kernel_rfl) ?_ _;go_wp2;exact bodyPost_ret (aY (p:=4) (hV.get 2 rfl) Tryz.underlying128 rfl dL rfl _ rfl) rfl ⟨rfl,hV.bw⟩
theorem qC {a:Nm.Fr}:Nm.ok a=true↔(-1000000000≤a.n∧a.n≤1000000000)∧(1≤a.d∧a.d≤1000000000):=by
 unfold Nm.ok
 rw [decide_eq_true_eq,Nm.wP,Nm.wP]
 omega
theorem oP {a b:Int} (ha: -1000000000≤a∧a≤1000000000) (hb: -1000000000≤b∧b≤1000000000): -1000000000000000000≤a*b∧a*b≤1000000000000000000:=Nm.Xx (Nm.wP.2 ha) (Nm.wP.2 hb)
theorem zM {a b:Int} (ha:1≤a) (hb:1≤b):1≤a*b:=by have:=Int.mul_pos (show 0<a by omega) (show 0<b by omega);omega
theorem wQ (n:Int) (w:World):Calls Tryz.prog 123 #[nR n] w fun e w'=>e= .returned (gJ ⟨n,1⟩)∧Below w.heap.size w w':=by
 go_enter Tryz.func123,Tryz.ntmps123
 go_upto_region 0 with (fail)
 go_cut [1,2] (fun v1 v2 wx=>v1=ptr w.heap.size∧v2=ptr (w.heap.size+1)∧aS w wx [(aJ n,126),(aP ⟨0,0⟩,128)])
 case first=>
  go_wp2;go_meet;exact ⟨rfl,rfl,(((aS.nil w).new (by simp) (aJ n) _).new (by simp) (aP ⟨0,0⟩) _)⟩
 case rest=>
  obtain ⟨rfl,rfl,hB⟩:=hcut;have uQ:=(hB.ah rfl).cell (j:=0) rfl;have jZ:=(hB.ah rfl).frozen 0;have ka1:=(hB.ah rfl).cell (j:=1) rfl;have ku:=(hB.ah rfl).frozen 1;have hB0:=hB
  go_upto_region 1 with (fail)
  refine wp_region_held_drew (S:=(fun w':World=>w'.cell? ⟨w.heap.size,0,none⟩=some (.int .i64 n)∧w'.cell? ⟨w.heap.size,1,none⟩=some (.slice none 0 0))) (by kernel_rfl) ?dS (fun hHeld=>?_)
  case dS=>exact ⟨((hB0.drew).ah rfl).cell (j:=0) rfl,((hB0.drew).ah rfl).cell (j:=1) rfl⟩
  refine tk 0 ?_;refine tr 1 fun K hK=>?_;go_simp
  (go_at_call 124;refine (rE 1 _).mono ?_;rintro e w1 ⟨rfl,hb1⟩)
  have hB1:=hB0.drew.call (by simp) hb1;have zI:=(hB1.get 1 rfl).cell (j:=0) rfl;have ou:=(hB1.get 1 rfl).frozen 0;have zJ:=(hB1.get 1 rfl).cell (j:=1) rfl;have oz:=(hB1.get 1 rfl).frozen 1;have Aw:=(hB1.get 1 rfl).cell (j:=2) rfl;have oL:=(hB1.get 1 rfl).frozen 2;have Az:=(hB1.get 1 rfl).cell (j:=3) rfl;have oM:=(hB1.get 1 rfl).frozen 3;have hV:=((((hB1).set 1 rfl 0 (.int .i64 ((⟨n,1⟩:Nm.Fr)).n)).set 1 rfl 1 (.slice none 0 0)).set 1 rfl 2 (.int .i64 ((⟨n,1⟩:Nm.Fr)).d)).set 1 rfl 3 (.slice none 0 0);refine hK.out _ _ ?Zl (fun hHeld=>?_)
  case Zl=>(exact ⟨((hB1).ah rfl).cell (j:=0) rfl,((hB1).ah rfl).cell (j:=1) rfl⟩)
  clear hK K
  try simp only [Act.put,la,lz,ls]
  refine tk 2 ?_;refine tr 3 fun K hK=>?_;go_simp;refine hK.out _ _ ?GI (fun hHeld=>?_)
  case GI=>(exact ⟨((hV).ah rfl).cell (j:=0) rfl,((hV).ah rfl).cell (j:=1) rfl⟩)
  clear hK K
  try simp only [Act.put,la,lz,ls]
  refine wpAnyH_done (by kernel_rfl) ?_ _;go_wp2;exact bodyPost_ret (aY (p:=2) (hV.get 1 rfl) Tryz.underlying128 rfl dL rfl _ rfl) rfl ⟨rfl,hV.bw⟩
theorem f_any (n:Int) (w:World):Calls Tryz.prog 58 #[.int .i64 n] w fun e w'=>e= .returned (gJ ⟨n,1⟩)∧Below w.heap.size w w':=by
 go_enter Tryz.func58,Tryz.ntmps58
 go_upto_region 0 with (fail)
 go_cut [2] (fun v2 wx=>v2=ptr w.heap.size∧aS w wx [(aP ⟨0,0⟩,128)])
 case first=>
  go_wp2;go_meet;exact ⟨rfl,((aS.nil w).new (by simp) (aP ⟨0,0⟩) _)⟩
 case rest=>
  obtain ⟨rfl,hB⟩:=hcut
  go_wp2_with (first | (go_at_call 124;refine (rE n _).mono ?_;rintro e w1 ⟨rfl,hb1⟩;have hB1:=hB.call (by simp) hb1) | (go_at_call 123;refine (wQ n _).mono ?_;rintro e w2 ⟨rfl,hb2⟩;have hB2:=hB1.call (by simp) hb2) | (refine aQ 128 (.tmp 2) (.tmp 5) rfl ?_;refine aI (hB2.ah rfl) (aP ⟨n,1⟩) rfl dL (qY _) rfl (.tmp 2) (.tmp 5) rfl rfl rfl ?_))
  have hZ:=hB2.put 0 rfl (aP ⟨n,1⟩) rfl;exact bodyPost_ret (aY (p:=2) (hZ.ah rfl) Tryz.underlying128 rfl dL rfl _ rfl) rfl ⟨rfl,hZ.bw⟩
theorem Lh (a:Nm.Fr) (w:World):Calls Tryz.prog 131 #[gJ a] w fun e w'=>e= .returned (.int .i64 (Nm.VG a.n))∧Below w.heap.size w w':=by
 obtain ⟨n,d⟩:=a
 go_enter Tryz.func131,Tryz.ntmps131
 go_upto_region 0 with (fail)
 go_cut [1] (fun v1 wx=>v1=ptr w.heap.size∧aS w wx [(aP ⟨n,d⟩,128)])
 case first=>
  go_wp2;go_meet;exact ⟨rfl,((aS.nil w).new (by simp) (aP ⟨n,d⟩) _)⟩
 case rest=>
  obtain ⟨rfl,hB⟩:=hcut;have uQ:=(hB.ah rfl).cell (j:=0) rfl;have jZ:=(hB.ah rfl).frozen 0;have ka1:=(hB.ah rfl).cell (j:=1) rfl;have ku:=(hB.ah rfl).frozen 1;have NP:=(hB.ah rfl).cell (j:=2) rfl;have yt:=(hB.ah rfl).frozen 2;have NQ:=(hB.ah rfl).cell (j:=3) rfl;have yu:=(hB.ah rfl).frozen 3
  go_wp2_with (first | (go_at_call 179;refine (Ag n _).mono ?_;rintro e w1 ⟨rfl,hb1⟩;have hB1:=hB.call (by simp) hb1))
  go_ret;exact ⟨rfl,hB1.bw⟩
theorem OX (a:Nm.Fr) (w:World) (h0: -9223372036854775807≤a.n) (h1:a.n≤9223372036854775807):Calls Tryz.prog 127 #[gJ a] w fun e w'=>e= .returned (gJ (Nm.neg a))∧Below w.heap.size w w':=by
 obtain ⟨n,d⟩:=a;have HN:=J7 n;obtain ⟨m,hm⟩:∃ m, -n=m:=⟨_,rfl⟩;rw [hm] at HN;rw [show Nm.neg ⟨n,d⟩=⟨m,d⟩ by unfold Nm.neg;rw [hm]];clear hm;have HN:=hide HN
 go_enter Tryz.func127,Tryz.ntmps127
 go_upto_region 0 with (fail)
 go_cut [1,2] (fun v1 v2 wx=>v1=ptr w.heap.size∧v2=ptr (w.heap.size+1)∧aS w wx [(aP ⟨n,d⟩,128),(aP ⟨0,0⟩,128)])
 case first=>
  go_wp2;go_meet;exact ⟨rfl,rfl,(((aS.nil w).new (by simp) (aP ⟨n,d⟩) _).new (by simp) (aP ⟨0,0⟩) _)⟩
 case rest=>
  obtain ⟨rfl,rfl,hB⟩:=hcut;have uQ:=(hB.ah rfl).cell (j:=0) rfl;have jZ:=(hB.ah rfl).frozen 0;have ka1:=(hB.ah rfl).cell (j:=1) rfl;have ku:=(hB.ah rfl).frozen 1;have NP:=(hB.ah rfl).cell (j:=2) rfl;have yt:=(hB.ah rfl).frozen 2;have NQ:=(hB.ah rfl).cell (j:=3) rfl;have yu:=(hB.ah rfl).frozen 3;have hB0:=hB
  go_upto_region 1 with (fail)
  refine wp_region_held_drew (S:=(fun w':World=>w'.cell? ⟨w.heap.size,0,none⟩=some (.int .i64 ((⟨n,d⟩:Nm.Fr)).n)∧w'.cell? ⟨w.heap.size,1,none⟩=some (.slice none 0 0)∧w'.cell? ⟨w.heap.size,2,none⟩=some (.int .i64 ((⟨n,d⟩:Nm.Fr)).d)∧w'.cell? ⟨w.heap.size,3,none⟩=some (.slice none 0 0))) (by kernel_rfl) ?eU (fun hHeld=>?_)
  case eU=>exact ⟨((hB0.drew).ah rfl).cell (j:=0) rfl,((hB0.drew).ah rfl).cell (j:=1) rfl,((hB0.drew).ah rfl).cell (j:=2) rfl,((hB0.drew).ah rfl).cell (j:=3) rfl⟩
  refine tk 0 ?_;refine tk 1 ?_;refine tk 3 ?_;refine tk 4 ?_;refine tr 2 fun K hK=>?_;go_simp
  (go_at_call 175;refine (HN.out _ h0 h1).mono ?_;rintro e w1 ⟨rfl,hb1⟩)
  have hB1:=hB0.drew.call (by simp) hb1;have zI:=(hB1.get 1 rfl).cell (j:=0) rfl;have ou:=(hB1.get 1 rfl).frozen 0;have zJ:=(hB1.get 1 rfl).cell (j:=1) rfl;have oz:=(hB1.get 1 rfl).frozen 1;have Aw:=(hB1.get 1 rfl).cell (j:=2) rfl;have oL:=(hB1.get 1 rfl).frozen 2;have Az:=(hB1.get 1 rfl).cell (j:=3) rfl;have oM:=(hB1.get 1 rfl).frozen 3;have hV:=((((hB1).set 1 rfl 0 (.int .i64 ((⟨m,d⟩:Nm.Fr)).n)).set 1 rfl 1 (.slice none 0 0)).set 1 rfl 2 (.int .i64 ((⟨m,d⟩:Nm.Fr)).d)).set 1 rfl 3 (.slice none 0 0);refine hK.out _ _ ?QD (fun hHeld=>?_)
  case QD=>(exact ⟨((hB1).ah rfl).cell (j:=0) rfl,((hB1).ah rfl).cell (j:=1) rfl,((hB1).ah rfl).cell (j:=2) rfl,((hB1).ah rfl).cell (j:=3) rfl⟩)
  clear hK K
  try simp only [Act.put,la,lz,ls]
  refine tk 5 ?_;refine tr 6 fun K hK=>?_;go_simp;refine hK.out _ _ ?Zt (fun hHeld=>?_)
  case Zt=>(exact ⟨((hV).ah rfl).cell (j:=0) rfl,((hV).ah rfl).cell (j:=1) rfl,((hV).ah rfl).cell (j:=2) rfl,((hV).ah rfl).cell (j:=3) rfl⟩)
  clear hK K
  try simp only [Act.put,la,lz,ls]
  refine wpAnyH_done (by kernel_rfl) ?_ _;go_wp2;exact bodyPost_ret (aY (p:=2) (hV.get 1 rfl) Tryz.underlying128 rfl dL rfl _ rfl) rfl ⟨rfl,hV.bw⟩
theorem OW (a:Nm.Fr) (w:World) (ha:Nm.ok a=true) (hp:0<a.n):Calls Tryz.prog 126 #[gJ a] w fun e w'=>e= .returned (gJ (Nm.inv a))∧Below w.heap.size w w':=by
 obtain ⟨⟨a0,a1⟩,a2,a3⟩:=qC.1 ha;obtain ⟨n,d⟩:=a
 dsimp only at a0 a1 a2 a3 hp
 have HK:=uZ d n;rw [show Nm.inv ⟨n,d⟩=Nm.make d n from rfl];obtain ⟨r,hr⟩:∃ r,Nm.make d n=r:=⟨_,rfl⟩;rw [hr] at HK;rw [hr];clear hr;have HK:=hide HK
 go_enter Tryz.func126,Tryz.ntmps126
 go_upto_region 0 with (fail)
 go_cut [1,2] (fun v1 v2 wx=>v1=ptr w.heap.size∧v2=ptr (w.heap.size+1)∧aS w wx [(aP ⟨n,d⟩,128),(aP ⟨0,0⟩,128)])
 case first=>
  go_wp2;go_meet;exact ⟨rfl,rfl,(((aS.nil w).new (by simp) (aP ⟨n,d⟩) _).new (by simp) (aP ⟨0,0⟩) _)⟩
 case rest=>
  obtain ⟨rfl,rfl,hB⟩:=hcut;have uQ:=(hB.ah rfl).cell (j:=0) rfl;have jZ:=(hB.ah rfl).frozen 0;have ka1:=(hB.ah rfl).cell (j:=1) rfl;have ku:=(hB.ah rfl).frozen 1;have NP:=(hB.ah rfl).cell (j:=2) rfl;have yt:=(hB.ah rfl).frozen 2;have NQ:=(hB.ah rfl).cell (j:=3) rfl;have yu:=(hB.ah rfl).frozen 3
  go_wp2_with (first | (go_at_call 173;refine (HK.out _ (by omega) (by omega) hp (by omega)).mono ?_;rintro e w1 ⟨rfl,hb1⟩;have hB1:=hB.call (by simp) hb1) | (refine aQ 128 (.tmp 2) (.tmp 7) rfl ?_;refine aI (hB1.get 1 rfl) (aP r) rfl dL (qY _) rfl (.tmp 2) (.tmp 7) rfl rfl rfl ?_))
  have hZ:=hB1.put 1 rfl (aP r) rfl;exact bodyPost_ret (aY (p:=2) (hZ.get 1 rfl) Tryz.underlying128 rfl dL rfl _ rfl) rfl ⟨rfl,hZ.bw⟩
theorem zl (a b:Nm.Fr) (w:World) (ha:Nm.ok a=true) (hb:Nm.ok b=true):Calls Tryz.prog 125 #[gJ a,gJ b] w fun e w'=>e= .returned (gJ (Nm.mul a b))∧Below w.heap.size w w':=by
 obtain ⟨⟨a0,a1⟩,a2,a3⟩:=qC.1 ha;obtain ⟨⟨b0,b1⟩,b2,b3⟩:=qC.1 hb;obtain ⟨an,ad⟩:=a;obtain ⟨bn,bd⟩:=b
 dsimp only at a0 a1 a2 a3 b0 b1 b2 b3
 have P0:=oP ⟨a0,a1⟩ ⟨b0,b1⟩;have Q0:=oP (a:=ad) (b:=bd) ⟨by omega,by omega⟩ ⟨by omega,by omega⟩;have Q1:=zM a2 b2;have HM:=jL an bn;have HN:=jL ad bd;have HK:=uZ (an*bn) (ad*bd);rw [show Nm.mul ⟨an,ad⟩ ⟨bn,bd⟩=Nm.make (an*bn) (ad*bd) from rfl];obtain ⟨p,hp⟩:∃ p,an*bn=p:=⟨_,rfl⟩
 simp only [hp] at HM HK P0 ⊢
 clear hp;obtain ⟨q,hq⟩:∃ q,ad*bd=q:=⟨_,rfl⟩
 simp only [hq] at HN HK Q0 Q1 ⊢
 clear hq;obtain ⟨r,hr⟩:∃ r,Nm.make p q=r:=⟨_,rfl⟩
 simp only [hr] at HK ⊢
 clear hr;have HM:=hide HM;have HN:=hide HN;have HK:=hide HK
 go_enter Tryz.func125,Tryz.ntmps125
 go_upto_region 0 with (fail)
 go_cut [2,3,4] (fun v2 v3 v4 wx=>v2=ptr w.heap.size∧v3=ptr (w.heap.size+1)∧v4=ptr (w.heap.size+2)∧aS w wx [(aP ⟨an,ad⟩,128),(aP ⟨bn,bd⟩,128),(aP ⟨0,0⟩,128)])
 case first=>
  go_wp2;go_meet;exact ⟨rfl,rfl,rfl,((((aS.nil w).new (by simp) (aP ⟨an,ad⟩) _).new (by simp) (aP ⟨bn,bd⟩) _).new (by simp) (aP ⟨0,0⟩) _)⟩
 case rest=>
  obtain ⟨rfl,rfl,rfl,hB⟩:=hcut;have uQ:=(hB.ah rfl).cell (j:=0) rfl;have jZ:=(hB.ah rfl).frozen 0;have ka1:=(hB.ah rfl).cell (j:=1) rfl;have ku:=(hB.ah rfl).frozen 1;have NP:=(hB.ah rfl).cell (j:=2) rfl;have yt:=(hB.ah rfl).frozen 2;have NQ:=(hB.ah rfl).cell (j:=3) rfl;have yu:=(hB.ah rfl).frozen 3;have Ew:=(hB.get 1 rfl).cell (j:=0) rfl;have uS:=(hB.get 1 rfl).frozen 0;have LC:=(hB.get 1 rfl).cell (j:=1) rfl;have wF:=(hB.get 1 rfl).frozen 1;have kb2:=(hB.get 1 rfl).cell (j:=2) rfl;have WJ:=(hB.get 1 rfl).frozen 2;have kb3:=(hB.get 1 rfl).cell (j:=3) rfl;have WL:=(hB.get 1 rfl).frozen 3;have hB0:=hB
  go_upto_region 1 with (fail)
  refine wp_region_held_drew (S:=(fun w':World=>w'.cell? ⟨w.heap.size,0,none⟩=some (.int .i64 ((⟨an,ad⟩:Nm.Fr)).n)∧w'.cell? ⟨w.heap.size,1,none⟩=some (.slice none 0 0)∧w'.cell? ⟨w.heap.size,2,none⟩=some (.int .i64 ((⟨an,ad⟩:Nm.Fr)).d)∧w'.cell? ⟨w.heap.size,3,none⟩=some (.slice none 0 0)∧w'.cell? ⟨w.heap.size+1,0,none⟩=some (.int .i64 ((⟨bn,bd⟩:Nm.Fr)).n)∧w'.cell? ⟨w.heap.size+1,1,none⟩=some (.slice none 0 0)∧w'.cell? ⟨w.heap.size+1,2,none⟩=some (.int .i64 ((⟨bn,bd⟩:Nm.Fr)).d)∧w'.cell? ⟨w.heap.size+1,3,none⟩=some (.slice none 0 0))) (by kernel_rfl) ?oD (fun hHeld=>?_)
  case oD=>exact ⟨((hB0.drew).ah rfl).cell (j:=0) rfl,((hB0.drew).ah rfl).cell (j:=1) rfl,((hB0.drew).ah rfl).cell (j:=2) rfl,((hB0.drew).ah rfl).cell (j:=3) rfl,((hB0.drew).get 1 rfl).cell (j:=0) rfl,((hB0.drew).get 1 rfl).cell (j:=1) rfl,((hB0.drew).get 1 rfl).cell (j:=2) rfl,((hB0.drew).get 1 rfl).cell (j:=3) rfl⟩
  refine tk 0 ?_;refine tk 1 ?_;refine tk 2 ?_;refine tk 3 ?_;refine tk 5 ?_;refine tk 6 ?_;refine tk 7 ?_;refine tk 8 ?_;refine tr 4 fun K hK=>?_;go_simp
  (go_at_call 174;refine (HM.out _ (by omega) (by omega) (by omega) (by omega) (by omega) (by omega)).mono ?_;rintro e w1 ⟨rfl,hb1⟩)
  have hB1:=hB0.drew.call (by simp) hb1;refine hK.out _ _ ?QL (fun hHeld=>?_)
  case QL=>(exact ⟨((hB1).ah rfl).cell (j:=0) rfl,((hB1).ah rfl).cell (j:=1) rfl,((hB1).ah rfl).cell (j:=2) rfl,((hB1).ah rfl).cell (j:=3) rfl,((hB1).get 1 rfl).cell (j:=0) rfl,((hB1).get 1 rfl).cell (j:=1) rfl,((hB1).get 1 rfl).cell (j:=2) rfl,((hB1).get 1 rfl).cell (j:=3) rfl⟩)
  clear hK K
  try simp only [Act.put,la,lz,ls]
  refine tr 9 fun K hK=>?_;go_simp
  (go_at_call 174;refine (HN.out _ (by omega) (by omega) (by omega) (by omega) (by omega) (by omega)).mono ?_;rintro e w2 ⟨rfl,hb2⟩)
  have hB2:=hB1.call (by simp) hb2;refine hK.out _ _ ?QM (fun hHeld=>?_)
  case QM=>(exact ⟨((hB2).ah rfl).cell (j:=0) rfl,((hB2).ah rfl).cell (j:=1) rfl,((hB2).ah rfl).cell (j:=2) rfl,((hB2).ah rfl).cell (j:=3) rfl,((hB2).get 1 rfl).cell (j:=0) rfl,((hB2).get 1 rfl).cell (j:=1) rfl,((hB2).get 1 rfl).cell (j:=2) rfl,((hB2).get 1 rfl).cell (j:=3) rfl⟩)
  clear hK K
  try simp only [Act.put,la,lz,ls]
  refine tr 10 fun K hK=>?_;go_simp
  (go_at_call 173;refine (HK.out _ (by omega) (by omega) (by omega) (by omega)).mono ?_;rintro e w3 ⟨rfl,hb3⟩)
  have hB3:=hB2.call (by simp) hb3;have zI:=(hB3.get 2 rfl).cell (j:=0) rfl;have ou:=(hB3.get 2 rfl).frozen 0;have zJ:=(hB3.get 2 rfl).cell (j:=1) rfl;have oz:=(hB3.get 2 rfl).frozen 1;have Aw:=(hB3.get 2 rfl).cell (j:=2) rfl;have oL:=(hB3.get 2 rfl).frozen 2;have Az:=(hB3.get 2 rfl).cell (j:=3) rfl;have oM:=(hB3.get 2 rfl).frozen 3;have hV:=((((hB3).set 2 rfl 0 (.int .i64 (r).n)).set 2 rfl 1 (.slice none 0 0)).set 2 rfl 2 (.int .i64 (r).d)).set 2 rfl 3 (.slice none 0 0);refine hK.out _ _ ?Jk (fun hHeld=>?_)
  case Jk=>(exact ⟨((hB3).ah rfl).cell (j:=0) rfl,((hB3).ah rfl).cell (j:=1) rfl,((hB3).ah rfl).cell (j:=2) rfl,((hB3).ah rfl).cell (j:=3) rfl,((hB3).get 1 rfl).cell (j:=0) rfl,((hB3).get 1 rfl).cell (j:=1) rfl,((hB3).get 1 rfl).cell (j:=2) rfl,((hB3).get 1 rfl).cell (j:=3) rfl⟩)
  clear hK K
  try simp only [Act.put,la,lz,ls]
  refine tr 11 fun K hK=>?_;go_simp;refine hK.out _ _ ?Jl (fun hHeld=>?_)
  case Jl=>(exact ⟨((hV).ah rfl).cell (j:=0) rfl,((hV).ah rfl).cell (j:=1) rfl,((hV).ah rfl).cell (j:=2) rfl,((hV).ah rfl).cell (j:=3) rfl,((hV).get 1 rfl).cell (j:=0) rfl,((hV).get 1 rfl).cell (j:=1) rfl,((hV).get 1 rfl).cell (j:=2) rfl,((hV).get 1 rfl).cell (j:=3) rfl⟩)
  clear hK K
  try simp only [Act.put,la,lz,ls]
  refine wpAnyH_done (by kernel_rfl) ?_ _;go_wp2;exact bodyPost_ret (aY (p:=4) (hV.get 2 rfl) Tryz.underlying128 rfl dL rfl _ rfl) rfl ⟨rfl,hV.bw⟩
theorem oO (n:Int) (w:World):Calls Tryz.prog 171 #[gJ ⟨n,1⟩] w fun e w'=>e= .returned (.bool true)∧Below w.heap.size w w':=xu ⟨n,1⟩ w
theorem rC (n d:Int) (hd:d≠1) (w:World):Calls Tryz.prog 171 #[gJ ⟨n,d⟩] w fun e w'=>e= .returned (.bool false)∧Below w.heap.size w w':=by
 have:=xu ⟨n,d⟩ w
 rwa [show decide ((⟨n,d⟩:Nm.Fr).d=1)=false by simp [hd]] at this
theorem y9 (a b:Nm.Fr) (w:World) (ha:Nm.ok a=true) (hb:Nm.ok b=true):Calls Tryz.prog 122 #[gJ a,gJ b] w fun e w'=>e= .returned (gJ (Nm.add a b))∧Below w.heap.size w w':=by
 obtain ⟨⟨a0,a1⟩,a2,a3⟩:=qC.1 ha;obtain ⟨⟨b0,b1⟩,b2,b3⟩:=qC.1 hb;obtain ⟨an,ad⟩:=a;obtain ⟨bn,bd⟩:=b
 dsimp only at a0 a1 a2 a3 b0 b1 b2 b3
 by_cases had:ad=1
 · subst had
   by_cases hbd:bd=1
   · subst hbd
     have HA:=uP an bn;rw [show Nm.add ⟨an,1⟩ ⟨bn,1⟩=⟨an+bn,1⟩ from rfl];obtain ⟨s,hs⟩:∃ s,an+bn=s:=⟨_,rfl⟩
     have s0: -2000000000≤s∧s≤2000000000:=by omega
     rw [hs] at HA;rw [hs];clear hs;have HA:=hide HA
     go_enter Tryz.func122,Tryz.ntmps122
     go_upto_region 0 with (fail)
     go_cut [2,3,4] (fun v2 v3 v4 wx=>v2=ptr w.heap.size∧v3=ptr (w.heap.size+1)∧v4=ptr (w.heap.size+2)∧aS w wx [(aP ⟨an,1⟩,128),(aP ⟨bn,1⟩,128),(aP ⟨0,0⟩,128)])
     case first=>
      go_wp2;go_meet;exact ⟨rfl,rfl,rfl,((((aS.nil w).new (by simp) (aP ⟨an,1⟩) _).new (by simp) (aP ⟨bn,1⟩) _).new (by simp) (aP ⟨0,0⟩) _)⟩
     case rest=>
      obtain ⟨rfl,rfl,rfl,hB⟩:=hcut;have uQ:=(hB.ah rfl).cell (j:=0) rfl;have jZ:=(hB.ah rfl).frozen 0;have ka1:=(hB.ah rfl).cell (j:=1) rfl;have ku:=(hB.ah rfl).frozen 1;have NP:=(hB.ah rfl).cell (j:=2) rfl;have yt:=(hB.ah rfl).frozen 2;have NQ:=(hB.ah rfl).cell (j:=3) rfl;have yu:=(hB.ah rfl).frozen 3;have Ew:=(hB.get 1 rfl).cell (j:=0) rfl;have uS:=(hB.get 1 rfl).frozen 0;have LC:=(hB.get 1 rfl).cell (j:=1) rfl;have wF:=(hB.get 1 rfl).frozen 1;have kb2:=(hB.get 1 rfl).cell (j:=2) rfl;have WJ:=(hB.get 1 rfl).frozen 2;have kb3:=(hB.get 1 rfl).cell (j:=3) rfl;have WL:=(hB.get 1 rfl).frozen 3;have tok:=hide True.intro
      go_upto_region 2 with (first | (clear tok;go_at_call 171;refine (oO an _).mono ?_;rintro e Tz ⟨rfl,mW⟩;have hC:=hB.call (by simp) mW;have kw0:=(hC.get 1 rfl).cell (j:=0) rfl;have afw:=(hC.get 1 rfl).frozen 0;have kw1:=(hC.get 1 rfl).cell (j:=1) rfl;have afD:=(hC.get 1 rfl).frozen 1;have kw2:=(hC.get 1 rfl).cell (j:=2) rfl;have afK:=(hC.get 1 rfl).frozen 2;have kw3:=(hC.get 1 rfl).cell (j:=3) rfl;have afR:=(hC.get 1 rfl).frozen 3) | (go_at_call 171;refine (oO bn _).mono ?_;rintro e w12 ⟨rfl,mO⟩;have hD:=hC.call (by simp) mO) | (refine aC 128 (.tmp 2) rfl ?_;refine au (hB.ah rfl) Tryz.underlying128 rfl dL rfl (.tmp 2) rfl rfl ?_))
      have NR:=(hD.ah rfl).cell (j:=0) rfl;have IL:=(hD.ah rfl).frozen 0;have NS:=(hD.ah rfl).cell (j:=1) rfl;have IQ:=(hD.ah rfl).frozen 1;have ky0:=(hD.get 1 rfl).cell (j:=0) rfl;have afY:=(hD.get 1 rfl).frozen 0;have ky1:=(hD.get 1 rfl).cell (j:=1) rfl;have af7:=(hD.get 1 rfl).frozen 1
      go_wp2_with (first | (go_at_call 172;refine (HA.out _ (by omega) (by omega) (by omega) (by omega) (by omega) (by omega)).mono ?_;rintro e w1 ⟨rfl,hb1⟩;have hE:=hD.call (by simp) hb1) | (go_at_call 123;refine (wQ s _).mono ?_;rintro e w2 ⟨rfl,hb2⟩;have hE2:=hE.call (by simp) hb2) | (refine aQ 128 (.tmp 4) (.tmp 16) rfl ?_;refine aI (hE2.get 2 rfl) (aP ⟨s,1⟩) rfl dL (qY _) rfl (.tmp 4) (.tmp 16) rfl rfl rfl ?_))
      have hZ:=hE2.put 2 rfl (aP ⟨s,1⟩) rfl;exact bodyPost_ret (aY (p:=4) (hZ.get 2 rfl) Tryz.underlying128 rfl dL rfl _ rfl) rfl ⟨rfl,hZ.bw⟩
   · obtain ⟨d1,hd1⟩:∃ d:Int,d=1:=⟨_,rfl⟩
     rw [show Nm.add ⟨an,1⟩ ⟨bn,bd⟩=Nm.make (an*bd+bn*1) (1*bd) by unfold Nm.add;rw [if_neg (fun h=>hbd h.2)]]
     have a4:1≤d1:=by omega
     have a5:d1≤1000000000:=by omega
     have HW:=oO an;clear ha a2 a3;rw [← hd1] at HW ⊢;clear hd1;have a2:=a4;have a3:=a5;have P0:=oP (a:=an) (b:=bd) ⟨by omega,by omega⟩ ⟨by omega,by omega⟩;have U0:=oP (a:=bn) (b:=d1) ⟨by omega,by omega⟩ ⟨by omega,by omega⟩;have Q0:=oP (a:=d1) (b:=bd) ⟨by omega,by omega⟩ ⟨by omega,by omega⟩;have Q1:=zM a2 b2;have HM:=jL an bd;have HU:=jL bn d1;have HN:=jL d1 bd;have HA:=uP (an*bd) (bn*d1);have HK:=uZ (an*bd+bn*d1) (d1*bd);obtain ⟨p,hp⟩:∃ p,an*bd=p:=⟨_,rfl⟩
     simp only [hp] at HM HA HK P0 ⊢
     clear hp;obtain ⟨u,hu⟩:∃ u,bn*d1=u:=⟨_,rfl⟩
     simp only [hu] at HU HA HK U0 ⊢
     clear hu;obtain ⟨q,hq⟩:∃ q,d1*bd=q:=⟨_,rfl⟩
     simp only [hq] at HN HK Q0 Q1 ⊢
     clear hq
     have S0: -2000000000000000000≤p+u∧p+u≤2000000000000000000:=by omega
     obtain ⟨s,hs⟩:∃ s,p+u=s:=⟨_,rfl⟩
     simp only [hs] at HA HK S0 ⊢
     clear hs;obtain ⟨r,hr⟩:∃ r,Nm.make s q=r:=⟨_,rfl⟩
     simp only [hr] at HK ⊢
     clear hr;have HM:=hide HM;have HU:=hide HU;have HN:=hide HN;have HA:=hide HA;have HK:=hide HK;have HW:=hide HW
     go_enter Tryz.func122,Tryz.ntmps122
     go_upto_region 0 with (fail)
     go_cut [2,3,4] (fun v2 v3 v4 wx=>v2=ptr w.heap.size∧v3=ptr (w.heap.size+1)∧v4=ptr (w.heap.size+2)∧aS w wx [(aP ⟨an,d1⟩,128),(aP ⟨bn,bd⟩,128),(aP ⟨0,0⟩,128)])
     case first=>
      go_wp2;go_meet;exact ⟨rfl,rfl,rfl,((((aS.nil w).new (by simp) (aP ⟨an,d1⟩) _).new (by simp) (aP ⟨bn,bd⟩) _).new (by simp) (aP ⟨0,0⟩) _)⟩
     case rest=>
      obtain ⟨rfl,rfl,rfl,hB⟩:=hcut;have tok:=hide True.intro
      go_upto_region 3 with (first | (clear tok;go_at_call 171;refine (HW.out _).mono ?_;rintro e Tz ⟨rfl,mW⟩;have hC:=hB.call (by simp) mW;have kw0:=(hC.get 1 rfl).cell (j:=0) rfl;have afw:=(hC.get 1 rfl).frozen 0;have kw1:=(hC.get 1 rfl).cell (j:=1) rfl;have afD:=(hC.get 1 rfl).frozen 1;have kw2:=(hC.get 1 rfl).cell (j:=2) rfl;have afK:=(hC.get 1 rfl).frozen 2;have kw3:=(hC.get 1 rfl).cell (j:=3) rfl;have afR:=(hC.get 1 rfl).frozen 3) | (go_at_call 171;refine (rC bn bd hbd _).mono ?_;rintro e w12 ⟨rfl,mO⟩;have hB0:=hC.call (by simp) mO) | (refine aC 128 (.tmp 2) rfl ?_;refine au (hB.ah rfl) Tryz.underlying128 rfl dL rfl (.tmp 2) rfl rfl ?_))
      refine wp_region_held_drew (S:=(fun w':World=>w'.cell? ⟨w.heap.size,0,none⟩=some (.int .i64 ((⟨an,d1⟩:Nm.Fr)).n)∧w'.cell? ⟨w.heap.size,1,none⟩=some (.slice none 0 0)∧w'.cell? ⟨w.heap.size,2,none⟩=some (.int .i64 ((⟨an,d1⟩:Nm.Fr)).d)∧w'.cell? ⟨w.heap.size,3,none⟩=some (.slice none 0 0)∧w'.cell? ⟨w.heap.size+1,0,none⟩=some (.int .i64 ((⟨bn,bd⟩:Nm.Fr)).n)∧w'.cell? ⟨w.heap.size+1,1,none⟩=some (.slice none 0 0)∧w'.cell? ⟨w.heap.size+1,2,none⟩=some (.int .i64 ((⟨bn,bd⟩:Nm.Fr)).d)∧w'.cell? ⟨w.heap.size+1,3,none⟩=some (.slice none 0 0))) (by kernel_rfl) ?oG (fun hHeld=>?_)
      case oG=>exact ⟨((hB0.drew).ah rfl).cell (j:=0) rfl,((hB0.drew).ah rfl).cell (j:=1) rfl,((hB0.drew).ah rfl).cell (j:=2) rfl,((hB0.drew).ah rfl).cell (j:=3) rfl,((hB0.drew).get 1 rfl).cell (j:=0) rfl,((hB0.drew).get 1 rfl).cell (j:=1) rfl,((hB0.drew).get 1 rfl).cell (j:=2) rfl,((hB0.drew).get 1 rfl).cell (j:=3) rfl⟩
      refine tk 0 ?_;refine tk 1 ?_;refine tk 2 ?_;refine tk 3 ?_;refine tk 5 ?_;refine tk 6 ?_;refine tk 7 ?_;refine tk 8 ?_;refine tk 11 ?_;refine tk 12 ?_;refine tk 13 ?_;refine tk 14 ?_;refine tr 4 fun K hK=>?_;go_simp
      (go_at_call 174;refine (HM.out _ (by omega) (by omega) (by omega) (by omega) (by omega) (by omega)).mono ?_;rintro e w1 ⟨rfl,hb1⟩)
      have hB1:=hB0.drew.call (by simp) hb1;refine hK.out _ _ ?Zw (fun hHeld=>?_)
      case Zw=>(exact ⟨((hB1).ah rfl).cell (j:=0) rfl,((hB1).ah rfl).cell (j:=1) rfl,((hB1).ah rfl).cell (j:=2) rfl,((hB1).ah rfl).cell (j:=3) rfl,((hB1).get 1 rfl).cell (j:=0) rfl,((hB1).get 1 rfl).cell (j:=1) rfl,((hB1).get 1 rfl).cell (j:=2) rfl,((hB1).get 1 rfl).cell (j:=3) rfl⟩)
      clear hK K
      try simp only [Act.put,la,lz,ls]
      refine tr 9 fun K hK=>?_;go_simp
      (go_at_call 174;refine (HU.out _ (by omega) (by omega) (by omega) (by omega) (by omega) (by omega)).mono ?_;rintro e w2 ⟨rfl,hb2⟩)
      have hB2:=hB1.call (by simp) hb2;refine hK.out _ _ ?Zy (fun hHeld=>?_)
      case Zy=>(exact ⟨((hB2).ah rfl).cell (j:=0) rfl,((hB2).ah rfl).cell (j:=1) rfl,((hB2).ah rfl).cell (j:=2) rfl,((hB2).ah rfl).cell (j:=3) rfl,((hB2).get 1 rfl).cell (j:=0) rfl,((hB2).get 1 rfl).cell (j:=1) rfl,((hB2).get 1 rfl).cell (j:=2) rfl,((hB2).get 1 rfl).cell (j:=3) rfl⟩)
      clear hK K
      try simp only [Act.put,la,lz,ls]
      refine tr 10 fun K hK=>?_;go_simp
      (go_at_call 172;refine (HA.out _ (by omega) (by omega) (by omega) (by omega) (by omega) (by omega)).mono ?_;rintro e w3 ⟨rfl,hb3⟩)
      have hB3:=hB2.call (by simp) hb3;refine hK.out _ _ ?Xm (fun hHeld=>?_)
      case Xm=>(exact ⟨((hB3).ah rfl).cell (j:=0) rfl,((hB3).ah rfl).cell (j:=1) rfl,((hB3).ah rfl).cell (j:=2) rfl,((hB3).ah rfl).cell (j:=3) rfl,((hB3).get 1 rfl).cell (j:=0) rfl,((hB3).get 1 rfl).cell (j:=1) rfl,((hB3).get 1 rfl).cell (j:=2) rfl,((hB3).get 1 rfl).cell (j:=3) rfl⟩)
      clear hK K
      try simp only [Act.put,la,lz,ls]
      refine tr 15 fun K hK=>?_;go_simp
      (go_at_call 174;refine (HN.out _ (by omega) (by omega) (by omega) (by omega) (by omega) (by omega)).mono ?_;rintro e w4 ⟨rfl,hb4⟩)
      have hB4:=hB3.call (by simp) hb4;refine hK.out _ _ ?Xn (fun hHeld=>?_)
      case Xn=>(exact ⟨((hB4).ah rfl).cell (j:=0) rfl,((hB4).ah rfl).cell (j:=1) rfl,((hB4).ah rfl).cell (j:=2) rfl,((hB4).ah rfl).cell (j:=3) rfl,((hB4).get 1 rfl).cell (j:=0) rfl,((hB4).get 1 rfl).cell (j:=1) rfl,((hB4).get 1 rfl).cell (j:=2) rfl,((hB4).get 1 rfl).cell (j:=3) rfl⟩)
      clear hK K
      try simp only [Act.put,la,lz,ls]
      refine tr 16 fun K hK=>?_;go_simp
      (go_at_call 173;refine (HK.out _ (by omega) (by omega) (by omega) (by omega)).mono ?_;rintro e w5 ⟨rfl,hb5⟩)
      have eP:=hB4.call (by simp) hb5;have zI:=(eP.get 2 rfl).cell (j:=0) rfl;have ou:=(eP.get 2 rfl).frozen 0;have zJ:=(eP.get 2 rfl).cell (j:=1) rfl;have oz:=(eP.get 2 rfl).frozen 1;have Aw:=(eP.get 2 rfl).cell (j:=2) rfl;have oL:=(eP.get 2 rfl).frozen 2;have Az:=(eP.get 2 rfl).cell (j:=3) rfl;have oM:=(eP.get 2 rfl).frozen 3;have hV:=((((eP).set 2 rfl 0 (.int .i64 (r).n)).set 2 rfl 1 (.slice none 0 0)).set 2 rfl 2 (.int .i64 (r).d)).set 2 rfl 3 (.slice none 0 0);refine hK.out _ _ ?Jm (fun hHeld=>?_)
      case Jm=>(exact ⟨((eP).ah rfl).cell (j:=0) rfl,((eP).ah rfl).cell (j:=1) rfl,((eP).ah rfl).cell (j:=2) rfl,((eP).ah rfl).cell (j:=3) rfl,((eP).get 1 rfl).cell (j:=0) rfl,((eP).get 1 rfl).cell (j:=1) rfl,((eP).get 1 rfl).cell (j:=2) rfl,((eP).get 1 rfl).cell (j:=3) rfl⟩)
      clear hK K
      try simp only [Act.put,la,lz,ls]
      refine tr 17 fun K hK=>?_;go_simp;refine hK.out _ _ ?Xo (fun hHeld=>?_)
      case Xo=>(exact ⟨((hV).ah rfl).cell (j:=0) rfl,((hV).ah rfl).cell (j:=1) rfl,((hV).ah rfl).cell (j:=2) rfl,((hV).ah rfl).cell (j:=3) rfl,((hV).get 1 rfl).cell (j:=0) rfl,((hV).get 1 rfl).cell (j:=1) rfl,((hV).get 1 rfl).cell (j:=2) rfl,((hV).get 1 rfl).cell (j:=3) rfl⟩)
      clear hK K
      try simp only [Act.put,la,lz,ls]
      refine wpAnyH_done (by kernel_rfl) ?_ _;go_wp2;exact bodyPost_ret (aY (p:=4) (hV.get 2 rfl) Tryz.underlying128 rfl dL rfl _ rfl) rfl ⟨rfl,hV.bw⟩
 · rw [show Nm.add ⟨an,ad⟩ ⟨bn,bd⟩=Nm.make (an*bd+bn*ad) (ad*bd) by unfold Nm.add;rw [if_neg (fun h=>had h.1)]]
   have P0:=oP (a:=an) (b:=bd) ⟨by omega,by omega⟩ ⟨by omega,by omega⟩;have U0:=oP (a:=bn) (b:=ad) ⟨by omega,by omega⟩ ⟨by omega,by omega⟩;have Q0:=oP (a:=ad) (b:=bd) ⟨by omega,by omega⟩ ⟨by omega,by omega⟩;have Q1:=zM a2 b2;have HM:=jL an bd;have HU:=jL bn ad;have HN:=jL ad bd;have HA:=uP (an*bd) (bn*ad);have HK:=uZ (an*bd+bn*ad) (ad*bd);obtain ⟨p,hp⟩:∃ p,an*bd=p:=⟨_,rfl⟩
   simp only [hp] at HM HA HK P0 ⊢
   clear hp;obtain ⟨u,hu⟩:∃ u,bn*ad=u:=⟨_,rfl⟩
   simp only [hu] at HU HA HK U0 ⊢
   clear hu;obtain ⟨q,hq⟩:∃ q,ad*bd=q:=⟨_,rfl⟩
   simp only [hq] at HN HK Q0 Q1 ⊢
   clear hq
   have S0: -2000000000000000000≤p+u∧p+u≤2000000000000000000:=by omega
   obtain ⟨s,hs⟩:∃ s,p+u=s:=⟨_,rfl⟩
   simp only [hs] at HA HK S0 ⊢
   clear hs;obtain ⟨r,hr⟩:∃ r,Nm.make s q=r:=⟨_,rfl⟩
   simp only [hr] at HK ⊢
   clear hr;have HM:=hide HM;have HU:=hide HU;have HN:=hide HN;have HA:=hide HA;have HK:=hide HK
   go_enter Tryz.func122,Tryz.ntmps122
   go_upto_region 0 with (fail)
   go_cut [2,3,4] (fun v2 v3 v4 wx=>v2=ptr w.heap.size∧v3=ptr (w.heap.size+1)∧v4=ptr (w.heap.size+2)∧aS w wx [(aP ⟨an,ad⟩,128),(aP ⟨bn,bd⟩,128),(aP ⟨0,0⟩,128)])
   case first=>
    go_wp2;go_meet;exact ⟨rfl,rfl,rfl,((((aS.nil w).new (by simp) (aP ⟨an,ad⟩) _).new (by simp) (aP ⟨bn,bd⟩) _).new (by simp) (aP ⟨0,0⟩) _)⟩
   case rest=>
    obtain ⟨rfl,rfl,rfl,hB⟩:=hcut
    go_upto_region 3 with (first | (go_at_call 171;refine (rC an ad had _).mono ?_;rintro e Tz ⟨rfl,mW⟩;have hB0:=hB.call (by simp) mW) | (refine aC 128 (.tmp 2) rfl ?_;refine au (hB.ah rfl) Tryz.underlying128 rfl dL rfl (.tmp 2) rfl rfl ?_))
    refine wp_region_held_drew (S:=(fun w':World=>w'.cell? ⟨w.heap.size,0,none⟩=some (.int .i64 ((⟨an,ad⟩:Nm.Fr)).n)∧w'.cell? ⟨w.heap.size,1,none⟩=some (.slice none 0 0)∧w'.cell? ⟨w.heap.size,2,none⟩=some (.int .i64 ((⟨an,ad⟩:Nm.Fr)).d)∧w'.cell? ⟨w.heap.size,3,none⟩=some (.slice none 0 0)∧w'.cell? ⟨w.heap.size+1,0,none⟩=some (.int .i64 ((⟨bn,bd⟩:Nm.Fr)).n)∧w'.cell? ⟨w.heap.size+1,1,none⟩=some (.slice none 0 0)∧w'.cell? ⟨w.heap.size+1,2,none⟩=some (.int .i64 ((⟨bn,bd⟩:Nm.Fr)).d)∧w'.cell? ⟨w.heap.size+1,3,none⟩=some (.slice none 0 0))) (by kernel_rfl) ?kG (fun hHeld=>?_)
    case kG=>exact ⟨((hB0.drew).ah rfl).cell (j:=0) rfl,((hB0.drew).ah rfl).cell (j:=1) rfl,((hB0.drew).ah rfl).cell (j:=2) rfl,((hB0.drew).ah rfl).cell (j:=3) rfl,((hB0.drew).get 1 rfl).cell (j:=0) rfl,((hB0.drew).get 1 rfl).cell (j:=1) rfl,((hB0.drew).get 1 rfl).cell (j:=2) rfl,((hB0.drew).get 1 rfl).cell (j:=3) rfl⟩
    refine tk 0 ?_;refine tk 1 ?_;refine tk 2 ?_;refine tk 3 ?_;refine tk 5 ?_;refine tk 6 ?_;refine tk 7 ?_;refine tk 8 ?_;refine tk 11 ?_;refine tk 12 ?_;refine tk 13 ?_;refine tk 14 ?_;refine tr 4 fun K hK=>?_;go_simp
    (go_at_call 174;refine (HM.out _ (by omega) (by omega) (by omega) (by omega) (by omega) (by omega)).mono ?_;rintro e w1 ⟨rfl,hb1⟩)
    have hB1:=hB0.drew.call (by simp) hb1;refine hK.out _ _ ?ZA (fun hHeld=>?_)
    case ZA=>(exact ⟨((hB1).ah rfl).cell (j:=0) rfl,((hB1).ah rfl).cell (j:=1) rfl,((hB1).ah rfl).cell (j:=2) rfl,((hB1).ah rfl).cell (j:=3) rfl,((hB1).get 1 rfl).cell (j:=0) rfl,((hB1).get 1 rfl).cell (j:=1) rfl,((hB1).get 1 rfl).cell (j:=2) rfl,((hB1).get 1 rfl).cell (j:=3) rfl⟩)
    clear hK K
    try simp only [Act.put,la,lz,ls]
    refine tr 9 fun K hK=>?_;go_simp
    (go_at_call 174;refine (HU.out _ (by omega) (by omega) (by omega) (by omega) (by omega) (by omega)).mono ?_;rintro e w2 ⟨rfl,hb2⟩)
    have hB2:=hB1.call (by simp) hb2;refine hK.out _ _ ?ZC (fun hHeld=>?_)
    case ZC=>(exact ⟨((hB2).ah rfl).cell (j:=0) rfl,((hB2).ah rfl).cell (j:=1) rfl,((hB2).ah rfl).cell (j:=2) rfl,((hB2).ah rfl).cell (j:=3) rfl,((hB2).get 1 rfl).cell (j:=0) rfl,((hB2).get 1 rfl).cell (j:=1) rfl,((hB2).get 1 rfl).cell (j:=2) rfl,((hB2).get 1 rfl).cell (j:=3) rfl⟩)
    clear hK K
    try simp only [Act.put,la,lz,ls]
    refine tr 10 fun K hK=>?_;go_simp
    (go_at_call 172;refine (HA.out _ (by omega) (by omega) (by omega) (by omega) (by omega) (by omega)).mono ?_;rintro e w3 ⟨rfl,hb3⟩)
    have hB3:=hB2.call (by simp) hb3;refine hK.out _ _ ?Xp (fun hHeld=>?_)
    case Xp=>(exact ⟨((hB3).ah rfl).cell (j:=0) rfl,((hB3).ah rfl).cell (j:=1) rfl,((hB3).ah rfl).cell (j:=2) rfl,((hB3).ah rfl).cell (j:=3) rfl,((hB3).get 1 rfl).cell (j:=0) rfl,((hB3).get 1 rfl).cell (j:=1) rfl,((hB3).get 1 rfl).cell (j:=2) rfl,((hB3).get 1 rfl).cell (j:=3) rfl⟩)
    clear hK K
    try simp only [Act.put,la,lz,ls]
    refine tr 15 fun K hK=>?_;go_simp
    (go_at_call 174;refine (HN.out _ (by omega) (by omega) (by omega) (by omega) (by omega) (by omega)).mono ?_;rintro e w4 ⟨rfl,hb4⟩)
    have hB4:=hB3.call (by simp) hb4;refine hK.out _ _ ?Xq (fun hHeld=>?_)
    case Xq=>(exact ⟨((hB4).ah rfl).cell (j:=0) rfl,((hB4).ah rfl).cell (j:=1) rfl,((hB4).ah rfl).cell (j:=2) rfl,((hB4).ah rfl).cell (j:=3) rfl,((hB4).get 1 rfl).cell (j:=0) rfl,((hB4).get 1 rfl).cell (j:=1) rfl,((hB4).get 1 rfl).cell (j:=2) rfl,((hB4).get 1 rfl).cell (j:=3) rfl⟩)
    clear hK K
    try simp only [Act.put,la,lz,ls]
    refine tr 16 fun K hK=>?_;go_simp
    (go_at_call 173;refine (HK.out _ (by omega) (by omega) (by omega) (by omega)).mono ?_;rintro e w5 ⟨rfl,hb5⟩)
    have eP:=hB4.call (by simp) hb5;have zI:=(eP.get 2 rfl).cell (j:=0) rfl;have ou:=(eP.get 2 rfl).frozen 0;have zJ:=(eP.get 2 rfl).cell (j:=1) rfl;have oz:=(eP.get 2 rfl).frozen 1;have Aw:=(eP.get 2 rfl).cell (j:=2) rfl;have oL:=(eP.get 2 rfl).frozen 2;have Az:=(eP.get 2 rfl).cell (j:=3) rfl;have oM:=(eP.get 2 rfl).frozen 3;have hV:=((((eP).set 2 rfl 0 (.int .i64 (r).n)).set 2 rfl 1 (.slice none 0 0)).set 2 rfl 2 (.int .i64 (r).d)).set 2 rfl 3 (.slice none 0 0);refine hK.out _ _ ?Xr (fun hHeld=>?_)
    case Xr=>(exact ⟨((eP).ah rfl).cell (j:=0) rfl,((eP).ah rfl).cell (j:=1) rfl,((eP).ah rfl).cell (j:=2) rfl,((eP).ah rfl).cell (j:=3) rfl,((eP).get 1 rfl).cell (j:=0) rfl,((eP).get 1 rfl).cell (j:=1) rfl,((eP).get 1 rfl).cell (j:=2) rfl,((eP).get 1 rfl).cell (j:=3) rfl⟩)
    clear hK K
    try simp only [Act.put,la,lz,ls]
    refine tr 17 fun K hK=>?_;go_simp;refine hK.out _ _ ?Xt (fun hHeld=>?_)
    case Xt=>(exact ⟨((hV).ah rfl).cell (j:=0) rfl,((hV).ah rfl).cell (j:=1) rfl,((hV).ah rfl).cell (j:=2) rfl,((hV).ah rfl).cell (j:=3) rfl,((hV).get 1 rfl).cell (j:=0) rfl,((hV).get 1 rfl).cell (j:=1) rfl,((hV).get 1 rfl).cell (j:=2) rfl,((hV).get 1 rfl).cell (j:=3) rfl⟩)
    clear hK K
    try simp only [Act.put,la,lz,ls]
    refine wpAnyH_done (by kernel_rfl) ?_ _;go_wp2;exact bodyPost_ret (aY (p:=4) (hV.get 2 rfl) Tryz.underlying128 rfl dL rfl _ rfl) rfl ⟨rfl,hV.bw⟩
theorem zx (a b:Nm.Fr) (w:World) (ha:Nm.ok a=true) (hb:Nm.ok b=true):Calls Tryz.prog 178 #[gJ a,gJ b] w fun e w'=>e= .returned (gJ (Nm.sub a b))∧Below w.heap.size w w':=by
 have hb':Nm.ok (Nm.neg b)=true:=by
  rw [qC] at hb ⊢
  unfold Nm.neg
  dsimp only
  omega
 have HN:=OX b;have HK:=y9 a (Nm.neg b);obtain ⟨⟨b0,b1⟩,b2,b3⟩:=qC.1 hb;rw [show Nm.sub a b=Nm.add a (Nm.neg b) from rfl];obtain ⟨c,hc⟩:∃ c,Nm.neg b=c:=⟨_,rfl⟩;rw [hc] at HN HK hb' ⊢;clear hc;obtain ⟨r,hr⟩:∃ r,Nm.add a c=r:=⟨_,rfl⟩;rw [hr] at HK ⊢;clear hr;have HN:=hide HN;have HK:=hide HK
 go_enter Tryz.func178,Tryz.ntmps178
 go_upto_region 0 with (fail)
 go_cut [2,3,4] (fun v2 v3 v4 wx=>v2=ptr w.heap.size∧v3=ptr (w.heap.size+1)∧v4=ptr (w.heap.size+2)∧aS w wx [(aP a,128),(aP b,128),(aP ⟨0,0⟩,128)])
 case first=>
  go_wp2;go_meet;exact ⟨rfl,rfl,rfl,((((aS.nil w).new (by simp) (aP a) _).new (by simp) (aP b) _).new (by simp) (aP ⟨0,0⟩) _)⟩
 case rest=>
  obtain ⟨rfl,rfl,rfl,hB⟩:=hcut;have uQ:=(hB.ah rfl).cell (j:=0) rfl;have jZ:=(hB.ah rfl).frozen 0;have ka1:=(hB.ah rfl).cell (j:=1) rfl;have ku:=(hB.ah rfl).frozen 1;have NP:=(hB.ah rfl).cell (j:=2) rfl;have yt:=(hB.ah rfl).frozen 2;have NQ:=(hB.ah rfl).cell (j:=3) rfl;have yu:=(hB.ah rfl).frozen 3;have Ew:=(hB.get 1 rfl).cell (j:=0) rfl;have uS:=(hB.get 1 rfl).frozen 0;have LC:=(hB.get 1 rfl).cell (j:=1) rfl;have wF:=(hB.get 1 rfl).frozen 1;have kb2:=(hB.get 1 rfl).cell (j:=2) rfl;have WJ:=(hB.get 1 rfl).frozen 2;have kb3:=(hB.get 1 rfl).cell (j:=3) rfl;have WL:=(hB.get 1 rfl).frozen 3;have hB0:=hB
  go_upto_region 1 with (fail)
  refine wp_region_held_drew (S:=(fun w':World=>w'.cell? ⟨w.heap.size,0,none⟩=some (.int .i64 (a).n)∧w'.cell? ⟨w.heap.size,1,none⟩=some (.slice none 0 0)∧w'.cell? ⟨w.heap.size,2,none⟩=some (.int .i64 (a).d)∧w'.cell? ⟨w.heap.size,3,none⟩=some (.slice none 0 0)∧w'.cell? ⟨w.heap.size+1,0,none⟩=some (.int .i64 (b).n)∧w'.cell? ⟨w.heap.size+1,1,none⟩=some (.slice none 0 0)∧w'.cell? ⟨w.heap.size+1,2,none⟩=some (.int .i64 (b).d)∧w'.cell? ⟨w.heap.size+1,3,none⟩=some (.slice none 0 0))) (by kernel_rfl) ?oH (fun hHeld=>?_)
  case oH=>exact ⟨((hB0.drew).ah rfl).cell (j:=0) rfl,((hB0.drew).ah rfl).cell (j:=1) rfl,((hB0.drew).ah rfl).cell (j:=2) rfl,((hB0.drew).ah rfl).cell (j:=3) rfl,((hB0.drew).get 1 rfl).cell (j:=0) rfl,((hB0.drew).get 1 rfl).cell (j:=1) rfl,((hB0.drew).get 1 rfl).cell (j:=2) rfl,((hB0.drew).get 1 rfl).cell (j:=3) rfl⟩
  refine tk 0 ?_;refine tk 1 ?_;refine tr 2 fun K hK=>?_;go_simp
  (go_at_call 127;refine (HN.out _ (by omega) (by omega)).mono ?_;rintro e w1 ⟨rfl,hb1⟩)
  have hB1:=hB0.drew.call (by simp) hb1;refine hK.out _ _ ?QU (fun hHeld=>?_)
  case QU=>(exact ⟨((hB1).ah rfl).cell (j:=0) rfl,((hB1).ah rfl).cell (j:=1) rfl,((hB1).ah rfl).cell (j:=2) rfl,((hB1).ah rfl).cell (j:=3) rfl,((hB1).get 1 rfl).cell (j:=0) rfl,((hB1).get 1 rfl).cell (j:=1) rfl,((hB1).get 1 rfl).cell (j:=2) rfl,((hB1).get 1 rfl).cell (j:=3) rfl⟩)
  clear hK K
  try simp only [Act.put,la,lz,ls]
  refine tr 3 fun K hK=>?_;go_simp
  (go_at_call 122;refine (HK.out _ ha hb').mono ?_;rintro e w2 ⟨rfl,hb2⟩)
  have hB2:=hB1.call (by simp) hb2;have zI:=(hB2.get 2 rfl).cell (j:=0) rfl;have ou:=(hB2.get 2 rfl).frozen 0;have zJ:=(hB2.get 2 rfl).cell (j:=1) rfl;have oz:=(hB2.get 2 rfl).frozen 1;have Aw:=(hB2.get 2 rfl).cell (j:=2) rfl;have oL:=(hB2.get 2 rfl).frozen 2;have Az:=(hB2.get 2 rfl).cell (j:=3) rfl;have oM:=(hB2.get 2 rfl).frozen 3;have hV:=((((hB2).set 2 rfl 0 (.int .i64 (r).n)).set 2 rfl 1 (.slice none 0 0)).set 2 rfl 2 (.int .i64 (r).d)).set 2 rfl 3 (.slice none 0 0);refine hK.out _ _ ?ZE (fun hHeld=>?_)
  case ZE=>(exact ⟨((hB2).ah rfl).cell (j:=0) rfl,((hB2).ah rfl).cell (j:=1) rfl,((hB2).ah rfl).cell (j:=2) rfl,((hB2).ah rfl).cell (j:=3) rfl,((hB2).get 1 rfl).cell (j:=0) rfl,((hB2).get 1 rfl).cell (j:=1) rfl,((hB2).get 1 rfl).cell (j:=2) rfl,((hB2).get 1 rfl).cell (j:=3) rfl⟩)
  clear hK K
  try simp only [Act.put,la,lz,ls]
  refine tr 4 fun K hK=>?_;go_simp;refine hK.out _ _ ?QV (fun hHeld=>?_)
  case QV=>(exact ⟨((hV).ah rfl).cell (j:=0) rfl,((hV).ah rfl).cell (j:=1) rfl,((hV).ah rfl).cell (j:=2) rfl,((hV).ah rfl).cell (j:=3) rfl,((hV).get 1 rfl).cell (j:=0) rfl,((hV).get 1 rfl).cell (j:=1) rfl,((hV).get 1 rfl).cell (j:=2) rfl,((hV).get 1 rfl).cell (j:=3) rfl⟩)
  clear hK K
  try simp only [Act.put,la,lz,ls]
  refine wpAnyH_done (by kernel_rfl) ?_ _;go_wp2;exact bodyPost_ret (aY (p:=4) (hV.get 2 rfl) Tryz.underlying128 rfl dL rfl _ rfl) rfl ⟨rfl,hV.bw⟩
theorem OV (a b:Nm.Fr) (w:World) (ha:Nm.ok a=true) (hb:Nm.ok b=true) (hp:0<b.n) (hb':Nm.ok (Nm.inv b)=true):Calls Tryz.prog 59 #[gJ a,gJ b] w fun e w'=>e= .returned (gJ (Nm.div a b))∧Below w.heap.size w w':=by
 have HN:=OW b;have HK:=zl a (Nm.inv b);rw [show Nm.div a b=Nm.mul a (Nm.inv b) from rfl];obtain ⟨c,hc⟩:∃ c,Nm.inv b=c:=⟨_,rfl⟩;rw [hc] at HN HK hb' ⊢;clear hc;obtain ⟨r,hr⟩:∃ r,Nm.mul a c=r:=⟨_,rfl⟩;rw [hr] at HK ⊢;clear hr;have HN:=hide HN;have HK:=hide HK
 go_enter Tryz.func59,Tryz.ntmps59
 go_upto_region 0 with (fail)
 go_cut [2,3,4] (fun v2 v3 v4 wx=>v2=ptr w.heap.size∧v3=ptr (w.heap.size+1)∧v4=ptr (w.heap.size+2)∧aS w wx [(aP a,128),(aP b,128),(aP ⟨0,0⟩,128)])
 case first=>
  go_wp2;go_meet;exact ⟨rfl,rfl,rfl,((((aS.nil w).new (by simp) (aP a) _).new (by simp) (aP b) _).new (by simp) (aP ⟨0,0⟩) _)⟩
 case rest=>
  obtain ⟨rfl,rfl,rfl,hB⟩:=hcut;have uQ:=(hB.ah rfl).cell (j:=0) rfl;have jZ:=(hB.ah rfl).frozen 0;have ka1:=(hB.ah rfl).cell (j:=1) rfl;have ku:=(hB.ah rfl).frozen 1;have NP:=(hB.ah rfl).cell (j:=2) rfl;have yt:=(hB.ah rfl).frozen 2;have NQ:=(hB.ah rfl).cell (j:=3) rfl;have yu:=(hB.ah rfl).frozen 3;have Ew:=(hB.get 1 rfl).cell (j:=0) rfl;have uS:=(hB.get 1 rfl).frozen 0;have LC:=(hB.get 1 rfl).cell (j:=1) rfl;have wF:=(hB.get 1 rfl).frozen 1;have kb2:=(hB.get 1 rfl).cell (j:=2) rfl;have WJ:=(hB.get 1 rfl).frozen 2;have kb3:=(hB.get 1 rfl).cell (j:=3) rfl;have WL:=(hB.get 1 rfl).frozen 3;have hB0:=hB
  go_upto_region 1 with (fail)
  refine wp_region_held_drew (S:=(fun w':World=>w'.cell? ⟨w.heap.size,0,none⟩=some (.int .i64 (a).n)∧w'.cell? ⟨w.heap.size,1,none⟩=some (.slice none 0 0)∧w'.cell? ⟨w.heap.size,2,none⟩=some (.int .i64 (a).d)∧w'.cell? ⟨w.heap.size,3,none⟩=some (.slice none 0 0)∧w'.cell? ⟨w.heap.size+1,0,none⟩=some (.int .i64 (b).n)∧w'.cell? ⟨w.heap.size+1,1,none⟩=some (.slice none 0 0)∧w'.cell? ⟨w.heap.size+1,2,none⟩=some (.int .i64 (b).d)∧w'.cell? ⟨w.heap.size+1,3,none⟩=some (.slice none 0 0))) (by kernel_rfl) ?jv (fun hHeld=>?_)
  case jv=>exact ⟨((hB0.drew).ah rfl).cell (j:=0) rfl,((hB0.drew).ah rfl).cell (j:=1) rfl,((hB0.drew).ah rfl).cell (j:=2) rfl,((hB0.drew).ah rfl).cell (j:=3) rfl,((hB0.drew).get 1 rfl).cell (j:=0) rfl,((hB0.drew).get 1 rfl).cell (j:=1) rfl,((hB0.drew).get 1 rfl).cell (j:=2) rfl,((hB0.drew).get 1 rfl).cell (j:=3) rfl⟩
  refine tk 0 ?_;refine tk 1 ?_;refine tr 2 fun K hK=>?_;go_simp
  (go_at_call 126;refine (HN.out _ hb hp).mono ?_;rintro e w1 ⟨rfl,hb1⟩)
  have hB1:=hB0.drew.call (by simp) hb1;refine hK.out _ _ ?ZI (fun hHeld=>?_)
  case ZI=>(exact ⟨((hB1).ah rfl).cell (j:=0) rfl,((hB1).ah rfl).cell (j:=1) rfl,((hB1).ah rfl).cell (j:=2) rfl,((hB1).ah rfl).cell (j:=3) rfl,((hB1).get 1 rfl).cell (j:=0) rfl,((hB1).get 1 rfl).cell (j:=1) rfl,((hB1).get 1 rfl).cell (j:=2) rfl,((hB1).get 1 rfl).cell (j:=3) rfl⟩)
  clear hK K
  try simp only [Act.put,la,lz,ls]
  refine tr 3 fun K hK=>?_;go_simp
  (go_at_call 125;refine (HK.out _ ha hb').mono ?_;rintro e w2 ⟨rfl,hb2⟩)
  have hB2:=hB1.call (by simp) hb2;have zI:=(hB2.get 2 rfl).cell (j:=0) rfl;have ou:=(hB2.get 2 rfl).frozen 0;have zJ:=(hB2.get 2 rfl).cell (j:=1) rfl;have oz:=(hB2.get 2 rfl).frozen 1;have Aw:=(hB2.get 2 rfl).cell (j:=2) rfl;have oL:=(hB2.get 2 rfl).frozen 2;have Az:=(hB2.get 2 rfl).cell (j:=3) rfl;have oM:=(hB2.get 2 rfl).frozen 3;have hV:=((((hB2).set 2 rfl 0 (.int .i64 (r).n)).set 2 rfl 1 (.slice none 0 0)).set 2 rfl 2 (.int .i64 (r).d)).set 2 rfl 3 (.slice none 0 0);refine hK.out _ _ ?Q8 (fun hHeld=>?_)
  case Q8=>(exact ⟨((hB2).ah rfl).cell (j:=0) rfl,((hB2).ah rfl).cell (j:=1) rfl,((hB2).ah rfl).cell (j:=2) rfl,((hB2).ah rfl).cell (j:=3) rfl,((hB2).get 1 rfl).cell (j:=0) rfl,((hB2).get 1 rfl).cell (j:=1) rfl,((hB2).get 1 rfl).cell (j:=2) rfl,((hB2).get 1 rfl).cell (j:=3) rfl⟩)
  clear hK K
  try simp only [Act.put,la,lz,ls]
  refine tr 4 fun K hK=>?_;go_simp;refine hK.out _ _ ?GK (fun hHeld=>?_)
  case GK=>(exact ⟨((hV).ah rfl).cell (j:=0) rfl,((hV).ah rfl).cell (j:=1) rfl,((hV).ah rfl).cell (j:=2) rfl,((hV).ah rfl).cell (j:=3) rfl,((hV).get 1 rfl).cell (j:=0) rfl,((hV).get 1 rfl).cell (j:=1) rfl,((hV).get 1 rfl).cell (j:=2) rfl,((hV).get 1 rfl).cell (j:=3) rfl⟩)
  clear hK K
  try simp only [Act.put,la,lz,ls]
  refine wpAnyH_done (by kernel_rfl) ?_ _;go_wp2;exact bodyPost_ret (aY (p:=4) (hV.get 2 rfl) Tryz.underlying128 rfl dL rfl _ rfl) rfl ⟨rfl,hV.bw⟩
end Go.Proofs.YtcjglfbpjkdgiaaGreatDoor
