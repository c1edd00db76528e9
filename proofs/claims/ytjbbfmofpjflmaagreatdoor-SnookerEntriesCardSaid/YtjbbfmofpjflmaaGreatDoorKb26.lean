/- Parts of a proof. -/
import Derived.Lib.BufferMore
import Derived.WalkSpells
import Derived.Test.YtjbbfmofpjflmaaGreatDoorKb10
set_option maxHeartbeats 800000
set_option maxRecDepth 100000
set_option linter.unusedVariables false
set_option linter.unusedSimpArgs false
namespace Go.Proofs.YtjbbfmofpjflmaaGreatDoor
open Go.RowKit
@[reducible] def nP (a:Int):Value:= .agg #[.int .i64 a,.slice none 0 0]
@[reducible] def fQ (a:Nm.Fr):Value:= .agg #[.int .i64 a.n,.slice none 0 0,.int .i64 a.d,.slice none 0 0]
def aQ (a:Int):List Value:=[.int .i64 a,.slice none 0 0]
def aj (a:Nm.Fr):List Value:=[.int .i64 a.n,.slice none 0 0,.int .i64 a.d,.slice none 0 0]
theorem rW (a:Int):∀ v∈aQ a,v.oneCell'=true:=by simp [aQ,Value.oneCell']
theorem fK (a:Nm.Fr):∀ v∈aj a,v.oneCell'=true:=by simp [aj,Value.oneCell']
theorem bV:(Tryz.prog.info? 162).map (·.size)=some 2:=by kernel_rfl
theorem aZ:(Tryz.prog.info? 164).map (·.size)=some 4:=by kernel_rfl
theorem uJ:∀ w,(binOp .eql 160 (.slice none 0 0) (.slice none 0 0)).run Tryz.prog w= .ok (.bool true) w:=fun w=>Lib.run_eql_slice_nil_nil w 0 0 Tryz.underlying160
theorem RP:∀ w,(binOp .neq 160 (.slice none 0 0) (.slice none 0 0)).run Tryz.prog w= .ok (.bool false) w:=fun w=>run_neq_slice_nil_any w _ _ none 0 0 0 0 Tryz.underlying160
theorem size_any (n:Int) (w:World) (h0: -9223372036854775807≤n) (h1:n≤9223372036854775807):
 Calls Tryz.prog 230 #[.int .i64 n] w fun e w'=>e= .returned (.int .u64 (n.natAbs:Int))∧w'=w:=by
 by_cases hn:n<0
 · go_enter Tryz.func230,Tryz.ntmps230
   go_wp2;go_ret;exact ⟨bf (by omega),rfl⟩
 · go_enter Tryz.func230,Tryz.ntmps230
   go_wp2;go_ret;exact ⟨bf (by omega),rfl⟩
theorem tX (n:Int) (w:World):Calls Tryz.prog 190 #[.int .i64 n] w fun e w'=>e= .returned (nP n)∧Below w.heap.size w w':=by
 go_enter Tryz.func190,Tryz.ntmps190
 go_wp2;exact bodyPost_ret (aX (p:=2) (((aJ.nil w).new (by simp) (aQ n) _).get 0 rfl) Tryz.underlying162 rfl bV rfl _ rfl) rfl ⟨rfl,((aJ.nil w).new (by simp) (aQ n) _).bw⟩
theorem AZ (a:Int) (w:World):Calls Tryz.prog 191 #[nP a] w fun e w'=>e= .returned (.int .i64 (Nm.og a))∧Below w.heap.size w w':=by
 go_enter Tryz.func191,Tryz.ntmps191
 go_wp2
 all_goals
  go_ret;exact ⟨bf (by unfold Nm.og;split <;> (try split) <;> omega),((aJ.nil w).new (by simp) (aQ a) _).bw⟩
theorem KD (a:Int) (w:World) (h0: -9223372036854775807≤a) (h1:a≤9223372036854775807):
 Calls Tryz.prog 199 #[nP a] w fun e w'=>e= .returned (nP (-a))∧Below w.heap.size w w':=by
 have hn:=uJ
 have hne:(a != -9223372036854775808)=true:=by rw [bne_iff_ne];omega
 go_enter Tryz.func199,Tryz.ntmps199
 go_wp2;exact bodyPost_ret (aX (p:=2) ((((aJ.nil w).new (by simp) (aQ a) _).new (by simp) (aQ (-a)) _).get 1 rfl) Tryz.underlying162 rfl bV rfl _ rfl) rfl ⟨rfl,(((aJ.nil w).new (by simp) (aQ a) _).new (by simp) (aQ (-a)) _).bw⟩
theorem uM (a:Int) (w:World) (h0: -9223372036854775807≤a) (h1:a≤9223372036854775807):
 Calls Tryz.prog 221 #[nP a] w fun e w'=>e= .returned (nP a.natAbs)∧Below w.heap.size w w':=by
 by_cases ha:a<0
 · obtain ⟨z,hz⟩:∃ z:Int,z=(a.natAbs:Int):=⟨_,rfl⟩
   have hz2: -a=z:=by omega
   rw [← hz];clear hz
   go_enter Tryz.func221,Tryz.ntmps221
   go_upto_region 0 with (fail)
   go_cut [1,2] (fun v1 v2 wx=>v1=ptr w.heap.size∧v2=ptr (w.heap.size+1)∧aJ w wx [(aQ a,162),(aQ 0,162)])
   case first=>
    go_wp2;go_meet;exact ⟨rfl,rfl,(((aJ.nil w).new (by simp) (aQ a) _).new (by simp) (aQ 0) _)⟩
   case rest=>
    obtain ⟨rfl,rfl,hB⟩:=hcut;have k0:=(hB.aA rfl).cell (j:=0) rfl;have Xz:=(hB.aA rfl).frozen 0;have k1:=(hB.aA rfl).cell (j:=1) rfl;have VI:=(hB.aA rfl).frozen 1
    go_wp2_with (first | (go_at_call 199;refine (KD a _ h0 h1).mono ?_;rw [hz2];rintro e w1 ⟨rfl,hb1⟩;have hD:=hB.call (by simp) hb1) | (refine ah 162 (.tmp 1) rfl ?_;refine au (hB.aA rfl) Tryz.underlying162 rfl bV rfl (.tmp 1) rfl rfl ?_) | (refine aH 162 (.tmp 2) (.tmp 7) rfl ?_;refine aC (hD.get 1 rfl) (aQ z) rfl bV (rW _) rfl (.tmp 2) (.tmp 7) rfl rfl rfl ?_))
    have hZ:=hD.put 1 rfl (aQ z) rfl;exact bodyPost_ret (aX (p:=2) (hZ.get 1 rfl) Tryz.underlying162 rfl bV rfl _ rfl) rfl ⟨rfl,hZ.bw⟩
 · have e:(a.natAbs:Int)=a:=by omega
   rw [e]
   go_enter Tryz.func221,Tryz.ntmps221
   go_wp2;exact bodyPost_ret (aX (p:=2) ((((aJ.nil w).new (by simp) (aQ a) _).new (by simp) (aQ a) _).get 1 rfl) Tryz.underlying162 rfl bV rfl _ rfl) rfl ⟨rfl,(((aJ.nil w).new (by simp) (aQ a) _).new (by simp) (aQ a) _).bw⟩
theorem OY (a b:Int) (w:World):Calls Tryz.prog 189 #[nP a,nP b] w fun e w'=>e= .returned (.int .i64 (Nm.NS a b))∧Below w.heap.size w w':=by
 have hn:=uJ
 go_enter Tryz.func189,Tryz.ntmps189
 go_wp2
 all_goals
  go_ret;exact ⟨bf (by unfold Nm.NS;split <;> (try split) <;> omega),(((aJ.nil w).new (by simp) (aQ a) _).new (by simp) (aQ b) _).bw⟩
theorem wY (a b:Int) (w:World) (h0: -9223372036854775807≤a) (h1:a≤9223372036854775807) (g0: -9223372036854775807≤b) (g1:b≤9223372036854775807) (k0: -9223372036854775807≤a+b) (k1:a+b≤9223372036854775807):
 Calls Tryz.prog 198 #[nP a,nP b] w fun e w'=>e= .returned (nP (a+b))∧Below w.heap.size w w':=by
 have hn:=uJ
 have hc:decide (a+b > a)=decide (b > 0):=by rw [Bool.eq_iff_iff,decide_eq_true_eq,decide_eq_true_eq];omega
 go_enter Tryz.func198,Tryz.ntmps198
 go_wp2;exact bodyPost_ret (aX (p:=4) (((((aJ.nil w).new (by simp) (aQ a) _).new (by simp) (aQ b) _).new (by simp) (aQ (a+b)) _).get 2 rfl) Tryz.underlying162 rfl bV rfl _ rfl) rfl ⟨rfl,((((aJ.nil w).new (by simp) (aQ a) _).new (by simp) (aQ b) _).new (by simp) (aQ (a+b)) _).bw⟩
theorem yV (a:Nm.Fr) (w:World):Calls Tryz.prog 166 #[fQ a] w fun e w'=>e= .returned (.bool (decide (a.d=1)))∧Below w.heap.size w w':=by
 have hn:=uJ;obtain ⟨n,d⟩:=a
 by_cases hd:d=1
 · subst hd
   go_enter Tryz.func166,Tryz.ntmps166
   go_wp2;go_ret;exact ⟨aN (by simp),((aJ.nil w).new (by simp) (aj ⟨n,1⟩) _).bw⟩
 · have hd':(d == 1)=false:=by simp [hd]
   go_enter Tryz.func166,Tryz.ntmps166
   go_wp2;go_ret;exact ⟨aN (by simp [hd]),((aJ.nil w).new (by simp) (aj ⟨n,d⟩) _).bw⟩
end Go.Proofs.YtjbbfmofpjflmaaGreatDoor
