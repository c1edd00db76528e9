/- Parts of a proof. -/
import Derived.Lib.BufferMore
import Derived.WalkSpells
import Derived.Test.YtcjglfbpjkdgiaaGreatDoorKk11
set_option maxHeartbeats 800000
set_option maxRecDepth 100000
set_option linter.unusedVariables false
set_option linter.unusedSimpArgs false
namespace Go.Proofs.YtcjglfbpjkdgiaaGreatDoor
open Go.RowKit
@[reducible] def pR (a:Int):Value:= .agg #[.int .i64 a,.slice none 0 0]
@[reducible] def iI (a:Nm.Fr):Value:= .agg #[.int .i64 a.n,.slice none 0 0,.int .i64 a.d,.slice none 0 0]
def aK (a:Int):List Value:=[.int .i64 a,.slice none 0 0]
def aU (a:Nm.Fr):List Value:=[.int .i64 a.n,.slice none 0 0,.int .i64 a.d,.slice none 0 0]
theorem tH (a:Int):∀ v∈aK a,v.oneCell'=true:=by simp [aK,Value.oneCell']
theorem uG (a:Nm.Fr):∀ v∈aU a,v.oneCell'=true:=by simp [aU,Value.oneCell']
theorem bJ:(Tryz.prog.info? 126).map (·.size)=some 2:=by kernel_rfl
theorem dP:(Tryz.prog.info? 128).map (·.size)=some 4:=by kernel_rfl
theorem wX:∀ w,(binOp .eql 124 (.slice none 0 0) (.slice none 0 0)).run Tryz.prog w= .ok (.bool true) w:=fun w=>Lib.run_eql_slice_nil_nil w 0 0 Tryz.underlying124
theorem WX:∀ w,(binOp .neq 124 (.slice none 0 0) (.slice none 0 0)).run Tryz.prog w= .ok (.bool false) w:=fun w=>run_neq_slice_nil_any w _ _ none 0 0 0 0 Tryz.underlying124
theorem size_any (n:Int) (w:World) (h0: -9223372036854775807≤n) (h1:n≤9223372036854775807):
 Calls Tryz.prog 216 #[.int .i64 n] w fun e w'=>e= .returned (.int .u64 (n.natAbs:Int))∧w'=w:=by
 by_cases hn:n<0
 · go_enter Tryz.func216,Tryz.ntmps216
   go_wp2;go_ret;exact ⟨dw (by omega),rfl⟩
 · go_enter Tryz.func216,Tryz.ntmps216
   go_wp2;go_ret;exact ⟨dw (by omega),rfl⟩
theorem uN (n:Int) (w:World):Calls Tryz.prog 124 #[.int .i64 n] w fun e w'=>e= .returned (pR n)∧Below w.heap.size w w':=by
 go_enter Tryz.func124,Tryz.ntmps124
 go_wp2;exact bodyPost_ret (bf (p:=2) (((aX.nil w).new (by simp) (aK n) _).get 0 rfl) Tryz.underlying126 rfl bJ rfl _ rfl) rfl ⟨rfl,((aX.nil w).new (by simp) (aK n) _).bw⟩
theorem DJ (a:Int) (w:World):Calls Tryz.prog 179 #[pR a] w fun e w'=>e= .returned (.int .i64 (Nm.Zp a))∧Below w.heap.size w w':=by
 go_enter Tryz.func179,Tryz.ntmps179
 go_wp2
 all_goals
  go_ret;exact ⟨dw (by unfold Nm.Zp;split <;> (try split) <;> omega),((aX.nil w).new (by simp) (aK a) _).bw⟩
theorem OW (a:Int) (w:World) (h0: -9223372036854775807≤a) (h1:a≤9223372036854775807):
 Calls Tryz.prog 175 #[pR a] w fun e w'=>e= .returned (pR (-a))∧Below w.heap.size w w':=by
 have hn:=wX
 have hne:(a != -9223372036854775808)=true:=by rw [bne_iff_ne];omega
 go_enter Tryz.func175,Tryz.ntmps175
 go_wp2;exact bodyPost_ret (bf (p:=2) ((((aX.nil w).new (by simp) (aK a) _).new (by simp) (aK (-a)) _).get 1 rfl) Tryz.underlying126 rfl bJ rfl _ rfl) rfl ⟨rfl,(((aX.nil w).new (by simp) (aK a) _).new (by simp) (aK (-a)) _).bw⟩
theorem uX (a:Int) (w:World) (h0: -9223372036854775807≤a) (h1:a≤9223372036854775807):
 Calls Tryz.prog 240 #[pR a] w fun e w'=>e= .returned (pR a.natAbs)∧Below w.heap.size w w':=by
 by_cases ha:a<0
 · obtain ⟨z,hz⟩:∃ z:Int,z=(a.natAbs:Int):=⟨_,rfl⟩
   have hz2: -a=z:=by omega
   rw [← hz];clear hz
   go_enter Tryz.func240,Tryz.ntmps240
   go_upto_region 0 with (fail)
   go_cut [1,2] (fun v1 v2 wx=>v1=ptr w.heap.size∧v2=ptr (w.heap.size+1)∧aX w wx [(aK a,126),(aK 0,126)])
   case first=>
    go_wp2;go_meet;exact ⟨rfl,rfl,(((aX.nil w).new (by simp) (aK a) _).new (by simp) (aK 0) _)⟩
   case rest=>
    obtain ⟨rfl,rfl,hB⟩:=hcut;have k0:=(hB.ah rfl).cell (j:=0) rfl;have EK:=(hB.ah rfl).frozen 0;have k1:=(hB.ah rfl).cell (j:=1) rfl;have Lm:=(hB.ah rfl).frozen 1
    go_wp2_with (first | (go_at_call 175;refine (OW a _ h0 h1).mono ?_;rw [hz2];rintro e w1 ⟨rfl,hb1⟩;have hD:=hB.call (by simp) hb1) | (refine aB 126 (.tmp 1) rfl ?_;refine ak (hB.ah rfl) Tryz.underlying126 rfl bJ rfl (.tmp 1) rfl rfl ?_) | (refine aO 126 (.tmp 2) (.tmp 7) rfl ?_;refine aF (hD.get 1 rfl) (aK z) rfl bJ (tH _) rfl (.tmp 2) (.tmp 7) rfl rfl rfl ?_))
    have hZ:=hD.put 1 rfl (aK z) rfl;exact bodyPost_ret (bf (p:=2) (hZ.get 1 rfl) Tryz.underlying126 rfl bJ rfl _ rfl) rfl ⟨rfl,hZ.bw⟩
 · have e:(a.natAbs:Int)=a:=by omega
   rw [e]
   go_enter Tryz.func240,Tryz.ntmps240
   go_wp2;exact bodyPost_ret (bf (p:=2) ((((aX.nil w).new (by simp) (aK a) _).new (by simp) (aK a) _).get 1 rfl) Tryz.underlying126 rfl bJ rfl _ rfl) rfl ⟨rfl,(((aX.nil w).new (by simp) (aK a) _).new (by simp) (aK a) _).bw⟩
theorem xH (a b:Int) (w:World) (h0: -9223372036854775807≤a) (h1:a≤9223372036854775807) (g0: -9223372036854775807≤b) (g1:b≤9223372036854775807) (k0: -9223372036854775807≤a+b) (k1:a+b≤9223372036854775807):
 Calls Tryz.prog 172 #[pR a,pR b] w fun e w'=>e= .returned (pR (a+b))∧Below w.heap.size w w':=by
 have hn:=wX
 have hc:decide (a+b > a)=decide (b > 0):=by rw [Bool.eq_iff_iff,decide_eq_true_eq,decide_eq_true_eq];omega
 go_enter Tryz.func172,Tryz.ntmps172
 go_wp2;exact bodyPost_ret (bf (p:=4) (((((aX.nil w).new (by simp) (aK a) _).new (by simp) (aK b) _).new (by simp) (aK (a+b)) _).get 2 rfl) Tryz.underlying126 rfl bJ rfl _ rfl) rfl ⟨rfl,((((aX.nil w).new (by simp) (aK a) _).new (by simp) (aK b) _).new (by simp) (aK (a+b)) _).bw⟩
theorem zN (a:Nm.Fr) (w:World):Calls Tryz.prog 171 #[iI a] w fun e w'=>e= .returned (.bool (decide (a.d=1)))∧Below w.heap.size w w':=by
 have hn:=wX;obtain ⟨n,d⟩:=a
 by_cases hd:d=1
 · subst hd
   go_enter Tryz.func171,Tryz.ntmps171
   go_wp2;go_ret;exact ⟨dD (by simp),((aX.nil w).new (by simp) (aU ⟨n,1⟩) _).bw⟩
 · have hd':(d == 1)=false:=by simp [hd]
   go_enter Tryz.func171,Tryz.ntmps171
   go_wp2;go_ret;exact ⟨dD (by simp [hd]),((aX.nil w).new (by simp) (aU ⟨n,d⟩) _).bw⟩
end Go.Proofs.YtcjglfbpjkdgiaaGreatDoor
