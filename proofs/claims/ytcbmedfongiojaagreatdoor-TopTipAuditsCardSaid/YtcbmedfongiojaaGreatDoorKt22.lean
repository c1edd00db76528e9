/- Parts of a proof. -/
import Derived.Lib.BufferMore
import Derived.WalkSpells
import Derived.Test.YtcbmedfongiojaaGreatDoorKt10
set_option maxHeartbeats 800000
set_option maxRecDepth 100000
set_option linter.unusedVariables false
set_option linter.unusedSimpArgs false
namespace Go.Proofs.YtcbmedfongiojaaGreatDoor
open Go.RowKit
@[reducible] def nK (a:Int):Value:= .agg #[.int .i64 a,.slice none 0 0]
@[reducible] def fD (a:Nm.Fr):Value:= .agg #[.int .i64 a.n,.slice none 0 0,.int .i64 a.d,.slice none 0 0]
def aH (a:Int):List Value:=[.int .i64 a,.slice none 0 0]
def ah (a:Nm.Fr):List Value:=[.int .i64 a.n,.slice none 0 0,.int .i64 a.d,.slice none 0 0]
theorem qO (a:Int):∀ v∈aH a,v.oneCell'=true:=by simp [aH,Value.oneCell']
theorem fE (a:Nm.Fr):∀ v∈ah a,v.oneCell'=true:=by simp [ah,Value.oneCell']
theorem bK:(Tryz.prog.info? 107).map (·.size)=some 2:=by kernel_rfl
theorem aU:(Tryz.prog.info? 109).map (·.size)=some 4:=by kernel_rfl
theorem sG:∀ w,(binOp .eql 105 (.slice none 0 0) (.slice none 0 0)).run Tryz.prog w= .ok (.bool true) w:=fun w=>Lib.run_eql_slice_nil_nil w 0 0 Tryz.underlying105
theorem SL:∀ w,(binOp .neq 105 (.slice none 0 0) (.slice none 0 0)).run Tryz.prog w= .ok (.bool false) w:=fun w=>run_neq_slice_nil_any w _ _ none 0 0 0 0 Tryz.underlying105
theorem size_any (n:Int) (w:World) (h0: -9223372036854775807≤n) (h1:n≤9223372036854775807):
 Calls Tryz.prog 209 #[.int .i64 n] w fun e w'=>e= .returned (.int .u64 (n.natAbs:Int))∧w'=w:=by
 by_cases hn:n<0
 · go_enter Tryz.func209,Tryz.ntmps209
   go_wp2;go_ret;exact ⟨bG (by omega),rfl⟩
 · go_enter Tryz.func209,Tryz.ntmps209
   go_wp2;go_ret;exact ⟨bG (by omega),rfl⟩
theorem rO (n:Int) (w:World):Calls Tryz.prog 162 #[.int .i64 n] w fun e w'=>e= .returned (nK n)∧Below w.heap.size w w':=by
 go_enter Tryz.func162,Tryz.ntmps162
 go_wp2;exact bodyPost_ret (aP (p:=2) (((aC.nil w).new (by simp) (aH n) _).get 0 rfl) Tryz.underlying107 rfl bK rfl _ rfl) rfl ⟨rfl,((aC.nil w).new (by simp) (aH n) _).bw⟩
theorem AA (a:Int) (w:World):Calls Tryz.prog 150 #[nK a] w fun e w'=>e= .returned (.int .i64 (Nm.nC a))∧Below w.heap.size w w':=by
 go_enter Tryz.func150,Tryz.ntmps150
 go_wp2
 all_goals
  go_ret;exact ⟨bG (by unfold Nm.nC;split <;> (try split) <;> omega),((aC.nil w).new (by simp) (aH a) _).bw⟩
theorem Kz (a:Int) (w:World) (h0: -9223372036854775807≤a) (h1:a≤9223372036854775807):
 Calls Tryz.prog 168 #[nK a] w fun e w'=>e= .returned (nK (-a))∧Below w.heap.size w w':=by
 have hn:=sG
 have hne:(a != -9223372036854775808)=true:=by rw [bne_iff_ne];omega
 go_enter Tryz.func168,Tryz.ntmps168
 go_wp2;exact bodyPost_ret (aP (p:=2) ((((aC.nil w).new (by simp) (aH a) _).new (by simp) (aH (-a)) _).get 1 rfl) Tryz.underlying107 rfl bK rfl _ rfl) rfl ⟨rfl,(((aC.nil w).new (by simp) (aH a) _).new (by simp) (aH (-a)) _).bw⟩
theorem sJ (a:Int) (w:World) (h0: -9223372036854775807≤a) (h1:a≤9223372036854775807):
 Calls Tryz.prog 213 #[nK a] w fun e w'=>e= .returned (nK a.natAbs)∧Below w.heap.size w w':=by
 by_cases ha:a<0
 · obtain ⟨z,hz⟩:∃ z:Int,z=(a.natAbs:Int):=⟨_,rfl⟩
   have hz2: -a=z:=by omega
   rw [← hz];clear hz
   go_enter Tryz.func213,Tryz.ntmps213
   go_upto_region 0 with (fail)
   go_cut [1,2] (fun v1 v2 wx=>v1=ptr w.heap.size∧v2=ptr (w.heap.size+1)∧aC w wx [(aH a,107),(aH 0,107)])
   case first=>
    go_wp2;go_meet;exact ⟨rfl,rfl,(((aC.nil w).new (by simp) (aH a) _).new (by simp) (aH 0) _)⟩
   case rest=>
    obtain ⟨rfl,rfl,hB⟩:=hcut;have k0:=(hB.aj rfl).cell (j:=0) rfl;have XL:=(hB.aj rfl).frozen 0;have k1:=(hB.aj rfl).cell (j:=1) rfl;have XM:=(hB.aj rfl).frozen 1
    go_wp2_with (first | (go_at_call 168;refine (Kz a _ h0 h1).mono ?_;rw [hz2];rintro e w1 ⟨rfl,hb1⟩;have hD:=hB.call (by simp) hb1) | (refine dA 107 (.tmp 1) rfl ?_;refine cO (hB.aj rfl) Tryz.underlying107 rfl bK rfl (.tmp 1) rfl rfl ?_) | (refine fO 107 (.tmp 2) (.tmp 7) rfl ?_;refine dP (hD.get 1 rfl) (aH z) rfl bK (qO _) rfl (.tmp 2) (.tmp 7) rfl rfl rfl ?_))
    have hZ:=hD.put 1 rfl (aH z) rfl;exact bodyPost_ret (aP (p:=2) (hZ.get 1 rfl) Tryz.underlying107 rfl bK rfl _ rfl) rfl ⟨rfl,hZ.bw⟩
 · have e:(a.natAbs:Int)=a:=by omega
   rw [e]
   go_enter Tryz.func213,Tryz.ntmps213
   go_wp2;exact bodyPost_ret (aP (p:=2) ((((aC.nil w).new (by simp) (aH a) _).new (by simp) (aH a) _).get 1 rfl) Tryz.underlying107 rfl bK rfl _ rfl) rfl ⟨rfl,(((aC.nil w).new (by simp) (aH a) _).new (by simp) (aH a) _).bw⟩
theorem O9 (a b:Int) (w:World):Calls Tryz.prog 161 #[nK a,nK b] w fun e w'=>e= .returned (.int .i64 (Nm.N9 a b))∧Below w.heap.size w w':=by
 have hn:=sG
 go_enter Tryz.func161,Tryz.ntmps161
 go_wp2
 all_goals
  go_ret;exact ⟨bG (by unfold Nm.N9;split <;> (try split) <;> omega),(((aC.nil w).new (by simp) (aH a) _).new (by simp) (aH b) _).bw⟩
theorem vG (a b:Int) (w:World) (h0: -9223372036854775807≤a) (h1:a≤9223372036854775807) (g0: -9223372036854775807≤b) (g1:b≤9223372036854775807) (k0: -9223372036854775807≤a+b) (k1:a+b≤9223372036854775807):
 Calls Tryz.prog 153 #[nK a,nK b] w fun e w'=>e= .returned (nK (a+b))∧Below w.heap.size w w':=by
 have hn:=sG
 have hc:decide (a+b > a)=decide (b > 0):=by rw [Bool.eq_iff_iff,decide_eq_true_eq,decide_eq_true_eq];omega
 go_enter Tryz.func153,Tryz.ntmps153
 go_wp2;exact bodyPost_ret (aP (p:=4) (((((aC.nil w).new (by simp) (aH a) _).new (by simp) (aH b) _).new (by simp) (aH (a+b)) _).get 2 rfl) Tryz.underlying107 rfl bK rfl _ rfl) rfl ⟨rfl,((((aC.nil w).new (by simp) (aH a) _).new (by simp) (aH b) _).new (by simp) (aH (a+b)) _).bw⟩
theorem x9 (a:Nm.Fr) (w:World):Calls Tryz.prog 106 #[fD a] w fun e w'=>e= .returned (.bool (decide (a.d=1)))∧Below w.heap.size w w':=by
 have hn:=sG;obtain ⟨n,d⟩:=a
 by_cases hd:d=1
 · subst hd
   go_enter Tryz.func106,Tryz.ntmps106
   go_wp2;go_ret;exact ⟨aI (by simp),((aC.nil w).new (by simp) (ah ⟨n,1⟩) _).bw⟩
 · have hd':(d == 1)=false:=by simp [hd]
   go_enter Tryz.func106,Tryz.ntmps106
   go_wp2;go_ret;exact ⟨aI (by simp [hd]),((aC.nil w).new (by simp) (ah ⟨n,d⟩) _).bw⟩
end Go.Proofs.YtcbmedfongiojaaGreatDoor
