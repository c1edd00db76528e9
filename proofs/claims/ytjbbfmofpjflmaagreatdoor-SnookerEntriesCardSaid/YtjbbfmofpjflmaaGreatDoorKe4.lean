/- Parts of a proof. -/
import Derived.Test.YtjbbfmofpjflmaaGreatDoorKb21
import Derived.Test.YtjbbfmofpjflmaaGreatDoorKe1
import Derived.Test.YtjbbfmofpjflmaaGreatDoorKe2
set_option maxHeartbeats 1600000
set_option maxRecDepth 100000
set_option linter.unusedVariables false
set_option linter.unusedSimpArgs false
namespace Go.Proofs.YtjbbfmofpjflmaaGreatDoor
open Go.RowKit
theorem acP (S:Nat→Prop) (g:Sk.Game) (e:En) (w:World) (he:iW w S e):Calls Tryz.prog 53 #[lZ g,wF e] w fun e_ w'=>e_= .returned (.int .i64 (Sk.wL g e.x))∧Below w.heap.size w w':=by
 go_enter Tryz.func53,Tryz.ntmps53
 go_upto_region 0 with (fail)
 go_cut [2,3,4] (fun v2 v3 v4 wx=>v2=ptr w.heap.size∧v3=ptr (w.heap.size+1)∧v4= .int .i64 0∧aJ w wx [(bT g,23),(dU e,83)])
 case first=>
  go_wp2;go_meet;exact ⟨rfl,rfl,rfl,(((aJ.nil w).new (by simp) (bT g) _).new (by simp) (dU e) _)⟩
 case rest=>
  obtain ⟨rfl,rfl,rfl,hB⟩:=hcut
  by_cases hz:Sk.dn g=0
  · have hz':(Sk.dn g != 0)=false:=by simp [hz]
    have pq:=hide (show Sk.wL g e.x=Sk.dV g e.x by unfold Sk.wL;rw [if_neg (by simpa using hz)]);clear hz
    go_wp2_with (first | ((with_reducible refine isL 23 2 ?_);refine nLd (hB.aA rfl) Tryz.underlying23 cZ ?_) | ((with_reducible refine isL 83 3 ?_);refine nLd (hB.get 1 rfl) Tryz.underlying83 bF ?_) | (go_at_call 16;refine (rH g _).mono ?_;rintro e1 w1 ⟨rfl,hb1⟩;have hB:=hB.call (by simp) hb1) | (go_at_call 72;refine (uo S g e _ (he.below hB.bw)).mono ?_;rintro e1 w1 ⟨rfl,hb1⟩;have hB:=hB.call (by simp) hb1))
    go_ret;exact ⟨bf pq.out.symm,hB.bw⟩
  · have hz':(Sk.dn g != 0)=true:=by simp [hz]
    have pq:=hide (show Sk.wL g e.x=Sk.dn g by unfold Sk.wL;rw [if_pos hz]);clear hz
    go_wp2_with (first | ((with_reducible refine isL 23 2 ?_);refine nLd (hB.aA rfl) Tryz.underlying23 cZ ?_) | (go_at_call 16;refine (rH g _).mono ?_;rintro e1 w1 ⟨rfl,hb1⟩;have hB:=hB.call (by simp) hb1))
    go_ret;exact ⟨bf pq.out.symm,hB.bw⟩
theorem aed (b:ByteArray) (w:World):Calls Tryz.prog 54 #[.string b] w fun e_ w'=>e_= .returned (.tuple #[.int .i64 (if 0<Sk.value b then Sk.value b else 0),.int .i64 (if 0<Sk.value b then 0 else 10)])∧Below w.heap.size w w':=by
 by_cases h:0<Sk.value b
 · have h1:decide (0<Sk.value b)=true:=decide_eq_true h
   rw [if_pos h,if_pos h];clear h
   go_enter Tryz.func54,Tryz.ntmps54
   go_wp2_with (go_at_call 90;refine (dX _ _).mono ?_;rintro e1 w1 ⟨rfl,hb1⟩)
   go_ret2;exact ⟨rfl,hb1⟩
 · have h1:decide (0<Sk.value b)=false:=decide_eq_false h
   rw [if_neg h,if_neg h];clear h
   go_enter Tryz.func54,Tryz.ntmps54
   go_wp2_with (go_at_call 90;refine (dX _ _).mono ?_;rintro e1 w1 ⟨rfl,hb1⟩)
   go_ret2;exact ⟨rfl,hb1⟩
end Go.Proofs.YtjbbfmofpjflmaaGreatDoor
