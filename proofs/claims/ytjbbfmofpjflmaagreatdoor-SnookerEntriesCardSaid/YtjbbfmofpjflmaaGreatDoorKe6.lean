/- Parts of a proof. -/
import Derived.Test.YtjbbfmofpjflmaaGreatDoorKb20
import Derived.Test.YtjbbfmofpjflmaaGreatDoorKe3
import Derived.Test.YtjbbfmofpjflmaaGreatDoorKe4
set_option maxHeartbeats 1600000
set_option maxRecDepth 100000
set_option linter.unusedVariables false
set_option linter.unusedSimpArgs false
namespace Go.Proofs.YtjbbfmofpjflmaaGreatDoor
open Go.RowKit
theorem ad5 (n:Int) (w:World):Calls Tryz.prog 96 #[.int .i64 n] w fun e w'=>e= .returned (.string (Sk.mine n))∧w=w':=by
 by_cases h:n=0
 · subst h
   go_enter Tryz.func96,Tryz.ntmps96
   go_wp2;go_ret;exact ⟨rfl,rfl⟩
 · have h1:(n == 0)=false:=by simp [h]
   have HM:=hide (show Sk.mine n=Sk.cu by unfold Sk.mine;rw [if_neg h]);clear h
   go_enter Tryz.func96,Tryz.ntmps96
   go_wp2;go_ret;exact ⟨by rw [HM.out];rfl,rfl⟩
theorem abS (s:Sk.State) (b:ByteArray) (w:World):Calls Tryz.prog 97 #[kW s,.string b] w fun e w'=>e= .returned (.bool (Sk.aad s b))∧Below w.heap.size w w':=by
 have hc:Sk.aad s b=(s.free && (((s.phase.toList == [114,101,100]) && decide (2≤Sk.value b)) || ((s.phase.toList == [102,105,110,97,108]) && decide (s.colour<Sk.value b)))):=by
  unfold Sk.aad
  rw [gG,gG,Bool.eq_iff_iff]
  simp only [decide_eq_true_eq,Bool.and_eq_true,Bool.or_eq_true]
 go_enter Tryz.func97,Tryz.ntmps97
 go_upto_region 0 with (fail)
 go_cut [2,4] (fun v2 v4 wx=>v2=ptr (w.heap.size)∧v4= .bool false∧Bx w wx [(w.heap.size,aO s,39)])
 case first=>
  go_wp2;go_meet;exact ⟨rfl,rfl,Bx.of ((aJ.nil w).new (by simp) (aO s) 39) _ rfl⟩
 case rest=>
  obtain ⟨rfl,rfl,hL⟩:=hcut
  go_upto_region 2 with ((go_at_call 55;refine (iO _ _).mono ?_;rintro e w4 ⟨rfl,hb4⟩;have hL:=hL.call hb4))
  have k7:=(hL.get 0 rfl).cell (j:=7) rfl;have ajE:=(hL.get 0 rfl).cell (j:=4) rfl;have ajN:=(hL.get 0 rfl).cell (j:=6) rfl;obtain ⟨z,hz⟩:∃ q,Sk.value b=q:=⟨_,rfl⟩;rw [hz] at hc ⊢;obtain ⟨fr,hfr⟩:∃ q,s.free=q:=⟨_,rfl⟩;rw [hfr] at hc k7;have HC:=hide hc;clear hc hz hfr
  rcases ha0:(fr) with _ | _
  · go_wp2
    go_ret;exact ⟨aN (by rw [HC.out];simp [ha0]),hL.bw⟩
  · rcases ha1:((s.phase.toList == [114,101,100])) with _ | _
    · rcases ha2:((s.phase.toList == [102,105,110,97,108])) with _ | _
      · go_wp2
        go_ret;exact ⟨aN (by rw [HC.out];simp [ha0,ha1,ha2]),hL.bw⟩
      · rcases l7:(decide (s.colour<z)) with _ | _
        · go_wp2
          go_ret;exact ⟨aN (by rw [HC.out];simp [ha0,ha1,ha2,l7]),hL.bw⟩
        · go_wp2
          go_ret;exact ⟨aN (by rw [HC.out];simp [ha0,ha1,ha2,l7]),hL.bw⟩
    · rcases ha2:(decide (2≤z)) with _ | _
      · rcases l7:((s.phase.toList == [102,105,110,97,108])) with _ | _
        · go_wp2
          go_ret;exact ⟨aN (by rw [HC.out];simp [ha0,ha1,ha2,l7]),hL.bw⟩
        · rcases wX:(decide (s.colour<z)) with _ | _
          · go_wp2
            go_ret;exact ⟨aN (by rw [HC.out];simp [ha0,ha1,ha2,l7,wX]),hL.bw⟩
          · go_wp2
            go_ret;exact ⟨aN (by rw [HC.out];simp [ha0,ha1,ha2,l7,wX]),hL.bw⟩
      · go_wp2
        go_ret;exact ⟨aN (by rw [HC.out];simp [ha0,ha1,ha2]),hL.bw⟩
theorem af7 (c:Int) (hn:c.toNat<Sk.cO.length):Sk.gQ c=Sk.cO[c.toNat]'hn:=by
 unfold Sk.gQ
 rw [List.getD_eq_getElem?_getD,List.getElem?_eq_getElem hn]
 rfl
end Go.Proofs.YtjbbfmofpjflmaaGreatDoor
