/- Parts of a proof. -/
import Derived.Test.YtjbbfmofpjflmaaGreatDoorKq1
import Derived.Test.YtjbbfmofpjflmaaGreatDoorKr18
set_option maxHeartbeats 1600000
set_option maxRecDepth 100000
set_option linter.unusedVariables false
set_option linter.unusedSimpArgs false
namespace Go.Proofs.YtjbbfmofpjflmaaGreatDoor
open Go.RowKit
theorem adF (g:Sk.Game) (p:ByteArray) (w:World):Calls Tryz.prog 70 #[lX g,.string p] w fun e w'=>e= .returned (.bool (Sk.jq g p))∧Below w.heap.size w w':=by
 have e0:=fB g.kind [115,110,111,111,107,101,114];have e1:=fB p [114,101,100];have e2:=fB p [99,111,108,111,117,114];have e3:=fB p [102,105,110,97,108];have e4:=fB p [112,108,97,121];have HE:=hide (show Sk.jq g p=if (g.kind.toList == [115,110,111,111,107,101,114]) then (p.toList == [114,101,100]) || (p.toList == [99,111,108,111,117,114]) || (p.toList == [102,105,110,97,108]) else (p.toList == [112,108,97,121]) by rw [e0,e1,e2,e3,e4];unfold Sk.jq;by_cases h:g.kind=Sk.aK <;> simp [h,Bool.or_assoc]);clear e0 e1 e2 e3 e4
 go_enter Tryz.func70,Tryz.ntmps70
 go_upto_region 0 with (fail)
 go_cut [2,4] (fun v2 v4 wx=>v2=ptr (w.heap.size)∧v4= .bool false∧Bx w wx [(w.heap.size,bK g,28)])
 case first=>
  go_wp2;go_meet;exact ⟨rfl,rfl,Bx.of ((aG.nil w).new (by simp) (bK g) 28) _ rfl⟩
 case rest=>
  obtain ⟨rfl,rfl,hL⟩:=hcut;have k0:=(hL.get 0 rfl).cell (j:=0) rfl
  rcases ha0:(g.kind.toList == [115,110,111,111,107,101,114]) with _ | _
  · go_wp2
    go_ret;exact ⟨aH (by rw [HE.out];simp [ha0]),hL.bw⟩
  · rcases ha1:(p.toList == [114,101,100]) with _ | _
    · rcases ha2:(p.toList == [99,111,108,111,117,114]) with _ | _
      · go_wp2
        go_ret;exact ⟨aH (by rw [HE.out];simp [ha0,ha1,ha2]),hL.bw⟩
      · go_wp2
        go_ret;exact ⟨aH (by rw [HE.out];simp [ha0,ha1,ha2]),hL.bw⟩
    · go_wp2
      go_ret;exact ⟨aH (by rw [HE.out];simp [ha0,ha1]),hL.bw⟩
end Go.Proofs.YtjbbfmofpjflmaaGreatDoor
