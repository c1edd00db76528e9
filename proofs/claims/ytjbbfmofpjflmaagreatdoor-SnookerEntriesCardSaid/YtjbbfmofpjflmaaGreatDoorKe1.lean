/- Parts of a proof. -/
import Derived.Test.YtjbbfmofpjflmaaGreatDoorKb10
import Derived.Test.YtjbbfmofpjflmaaGreatDoorKe0
set_option linter.unusedVariables false
set_option linter.unusedSimpArgs false
namespace Go.Proofs.YtjbbfmofpjflmaaGreatDoor
open Go.RowKit
section
variable {W W':World} {g g':Nat} {cs cs':List Value} {t t':TypeId}
end
section
variable {w W W':World} {L:List (List Value × TypeId)}
end
section
variable {ops:Array Oper} {rest:List Oper} {op:Oper} {a:Act} {W:World} {Q:Exit→Act→World→Prop} {g n:Nat} {cs:List Value} {t:TypeId} {d:TypeDesc}
theorem isL (t:TypeId) (k:Nat) (h:qY Tryz.prog ops Q op rest a W) (_:op.op= .load t (.tmp k):=by with_unfolding_all rfl):wpList Tryz.prog ops Q (op::rest) a W:=h
theorem isS (t:TypeId) (k m:Nat) (h:qY Tryz.prog ops Q op rest a W) (_:op.op= .store t (.tmp k) (.tmp m):=by with_unfolding_all rfl):wpList Tryz.prog ops Q (op::rest) a W:=h
theorem isW {K:Act→World→Prop} (t:TypeId) (k:Nat) (h:Hy Tryz.prog Q op K a W) (_:op.op= .load t (.tmp k):=by with_unfolding_all rfl):op.wp Tryz.prog a W K Q:=h
theorem nLd {x:Operand} (h:Held W g cs t) (hu:Tryz.prog.underlying t=some d) (hi:(Tryz.prog.info? t).map (·.size)=some cs.length) (k:wpList Tryz.prog ops Q rest (a.put op.dst (.agg cs.toArray)) W) (ho:op.op= .load t x:=by rfl) (hx:a.eval x= .pointer (some ⟨g,0,none⟩):=by rfl) (hd:d.isRow=true:=by rfl)
 (hw:Region.wanted op (yielded ops a.tmps)=true:=by rfl):qY Tryz.prog ops Q op rest a W:=bg h hu hd hi hw x ho hx k
theorem nLr {x:Operand} {o:Nat} (h:W.rangeAt g o cs) (hu:Tryz.prog.underlying t=some d) (hi:(Tryz.prog.info? t).map (·.size)=some cs.length) (k:wpList Tryz.prog ops Q rest (a.put op.dst (.agg cs.toArray)) W) (ho:op.op= .load t x:=by rfl) (hx:a.eval x= .pointer (some ⟨g,o,none⟩):=by rfl) (hd:d.isRow=true:=by rfl)
 (hw:Region.wanted op (yielded ops a.tmps)=true:=by rfl):qY Tryz.prog ops Q op rest a W:=BigFrame.wpList_want hw fun _ hK=>wp_load_mid t x ho g o hx cs d h hu hd hi (hK _ _ k)
theorem nWd {K:Act→World→Prop} {x:Operand} (h:Held W g cs t) (hu:Tryz.prog.underlying t=some d) (hi:(Tryz.prog.info? t).map (·.size)=some cs.length) (k:K (a.put op.dst (.agg cs.toArray)) W) (ho:op.op= .load t x:=by rfl) (hx:a.eval x= .pointer (some ⟨g,0,none⟩):=by rfl) (hd:d.isRow=true:=by rfl):Hy Tryz.prog Q op K a W:=bC h hu hd hi x ho hx k
theorem nWr {K:Act→World→Prop} {x:Operand} {o:Nat} (h:W.rangeAt g o cs) (hu:Tryz.prog.underlying t=some d) (hi:(Tryz.prog.info? t).map (·.size)=some cs.length) (k:K (a.put op.dst (.agg cs.toArray)) W) (ho:op.op= .load t x:=by rfl) (hx:a.eval x= .pointer (some ⟨g,o,none⟩):=by rfl) (hd:d.isRow=true:=by rfl):Hy Tryz.prog Q op K a W:=wp_load_mid t x ho g o hx cs d h hu hd hi k
theorem nSd {x y:Operand} (h:Held W g cs t) (vs:List Value) (hi:(Tryz.prog.info? t).map (·.size)=some cs.length) (h1:∀ v∈vs,v.oneCell'=true) (k:wpList Tryz.prog ops Q rest (a.put op.dst undef) (W.setCells g 0 vs)) (ho:op.op= .store t x y:=by rfl) (hx:a.eval x= .pointer (some ⟨g,0,none⟩):=by rfl) (hy:a.eval y= .agg vs.toArray:=by rfl)
 (hl:vs.length=cs.length:=by rfl) (hgd:op.guard=none:=by rfl):qY Tryz.prog ops Q op rest a W:=aC h vs hl hi h1 hgd x y ho hx hy k
end
section
variable {D:Nat} {W W' W2:World} {S:Nat→Prop} {size n c:Nat} {A:Option Addr} {xs:List Value}
end
end Go.Proofs.YtjbbfmofpjflmaaGreatDoor
