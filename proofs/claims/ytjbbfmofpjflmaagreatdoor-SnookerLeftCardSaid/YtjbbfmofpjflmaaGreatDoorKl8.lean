/- Parts of a proof. -/
import Derived.Test.YtjbbfmofpjflmaaGreatDoorKb16
import Derived.Test.YtjbbfmofpjflmaaGreatDoorKl2
import Derived.Test.YtjbbfmofpjflmaaGreatDoorKl3
set_option maxRecDepth 100000
set_option linter.unusedVariables false
set_option linter.unusedSimpArgs false
namespace Go.Proofs.YtjbbfmofpjflmaaGreatDoor
open Go.RowKit Go.ChangeShapes Go.WideShapes
theorem qh.put {w:World} {S:Nat→Prop} {A:Option Addr} {c:Nat} {l:List En} (h:qh w S A c l) (g:Nat) (hS:∀ b,S b→b≠g) (vs:List Value) (o:Nat):qh (w.setCells g o vs) S A c l:=
 h.keep (by rw [setCells_size];exact Nat.le_refl _) fun b _ hb _=>World.cell?_of_block (Held.nH (hS b hb) vs o w)
section
variable {H:Type} {enc:TypeId × Value→H} {W:World} {b0:Nat} {v:Value} {d:DataW H} {ps:List MemPlace}
theorem afX (hv:Value.okWide Tryz.prog W .any b0 3 v) (h:DataW.Trod enc Tryz.prog W 0 (fun _=>true) true 3 v d ps):∃ n:Int,v= .int .i64 n:=by
 obtain ⟨m,hn⟩:=h;obtain ⟨n,rfl⟩:=okWide_int Tryz.underlying3 hv;exact ⟨n,rfl⟩
end
end Go.Proofs.YtjbbfmofpjflmaaGreatDoor
