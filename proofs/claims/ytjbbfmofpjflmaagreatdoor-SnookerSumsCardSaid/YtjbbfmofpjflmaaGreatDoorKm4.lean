/- Parts of a proof. -/
import Derived.Test.YtjbbfmofpjflmaaGreatDoorKb16
import Derived.Test.YtjbbfmofpjflmaaGreatDoorKm0
import Derived.Test.YtjbbfmofpjflmaaGreatDoorKm1
set_option maxRecDepth 100000
set_option linter.unusedVariables false
set_option linter.unusedSimpArgs false
namespace Go.Proofs.YtjbbfmofpjflmaaGreatDoor
open Go.RowKit Go.ChangeShapes Go.WideShapes
theorem aeG {n:Int} (h:(Lit.int .u8 n).wf=true):0≤n∧n≤255:=by
 simp only [Lit.wf,Bool.and_eq_true,decide_eq_true_eq] at h
 have h1:IntKind.u8.min=0:=by decide
 have h2:IntKind.u8.max=255:=by decide
 omega
section
variable {H:Type} {enc:TypeId × Value→H} {W:World} {b0:Nat} {v:Value} {d:DataW H} {ps:List MemPlace}
theorem alD (hv:Value.okWide Tryz.prog W .any b0 5 v) (h:DataW.Trod enc Tryz.prog W 0 (fun _=>true) true 5 v d ps):∃ n:Int,v= .int .u8 n∧0≤n∧n≤255:=by
 obtain ⟨m,hn⟩:=h;obtain ⟨z,hz,_,hw⟩:=DataW.trod_int Tryz.underlying5 hn;obtain ⟨n,rfl⟩:=okWide_int Tryz.underlying5 hv;have e:[Value.int .u8 n]=[.int .u8 z]:=hz
 cases e
 exact ⟨_,rfl,aeG hw⟩
end
end Go.Proofs.YtjbbfmofpjflmaaGreatDoor
