/- Parts of a proof. -/
import Derived.Test.YtjbbfmofpjflmaaGreatDoorKb16
import Derived.Test.YtjbbfmofpjflmaaGreatDoorKe1
import Derived.Test.YtjbbfmofpjflmaaGreatDoorKe2
set_option maxRecDepth 100000
set_option linter.unusedVariables false
set_option linter.unusedSimpArgs false
namespace Go.Proofs.YtjbbfmofpjflmaaGreatDoor
open Go.RowKit Go.ChangeShapes Go.WideShapes
section
variable {H:Type} {enc:TypeId × Value→H} {W:World}
instance:Inhabited Sk.Entry:=⟨⟨⟨#[]⟩,⟨#[]⟩,[],[],0⟩⟩
instance:Inhabited En:=⟨⟨default,none,0,none,0⟩⟩
variable {b0:Nat} {v:Value} {d:DataW H} {ps:List MemPlace}
theorem ael (hv:Value.okWide Tryz.prog W .any b0 83 v) (h:DataW.Trod enc Tryz.prog W 0 (fun _=>true) true 83 v d ps) (hw:(d.weights Tryz.prog 83).all (· ≤reachBytes)=true):∃ e:En,v=wF e∧iW W (fun _=>True) e:=by
 obtain ⟨n,hn⟩:=h;obtain ⟨e,he,ho⟩:=MW hn hw;exact ⟨e,NC (P:=Tryz.prog) Tryz.underlying83 hv he,ho⟩
end
end Go.Proofs.YtjbbfmofpjflmaaGreatDoor
