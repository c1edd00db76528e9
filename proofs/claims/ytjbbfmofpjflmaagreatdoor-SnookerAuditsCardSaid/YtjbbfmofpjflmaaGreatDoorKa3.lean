/- Parts of a proof. -/
import Derived.Test.YtjbbfmofpjflmaaGreatDoorKa0
import Derived.Test.YtjbbfmofpjflmaaGreatDoorKa1
import Derived.Test.YtjbbfmofpjflmaaGreatDoorKr36
set_option maxRecDepth 100000
set_option linter.unusedVariables false
set_option linter.unusedSimpArgs false
namespace Go.Proofs.YtjbbfmofpjflmaaGreatDoor
open Go.RowKit Go.ChangeShapes Go.WideShapes
theorem acX:Tryz.prog.bytesOf 24=16:=by kernel_rfl
section
variable {H:Type} {enc:TypeId × Value→H} {W:World} {b0:Nat} {v:Value} {d:DataW H} {ps:List MemPlace}
theorem abr (hv:Value.okWide Tryz.prog W .any b0 63 v) (h:DataW.Trod enc Tryz.prog W 0 (fun _=>true) true 63 v d ps) (hw:(d.weights Tryz.prog 63).all (· ≤reachBytes)=true):
 ∃ (A:Option Addr) (c:Nat) (l:List (Int × Int)),v= .slice A l.length c∧RdQ W (fun _=>True) A c l:=by
 obtain ⟨n,hn⟩:=h
 obtain ⟨A,c,l,e,hr,_,hb⟩:=D6 (f:=ajT) (Q:=fun _=>True) Tryz.underlying63 V9 (by omega) (fun _=>rfl) (by rw [acX];omega)
  (fun n cs x h _=>let ⟨a,b,e⟩:=abA h;⟨(a,b),e,trivial⟩) hn hw
 obtain ⟨a,k,m,rfl⟩:=okWide_slice Tryz.underlying63 hv;have he:[Value.slice a k m]=[.slice A l.length c]:=e;exact ⟨A,c,l,List.singleton_inj.1 he,hr⟩
end
end Go.Proofs.YtjbbfmofpjflmaaGreatDoor
