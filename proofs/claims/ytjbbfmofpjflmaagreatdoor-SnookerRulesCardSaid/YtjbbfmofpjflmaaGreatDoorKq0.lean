/- Parts of a proof. -/
import Derived.Test.YtjbbfmofpjflmaaGreatDoorKr2
set_option linter.unusedVariables false
set_option linter.unusedSimpArgs false
namespace Go.Proofs.YtjbbfmofpjflmaaGreatDoor
open Go.RowKit Go.ChangeShapes Go.WideShapes
section
variable {H:Type} {enc:TypeId × Value→H} {W:World}
theorem ai8 {α:Type} {l:List α} (h:l.length=2):∃ a b,l=[a,b]:=by match l,h with | [a,b],_=>exact ⟨a,b,rfl⟩
theorem ac5 {n:Nat} {cs:List Value} {x:DataW H × List MemPlace} (h:DataW.trod enc Tryz.prog W 0 (fun _=>true) true n 24 cs=some x):∃ a b:Int,cs=[.int .i64 a,.int .i64 b]:=by
 obtain ⟨ys,m,_,rfl,hl,hlen,hf⟩:=DataW.trod_array Tryz.underlying24 h;obtain ⟨v0,v1,rfl⟩:=ai8 (hl.trans V9);obtain ⟨y0,y1,rfl⟩:=ai8 hlen;have g0:=hf 0 (by omega);have g1:=hf 1 (by omega);clear hf h
 simp [V8] at g0 g1
 obtain ⟨z0,e0,_,_⟩:=DataW.trod_int Tryz.underlying3 g0;obtain ⟨z1,e1,_,_⟩:=DataW.trod_int Tryz.underlying3 g1
 cases e0;cases e1
 exact ⟨z0,z1,rfl⟩
variable {b0:Nat} {v:Value} {d:DataW H} {ps:List MemPlace}
end
end Go.Proofs.YtjbbfmofpjflmaaGreatDoor
