/- Parts of a proof. -/
import Derived.Test.YtjbbfmofpjflmaaGreatDoorKq0
import Derived.Test.YtjbbfmofpjflmaaGreatDoorKq1
import Derived.Test.YtjbbfmofpjflmaaGreatDoorKr15
set_option maxRecDepth 100000
set_option linter.unusedVariables false
set_option linter.unusedSimpArgs false
namespace Go.Proofs.YtjbbfmofpjflmaaGreatDoor
open Go.RowKit Go.ChangeShapes Go.WideShapes
section
variable {H:Type} {enc:TypeId × Value→H} {W:World}
theorem amg {α:Type} {l:List α} (h:l.length=11):∃ a0 a1 a2 a3 a4 a5 a6 a7 a8 a9 a10,l=[a0,a1,a2,a3,a4,a5,a6,a7,a8,a9,a10]:=by match l,h with | [a0,a1,a2,a3,a4,a5,a6,a7,a8,a9,a10],_=>exact ⟨a0,a1,a2,a3,a4,a5,a6,a7,a8,a9,a10,rfl⟩
theorem amo {α:Type} {l:List α} (h:l.length=13):∃ a0 a1 a2 a3 a4 a5 a6 a7 a8 a9 a10 a11 a12,l=[a0,a1,a2,a3,a4,a5,a6,a7,a8,a9,a10,a11,a12]:=by match l,h with | [a0,a1,a2,a3,a4,a5,a6,a7,a8,a9,a10,a11,a12],_=>exact ⟨a0,a1,a2,a3,a4,a5,a6,a7,a8,a9,a10,a11,a12,rfl⟩
theorem amy:Tryz.prog.cellsOf 26=13:=by kernel_rfl
instance:Inhabited Sk.Entry:=⟨⟨⟨#[]⟩,⟨#[]⟩,[],[],0⟩⟩
instance:Inhabited En:=⟨⟨default,none,0,none,0⟩⟩
theorem afH {n:Nat} {cs:List Value} {x:DataW H × List MemPlace} (h:DataW.trod enc Tryz.prog W 0 (fun _=>true) true n 26 cs=some x):∃ s:Sk.State,cs=aC s:=by
 obtain ⟨ys,m,_,rfl,hl,hlen,hf⟩:=DataW.trod_struct Tryz.underlying26 h;obtain ⟨v0,v1,v2,v3,v4,v5,v6,v7,v8,v9,v10,v11,v12,rfl⟩:=amo (hl.trans amy);obtain ⟨y0,y1,y2,y3,y4,y5,y6,y7,y8,y9,y10,rfl⟩:=amg hlen;have g0:=hf 0 _ rfl;have g1:=hf 1 _ rfl;have g2:=hf 2 _ rfl;have g3:=hf 3 _ rfl;have g4:=hf 4 _ rfl;have g5:=hf 5 _ rfl;have g6:=hf 6 _ rfl;have g7:=hf 7 _ rfl;have g8:=hf 8 _ rfl;have g9:=hf 9 _ rfl;have g10:=hf 10 _ rfl;clear hf h
 simp [V8,Aj,OE,V9,ZV] at g0 g1 g2 g3 g4 g5 g6 g7 g8 g9 g10
 obtain ⟨z0,e0,_,_⟩:=DataW.trod_int Tryz.underlying3 g0;obtain ⟨z1a,z1b,e1⟩:=ac5 g1;obtain ⟨z2,e2,_,_⟩:=DataW.trod_int Tryz.underlying3 g2;obtain ⟨z3,e3,_,_⟩:=DataW.trod_string Tryz.underlying9 g3;obtain ⟨z4,e4,_,_⟩:=DataW.trod_int Tryz.underlying3 g4;obtain ⟨z5,e5,_,_⟩:=DataW.trod_int Tryz.underlying3 g5;obtain ⟨z6,e6,_⟩:=DataW.trod_bool Tryz.underlying4 g6;obtain ⟨z7,e7,_⟩:=DataW.trod_bool Tryz.underlying4 g7;obtain ⟨z8,e8,_,_⟩:=DataW.trod_int Tryz.underlying3 g8;obtain ⟨z9a,z9b,e9⟩:=ac5 g9;obtain ⟨z10,e10,_,_⟩:=DataW.trod_int Tryz.underlying3 g10
 cases e0;cases e1;cases e2;cases e3;cases e4;cases e5;cases e6;cases e7;cases e8;cases e9;cases e10
 exact ⟨⟨z0,z1a,z1b,z2,z3,z4,z5,z6,z7,z8,z9a,z9b,z10⟩,rfl⟩
variable {b0:Nat} {v:Value} {d:DataW H} {ps:List MemPlace}
theorem afy (hv:Value.okWide Tryz.prog W .any b0 26 v) (h:DataW.Trod enc Tryz.prog W 0 (fun _=>true) true 26 v d ps):∃ s:Sk.State,v=jE s:=by
 obtain ⟨n,hn⟩:=h;obtain ⟨s,he⟩:=afH hn;exact ⟨s,Xp (P:=Tryz.prog) Tryz.underlying26 hv he⟩
theorem afq (hv:Value.okWide Tryz.prog W .any b0 83 v) (h:DataW.Trod enc Tryz.prog W 0 (fun _=>true) true 83 v d ps) (hw:(d.weights Tryz.prog 83).all (· ≤reachBytes)=true):∃ e:En,v=rU e∧iL W (fun _=>True) e:=by
 obtain ⟨n,hn⟩:=h;obtain ⟨e,he,ho⟩:=NZ hn hw;exact ⟨e,Xp (P:=Tryz.prog) Tryz.underlying83 hv he,ho⟩
end
end Go.Proofs.YtjbbfmofpjflmaaGreatDoor
