/- Parts of a proof. -/
import Derived.Test.YtcbmedfongiojaaGreatDoorKt15
import Derived.Test.YtcbmedfongiojaaGreatDoorKt3
set_option maxRecDepth 100000
set_option linter.unusedVariables false
set_option linter.unusedSimpArgs false
namespace Go.Proofs.YtcbmedfongiojaaGreatDoor
open Go.RowKit Go.ChangeShapes Go.WideShapes
section
variable {H:Type} {enc:TypeId × Value→H} {W:World}
theorem afK {α:Type} {l:List α} (h:l.length=4):∃ a0 a1 a2 a3,l=[a0,a1,a2,a3]:=by match l,h with | [a0,a1,a2,a3],_=>exact ⟨a0,a1,a2,a3,rfl⟩
theorem afw {α:Type} {l:List α} (h:l.length=11):∃ a0 a1 a2 a3 a4 a5 a6 a7 a8 a9 a10,l=[a0,a1,a2,a3,a4,a5,a6,a7,a8,a9,a10]:=by match l,h with | [a0,a1,a2,a3,a4,a5,a6,a7,a8,a9,a10],_=>exact ⟨a0,a1,a2,a3,a4,a5,a6,a7,a8,a9,a10,rfl⟩
theorem afD {α:Type} {l:List α} (h:l.length=13):∃ a0 a1 a2 a3 a4 a5 a6 a7 a8 a9 a10 a11 a12,l=[a0,a1,a2,a3,a4,a5,a6,a7,a8,a9,a10,a11,a12]:=by match l,h with | [a0,a1,a2,a3,a4,a5,a6,a7,a8,a9,a10,a11,a12],_=>exact ⟨a0,a1,a2,a3,a4,a5,a6,a7,a8,a9,a10,a11,a12,rfl⟩
theorem agQ:Tryz.prog.cellsOf 23=4:=by kernel_rfl
theorem agX:Tryz.prog.cellsOf 26=13:=by kernel_rfl
theorem Y7:Tryz.prog.cellsOf 39=1:=by kernel_rfl
instance:Inhabited Sk.Entry:=⟨⟨⟨#[]⟩,⟨#[]⟩,[],[],0⟩⟩
instance:Inhabited En:=⟨⟨default,none,0,none,0⟩⟩
theorem Sj {n:Nat} {cs:List Value} {x:DataW H × List MemPlace} (h:DataW.trod enc Tryz.prog W 0 (fun _=>true) true n 23 cs=some x):∃ g:Sk.Game,cs=dN g:=by
 obtain ⟨ys,m,_,rfl,hl,hlen,hf⟩:=DataW.trod_struct Tryz.underlying23 h;obtain ⟨v0,v1,v2,v3,rfl⟩:=afK (hl.trans agQ);obtain ⟨y0,y1,y2,y3,rfl⟩:=afK hlen;have g0:=hf 0 _ rfl;have g1:=hf 1 _ rfl;have g2:=hf 2 _ rfl;have g3:=hf 3 _ rfl;clear hf h
 simp [NV,E5,NU,NW,Y7] at g0 g1 g2 g3
 obtain ⟨z0,e0,_,_⟩:=DataW.trod_string Tryz.underlying9 g0;obtain ⟨z1,e1,_,_⟩:=DataW.trod_int Tryz.underlying3 g1;obtain ⟨z2,e2,_,_⟩:=DataW.trod_int Tryz.underlying3 g2;obtain ⟨z3,e3,_,_⟩:=DataW.trod_int Tryz.underlying3 g3
 cases e0;cases e1;cases e2;cases e3
 exact ⟨⟨z0,z1,z2,z3⟩,rfl⟩
theorem MR {n:Nat} {cs:List Value} {x:DataW H × List MemPlace} (h:DataW.trod enc Tryz.prog W 0 (fun _=>true) true n 26 cs=some x):∃ s:Sk.State,cs=aQ s:=by
 obtain ⟨ys,m,_,rfl,hl,hlen,hf⟩:=DataW.trod_struct Tryz.underlying26 h;obtain ⟨v0,v1,v2,v3,v4,v5,v6,v7,v8,v9,v10,v11,v12,rfl⟩:=afD (hl.trans agX);obtain ⟨y0,y1,y2,y3,y4,y5,y6,y7,y8,y9,y10,rfl⟩:=afw hlen;have g0:=hf 0 _ rfl;have g1:=hf 1 _ rfl;have g2:=hf 2 _ rfl;have g3:=hf 3 _ rfl;have g4:=hf 4 _ rfl;have g5:=hf 5 _ rfl;have g6:=hf 6 _ rfl;have g7:=hf 7 _ rfl;have g8:=hf 8 _ rfl;have g9:=hf 9 _ rfl;have g10:=hf 10 _ rfl;clear hf h
 simp [NV,E5,NU,NW,Y7] at g0 g1 g2 g3 g4 g5 g6 g7 g8 g9 g10
 obtain ⟨z0,e0,_,_⟩:=DataW.trod_int Tryz.underlying3 g0;obtain ⟨z1a,z1b,e1⟩:=Gj g1;obtain ⟨z2,e2,_,_⟩:=DataW.trod_int Tryz.underlying3 g2;obtain ⟨z3,e3,_,_⟩:=DataW.trod_string Tryz.underlying9 g3;obtain ⟨z4,e4,_,_⟩:=DataW.trod_int Tryz.underlying3 g4;obtain ⟨z5,e5,_,_⟩:=DataW.trod_int Tryz.underlying3 g5;obtain ⟨z6,e6,_⟩:=DataW.trod_bool Tryz.underlying4 g6;obtain ⟨z7,e7,_⟩:=DataW.trod_bool Tryz.underlying4 g7;obtain ⟨z8,e8,_,_⟩:=DataW.trod_int Tryz.underlying3 g8;obtain ⟨z9a,z9b,e9⟩:=Gj g9;obtain ⟨z10,e10,_,_⟩:=DataW.trod_int Tryz.underlying3 g10
 cases e0;cases e1;cases e2;cases e3;cases e4;cases e5;cases e6;cases e7;cases e8;cases e9;cases e10
 exact ⟨⟨z0,z1a,z1b,z2,z3,z4,z5,z6,z7,z8,z9a,z9b,z10⟩,rfl⟩
variable {b0:Nat} {v:Value} {d:DataW H} {ps:List MemPlace}
theorem Si (hv:Value.okWide Tryz.prog W .any b0 23 v) (h:DataW.Trod enc Tryz.prog W 0 (fun _=>true) true 23 v d ps):∃ g:Sk.Game,v=rF g:=by
 obtain ⟨n,hn⟩:=h;obtain ⟨g,he⟩:=Sj hn;exact ⟨g,NM (P:=Tryz.prog) Tryz.underlying23 hv he⟩
theorem MQ (hv:Value.okWide Tryz.prog W .any b0 26 v) (h:DataW.Trod enc Tryz.prog W 0 (fun _=>true) true 26 v d ps):∃ s:Sk.State,v=lJ s:=by
 obtain ⟨n,hn⟩:=h;obtain ⟨s,he⟩:=MR hn;exact ⟨s,NM (P:=Tryz.prog) Tryz.underlying26 hv he⟩
end
end Go.Proofs.YtcbmedfongiojaaGreatDoor
