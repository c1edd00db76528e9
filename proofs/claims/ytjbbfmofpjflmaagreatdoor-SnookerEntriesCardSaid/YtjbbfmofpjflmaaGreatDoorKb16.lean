/- Parts of a proof. -/
import Derived.Test.YtjbbfmofpjflmaaGreatDoorKb15
import Derived.Test.YtjbbfmofpjflmaaGreatDoorKb3
set_option maxRecDepth 100000
set_option linter.unusedVariables false
set_option linter.unusedSimpArgs false
namespace Go.Proofs.YtjbbfmofpjflmaaGreatDoor
open Go.RowKit Go.ChangeShapes Go.WideShapes
section
variable {H:Type} {enc:TypeId × Value→H} {W:World}
theorem aey {α:Type} {l:List α} (h:l.length=4):∃ a0 a1 a2 a3,l=[a0,a1,a2,a3]:=by match l,h with | [a0,a1,a2,a3],_=>exact ⟨a0,a1,a2,a3,rfl⟩
theorem aeF {α:Type} {l:List α} (h:l.length=5):∃ a0 a1 a2 a3 a4,l=[a0,a1,a2,a3,a4]:=by match l,h with | [a0,a1,a2,a3,a4],_=>exact ⟨a0,a1,a2,a3,a4,rfl⟩
theorem aei {α:Type} {l:List α} (h:l.length=11):∃ a0 a1 a2 a3 a4 a5 a6 a7 a8 a9 a10,l=[a0,a1,a2,a3,a4,a5,a6,a7,a8,a9,a10]:=by match l,h with | [a0,a1,a2,a3,a4,a5,a6,a7,a8,a9,a10],_=>exact ⟨a0,a1,a2,a3,a4,a5,a6,a7,a8,a9,a10,rfl⟩
theorem aep {α:Type} {l:List α} (h:l.length=13):∃ a0 a1 a2 a3 a4 a5 a6 a7 a8 a9 a10 a11 a12,l=[a0,a1,a2,a3,a4,a5,a6,a7,a8,a9,a10,a11,a12]:=by match l,h with | [a0,a1,a2,a3,a4,a5,a6,a7,a8,a9,a10,a11,a12],_=>exact ⟨a0,a1,a2,a3,a4,a5,a6,a7,a8,a9,a10,a11,a12,rfl⟩
theorem af2:Tryz.prog.cellsOf 23=4:=by kernel_rfl
theorem aga:Tryz.prog.cellsOf 26=13:=by kernel_rfl
theorem YR:Tryz.prog.cellsOf 83=5:=by kernel_rfl
theorem Wy:Tryz.prog.cellsOf 81=1:=by kernel_rfl
theorem afe:Tryz.prog.bytesOf 9=16:=by kernel_rfl
theorem ae7:Tryz.prog.bytesOf 83=88:=by kernel_rfl
instance:Inhabited Sk.Entry:=⟨⟨⟨#[]⟩,⟨#[]⟩,[],[],0⟩⟩
instance:Inhabited En:=⟨⟨default,none,0,none,0⟩⟩
theorem Dy {n:Nat} {cs:List Value} {x:DataW H × List MemPlace} (h:DataW.trod enc Tryz.prog W 0 (fun _=>true) true n 81 cs=some x) (hw:(x.1.weights Tryz.prog 81).all (· ≤reachBytes)=true):
 ∃ (A:Option Addr) (c:Nat) (l:List ByteArray),cs=[.slice A l.length c]∧lT W (fun _=>True) A c l:=by
 obtain ⟨A,c,l,e,hr,_,hb⟩:=Du (f:=fun p:ByteArray=>[.string p]) (Q:=fun _=>True) Tryz.underlying81 wK (by omega) (fun _=>rfl) (by rw [afe];omega)
  (fun n cs x h _=>let ⟨z,e,_,_⟩:=DataW.trod_string Tryz.underlying9 h;⟨z,e,trivial⟩) h hw
 refine ⟨A,c,l,e,?_⟩
 unfold lT
 rw [Gi];exact hr
theorem Rx {n:Nat} {cs:List Value} {x:DataW H × List MemPlace} (h:DataW.trod enc Tryz.prog W 0 (fun _=>true) true n 23 cs=some x):∃ g:Sk.Game,cs=bT g:=by
 obtain ⟨ys,m,_,rfl,hl,hlen,hf⟩:=DataW.trod_struct Tryz.underlying23 h;obtain ⟨v0,v1,v2,v3,rfl⟩:=aey (hl.trans af2);obtain ⟨y0,y1,y2,y3,rfl⟩:=aey hlen;have g0:=hf 0 _ rfl;have g1:=hf 1 _ rfl;have g2:=hf 2 _ rfl;have g3:=hf 3 _ rfl;clear hf h
 simp [JW,wK,Ia,JX,Wy] at g0 g1 g2 g3
 obtain ⟨z0,e0,_,_⟩:=DataW.trod_string Tryz.underlying9 g0;obtain ⟨z1,e1,_,_⟩:=DataW.trod_int Tryz.underlying3 g1;obtain ⟨z2,e2,_,_⟩:=DataW.trod_int Tryz.underlying3 g2;obtain ⟨z3,e3,_,_⟩:=DataW.trod_int Tryz.underlying3 g3
 cases e0;cases e1;cases e2;cases e3
 exact ⟨⟨z0,z1,z2,z3⟩,rfl⟩
theorem MX {n:Nat} {cs:List Value} {x:DataW H × List MemPlace} (h:DataW.trod enc Tryz.prog W 0 (fun _=>true) true n 26 cs=some x):∃ s:Sk.State,cs=aO s:=by
 obtain ⟨ys,m,_,rfl,hl,hlen,hf⟩:=DataW.trod_struct Tryz.underlying26 h;obtain ⟨v0,v1,v2,v3,v4,v5,v6,v7,v8,v9,v10,v11,v12,rfl⟩:=aep (hl.trans aga);obtain ⟨y0,y1,y2,y3,y4,y5,y6,y7,y8,y9,y10,rfl⟩:=aei hlen;have g0:=hf 0 _ rfl;have g1:=hf 1 _ rfl;have g2:=hf 2 _ rfl;have g3:=hf 3 _ rfl;have g4:=hf 4 _ rfl;have g5:=hf 5 _ rfl;have g6:=hf 6 _ rfl;have g7:=hf 7 _ rfl;have g8:=hf 8 _ rfl;have g9:=hf 9 _ rfl;have g10:=hf 10 _ rfl;clear hf h
 simp [JW,wK,Ia,JX,Wy] at g0 g1 g2 g3 g4 g5 g6 g7 g8 g9 g10
 obtain ⟨z0,e0,_,_⟩:=DataW.trod_int Tryz.underlying3 g0;obtain ⟨z1a,z1b,e1⟩:=Gn g1;obtain ⟨z2,e2,_,_⟩:=DataW.trod_int Tryz.underlying3 g2;obtain ⟨z3,e3,_,_⟩:=DataW.trod_string Tryz.underlying9 g3;obtain ⟨z4,e4,_,_⟩:=DataW.trod_int Tryz.underlying3 g4;obtain ⟨z5,e5,_,_⟩:=DataW.trod_int Tryz.underlying3 g5;obtain ⟨z6,e6,_⟩:=DataW.trod_bool Tryz.underlying4 g6;obtain ⟨z7,e7,_⟩:=DataW.trod_bool Tryz.underlying4 g7;obtain ⟨z8,e8,_,_⟩:=DataW.trod_int Tryz.underlying3 g8;obtain ⟨z9a,z9b,e9⟩:=Gn g9;obtain ⟨z10,e10,_,_⟩:=DataW.trod_int Tryz.underlying3 g10
 cases e0;cases e1;cases e2;cases e3;cases e4;cases e5;cases e6;cases e7;cases e8;cases e9;cases e10
 exact ⟨⟨z0,z1a,z1b,z2,z3,z4,z5,z6,z7,z8,z9a,z9b,z10⟩,rfl⟩
theorem MW {n:Nat} {cs:List Value} {x:DataW H × List MemPlace} (h:DataW.trod enc Tryz.prog W 0 (fun _=>true) true n 83 cs=some x) (hw:(x.1.weights Tryz.prog 83).all (· ≤reachBytes)=true):∃ e:En,cs=dU e∧iW W (fun _=>True) e:=by
 obtain ⟨ys,m,_,rfl,hl,hlen,hf⟩:=DataW.trod_struct Tryz.underlying83 h;obtain ⟨v0,v1,v2,v3,v4,rfl⟩:=aeF (hl.trans YR);obtain ⟨y0,y1,y2,y3,y4,rfl⟩:=aeF hlen;have g0:=hf 0 _ rfl;have g1:=hf 1 _ rfl;have g2:=hf 2 _ rfl;have g3:=hf 3 _ rfl;have g4:=hf 4 _ rfl;clear hf h
 simp [JW,wK,Ia,JX,Wy] at g0 g1 g2 g3 g4
 rw [DataW.weights.eq_def] at hw
 simp only [Tryz.underlying83,List.map_cons,List.map_nil,DataW.weightsEach] at hw
 obtain ⟨z0,e0,_,_⟩:=DataW.trod_string Tryz.underlying9 g0;obtain ⟨z1,e1,_,_⟩:=DataW.trod_string Tryz.underlying9 g1;obtain ⟨A2,c2,l2,e2,r2⟩:=Dy g2 (lN (iY (iY hw)));obtain ⟨A3,c3,l3,e3,r3⟩:=Dy g3 (lN (iY (iY (iY hw))));obtain ⟨z4,e4,_,_⟩:=DataW.trod_int Tryz.underlying3 g4
 cases e0;cases e1;cases e2;cases e3;cases e4
 exact ⟨⟨⟨z0,z1,l2,l3,z4⟩,A2,c2,A3,c3⟩,rfl,r2,r3⟩
theorem UU {n:Nat} {cs:List Value} {x:DataW H × List MemPlace} (h:DataW.trod enc Tryz.prog W 0 (fun _=>true) true n 27 cs=some x) (hw:(x.1.weights Tryz.prog 27).all (· ≤reachBytes)=true):
 ∃ (A:Option Addr) (c:Nat) (l:List En),cs=[.slice A l.length c]∧qh W (fun _=>True) A c l∧l.length*88≤140737488355328:=by
 obtain ⟨A,c,l,e,hr,hq,hb⟩:=Du (f:=dU) (Q:=iW W (fun _=>True)) Tryz.underlying27 YR (by omega) (fun _=>rfl) (by rw [ae7];omega) (fun n cs x h hw=>MW h hw) h hw;rw [ae7] at hb;exact ⟨A,c,l,e,⟨hr,hq⟩,Nat.le_trans hb (by decide)⟩
variable {b0:Nat} {v:Value} {d:DataW H} {ps:List MemPlace}
theorem Rw (hv:Value.okWide Tryz.prog W .any b0 23 v) (h:DataW.Trod enc Tryz.prog W 0 (fun _=>true) true 23 v d ps):∃ g:Sk.Game,v=lZ g:=by
 obtain ⟨n,hn⟩:=h;obtain ⟨g,he⟩:=Rx hn;exact ⟨g,NC (P:=Tryz.prog) Tryz.underlying23 hv he⟩
theorem MV (hv:Value.okWide Tryz.prog W .any b0 26 v) (h:DataW.Trod enc Tryz.prog W 0 (fun _=>true) true 26 v d ps):∃ s:Sk.State,v=kW s:=by
 obtain ⟨n,hn⟩:=h;obtain ⟨s,he⟩:=MX hn;exact ⟨s,NC (P:=Tryz.prog) Tryz.underlying26 hv he⟩
theorem UR (hv:Value.okWide Tryz.prog W .any b0 27 v) (h:DataW.Trod enc Tryz.prog W 0 (fun _=>true) true 27 v d ps) (hw:(d.weights Tryz.prog 27).all (· ≤reachBytes)=true):
 ∃ (A:Option Addr) (c:Nat) (l:List En),v= .slice A l.length c∧qh W (fun _=>True) A c l∧l.length*88≤140737488355328:=by
 obtain ⟨n,hn⟩:=h;obtain ⟨A,c,l,he,h1,h2⟩:=UU hn hw;obtain ⟨a,k,m,rfl⟩:=okWide_slice Tryz.underlying27 hv;have he:[Value.slice a k m]=[.slice A l.length c]:=he;exact ⟨A,c,l,List.singleton_inj.1 he,h1,h2⟩
end
end Go.Proofs.YtjbbfmofpjflmaaGreatDoor
