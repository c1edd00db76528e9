/- Parts of a proof. -/
import Derived.Test.YtjbbfmofpjflmaaGreatDoorKr14
import Derived.Test.YtjbbfmofpjflmaaGreatDoorKr2
set_option maxRecDepth 100000
set_option linter.unusedVariables false
set_option linter.unusedSimpArgs false
namespace Go.Proofs.YtjbbfmofpjflmaaGreatDoor
open Go.RowKit Go.ChangeShapes Go.WideShapes
section
variable {H:Type} {enc:TypeId × Value→H} {W:World}
theorem aj0 {α:Type} {l:List α} (h:l.length=4):∃ a0 a1 a2 a3,l=[a0,a1,a2,a3]:=by match l,h with | [a0,a1,a2,a3],_=>exact ⟨a0,a1,a2,a3,rfl⟩
theorem aj9 {α:Type} {l:List α} (h:l.length=5):∃ a0 a1 a2 a3 a4,l=[a0,a1,a2,a3,a4]:=by match l,h with | [a0,a1,a2,a3,a4],_=>exact ⟨a0,a1,a2,a3,a4,rfl⟩
theorem alq:Tryz.prog.cellsOf 23=4:=by kernel_rfl
theorem ZU:Tryz.prog.cellsOf 83=5:=by kernel_rfl
theorem ZV:Tryz.prog.cellsOf 81=1:=by kernel_rfl
theorem akC:Tryz.prog.bytesOf 9=16:=by kernel_rfl
theorem akv:Tryz.prog.bytesOf 83=88:=by kernel_rfl
instance:Inhabited Sk.Entry:=⟨⟨⟨#[]⟩,⟨#[]⟩,[],[],0⟩⟩
instance:Inhabited En:=⟨⟨default,none,0,none,0⟩⟩
theorem D9 {n:Nat} {cs:List Value} {x:DataW H × List MemPlace} (h:DataW.trod enc Tryz.prog W 0 (fun _=>true) true n 81 cs=some x) (hw:(x.1.weights Tryz.prog 81).all (· ≤reachBytes)=true):
 ∃ (A:Option Addr) (c:Nat) (l:List ByteArray),cs=[.slice A l.length c]∧lQ W (fun _=>True) A c l:=by
 obtain ⟨A,c,l,e,hr,_,hb⟩:=D6 (f:=fun p:ByteArray=>[.string p]) (Q:=fun _=>True) Tryz.underlying81 Aj (by omega) (fun _=>rfl) (by rw [akC];omega)
  (fun n cs x h _=>let ⟨z,e,_,_⟩:=DataW.trod_string Tryz.underlying9 h;⟨z,e,trivial⟩) h hw
 refine ⟨A,c,l,e,?_⟩
 unfold lQ
 rw [Gy];exact hr
theorem Tj {n:Nat} {cs:List Value} {x:DataW H × List MemPlace} (h:DataW.trod enc Tryz.prog W 0 (fun _=>true) true n 23 cs=some x):∃ g:Sk.Game,cs=bK g:=by
 obtain ⟨ys,m,_,rfl,hl,hlen,hf⟩:=DataW.trod_struct Tryz.underlying23 h;obtain ⟨v0,v1,v2,v3,rfl⟩:=aj0 (hl.trans alq);obtain ⟨y0,y1,y2,y3,rfl⟩:=aj0 hlen;have g0:=hf 0 _ rfl;have g1:=hf 1 _ rfl;have g2:=hf 2 _ rfl;have g3:=hf 3 _ rfl;clear hf h
 simp [V8,Aj,OE,V9,ZV] at g0 g1 g2 g3
 obtain ⟨z0,e0,_,_⟩:=DataW.trod_string Tryz.underlying9 g0;obtain ⟨z1,e1,_,_⟩:=DataW.trod_int Tryz.underlying3 g1;obtain ⟨z2,e2,_,_⟩:=DataW.trod_int Tryz.underlying3 g2;obtain ⟨z3,e3,_,_⟩:=DataW.trod_int Tryz.underlying3 g3
 cases e0;cases e1;cases e2;cases e3
 exact ⟨⟨z0,z1,z2,z3⟩,rfl⟩
theorem NZ {n:Nat} {cs:List Value} {x:DataW H × List MemPlace} (h:DataW.trod enc Tryz.prog W 0 (fun _=>true) true n 83 cs=some x) (hw:(x.1.weights Tryz.prog 83).all (· ≤reachBytes)=true):∃ e:En,cs=dn e∧iL W (fun _=>True) e:=by
 obtain ⟨ys,m,_,rfl,hl,hlen,hf⟩:=DataW.trod_struct Tryz.underlying83 h;obtain ⟨v0,v1,v2,v3,v4,rfl⟩:=aj9 (hl.trans ZU);obtain ⟨y0,y1,y2,y3,y4,rfl⟩:=aj9 hlen;have g0:=hf 0 _ rfl;have g1:=hf 1 _ rfl;have g2:=hf 2 _ rfl;have g3:=hf 3 _ rfl;have g4:=hf 4 _ rfl;clear hf h
 simp [V8,Aj,OE,V9,ZV] at g0 g1 g2 g3 g4
 rw [DataW.weights.eq_def] at hw
 simp only [Tryz.underlying83,List.map_cons,List.map_nil,DataW.weightsEach] at hw
 obtain ⟨z0,e0,_,_⟩:=DataW.trod_string Tryz.underlying9 g0;obtain ⟨z1,e1,_,_⟩:=DataW.trod_string Tryz.underlying9 g1;obtain ⟨A2,c2,l2,e2,r2⟩:=D9 g2 (lJ (jd (jd hw)));obtain ⟨A3,c3,l3,e3,r3⟩:=D9 g3 (lJ (jd (jd (jd hw))));obtain ⟨z4,e4,_,_⟩:=DataW.trod_int Tryz.underlying3 g4
 cases e0;cases e1;cases e2;cases e3;cases e4
 exact ⟨⟨⟨z0,z1,l2,l3,z4⟩,A2,c2,A3,c3⟩,rfl,r2,r3⟩
theorem VN {n:Nat} {cs:List Value} {x:DataW H × List MemPlace} (h:DataW.trod enc Tryz.prog W 0 (fun _=>true) true n 27 cs=some x) (hw:(x.1.weights Tryz.prog 27).all (· ≤reachBytes)=true):
 ∃ (A:Option Addr) (c:Nat) (l:List En),cs=[.slice A l.length c]∧ni W (fun _=>True) A c l∧l.length*88≤140737488355328:=by
 obtain ⟨A,c,l,e,hr,hq,hb⟩:=D6 (f:=dn) (Q:=iL W (fun _=>True)) Tryz.underlying27 ZU (by omega) (fun _=>rfl) (by rw [akv];omega) (fun n cs x h hw=>NZ h hw) h hw;rw [akv] at hb;exact ⟨A,c,l,e,⟨hr,hq⟩,Nat.le_trans hb (by decide)⟩
variable {b0:Nat} {v:Value} {d:DataW H} {ps:List MemPlace}
theorem Ti (hv:Value.okWide Tryz.prog W .any b0 23 v) (h:DataW.Trod enc Tryz.prog W 0 (fun _=>true) true 23 v d ps):∃ g:Sk.Game,v=lX g:=by
 obtain ⟨n,hn⟩:=h;obtain ⟨g,he⟩:=Tj hn;exact ⟨g,Xp (P:=Tryz.prog) Tryz.underlying23 hv he⟩
theorem VL (hv:Value.okWide Tryz.prog W .any b0 27 v) (h:DataW.Trod enc Tryz.prog W 0 (fun _=>true) true 27 v d ps) (hw:(d.weights Tryz.prog 27).all (· ≤reachBytes)=true):
 ∃ (A:Option Addr) (c:Nat) (l:List En),v= .slice A l.length c∧ni W (fun _=>True) A c l∧l.length*88≤140737488355328:=by
 obtain ⟨n,hn⟩:=h;obtain ⟨A,c,l,he,h1,h2⟩:=VN hn hw;obtain ⟨a,k,m,rfl⟩:=okWide_slice Tryz.underlying27 hv;have he:[Value.slice a k m]=[.slice A l.length c]:=he;exact ⟨A,c,l,List.singleton_inj.1 he,h1,h2⟩
end
end Go.Proofs.YtjbbfmofpjflmaaGreatDoor
