/- Parts of a proof. -/
import Derived.Test.YtcbmedfongiojaaGreatDoorKa0
import Derived.Test.YtcbmedfongiojaaGreatDoorKa2
import Derived.Test.YtcbmedfongiojaaGreatDoorKt16
set_option maxRecDepth 100000
set_option linter.unusedVariables false
set_option linter.unusedSimpArgs false
namespace Go.Proofs.YtcbmedfongiojaaGreatDoor
open Go.RowKit Go.ChangeShapes Go.WideShapes
section
variable {H:Type} {enc:TypeId × Value→H} {W:World}
theorem aBs {α:Type} {l:List α} (h:l.length=5):∃ a0 a1 a2 a3 a4,l=[a0,a1,a2,a3,a4]:=by match l,h with | [a0,a1,a2,a3,a4],_=>exact ⟨a0,a1,a2,a3,a4,rfl⟩
theorem azb:Tryz.prog.cellsOf 41=5:=by kernel_rfl
theorem aBU:Tryz.prog.bytesOf 9=16:=by kernel_rfl
theorem aBN:Tryz.prog.bytesOf 41=88:=by kernel_rfl
instance:Inhabited Sk.Entry:=⟨⟨⟨#[]⟩,⟨#[]⟩,[],[],0⟩⟩
instance:Inhabited En:=⟨⟨default,none,0,none,0⟩⟩
theorem anj {n:Nat} {cs:List Value} {x:DataW H × List MemPlace} (h:DataW.trod enc Tryz.prog W 0 (fun _=>true) true n 39 cs=some x) (hw:(x.1.weights Tryz.prog 39).all (· ≤reachBytes)=true):
 ∃ (A:Option Addr) (c:Nat) (l:List ByteArray),cs=[.slice A l.length c]∧kF W (fun _=>True) A c l:=by
 obtain ⟨A,c,l,e,hr,_,hb⟩:=amL (f:=fun p:ByteArray=>[.string p]) (Q:=fun _=>True) Tryz.underlying39 E5 (by omega) (fun _=>rfl) (by rw [aBU];omega)
  (fun n cs x h _=>let ⟨z,e,_,_⟩:=DataW.trod_string Tryz.underlying9 h;⟨z,e,trivial⟩) h hw
 refine ⟨A,c,l,e,?_⟩
 unfold kF
 rw [apL];exact hr
theorem ana {n:Nat} {cs:List Value} {x:DataW H × List MemPlace} (h:DataW.trod enc Tryz.prog W 0 (fun _=>true) true n 41 cs=some x) (hw:(x.1.weights Tryz.prog 41).all (· ≤reachBytes)=true):∃ e:En,cs=fC e∧je W (fun _=>True) e:=by
 obtain ⟨ys,m,_,rfl,hl,hlen,hf⟩:=DataW.trod_struct Tryz.underlying41 h;obtain ⟨v0,v1,v2,v3,v4,rfl⟩:=aBs (hl.trans azb);obtain ⟨y0,y1,y2,y3,y4,rfl⟩:=aBs hlen;have g0:=hf 0 _ rfl;have g1:=hf 1 _ rfl;have g2:=hf 2 _ rfl;have g3:=hf 3 _ rfl;have g4:=hf 4 _ rfl;clear hf h
 simp [NV,E5,NU,NW,Y7] at g0 g1 g2 g3 g4
 rw [DataW.weights.eq_def] at hw
 simp only [Tryz.underlying41,List.map_cons,List.map_nil,DataW.weightsEach] at hw
 obtain ⟨z0,e0,_,_⟩:=DataW.trod_string Tryz.underlying9 g0;obtain ⟨z1,e1,_,_⟩:=DataW.trod_string Tryz.underlying9 g1;obtain ⟨A2,c2,l2,e2,r2⟩:=anj g2 (aaK (aau (aau hw)));obtain ⟨A3,c3,l3,e3,r3⟩:=anj g3 (aaK (aau (aau (aau hw))));obtain ⟨z4,e4,_,_⟩:=DataW.trod_int Tryz.underlying3 g4
 cases e0;cases e1;cases e2;cases e3;cases e4
 exact ⟨⟨⟨z0,z1,l2,l3,z4⟩,A2,c2,A3,c3⟩,rfl,r2,r3⟩
theorem ayv {n:Nat} {cs:List Value} {x:DataW H × List MemPlace} (h:DataW.trod enc Tryz.prog W 0 (fun _=>true) true n 38 cs=some x) (hw:(x.1.weights Tryz.prog 38).all (· ≤reachBytes)=true):
 ∃ (A:Option Addr) (c:Nat) (l:List En),cs=[.slice A l.length c]∧wF W (fun _=>True) A c l∧l.length*88≤140737488355328:=by
 obtain ⟨A,c,l,e,hr,hq,hb⟩:=amL (f:=fC) (Q:=je W (fun _=>True)) Tryz.underlying38 azb (by omega) (fun _=>rfl) (by rw [aBN];omega) (fun n cs x h hw=>ana h hw) h hw;rw [aBN] at hb;exact ⟨A,c,l,e,⟨hr,hq⟩,Nat.le_trans hb (by decide)⟩
variable {b0:Nat} {v:Value} {d:DataW H} {ps:List MemPlace}
theorem ayh (hv:Value.okWide Tryz.prog W .any b0 38 v) (h:DataW.Trod enc Tryz.prog W 0 (fun _=>true) true 38 v d ps) (hw:(d.weights Tryz.prog 38).all (· ≤reachBytes)=true):
 ∃ (A:Option Addr) (c:Nat) (l:List En),v= .slice A l.length c∧wF W (fun _=>True) A c l∧l.length*88≤140737488355328:=by
 obtain ⟨n,hn⟩:=h;obtain ⟨A,c,l,he,h1,h2⟩:=ayv hn hw;obtain ⟨a,k,m,rfl⟩:=okWide_slice Tryz.underlying38 hv;have he:[Value.slice a k m]=[.slice A l.length c]:=he;exact ⟨A,c,l,List.singleton_inj.1 he,h1,h2⟩
end
theorem asi {n:Int} (h:(Lit.int .u8 n).wf=true):0≤n∧n≤255:=by
 simp only [Lit.wf,Bool.and_eq_true,decide_eq_true_eq] at h
 have h1:IntKind.u8.min=0:=by decide
 have h2:IntKind.u8.max=255:=by decide
 omega
section
variable {H:Type} {enc:TypeId × Value→H} {W:World} {b0:Nat} {v:Value} {d:DataW H} {ps:List MemPlace}
end
end Go.Proofs.YtcbmedfongiojaaGreatDoor
