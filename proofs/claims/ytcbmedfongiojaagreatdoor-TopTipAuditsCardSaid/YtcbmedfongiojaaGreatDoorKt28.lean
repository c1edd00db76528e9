/- Parts of a proof. -/
import Derived.Test.YtcbmedfongiojaaGreatDoorKt21
import Derived.Test.YtcbmedfongiojaaGreatDoorKt27
set_option maxHeartbeats 4000000
set_option maxRecDepth 100000
set_option linter.unusedVariables false
set_option linter.unusedSimpArgs false
namespace Go.Proofs.YtcbmedfongiojaaGreatDoor
open Go.RowKit
abbrev Nm.Vec:=Nm.Fr × Nm.Fr
def Nm.JJ (v:Nm.Vec):Bool:=Nm.ok v.1 && Nm.ok v.2
def Nm.Wp (v w:Nm.Vec):Nm.Vec:=(Nm.add v.1 w.1,Nm.add v.2 w.2)
def Nm.jT (v w:Nm.Vec):Nm.Vec:=(Nm.sub v.1 w.1,Nm.sub v.2 w.2)
def Nm.cross (v w:Nm.Vec):Nm.Fr:=Nm.sub (Nm.mul v.1 w.2) (Nm.mul v.2 w.1)
def Nm.cok (v w:Nm.Vec):Bool:=Nm.JJ v && Nm.JJ w && Nm.ok (Nm.mul v.1 w.2) && Nm.ok (Nm.mul v.2 w.1)
@[reducible] def pO (v:Nm.Vec):Value:= .agg #[.int .i64 v.1.n,.slice none 0 0,.int .i64 v.1.d,.slice none 0 0,.int .i64 v.2.n,.slice none 0 0,.int .i64 v.2.d,.slice none 0 0]
def aN (v:Nm.Vec):List Value:=[.int .i64 v.1.n,.slice none 0 0,.int .i64 v.1.d,.slice none 0 0,.int .i64 v.2.n,.slice none 0 0,.int .i64 v.2.d,.slice none 0 0]
theorem qZ (v:Nm.Vec):∀ x∈aN v,x.oneCell'=true:=by simp [aN,Value.oneCell']
theorem eP:(Tryz.prog.info? 111).map (·.size)=some 8:=by kernel_rfl
theorem jh:(Tryz.prog.info? 66).map (·.size)=some 2:=by kernel_rfl
theorem Di (v u:Nm.Vec) (w:World) (hv:Nm.JJ v=true) (hu:Nm.JJ u=true):Calls Tryz.prog 46 #[pO v,pO u] w fun e w'=>e= .returned (pO (Nm.Wp v u))∧Below w.heap.size w w':=by
 obtain ⟨a1,a2⟩:=v;obtain ⟨b1,b2⟩:=u;obtain ⟨ha1,ha2⟩:=Bool.and_eq_true_iff.1 hv;obtain ⟨hb1',hb2'⟩:=Bool.and_eq_true_iff.1 hu;have H1:=fun W=>pY a1 b1 W ha1 hb1';have H2:=fun W=>pY a2 b2 W ha2 hb2';rw [show Nm.Wp (a1,a2) (b1,b2)=(Nm.add a1 b1,Nm.add a2 b2) from rfl];obtain ⟨c1,hc1⟩:∃ c,Nm.add a1 b1=c:=⟨_,rfl⟩;obtain ⟨c2,hc2⟩:∃ c,Nm.add a2 b2=c:=⟨_,rfl⟩
 simp only [hc1] at H1 ⊢
 simp only [hc2] at H2 ⊢
 clear hc1 hc2;have H1:=hide H1;have H2:=hide H2
 go_enter Tryz.func46,Tryz.ntmps46
 go_upto_region 0 with (fail)
 go_cut [2,3,4] (fun v2 v3 v4 wx=>v2=ptr w.heap.size∧v3=ptr (w.heap.size+1)∧v4=ptr (w.heap.size+2)∧aC w wx [(aN (a1,a2),111),(aN (b1,b2),111),(aN (⟨0,0⟩,⟨0,0⟩),111)])
 case first=>
  go_wp2;go_meet;exact ⟨rfl,rfl,rfl,((((aC.nil w).new (by simp) (aN (a1,a2)) _).new (by simp) (aN (b1,b2)) _).new (by simp) (aN (⟨0,0⟩,⟨0,0⟩)) _)⟩
 case rest=>
  obtain ⟨rfl,rfl,rfl,hB⟩:=hcut;have hB0:=hB
  go_upto_region 1 with (fail)
  refine wp_region_held_drew (S:=(fun w':World=>w'.cell? ⟨w.heap.size,0,none⟩=some (.int .i64 ((((a1,a2):Nm.Vec)).1).n)∧w'.cell? ⟨w.heap.size,1,none⟩=some (.slice none 0 0)∧w'.cell? ⟨w.heap.size,2,none⟩=some (.int .i64 ((((a1,a2):Nm.Vec)).1).d)∧w'.cell? ⟨w.heap.size,3,none⟩=some (.slice none 0 0)∧w'.cell? ⟨w.heap.size,4,none⟩=some (.int .i64 ((((a1,a2):Nm.Vec)).2).n)∧w'.cell? ⟨w.heap.size,5,none⟩=some (.slice none 0 0)∧w'.cell? ⟨w.heap.size,6,none⟩=some (.int .i64 ((((a1,a2):Nm.Vec)).2).d)∧w'.cell? ⟨w.heap.size,7,none⟩=some (.slice none 0 0)∧w'.cell? ⟨w.heap.size+1,0,none⟩=some (.int .i64 ((((b1,b2):Nm.Vec)).1).n)∧w'.cell? ⟨w.heap.size+1,1,none⟩=some (.slice none 0 0)∧w'.cell? ⟨w.heap.size+1,2,none⟩=some (.int .i64 ((((b1,b2):Nm.Vec)).1).d)∧w'.cell? ⟨w.heap.size+1,3,none⟩=some (.slice none 0 0)∧w'.cell? ⟨w.heap.size+1,4,none⟩=some (.int .i64 ((((b1,b2):Nm.Vec)).2).n)∧w'.cell? ⟨w.heap.size+1,5,none⟩=some (.slice none 0 0)∧w'.cell? ⟨w.heap.size+1,6,none⟩=some (.int .i64 ((((b1,b2):Nm.Vec)).2).d)∧w'.cell? ⟨w.heap.size+1,7,none⟩=some (.slice none 0 0))) (by kernel_rfl) ?bU (fun hHeld=>?_)
  case bU=>exact ⟨((hB0.drew).aj rfl).cell (j:=0) rfl,((hB0.drew).aj rfl).cell (j:=1) rfl,((hB0.drew).aj rfl).cell (j:=2) rfl,((hB0.drew).aj rfl).cell (j:=3) rfl,((hB0.drew).aj rfl).cell (j:=4) rfl,((hB0.drew).aj rfl).cell (j:=5) rfl,((hB0.drew).aj rfl).cell (j:=6) rfl,((hB0.drew).aj rfl).cell (j:=7) rfl,((hB0.drew).get 1 rfl).cell (j:=0) rfl,((hB0.drew).get 1 rfl).cell (j:=1) rfl,((hB0.drew).get 1 rfl).cell (j:=2) rfl,((hB0.drew).get 1 rfl).cell (j:=3) rfl,((hB0.drew).get 1 rfl).cell (j:=4) rfl,((hB0.drew).get 1 rfl).cell (j:=5) rfl,((hB0.drew).get 1 rfl).cell (j:=6) rfl,((hB0.drew).get 1 rfl).cell (j:=7) rfl⟩
  refine tk 0 ?_;refine tk 1 ?_;refine tk 2 ?_;refine tk 3 ?_;refine tk 5 ?_;refine tk 6 ?_;refine tk 7 ?_;refine tk 8 ?_;refine tr 4 fun K hK=>?_;go_simp
  (go_at_call 86;refine (H1.out _).mono ?_;rintro e w1 ⟨rfl,hb1⟩)
  have hB1:=hB0.drew.call (by simp) hb1;refine hK.out _ _ ?vW (fun hHeld=>?_)
  case vW=>(exact ⟨((hB1).aj rfl).cell (j:=0) rfl,((hB1).aj rfl).cell (j:=1) rfl,((hB1).aj rfl).cell (j:=2) rfl,((hB1).aj rfl).cell (j:=3) rfl,((hB1).aj rfl).cell (j:=4) rfl,((hB1).aj rfl).cell (j:=5) rfl,((hB1).aj rfl).cell (j:=6) rfl,((hB1).aj rfl).cell (j:=7) rfl,((hB1).get 1 rfl).cell (j:=0) rfl,((hB1).get 1 rfl).cell (j:=1) rfl,((hB1).get 1 rfl).cell (j:=2) rfl,((hB1).get 1 rfl).cell (j:=3) rfl,((hB1).get 1 rfl).cell (j:=4) rfl,((hB1).get 1 rfl).cell (j:=5) rfl,((hB1).get 1 rfl).cell (j:=6) rfl,((hB1).get 1 rfl).cell (j:=7) rfl⟩)
  clear hK K
  try simp only [Act.put,la,lz,ls]
  refine tr 9 fun K hK=>?_;go_simp
  (go_at_call 86;refine (H2.out _).mono ?_;rintro e w2 ⟨rfl,hb2⟩)
  have hB2:=hB1.call (by simp) hb2;have yj:=(hB2.get 2 rfl).cell (j:=0) rfl;have mW:=(hB2.get 2 rfl).frozen 0;have yu:=(hB2.get 2 rfl).cell (j:=1) rfl;have mX:=(hB2.get 2 rfl).frozen 1;have yx:=(hB2.get 2 rfl).cell (j:=2) rfl;have mY:=(hB2.get 2 rfl).frozen 2;have yA:=(hB2.get 2 rfl).cell (j:=3) rfl;have mZ:=(hB2.get 2 rfl).frozen 3;have kz4:=(hB2.get 2 rfl).cell (j:=4) rfl;have Py:=(hB2.get 2 rfl).frozen 4;have kz5:=(hB2.get 2 rfl).cell (j:=5) rfl;have Pz:=(hB2.get 2 rfl).frozen 5;have kz6:=(hB2.get 2 rfl).cell (j:=6) rfl;have PD:=(hB2.get 2 rfl).frozen 6;have kz7:=(hB2.get 2 rfl).cell (j:=7) rfl;have PE:=(hB2.get 2 rfl).frozen 7;have hV:=((((((((hB2).set 2 rfl 0 (.int .i64 ((((c1,c2):Nm.Vec)).1).n)).set 2 rfl 1 (.slice none 0 0)).set 2 rfl 2 (.int .i64 ((((c1,c2):Nm.Vec)).1).d)).set 2 rfl 3 (.slice none 0 0)).set 2 rfl 4 (.int .i64 ((((c1,c2):Nm.Vec)).2).n)).set 2 rfl 5 (.slice none 0 0)).set 2 rfl 6 (.int .i64 ((((c1,c2):Nm.Vec)).2).d)).set 2 rfl 7 (.slice none 0 0);refine hK.out _ _ ?Ad (fun hHeld=>?_)
  case Ad=>(exact ⟨((hB2).aj rfl).cell (j:=0) rfl,((hB2).aj rfl).cell (j:=1) rfl,((hB2).aj rfl).cell (j:=2) rfl,((hB2).aj rfl).cell (j:=3) rfl,((hB2).aj rfl).cell (j:=4) rfl,((hB2).aj rfl).cell (j:=5) rfl,((hB2).aj rfl).cell (j:=6) rfl,((hB2).aj rfl).cell (j:=7) rfl,((hB2).get 1 rfl).cell (j:=0) rfl,((hB2).get 1 rfl).cell (j:=1) rfl,((hB2).get 1 rfl).cell (j:=2) rfl,((hB2).get 1 rfl).cell (j:=3) rfl,((hB2).get 1 rfl).cell (j:=4) rfl,((hB2).get 1 rfl).cell (j:=5) rfl,((hB2).get 1 rfl).cell (j:=6) rfl,((hB2).get 1 rfl).cell (j:=7) rfl⟩)
  clear hK K
  try simp only [Act.put,la,lz,ls]
  refine tk 10 ?_;refine tr 11 fun K hK=>?_;go_simp;refine hK.out _ _ ?uG (fun hHeld=>?_)
  case uG=>(exact ⟨((hV).aj rfl).cell (j:=0) rfl,((hV).aj rfl).cell (j:=1) rfl,((hV).aj rfl).cell (j:=2) rfl,((hV).aj rfl).cell (j:=3) rfl,((hV).aj rfl).cell (j:=4) rfl,((hV).aj rfl).cell (j:=5) rfl,((hV).aj rfl).cell (j:=6) rfl,((hV).aj rfl).cell (j:=7) rfl,((hV).get 1 rfl).cell (j:=0) rfl,((hV).get 1 rfl).cell (j:=1) rfl,((hV).get 1 rfl).cell (j:=2) rfl,((hV).get 1 rfl).cell (j:=3) rfl,((hV).get 1 rfl).cell (j:=4) rfl,((hV).get 1 rfl).cell (j:=5) rfl,((hV).get 1 rfl).cell (j:=6) rfl,((hV).get 1 rfl).cell (j:=7) rfl⟩)
  clear hK K
  try simp only [Act.put,la,lz,ls]
  refine wpAnyH_done (by kernel_rfl) ?_ _;go_wp2;exact bodyPost_ret (aP (p:=4) (hV.get 2 rfl) Tryz.underlying111 rfl eP rfl _ rfl) rfl ⟨rfl,hV.bw⟩
theorem xI (v u:Nm.Vec) (w:World) (hv:Nm.JJ v=true) (hu:Nm.JJ u=true):Calls Tryz.prog 81 #[pO v,pO u] w fun e w'=>e= .returned (pO (Nm.jT v u))∧Below w.heap.size w w':=by
 obtain ⟨a1,a2⟩:=v;obtain ⟨b1,b2⟩:=u;obtain ⟨ha1,ha2⟩:=Bool.and_eq_true_iff.1 hv;obtain ⟨hb1',hb2'⟩:=Bool.and_eq_true_iff.1 hu;have H1:=fun W=>lQ a1 b1 W ha1 hb1';have H2:=fun W=>lQ a2 b2 W ha2 hb2';rw [show Nm.jT (a1,a2) (b1,b2)=(Nm.sub a1 b1,Nm.sub a2 b2) from rfl];obtain ⟨c1,hc1⟩:∃ c,Nm.sub a1 b1=c:=⟨_,rfl⟩;obtain ⟨c2,hc2⟩:∃ c,Nm.sub a2 b2=c:=⟨_,rfl⟩
 simp only [hc1] at H1 ⊢
 simp only [hc2] at H2 ⊢
 clear hc1 hc2;have H1:=hide H1;have H2:=hide H2
 go_enter Tryz.func81,Tryz.ntmps81
 go_upto_region 0 with (fail)
 go_cut [2,3,4] (fun v2 v3 v4 wx=>v2=ptr w.heap.size∧v3=ptr (w.heap.size+1)∧v4=ptr (w.heap.size+2)∧aC w wx [(aN (a1,a2),111),(aN (b1,b2),111),(aN (⟨0,0⟩,⟨0,0⟩),111)])
 case first=>
  go_wp2;go_meet;exact ⟨rfl,rfl,rfl,((((aC.nil w).new (by simp) (aN (a1,a2)) _).new (by simp) (aN (b1,b2)) _).new (by simp) (aN (⟨0,0⟩,⟨0,0⟩)) _)⟩
 case rest=>
  obtain ⟨rfl,rfl,rfl,hB⟩:=hcut;have hB0:=hB
  go_upto_region 1 with (fail)
  refine wp_region_held_drew (S:=(fun w':World=>w'.cell? ⟨w.heap.size,0,none⟩=some (.int .i64 ((((a1,a2):Nm.Vec)).1).n)∧w'.cell? ⟨w.heap.size,1,none⟩=some (.slice none 0 0)∧w'.cell? ⟨w.heap.size,2,none⟩=some (.int .i64 ((((a1,a2):Nm.Vec)).1).d)∧w'.cell? ⟨w.heap.size,3,none⟩=some (.slice none 0 0)∧w'.cell? ⟨w.heap.size,4,none⟩=some (.int .i64 ((((a1,a2):Nm.Vec)).2).n)∧w'.cell? ⟨w.heap.size,5,none⟩=some (.slice none 0 0)∧w'.cell? ⟨w.heap.size,6,none⟩=some (.int .i64 ((((a1,a2):Nm.Vec)).2).d)∧w'.cell? ⟨w.heap.size,7,none⟩=some (.slice none 0 0)∧w'.cell? ⟨w.heap.size+1,0,none⟩=some (.int .i64 ((((b1,b2):Nm.Vec)).1).n)∧w'.cell? ⟨w.heap.size+1,1,none⟩=some (.slice none 0 0)∧w'.cell? ⟨w.heap.size+1,2,none⟩=some (.int .i64 ((((b1,b2):Nm.Vec)).1).d)∧w'.cell? ⟨w.heap.size+1,3,none⟩=some (.slice none 0 0)∧w'.cell? ⟨w.heap.size+1,4,none⟩=some (.int .i64 ((((b1,b2):Nm.Vec)).2).n)∧w'.cell? ⟨w.heap.size+1,5,none⟩=some (.slice none 0 0)∧w'.cell? ⟨w.heap.size+1,6,none⟩=some (.int .i64 ((((b1,b2):Nm.Vec)).2).d)∧w'.cell? ⟨w.heap.size+1,7,none⟩=some (.slice none 0 0))) (by kernel_rfl) ?cu (fun hHeld=>?_)
  case cu=>exact ⟨((hB0.drew).aj rfl).cell (j:=0) rfl,((hB0.drew).aj rfl).cell (j:=1) rfl,((hB0.drew).aj rfl).cell (j:=2) rfl,((hB0.drew).aj rfl).cell (j:=3) rfl,((hB0.drew).aj rfl).cell (j:=4) rfl,((hB0.drew).aj rfl).cell (j:=5) rfl,((hB0.drew).aj rfl).cell (j:=6) rfl,((hB0.drew).aj rfl).cell (j:=7) rfl,((hB0.drew).get 1 rfl).cell (j:=0) rfl,((hB0.drew).get 1 rfl).cell (j:=1) rfl,((hB0.drew).get 1 rfl).cell (j:=2) rfl,((hB0.drew).get 1 rfl).cell (j:=3) rfl,((hB0.drew).get 1 rfl).cell (j:=4) rfl,((hB0.drew).get 1 rfl).cell (j:=5) rfl,((hB0.drew).get 1 rfl).cell (j:=6) rfl,((hB0.drew).get 1 rfl).cell (j:=7) rfl⟩
  refine tk 0 ?_;refine tk 1 ?_;refine tk 2 ?_;refine tk 3 ?_;refine tk 5 ?_;refine tk 6 ?_;refine tk 7 ?_;refine tk 8 ?_;refine tr 4 fun K hK=>?_;go_simp
  (go_at_call 98;refine (H1.out _).mono ?_;rintro e w1 ⟨rfl,hb1⟩)
  have hB1:=hB0.drew.call (by simp) hb1;refine hK.out _ _ ?vX (fun hHeld=>?_)
  case vX=>(exact ⟨((hB1).aj rfl).cell (j:=0) rfl,((hB1).aj rfl).cell (j:=1) rfl,((hB1).aj rfl).cell (j:=2) rfl,((hB1).aj rfl).cell (j:=3) rfl,((hB1).aj rfl).cell (j:=4) rfl,((hB1).aj rfl).cell (j:=5) rfl,((hB1).aj rfl).cell (j:=6) rfl,((hB1).aj rfl).cell (j:=7) rfl,((hB1).get 1 rfl).cell (j:=0) rfl,((hB1).get 1 rfl).cell (j:=1) rfl,((hB1).get 1 rfl).cell (j:=2) rfl,((hB1).get 1 rfl).cell (j:=3) rfl,((hB1).get 1 rfl).cell (j:=4) rfl,((hB1).get 1 rfl).cell (j:=5) rfl,((hB1).get 1 rfl).cell (j:=6) rfl,((hB1).get 1 rfl).cell (j:=7) rfl⟩)
  clear hK K
  try simp only [Act.put,la,lz,ls]
  refine tr 9 fun K hK=>?_;go_simp
  (go_at_call 98;refine (H2.out _).mono ?_;rintro e w2 ⟨rfl,hb2⟩)
  have hB2:=hB1.call (by simp) hb2;have yj:=(hB2.get 2 rfl).cell (j:=0) rfl;have mW:=(hB2.get 2 rfl).frozen 0;have yu:=(hB2.get 2 rfl).cell (j:=1) rfl;have mX:=(hB2.get 2 rfl).frozen 1;have yx:=(hB2.get 2 rfl).cell (j:=2) rfl;have mY:=(hB2.get 2 rfl).frozen 2;have yA:=(hB2.get 2 rfl).cell (j:=3) rfl;have mZ:=(hB2.get 2 rfl).frozen 3;have kz4:=(hB2.get 2 rfl).cell (j:=4) rfl;have Py:=(hB2.get 2 rfl).frozen 4;have kz5:=(hB2.get 2 rfl).cell (j:=5) rfl;have Pz:=(hB2.get 2 rfl).frozen 5;have kz6:=(hB2.get 2 rfl).cell (j:=6) rfl;have PD:=(hB2.get 2 rfl).frozen 6;have kz7:=(hB2.get 2 rfl).cell (j:=7) rfl;have PE:=(hB2.get 2 rfl).frozen 7;have hV:=((((((((hB2).set 2 rfl 0 (.int .i64 ((((c1,c2):Nm.Vec)).1).n)).set 2 rfl 1 (.slice none 0 0)).set 2 rfl 2 (.int .i64 ((((c1,c2):Nm.Vec)).1).d)).set 2 rfl 3 (.slice none 0 0)).set 2 rfl 4 (.int .i64 ((((c1,c2):Nm.Vec)).2).n)).set 2 rfl 5 (.slice none 0 0)).set 2 rfl 6 (.int .i64 ((((c1,c2):Nm.Vec)).2).d)).set 2 rfl 7 (.slice none 0 0);refine hK.out _ _ ?Qy (fun hHeld=>?_)
  case Qy=>(exact ⟨((hB2).aj rfl).cell (j:=0) rfl,((hB2).aj rfl).cell (j:=1) rfl,((hB2).aj rfl).cell (j:=2) rfl,((hB2).aj rfl).cell (j:=3) rfl,((hB2).aj rfl).cell (j:=4) rfl,((hB2).aj rfl).cell (j:=5) rfl,((hB2).aj rfl).cell (j:=6) rfl,((hB2).aj rfl).cell (j:=7) rfl,((hB2).get 1 rfl).cell (j:=0) rfl,((hB2).get 1 rfl).cell (j:=1) rfl,((hB2).get 1 rfl).cell (j:=2) rfl,((hB2).get 1 rfl).cell (j:=3) rfl,((hB2).get 1 rfl).cell (j:=4) rfl,((hB2).get 1 rfl).cell (j:=5) rfl,((hB2).get 1 rfl).cell (j:=6) rfl,((hB2).get 1 rfl).cell (j:=7) rfl⟩)
  clear hK K
  try simp only [Act.put,la,lz,ls]
  refine tk 10 ?_;refine tr 11 fun K hK=>?_;go_simp;refine hK.out _ _ ?Af (fun hHeld=>?_)
  case Af=>(exact ⟨((hV).aj rfl).cell (j:=0) rfl,((hV).aj rfl).cell (j:=1) rfl,((hV).aj rfl).cell (j:=2) rfl,((hV).aj rfl).cell (j:=3) rfl,((hV).aj rfl).cell (j:=4) rfl,((hV).aj rfl).cell (j:=5) rfl,((hV).aj rfl).cell (j:=6) rfl,((hV).aj rfl).cell (j:=7) rfl,((hV).get 1 rfl).cell (j:=0) rfl,((hV).get 1 rfl).cell (j:=1) rfl,((hV).get 1 rfl).cell (j:=2) rfl,((hV).get 1 rfl).cell (j:=3) rfl,((hV).get 1 rfl).cell (j:=4) rfl,((hV).get 1 rfl).cell (j:=5) rfl,((hV).get 1 rfl).cell (j:=6) rfl,((hV).get 1 rfl).cell (j:=7) rfl⟩)
  clear hK K
  try simp only [Act.put,la,lz,ls]
  refine wpAnyH_done (by kernel_rfl) ?_ _;go_wp2;exact bodyPost_ret (aP (p:=4) (hV.get 2 rfl) Tryz.underlying111 rfl eP rfl _ rfl) rfl ⟨rfl,hV.bw⟩
theorem KO (v u:Nm.Vec) (w:World) (hc:Nm.cok v u=true):Calls Tryz.prog 82 #[pO v,pO u] w fun e w'=>e= .returned (fD (Nm.cross v u))∧Below w.heap.size w w':=by
 obtain ⟨a1,a2⟩:=v;obtain ⟨b1,b2⟩:=u
 unfold Nm.cok Nm.JJ at hc
 simp only [Bool.and_eq_true] at hc
 obtain ⟨⟨⟨⟨ha1,ha2⟩,hb1',hb2'⟩,hp⟩,hq⟩:=hc;have H1:=fun W=>gG a1 b2 W ha1 hb2';have H2:=fun W=>gG a2 b1 W ha2 hb1';rw [show Nm.cross (a1,a2) (b1,b2)=Nm.sub (Nm.mul a1 b2) (Nm.mul a2 b1) from rfl];have H3:=fun W=>lQ (Nm.mul a1 b2) (Nm.mul a2 b1) W hp hq;obtain ⟨c1,hc1⟩:∃ c,Nm.mul a1 b2=c:=⟨_,rfl⟩;obtain ⟨c2,hc2⟩:∃ c,Nm.mul a2 b1=c:=⟨_,rfl⟩
 simp only [hc1] at H1 H3 ⊢
 simp only [hc2] at H2 H3 ⊢
 obtain ⟨c3,hc3⟩:∃ c,Nm.sub c1 c2=c:=⟨_,rfl⟩
 simp only [hc3] at H3 ⊢
 clear hc1 hc2 hc3 hp hq;have H1:=hide H1;have H2:=hide H2;have H3:=hide H3
 go_enter Tryz.func82,Tryz.ntmps82
 go_upto_region 0 with (fail)
 go_cut [2,3,4] (fun v2 v3 v4 wx=>v2=ptr w.heap.size∧v3=ptr (w.heap.size+1)∧v4=ptr (w.heap.size+2)∧aC w wx [(aN (a1,a2),111),(aN (b1,b2),111),(ah ⟨0,0⟩,109)])
 case first=>
  go_wp2;go_meet;exact ⟨rfl,rfl,rfl,((((aC.nil w).new (by simp) (aN (a1,a2)) _).new (by simp) (aN (b1,b2)) _).new (by simp) (ah ⟨0,0⟩) _)⟩
 case rest=>
  obtain ⟨rfl,rfl,rfl,hB⟩:=hcut;have hB0:=hB
  go_upto_region 1 with (fail)
  refine wp_region_held_drew (S:=(fun w':World=>w'.cell? ⟨w.heap.size,0,none⟩=some (.int .i64 ((((a1,a2):Nm.Vec)).1).n)∧w'.cell? ⟨w.heap.size,1,none⟩=some (.slice none 0 0)∧w'.cell? ⟨w.heap.size,2,none⟩=some (.int .i64 ((((a1,a2):Nm.Vec)).1).d)∧w'.cell? ⟨w.heap.size,3,none⟩=some (.slice none 0 0)∧w'.cell? ⟨w.heap.size,4,none⟩=some (.int .i64 ((((a1,a2):Nm.Vec)).2).n)∧w'.cell? ⟨w.heap.size,5,none⟩=some (.slice none 0 0)∧w'.cell? ⟨w.heap.size,6,none⟩=some (.int .i64 ((((a1,a2):Nm.Vec)).2).d)∧w'.cell? ⟨w.heap.size,7,none⟩=some (.slice none 0 0)∧w'.cell? ⟨w.heap.size+1,0,none⟩=some (.int .i64 ((((b1,b2):Nm.Vec)).1).n)∧w'.cell? ⟨w.heap.size+1,1,none⟩=some (.slice none 0 0)∧w'.cell? ⟨w.heap.size+1,2,none⟩=some (.int .i64 ((((b1,b2):Nm.Vec)).1).d)∧w'.cell? ⟨w.heap.size+1,3,none⟩=some (.slice none 0 0)∧w'.cell? ⟨w.heap.size+1,4,none⟩=some (.int .i64 ((((b1,b2):Nm.Vec)).2).n)∧w'.cell? ⟨w.heap.size+1,5,none⟩=some (.slice none 0 0)∧w'.cell? ⟨w.heap.size+1,6,none⟩=some (.int .i64 ((((b1,b2):Nm.Vec)).2).d)∧w'.cell? ⟨w.heap.size+1,7,none⟩=some (.slice none 0 0))) (by kernel_rfl) ?dF (fun hHeld=>?_)
  case dF=>exact ⟨((hB0.drew).aj rfl).cell (j:=0) rfl,((hB0.drew).aj rfl).cell (j:=1) rfl,((hB0.drew).aj rfl).cell (j:=2) rfl,((hB0.drew).aj rfl).cell (j:=3) rfl,((hB0.drew).aj rfl).cell (j:=4) rfl,((hB0.drew).aj rfl).cell (j:=5) rfl,((hB0.drew).aj rfl).cell (j:=6) rfl,((hB0.drew).aj rfl).cell (j:=7) rfl,((hB0.drew).get 1 rfl).cell (j:=0) rfl,((hB0.drew).get 1 rfl).cell (j:=1) rfl,((hB0.drew).get 1 rfl).cell (j:=2) rfl,((hB0.drew).get 1 rfl).cell (j:=3) rfl,((hB0.drew).get 1 rfl).cell (j:=4) rfl,((hB0.drew).get 1 rfl).cell (j:=5) rfl,((hB0.drew).get 1 rfl).cell (j:=6) rfl,((hB0.drew).get 1 rfl).cell (j:=7) rfl⟩
  refine tk 0 ?_;refine tk 1 ?_;refine tk 2 ?_;refine tk 3 ?_;refine tk 5 ?_;refine tk 6 ?_;refine tk 7 ?_;refine tk 8 ?_;refine tr 4 fun K hK=>?_;go_simp
  (go_at_call 97;refine (H1.out _).mono ?_;rintro e w1 ⟨rfl,hb1⟩)
  have hB1:=hB0.drew.call (by simp) hb1;refine hK.out _ _ ?Ah (fun hHeld=>?_)
  case Ah=>(exact ⟨((hB1).aj rfl).cell (j:=0) rfl,((hB1).aj rfl).cell (j:=1) rfl,((hB1).aj rfl).cell (j:=2) rfl,((hB1).aj rfl).cell (j:=3) rfl,((hB1).aj rfl).cell (j:=4) rfl,((hB1).aj rfl).cell (j:=5) rfl,((hB1).aj rfl).cell (j:=6) rfl,((hB1).aj rfl).cell (j:=7) rfl,((hB1).get 1 rfl).cell (j:=0) rfl,((hB1).get 1 rfl).cell (j:=1) rfl,((hB1).get 1 rfl).cell (j:=2) rfl,((hB1).get 1 rfl).cell (j:=3) rfl,((hB1).get 1 rfl).cell (j:=4) rfl,((hB1).get 1 rfl).cell (j:=5) rfl,((hB1).get 1 rfl).cell (j:=6) rfl,((hB1).get 1 rfl).cell (j:=7) rfl⟩)
  clear hK K
  try simp only [Act.put,la,lz,ls]
  refine tr 9 fun K hK=>?_;go_simp
  (go_at_call 97;refine (H2.out _).mono ?_;rintro e w2 ⟨rfl,hb2⟩)
  have hB2:=hB1.call (by simp) hb2;refine hK.out _ _ ?Gw (fun hHeld=>?_)
  case Gw=>(exact ⟨((hB2).aj rfl).cell (j:=0) rfl,((hB2).aj rfl).cell (j:=1) rfl,((hB2).aj rfl).cell (j:=2) rfl,((hB2).aj rfl).cell (j:=3) rfl,((hB2).aj rfl).cell (j:=4) rfl,((hB2).aj rfl).cell (j:=5) rfl,((hB2).aj rfl).cell (j:=6) rfl,((hB2).aj rfl).cell (j:=7) rfl,((hB2).get 1 rfl).cell (j:=0) rfl,((hB2).get 1 rfl).cell (j:=1) rfl,((hB2).get 1 rfl).cell (j:=2) rfl,((hB2).get 1 rfl).cell (j:=3) rfl,((hB2).get 1 rfl).cell (j:=4) rfl,((hB2).get 1 rfl).cell (j:=5) rfl,((hB2).get 1 rfl).cell (j:=6) rfl,((hB2).get 1 rfl).cell (j:=7) rfl⟩)
  clear hK K
  try simp only [Act.put,la,lz,ls]
  refine tr 10 fun K hK=>?_;go_simp
  (go_at_call 98;refine (H3.out _).mono ?_;rintro e w3 ⟨rfl,hb3⟩)
  have hB3:=hB2.call (by simp) hb3;have yj:=(hB3.get 2 rfl).cell (j:=0) rfl;have mW:=(hB3.get 2 rfl).frozen 0;have yu:=(hB3.get 2 rfl).cell (j:=1) rfl;have mX:=(hB3.get 2 rfl).frozen 1;have yx:=(hB3.get 2 rfl).cell (j:=2) rfl;have mY:=(hB3.get 2 rfl).frozen 2;have yA:=(hB3.get 2 rfl).cell (j:=3) rfl;have mZ:=(hB3.get 2 rfl).frozen 3;have hV:=((((hB3).set 2 rfl 0 (.int .i64 (c3).n)).set 2 rfl 1 (.slice none 0 0)).set 2 rfl 2 (.int .i64 (c3).d)).set 2 rfl 3 (.slice none 0 0);refine hK.out _ _ ?uH (fun hHeld=>?_)
  case uH=>(exact ⟨((hB3).aj rfl).cell (j:=0) rfl,((hB3).aj rfl).cell (j:=1) rfl,((hB3).aj rfl).cell (j:=2) rfl,((hB3).aj rfl).cell (j:=3) rfl,((hB3).aj rfl).cell (j:=4) rfl,((hB3).aj rfl).cell (j:=5) rfl,((hB3).aj rfl).cell (j:=6) rfl,((hB3).aj rfl).cell (j:=7) rfl,((hB3).get 1 rfl).cell (j:=0) rfl,((hB3).get 1 rfl).cell (j:=1) rfl,((hB3).get 1 rfl).cell (j:=2) rfl,((hB3).get 1 rfl).cell (j:=3) rfl,((hB3).get 1 rfl).cell (j:=4) rfl,((hB3).get 1 rfl).cell (j:=5) rfl,((hB3).get 1 rfl).cell (j:=6) rfl,((hB3).get 1 rfl).cell (j:=7) rfl⟩)
  clear hK K
  try simp only [Act.put,la,lz,ls]
  refine tr 11 fun K hK=>?_;go_simp;refine hK.out _ _ ?Jm (fun hHeld=>?_)
  case Jm=>(exact ⟨((hV).aj rfl).cell (j:=0) rfl,((hV).aj rfl).cell (j:=1) rfl,((hV).aj rfl).cell (j:=2) rfl,((hV).aj rfl).cell (j:=3) rfl,((hV).aj rfl).cell (j:=4) rfl,((hV).aj rfl).cell (j:=5) rfl,((hV).aj rfl).cell (j:=6) rfl,((hV).aj rfl).cell (j:=7) rfl,((hV).get 1 rfl).cell (j:=0) rfl,((hV).get 1 rfl).cell (j:=1) rfl,((hV).get 1 rfl).cell (j:=2) rfl,((hV).get 1 rfl).cell (j:=3) rfl,((hV).get 1 rfl).cell (j:=4) rfl,((hV).get 1 rfl).cell (j:=5) rfl,((hV).get 1 rfl).cell (j:=6) rfl,((hV).get 1 rfl).cell (j:=7) rfl⟩)
  clear hK K
  try simp only [Act.put,la,lz,ls]
  refine wpAnyH_done (by kernel_rfl) ?_ _;go_wp2;exact bodyPost_ret (aP (p:=4) (hV.get 2 rfl) Tryz.underlying109 rfl aU rfl _ rfl) rfl ⟨rfl,hV.bw⟩
theorem yB (x y:Int) (w:World):Calls Tryz.prog 202 #[.agg #[.int .i64 x,.int .i64 y]] w fun e w'=>e= .returned (pO (⟨x,1⟩,⟨y,1⟩))∧Below w.heap.size w w':=by
 go_enter Tryz.func202,Tryz.ntmps202
 go_upto_region 0 with (fail)
 go_cut [1,2] (fun v1 v2 wx=>v1=ptr w.heap.size∧v2=ptr (w.heap.size+1)∧aC w wx [([.int .i64 x,.int .i64 y],62),(aN (⟨0,0⟩,⟨0,0⟩),111)])
 case first=>
  go_wp2;go_meet;exact ⟨rfl,rfl,(((aC.nil w).new (by simp) ([.int .i64 x,.int .i64 y]) _).new (by simp) (aN (⟨0,0⟩,⟨0,0⟩)) _)⟩
 case rest=>
  obtain ⟨rfl,rfl,hB⟩:=hcut;have hB0:=hB
  go_upto_region 1 with (fail)
  refine wp_region_held_drew (S:=(fun w':World=>w'.cell? ⟨w.heap.size,0,none⟩=some (.int .i64 x)∧w'.cell? ⟨w.heap.size,1,none⟩=some (.int .i64 y))) (by kernel_rfl) ?iK (fun hHeld=>?_)
  case iK=>exact ⟨((hB0.drew).aj rfl).cell (j:=0) rfl,((hB0.drew).aj rfl).cell (j:=1) rfl⟩
  refine tk 0 ?_;refine tk 1 ?_;refine tk 3 ?_;refine tk 4 ?_;refine tr 2 fun K hK=>?_;go_simp
  (go_at_call 100;refine (f_any x _).mono ?_;rintro e w1 ⟨rfl,hb1⟩)
  have hB1:=hB0.drew.call (by simp) hb1;refine hK.out _ _ ?QA (fun hHeld=>?_)
  case QA=>(exact ⟨((hB1).aj rfl).cell (j:=0) rfl,((hB1).aj rfl).cell (j:=1) rfl⟩)
  clear hK K
  try simp only [Act.put,la,lz,ls]
  refine tr 5 fun K hK=>?_;go_simp
  (go_at_call 100;refine (f_any y _).mono ?_;rintro e w2 ⟨rfl,hb2⟩)
  have hB2:=hB1.call (by simp) hb2;have yj:=(hB2.get 1 rfl).cell (j:=0) rfl;have mW:=(hB2.get 1 rfl).frozen 0;have yu:=(hB2.get 1 rfl).cell (j:=1) rfl;have mX:=(hB2.get 1 rfl).frozen 1;have yx:=(hB2.get 1 rfl).cell (j:=2) rfl;have mY:=(hB2.get 1 rfl).frozen 2;have yA:=(hB2.get 1 rfl).cell (j:=3) rfl;have mZ:=(hB2.get 1 rfl).frozen 3;have kz4:=(hB2.get 1 rfl).cell (j:=4) rfl;have Py:=(hB2.get 1 rfl).frozen 4;have kz5:=(hB2.get 1 rfl).cell (j:=5) rfl;have Pz:=(hB2.get 1 rfl).frozen 5;have kz6:=(hB2.get 1 rfl).cell (j:=6) rfl;have PD:=(hB2.get 1 rfl).frozen 6;have kz7:=(hB2.get 1 rfl).cell (j:=7) rfl;have PE:=(hB2.get 1 rfl).frozen 7;have hV:=((((((((hB2).set 1 rfl 0 (.int .i64 ((((⟨x,1⟩,⟨y,1⟩):Nm.Vec)).1).n)).set 1 rfl 1 (.slice none 0 0)).set 1 rfl 2 (.int .i64 ((((⟨x,1⟩,⟨y,1⟩):Nm.Vec)).1).d)).set 1 rfl 3 (.slice none 0 0)).set 1 rfl 4 (.int .i64 ((((⟨x,1⟩,⟨y,1⟩):Nm.Vec)).2).n)).set 1 rfl 5 (.slice none 0 0)).set 1 rfl 6 (.int .i64 ((((⟨x,1⟩,⟨y,1⟩):Nm.Vec)).2).d)).set 1 rfl 7 (.slice none 0 0);refine hK.out _ _ ?QB (fun hHeld=>?_)
  case QB=>(exact ⟨((hB2).aj rfl).cell (j:=0) rfl,((hB2).aj rfl).cell (j:=1) rfl⟩)
  clear hK K
  try simp only [Act.put,la,lz,ls]
  refine tk 6 ?_;refine tr 7 fun K hK=>?_;go_simp;refine hK.out _ _ ?QC (fun hHeld=>?_)
  case QC=>(exact ⟨((hV).aj rfl).cell (j:=0) rfl,((hV).aj rfl).cell (j:=1) rfl⟩)
  clear hK K
  try simp only [Act.put,la,lz,ls]
  refine wpAnyH_done (by kernel_rfl) ?_ _;go_wp2;exact bodyPost_ret (aP (p:=2) (hV.get 1 rfl) Tryz.underlying111 rfl eP rfl _ rfl) rfl ⟨rfl,hV.bw⟩
theorem Gi (s1 s2:ByteArray) (a1 a2:Nm.Fr) (w:World) (hg:Glob w) (H1:∀ W,Glob W→Calls Tryz.prog 49 #[.string s1] W fun e w'=>e= .returned (fD a1)∧Below W.heap.size W w') (H2:∀ W,Glob W→Calls Tryz.prog 49 #[.string s2] W fun e w'=>e= .returned (fD a2)∧Below W.heap.size W w'):
 Calls Tryz.prog 43 #[.agg #[.string s1,.string s2]] w fun e w'=>e= .returned (pO (a1,a2))∧Below w.heap.size w w':=by
 have H1:=hide H1;have H2:=hide H2
 go_enter Tryz.func43,Tryz.ntmps43
 go_upto_region 0 with (fail)
 go_cut [1,2] (fun v1 v2 wx=>v1=ptr w.heap.size∧v2=ptr (w.heap.size+1)∧aC w wx [([.string s1,.string s2],66),(aN (⟨0,0⟩,⟨0,0⟩),111)])
 case first=>
  go_wp2;go_meet;exact ⟨rfl,rfl,(((aC.nil w).new (by simp) ([.string s1,.string s2]) _).new (by simp) (aN (⟨0,0⟩,⟨0,0⟩)) _)⟩
 case rest=>
  obtain ⟨rfl,rfl,hB⟩:=hcut;have hB0:=hB
  go_upto_region 1 with (fail)
  refine wp_region_held_drew (S:=(fun w':World=>w'.cell? ⟨w.heap.size,0,none⟩=some (.string s1)∧w'.cell? ⟨w.heap.size,1,none⟩=some (.string s2))) (by kernel_rfl) ?kN (fun hHeld=>?_)
  case kN=>exact ⟨((hB0.drew).aj rfl).cell (j:=0) rfl,((hB0.drew).aj rfl).cell (j:=1) rfl⟩
  refine tk 0 ?_;refine tk 1 ?_;refine tk 3 ?_;refine tk 4 ?_;refine tr 2 fun K hK=>?_;go_simp
  (go_at_call 49;refine (H1.out _ (hg.below hB0.drew.bw)).mono ?_;rintro e w1 ⟨rfl,hb1⟩)
  have hB1:=hB0.drew.call (by simp) hb1;refine hK.out _ _ ?acH (fun hHeld=>?_)
  case acH=>(exact ⟨((hB1).aj rfl).cell (j:=0) rfl,((hB1).aj rfl).cell (j:=1) rfl⟩)
  clear hK K
  try simp only [Act.put,la,lz,ls]
  refine tr 5 fun K hK=>?_;go_simp
  (go_at_call 49;refine (H2.out _ (hg.below hB1.bw)).mono ?_;rintro e w2 ⟨rfl,hb2⟩)
  have hB2:=hB1.call (by simp) hb2;have yj:=(hB2.get 1 rfl).cell (j:=0) rfl;have mW:=(hB2.get 1 rfl).frozen 0;have yu:=(hB2.get 1 rfl).cell (j:=1) rfl;have mX:=(hB2.get 1 rfl).frozen 1;have yx:=(hB2.get 1 rfl).cell (j:=2) rfl;have mY:=(hB2.get 1 rfl).frozen 2;have yA:=(hB2.get 1 rfl).cell (j:=3) rfl;have mZ:=(hB2.get 1 rfl).frozen 3;have kz4:=(hB2.get 1 rfl).cell (j:=4) rfl;have Py:=(hB2.get 1 rfl).frozen 4;have kz5:=(hB2.get 1 rfl).cell (j:=5) rfl;have Pz:=(hB2.get 1 rfl).frozen 5;have kz6:=(hB2.get 1 rfl).cell (j:=6) rfl;have PD:=(hB2.get 1 rfl).frozen 6;have kz7:=(hB2.get 1 rfl).cell (j:=7) rfl;have PE:=(hB2.get 1 rfl).frozen 7;have hV:=((((((((hB2).set 1 rfl 0 (.int .i64 ((((a1,a2):Nm.Vec)).1).n)).set 1 rfl 1 (.slice none 0 0)).set 1 rfl 2 (.int .i64 ((((a1,a2):Nm.Vec)).1).d)).set 1 rfl 3 (.slice none 0 0)).set 1 rfl 4 (.int .i64 ((((a1,a2):Nm.Vec)).2).n)).set 1 rfl 5 (.slice none 0 0)).set 1 rfl 6 (.int .i64 ((((a1,a2):Nm.Vec)).2).d)).set 1 rfl 7 (.slice none 0 0);refine hK.out _ _ ?acV (fun hHeld=>?_)
  case acV=>(exact ⟨((hB2).aj rfl).cell (j:=0) rfl,((hB2).aj rfl).cell (j:=1) rfl⟩)
  clear hK K
  try simp only [Act.put,la,lz,ls]
  refine tk 6 ?_;refine tr 7 fun K hK=>?_;go_simp;refine hK.out _ _ ?ac2 (fun hHeld=>?_)
  case ac2=>(exact ⟨((hV).aj rfl).cell (j:=0) rfl,((hV).aj rfl).cell (j:=1) rfl⟩)
  clear hK K
  try simp only [Act.put,la,lz,ls]
  refine wpAnyH_done (by kernel_rfl) ?_ _;go_wp2;exact bodyPost_ret (aP (p:=2) (hV.get 1 rfl) Tryz.underlying111 rfl eP rfl _ rfl) rfl ⟨rfl,hV.bw⟩
theorem Nh (b:Bool) (e:Int) (w:World):Calls Tryz.prog 41 #[.bool b,.int .i64 e] w fun r w'=>r= .returned (.int .i64 (wh b e))∧w=w':=by
 cases b
 all_goals
  go_enter Tryz.func41,Tryz.ntmps41
  go_wp2;go_ret;exact ⟨bG (by simp [wh]),rfl⟩
theorem JD (S:Nat→Prop) (A:Option Addr) (c:Nat) (zs:List Int) (w:World) (h:kX w S A c zs):
 Calls Tryz.prog 40 #[.slice A zs.length c] w fun r w'=>r= .returned (.int .i64 (jK zs))∧w=w':=by
 obtain ⟨b1,b2,b3⟩:=h.bd
 go_enter Tryz.func40,Tryz.ntmps40
 go_wp2
 go_loop [7] (fun i=>∃ k:Nat,k≤zs.length∧i= .int .i64 k∧jK zs=jK (zs.drop k)) (fun i=>zs.length - (intOf i).toNat)
 case atStart=>exact ⟨0,Nat.zero_le _,rfl,by simp⟩
 case round=>
  obtain ⟨k,hk,rfl,hx⟩:=hrel
  by_cases hlt:k<zs.length
  · obtain ⟨b,o,rfl,_,_,hc⟩:=h.at_ k hlt
    have hck:=hc k hlt;rw [vg hlt] at hx;clear hc
    by_cases he:zs[k]=0
    · have he':(zs[k] != 0)=false:=by simp [he]
      rw [if_neg (by simp [he])] at hx;have HX:=hide hx;clear hx he;go_wp2
      go_round
      case rel=>exact ⟨k+1,by omega,by go_num,HX.out⟩
      case measure=>simp [intOf];omega
    · have he':(zs[k] != 0)=true:=by simp [he]
      rw [if_pos he] at hx;have HX:=hide hx;clear hx he;go_wp2;go_ret;exact ⟨bG HX.out.symm,rfl⟩
  · have hz:jK zs=0:=by rw [hx,List.drop_of_length_le (by omega),jK]
    have HX:=hide hz;clear hx hz;go_wp2;go_ret;exact ⟨bG HX.out.symm,rfl⟩
theorem iT (e:Int) (w:World):Calls Tryz.prog 41 #[.bool false,.int .i64 e] w fun r w'=>r= .returned (.int .i64 0)∧w=w':=Nh false e w
theorem yI (S:Nat→Prop) (A:Option Addr) (c n:Nat) (w:World) (h:kX w S A c (List.replicate n 0)):Calls Tryz.prog 40 #[.slice A n c] w fun r w'=>r= .returned (.int .i64 0)∧w=w':=by
 have:=JD S A c (List.replicate n 0) w h
 rw [List.length_replicate] at this;refine this.mono ?_
 rintro r w' ⟨rfl,rfl⟩
 refine ⟨?_,rfl⟩
 congr 2
 clear this h
 induction n with
 | zero=>rfl
 | succ n ih=>rw [List.replicate_succ];unfold jK;simpa using ih
theorem Ia (S:Nat→Prop) (A:Option Addr) (c:Nat) (l:List M.Dt) (g:Nat) (lb:Array Value) (p:M.Dt→Bool) (w:World) (h:oG w S A c l) (hg:NJ g lb U3 p w):
 Calls Tryz.prog 194 #[.slice A l.length c,.func (.func g) #[] lb] w fun e w'=>(∃ i:Int,e= .returned (.int .i64 i)∧decide (0≤i)=l.any p)∧Below w.heap.size w w':=by
 obtain ⟨b1,b2,b3⟩:=h.bd;obtain ⟨eg,hq⟩:=hg
 go_enter Tryz.func194,Tryz.ntmps194
 go_wp2
 go_loopw [8] (fun i wr=>∃ k:Nat,k≤l.length∧i= .int .i64 k∧Aside ((l.take k).any p=false)∧Aside (Below w.heap.size w wr)) (fun i _=>l.length - (intOf i).toNat)
 case atStart=>exact ⟨0,Nat.zero_le _,rfl,by simp [Aside],Below.refl _ _⟩
 case round=>
  obtain ⟨k,hk,rfl,hall,hbw⟩:=hrel
  by_cases hlt:k<l.length
  · obtain ⟨b,o,rfl,_,hbl,hc⟩:=h.at_ k hlt
    have hck:=hc k hlt;obtain ⟨hck1,Zx⟩:=hck;have hc1:wr.cell? ⟨b,o+k*2,none⟩=some (.int .i64 l[k].bC):=(hbw.out.cell (p:=⟨b,o+k*2,none⟩) hbl).trans hck1;have hc2:wr.cell? ⟨b,o+k*2+1,none⟩=some (.int .i64 l[k].kC):=(hbw.out.cell (p:=⟨b,o+k*2+1,none⟩) hbl).trans Zx;have hcall:=hq wr l[k] hbw.out;clear hc hck1 Zx hq
    cases hp:p l[k] with
    | true=>
      rw [hp] at hcall;have HP:=hide (Dw hlt hp);clear hp
      go_wp2_with (go_at_fn g;refine hcall.mono ?_;rintro e w2 ⟨rfl,hb2⟩)
      go_ret;exact ⟨⟨k,rfl,by rw [HP.out];simp⟩,hb2⟩
    | false=>
      rw [hp] at hcall;have HP:=hide (Bh hlt hall.out hp);clear hp
      go_wp2_with (go_at_fn g;refine hcall.mono ?_;rintro e w2 ⟨rfl,hb2⟩)
      go_roundw
      case rel=>exact ⟨k+1,by omega,by go_num,HP.out,hb2⟩
      case measure=>simp [intOf];omega
  · have HA:=hide (show l.any p=false by have:=hall.out;rwa [List.take_of_length_le (by omega)] at this)
    go_wp2;go_ret;exact ⟨⟨-1,rfl,by rw [HA.out];rfl⟩,hbw.out⟩
theorem N7 (S:Nat→Prop) (A:Option Addr) (c:Nat) (l:List M.Dt) (g:Nat) (lb:Array Value) (p:M.Dt→Bool) (w:World) (h:oG w S A c l) (hg:NJ g lb U3 p w):
 Calls Tryz.prog 138 #[.slice A l.length c,.func (.func g) #[] lb] w fun e w'=>e= .returned (.bool (l.any p))∧Below w.heap.size w w':=by
 go_enter Tryz.func138,Tryz.ntmps138
 go_wp2_with (go_at_call 194;refine (Ia S A c l g lb p w h hg).mono ?_;rintro e w2 ⟨⟨i,rfl,hi⟩,hb2⟩)
 go_ret;exact ⟨rfl,hb2⟩
theorem KR (w:World):NJ 139 #[] U3 (fun p=>decide (10000<max p.bC p.kC) || decide (min p.bC p.kC< -10000)) w:=by
 refine ⟨enters_of Tryz.func139 (by kernel_rfl) rfl,fun W x hb=>?_⟩;obtain ⟨x,y⟩:=x;obtain ⟨b1,hb1⟩:∃ b,decide (10000<max x y)=b:=⟨_,rfl⟩;obtain ⟨b2,hb2⟩:∃ b,decide (min x y< -10000)=b:=⟨_,rfl⟩
 cases b1 with
 | true=>
   go_enter Tryz.func139,Tryz.ntmps139
   go_wp2
   all_goals
    go_ret;exact ⟨aI (by simp [hb1]),hb.alloc hb.size _⟩
 | false=>
   go_enter Tryz.func139,Tryz.ntmps139
   go_wp2
   all_goals
    go_ret;exact ⟨aI (by simp [hb1,hb2]),hb.alloc hb.size _⟩
theorem JC (nm x y:ByteArray) (b:Nat) (w:World) (hc:w.cell? ⟨b,0,none⟩=some (.string nm)) (hb:b<w.heap.size):Calls Tryz.prog 78 #[.agg #[.string nm,.string x,.string y],.pointer (some ⟨b,0,none⟩)] w fun e w'=>e= .returned (.bool true)∧Below w.heap.size w w':=by
 have he:(nm.toList == nm.toList)=true:=beq_self_eq_true _
 go_enter Tryz.func78,Tryz.ntmps78
 go_wp2;go_ret;exact ⟨rfl,(Below.refl _ _).alloc (Nat.le_refl _) _⟩
@[reducible] def rZ (A:Option Addr) (c:Nat) (B:Option Addr) (d:Nat):Value:= .agg #[.slice A 4 c,.int .i64 1,.slice none 0 0,.slice B 1 d]
def aZ (A:Option Addr) (c:Nat) (B:Option Addr) (d:Nat):List Value:=[.slice A 4 c,.int .i64 1,.slice none 0 0,.slice B 1 d]
theorem Vp (A:Option Addr) (c:Nat) (B:Option Addr) (d:Nat):∀ v∈aZ A c B d,v.oneCell'=true:=by simp [aZ,Value.oneCell']
theorem iP:(Tryz.prog.info? 72).map (·.size)=some 4:=by kernel_rfl
abbrev iL:ByteArray:=⟨#[102,111,111,116]⟩
abbrev bM:ByteArray:=⟨#[53,48]⟩
abbrev dn:ByteArray:=⟨#[50,53]⟩
def corners:List M.Dt:=[⟨0,0⟩,⟨100,0⟩,⟨100,50⟩,⟨0,50⟩]
theorem uK {w:World} {S:Nat→Prop} {B:Option Addr} {d:Nat} (h:Reads w S 3 B 1 d [.string iL,.string bM,.string dn]):∃ b o,B=some ⟨b,o,none⟩∧b<w.heap.size∧w.cell? ⟨b,o,none⟩=some (.string iL)∧w.cell? ⟨b,o+1,none⟩=some (.string bM)∧w.cell? ⟨b,o+2,none⟩=some (.string dn):=by
 obtain ⟨b,o,e,_,hb,hc⟩:=h.at_ (by omega);exact ⟨b,o,e,hb,hc 0 _ rfl,hc 1 _ rfl,hc 2 _ rfl⟩
theorem FP (S:Nat→Prop) (B:Option Addr) (d:Nat) (g:Nat) (w:World) (h:Reads w S 3 B 1 d [.string iL,.string bM,.string dn]) (hg:w.cell? ⟨g,0,none⟩=some (.string iL)) (hlt:g<w.heap.size):
 Calls Tryz.prog 77 #[.slice B 1 d,.func (.func 78) #[] #[.pointer (some ⟨g,0,none⟩)]] w fun e w'=>e= .returned (.int .i64 0)∧Below w.heap.size w w':=by
 have eg:∀ args w,(callFunc 78 args).run Tryz.prog w= .ok (.enter 78 args) w:=enters_of Tryz.func78 (by kernel_rfl) rfl;obtain ⟨b,o,rfl,hb,c0,c1,c2⟩:=uK h
 go_enter Tryz.func77,Tryz.ntmps77
 go_wp2
 go_loopw [8] (fun i wr=>i= .int .i64 0∧wr=w) (fun _ _=>0)
 case atStart=>exact ⟨rfl,rfl⟩
 case round=>
  obtain ⟨rfl,rfl⟩:=hrel
  go_wp2_with (go_at_fn 78;refine (JC iL bM dn g _ hg hlt).mono ?_;rintro e w1 ⟨rfl,hb1⟩)
  go_ret;exact ⟨rfl,hb1⟩
theorem vw (W:World) (h:Glob W):Calls Tryz.prog 49 #[.string bM] W fun e w'=>e= .returned (fD ⟨50,1⟩)∧Below W.heap.size W w':=
 oL [53,48] 50 W h (by decide) (by decide) (by decide) (by decide) (by decide) (by decide) (by decide) (by decide)
theorem zf (W:World) (h:Glob W):Calls Tryz.prog 49 #[.string dn] W fun e w'=>e= .returned (fD ⟨25,1⟩)∧Below W.heap.size W w':=
 oL [50,53] 25 W h (by decide) (by decide) (by decide) (by decide) (by decide) (by decide) (by decide) (by decide)
theorem zk (w:World) (hg:Glob w):Calls Tryz.prog 43 #[.agg #[.string bM,.string dn]] w fun e w'=>e= .returned (pO (⟨50,1⟩,⟨25,1⟩))∧Below w.heap.size w w':=Gi bM dn ⟨50,1⟩ ⟨25,1⟩ w hg vw zf
theorem Sm (S:Nat→Prop) (A B:Option Addr) (c d:Nat) (w:World) (hg:Glob w) (h:Reads w S 3 B 1 d [.string iL,.string bM,.string dn]):
 Calls Tryz.prog 39 #[rZ A c B d,.string iL] w fun e w'=>e= .returned (.tuple #[pO (⟨50,1⟩,⟨25,1⟩),.bool true])∧Below w.heap.size w w':=by
 have hsp:=hide h;clear h
 go_enter Tryz.func39,Tryz.ntmps39
 go_upto_region 0 with (fail)
 go_cut [2,3,4] (fun v2 v3 v4 wx=>v2=ptr w.heap.size∧v3=ptr (w.heap.size+1)∧v4=ptr (w.heap.size+2)∧aC w wx [(aZ A c B d,72),([.string iL],9),(aN (⟨0,0⟩,⟨0,0⟩),111)])
 case first=>
  go_wp2;go_meet;exact ⟨rfl,rfl,rfl,((((aC.nil w).new (by simp) (aZ A c B d) _).new (by simp) ([.string iL]) _).new (by simp) (aN (⟨0,0⟩,⟨0,0⟩)) _)⟩
 case rest=>
  obtain ⟨rfl,rfl,rfl,hB⟩:=hcut;have wE:=(hB.aj rfl).cell (j:=0) rfl;have lX:=(hB.aj rfl).frozen 0;have ka1:=(hB.aj rfl).cell (j:=1) rfl;have lY:=(hB.aj rfl).frozen 1;have Pq:=(hB.aj rfl).cell (j:=2) rfl;have zV:=(hB.aj rfl).frozen 2;have Pv:=(hB.aj rfl).cell (j:=3) rfl;have zW:=(hB.aj rfl).frozen 3;have ES:=(hB.get 1 rfl).cell (j:=0) rfl;have vJ:=(hB.get 1 rfl).frozen 0;have hlt:=hB.lt (i:=1) (by simp);have h1:=hsp.out.below hB.bw;obtain ⟨b,o,rfl,hb,c0,c1,c2⟩:=uK h1
  go_upto_region 4 with (go_at_call 77;refine (FP S _ d (w.heap.size+1) _ h1 ES hlt).mono ?_;rintro e w1 ⟨rfl,hb1⟩;have hB1:=hB.call (by simp) hb1;have YO:=(hB1.aj rfl).cell (j:=0) rfl;have Lr:=(hB1.aj rfl).frozen 0;have YP:=(hB1.aj rfl).cell (j:=1) rfl;have Ls:=(hB1.aj rfl).frozen 1;have kx2:=(hB1.aj rfl).cell (j:=2) rfl;have aaE:=(hB1.aj rfl).frozen 2;have kx3:=(hB1.aj rfl).cell (j:=3) rfl;have aaL:=(hB1.aj rfl).frozen 3)
  have d1:w1.cell? ⟨b,o+1,none⟩=some (.string bM):=(hb1.cell (p:=⟨b,o+1,none⟩) hb).trans c1;have d2:w1.cell? ⟨b,o+2,none⟩=some (.string dn):=(hb1.cell (p:=⟨b,o+2,none⟩) hb).trans c2;clear c0 c1 c2 h1
  go_wp2_with (first | (go_at_call 43;refine (zk _ (hg.below hB1.bw)).mono ?_;rintro e w2 ⟨rfl,hb2⟩;have hB2:=hB1.call (by simp) hb2) | (refine fO 111 (.tmp 4) (.tmp 20) rfl ?_;refine dP (hB2.get 2 rfl) (aN (⟨50,1⟩,⟨25,1⟩)) rfl eP (qZ _) rfl (.tmp 4) (.tmp 20) rfl rfl rfl ?_))
  have hZ:=hB2.put 2 rfl (aN (⟨50,1⟩,⟨25,1⟩)) rfl;exact bodyPost_ret (jW (p:=4) (u:=5) (hZ.get 2 rfl) Tryz.underlying111 rfl eP rfl _ rfl) rfl ⟨rfl,hZ.bw⟩
def ptV (p:M.Dt):Nm.Vec:=(⟨p.bC,1⟩,⟨p.kC,1⟩)
@[reducible] def JU (v u:Nm.Vec):Value:= .agg #[.int .i64 v.1.n,.slice none 0 0,.int .i64 v.1.d,.slice none 0 0,.int .i64 v.2.n,.slice none 0 0,.int .i64 v.2.d,.slice none 0 0,.int .i64 u.1.n,.slice none 0 0,.int .i64 u.1.d,.slice none 0 0,.int .i64 u.2.n,.slice none 0 0,.int .i64 u.2.d,.slice none 0 0]
def gy (v u:Nm.Vec):List Value:=aN v++aN u
theorem Fb (v u:Nm.Vec):∀ x∈gy v u,x.oneCell'=true:=by simp [gy,aN,Value.oneCell']
theorem wO:(Tryz.prog.info? 170).map (·.size)=some 16:=by kernel_rfl
theorem mV {w w':World} {b o1 o2 o3 o4:Nat} {x y u v:Value} (hlt:b<w.heap.size) (h:w.cell? ⟨b,o1,none⟩=some x∧w.cell? ⟨b,o2,none⟩=some y∧w.cell? ⟨b,o3,none⟩=some u∧w.cell? ⟨b,o4,none⟩=some v) (hb:Below w.heap.size w w'):
 w'.cell? ⟨b,o1,none⟩=some x∧w'.cell? ⟨b,o2,none⟩=some y∧w'.cell? ⟨b,o3,none⟩=some u∧w'.cell? ⟨b,o4,none⟩=some v:=
 ⟨(hb.cell (p:=⟨b,o1,none⟩) hlt).trans h.1,(hb.cell (p:=⟨b,o2,none⟩) hlt).trans h.2.1,(hb.cell (p:=⟨b,o3,none⟩) hlt).trans h.2.2.1,(hb.cell (p:=⟨b,o4,none⟩) hlt).trans h.2.2.2⟩
theorem Oe (S:Nat→Prop) (A B:Option Addr) (c d k j:Nat) (w:World) (hk:k<4) (hj:j<4) (hm:(k+1) % 4=j) (h:oG w S A c corners):
 Calls Tryz.prog 149 #[rZ A c B d,.int .i64 k] w fun e w'=>e= .returned (JU (ptV (corners[k]'hk)) (ptV (corners[j]'hj)))∧Below w.heap.size w w':=by
 obtain ⟨b,o,rfl,_,hlt0,hc⟩:=h.at_ 0 (by decide);have c1:=hc k hk;have c2:=hc j hj;obtain ⟨x,hx⟩:∃ x,(corners[k]'hk).bC=x:=⟨_,rfl⟩;obtain ⟨y,hy⟩:∃ x,(corners[k]'hk).kC=x:=⟨_,rfl⟩;obtain ⟨u,hu⟩:∃ x,(corners[j]'hj).bC=x:=⟨_,rfl⟩;obtain ⟨v,hv⟩:∃ x,(corners[j]'hj).kC=x:=⟨_,rfl⟩
 unfold ptV
 simp only [hx,hy] at c1 ⊢
 simp only [hu,hv] at c2 ⊢
 have q0:w.cell? ⟨b,o+k*2,none⟩=some (.int .i64 x)∧w.cell? ⟨b,o+k*2+1,none⟩=some (.int .i64 y)∧w.cell? ⟨b,o+j*2,none⟩=some (.int .i64 u)∧w.cell? ⟨b,o+j*2+1,none⟩=some (.int .i64 v):=⟨c1.1,c1.2,c2.1,c2.2⟩;clear hc c1 c2 hx hy hu hv
 have hr1:((k:Int)+1).tmod 4=(j:Int):=by rw [Int.tmod_eq_emod_of_nonneg (by omega)];omega
 have hr2:((k:Int)+1) % 4=(j:Int):=by omega
 have hw:IntKind.i64.wrap ((k:Int)+1)=(k:Int)+1:=by rw [IntKind.wrap_i64];omega
 have hk':(k:Int)<4:=by omega
 have hj':(j:Int)<4:=by omega
 clear hm;have Q0:=hide q0;clear q0
 go_enter Tryz.func149,Tryz.ntmps149
 go_upto_region 0 with (fail)
 go_cut [2,4] (fun v2 v4 wx=>v2=ptr w.heap.size∧v4=ptr (w.heap.size+1)∧aC w wx [(aZ (some ⟨b,o,none⟩) c B d,72),(gy (⟨0,0⟩,⟨0,0⟩) (⟨0,0⟩,⟨0,0⟩),170)])
 case first=>
  go_wp2;go_meet;exact ⟨rfl,rfl,(((aC.nil w).new (by simp) (aZ (some ⟨b,o,none⟩) c B d) _).new (by simp) (gy (⟨0,0⟩,⟨0,0⟩) (⟨0,0⟩,⟨0,0⟩)) _)⟩
 case rest=>
  obtain ⟨rfl,rfl,hB⟩:=hcut;have hB0:=hB;have hq:=mV hlt0 Q0.out hB.bw;have hlt:b<wc.heap.size:=Nat.lt_of_lt_of_le hlt0 hB.bw.size
  go_upto_region 1 with (fail)
  refine wp_region_held_drew (S:=(fun w':World=>w'.cell? ⟨w.heap.size,0,none⟩=some (.slice (some ⟨b,o,none⟩) 4 c)∧w'.cell? ⟨w.heap.size,1,none⟩=some (.int .i64 1)∧w'.cell? ⟨w.heap.size,2,none⟩=some (.slice none 0 0)∧w'.cell? ⟨w.heap.size,3,none⟩=some (.slice B 1 d)∧w'.cell? ⟨b,o+k*2,none⟩=some (.int .i64 x)∧w'.cell? ⟨b,o+k*2+1,none⟩=some (.int .i64 y)∧w'.cell? ⟨b,o+j*2,none⟩=some (.int .i64 u)∧w'.cell? ⟨b,o+j*2+1,none⟩=some (.int .i64 v))) (by kernel_rfl) ?kP (fun hHeld=>?_)
  case kP=>exact ⟨((hB0.drew).aj rfl).cell (j:=0) rfl,((hB0.drew).aj rfl).cell (j:=1) rfl,((hB0.drew).aj rfl).cell (j:=2) rfl,((hB0.drew).aj rfl).cell (j:=3) rfl,(mV hlt0 Q0.out hB0.drew.bw).1,(mV hlt0 Q0.out hB0.drew.bw).2.1,(mV hlt0 Q0.out hB0.drew.bw).2.2.1,(mV hlt0 Q0.out hB0.drew.bw).2.2.2⟩
  refine tk 0 ?_;refine tk 1 ?_;refine tk 2 ?_;refine tk 3 ?_;refine tk 4 ?_;refine tk 6 ?_;refine tk 7 ?_;refine tk 8 ?_;refine tk 9 ?_;refine tk 10 ?_;refine tk 11 ?_;refine tk 12 ?_;refine tk 13 ?_;refine tk 14 ?_;refine tk 15 ?_;refine tr 5 fun K hK=>?_;go_simp
  (go_at_call 202;refine (yB x y _).mono ?_;rintro e w1 ⟨rfl,hb1⟩)
  have hB1:=hB0.drew.call (by simp) hb1;refine hK.out _ _ ?adM (fun hHeld=>?_)
  case adM=>(exact ⟨((hB1).aj rfl).cell (j:=0) rfl,((hB1).aj rfl).cell (j:=1) rfl,((hB1).aj rfl).cell (j:=2) rfl,((hB1).aj rfl).cell (j:=3) rfl,(mV hlt0 Q0.out hB1.bw).1,(mV hlt0 Q0.out hB1.bw).2.1,(mV hlt0 Q0.out hB1.bw).2.2.1,(mV hlt0 Q0.out hB1.bw).2.2.2⟩)
  clear hK K
  try simp only [Act.put,la,lz,ls]
  refine tr 16 fun K hK=>?_;go_simp
  (go_at_call 202;refine (yB u v _).mono ?_;rintro e w2 ⟨rfl,hb2⟩)
  have hB2:=hB1.call (by simp) hb2;have hV:=hB2.put 1 rfl (gy (⟨x,1⟩,⟨y,1⟩) (⟨u,1⟩,⟨v,1⟩)) rfl;refine hK.out _ _ ?Jp (fun hHeld=>?_)
  case Jp=>(exact ⟨((hB2).aj rfl).cell (j:=0) rfl,((hB2).aj rfl).cell (j:=1) rfl,((hB2).aj rfl).cell (j:=2) rfl,((hB2).aj rfl).cell (j:=3) rfl,(mV hlt0 Q0.out hB2.bw).1,(mV hlt0 Q0.out hB2.bw).2.1,(mV hlt0 Q0.out hB2.bw).2.2.1,(mV hlt0 Q0.out hB2.bw).2.2.2⟩)
  clear hK K
  try simp only [Act.put,la,lz,ls]
  refine tk 17 ?_;refine wpAnyH_ready (rs:=[18]) (by kernel_rfl) (by simp) ?_;refine Ep (o:=_) (ga rfl) (by kernel_rfl) (hB2.get 1 rfl) (gy (⟨x,1⟩,⟨y,1⟩) (⟨u,1⟩,⟨v,1⟩)) rfl wO (Fb _ _) (.tmp 4) (.tmp 22) rfl rfl rfl (by exact ⟨((hV).aj rfl).cell (j:=0) rfl,((hV).aj rfl).cell (j:=1) rfl,((hV).aj rfl).cell (j:=2) rfl,((hV).aj rfl).cell (j:=3) rfl,(mV hlt0 Q0.out hV.bw).1,(mV hlt0 Q0.out hV.bw).2.1,(mV hlt0 Q0.out hV.bw).2.2.1,(mV hlt0 Q0.out hV.bw).2.2.2⟩) ?_
  try simp only [Act.put,la,lz,ls]
  refine wpAnyH_done (by kernel_rfl) ?_ _;go_wp2;exact bodyPost_ret (aP (p:=4) (hV.get 1 rfl) Tryz.underlying170 rfl wO rfl _ rfl) rfl ⟨rfl,hV.bw⟩
abbrev Nm.iq:=Nm.Fr × Nm.Fr
def Nm.EC (v:Nm.iq):Bool:=Nm.ok v.1 && Nm.ok v.2
def Nm.oV (v w:Nm.iq):Nm.iq:=(Nm.sub v.1 w.1,Nm.sub v.2 w.2)
def Nm.iW (v w:Nm.iq):Nm.Fr:=Nm.add (Nm.mul v.1 w.1) (Nm.mul v.2 w.2)
def Nm.MN (v w:Nm.iq):Bool:=Nm.EC v && Nm.EC w && Nm.ok (Nm.mul v.1 w.1) && Nm.ok (Nm.mul v.2 w.2)
@[reducible] def Wj (v:Nm.iq):Value:= .agg #[.int .i64 v.1.n,.slice none 0 0,.int .i64 v.1.d,.slice none 0 0,.int .i64 v.2.n,.slice none 0 0,.int .i64 v.2.d,.slice none 0 0]
def bD (v:Nm.iq):List Value:=[.int .i64 v.1.n,.slice none 0 0,.int .i64 v.1.d,.slice none 0 0,.int .i64 v.2.n,.slice none 0 0,.int .i64 v.2.d,.slice none 0 0]
theorem uM (v:Nm.iq):∀ x∈bD v,x.oneCell'=true:=by simp [bD,Value.oneCell']
theorem lq:(Tryz.prog.info? 125).map (·.size)=some 8:=by kernel_rfl
theorem nD:(Tryz.prog.info? 66).map (·.size)=some 2:=by kernel_rfl
theorem AP (v u:Nm.iq) (w:World) (hv:Nm.EC v=true) (hu:Nm.EC u=true):Calls Tryz.prog 94 #[Wj v,Wj u] w fun e w'=>e= .returned (Wj (Nm.oV v u))∧Below w.heap.size w w':=by
 obtain ⟨a1,a2⟩:=v;obtain ⟨b1,b2⟩:=u;obtain ⟨ha1,ha2⟩:=Bool.and_eq_true_iff.1 hv;obtain ⟨hb1',hb2'⟩:=Bool.and_eq_true_iff.1 hu;have H1:=fun W=>lQ a1 b1 W ha1 hb1';have H2:=fun W=>lQ a2 b2 W ha2 hb2';rw [show Nm.oV (a1,a2) (b1,b2)=(Nm.sub a1 b1,Nm.sub a2 b2) from rfl];obtain ⟨c1,hc1⟩:∃ c,Nm.sub a1 b1=c:=⟨_,rfl⟩;obtain ⟨c2,hc2⟩:∃ c,Nm.sub a2 b2=c:=⟨_,rfl⟩
 simp only [hc1] at H1 ⊢
 simp only [hc2] at H2 ⊢
 clear hc1 hc2;have H1:=hide H1;have H2:=hide H2
 go_enter Tryz.func94,Tryz.ntmps94
 go_upto_region 0 with (fail)
 go_cut [2,3,4] (fun v2 v3 v4 wx=>v2=ptr w.heap.size∧v3=ptr (w.heap.size+1)∧v4=ptr (w.heap.size+2)∧aC w wx [(bD (a1,a2),125),(bD (b1,b2),125),(bD (⟨0,0⟩,⟨0,0⟩),125)])
 case first=>
  go_wp2;go_meet;exact ⟨rfl,rfl,rfl,((((aC.nil w).new (by simp) (bD (a1,a2)) _).new (by simp) (bD (b1,b2)) _).new (by simp) (bD (⟨0,0⟩,⟨0,0⟩)) _)⟩
 case rest=>
  obtain ⟨rfl,rfl,rfl,hB⟩:=hcut;have hB0:=hB
  go_upto_region 1 with (fail)
  refine wp_region_held_drew (S:=(fun w':World=>w'.cell? ⟨w.heap.size,0,none⟩=some (.int .i64 ((((a1,a2):Nm.iq)).1).n)∧w'.cell? ⟨w.heap.size,1,none⟩=some (.slice none 0 0)∧w'.cell? ⟨w.heap.size,2,none⟩=some (.int .i64 ((((a1,a2):Nm.iq)).1).d)∧w'.cell? ⟨w.heap.size,3,none⟩=some (.slice none 0 0)∧w'.cell? ⟨w.heap.size,4,none⟩=some (.int .i64 ((((a1,a2):Nm.iq)).2).n)∧w'.cell? ⟨w.heap.size,5,none⟩=some (.slice none 0 0)∧w'.cell? ⟨w.heap.size,6,none⟩=some (.int .i64 ((((a1,a2):Nm.iq)).2).d)∧w'.cell? ⟨w.heap.size,7,none⟩=some (.slice none 0 0)∧w'.cell? ⟨w.heap.size+1,0,none⟩=some (.int .i64 ((((b1,b2):Nm.iq)).1).n)∧w'.cell? ⟨w.heap.size+1,1,none⟩=some (.slice none 0 0)∧w'.cell? ⟨w.heap.size+1,2,none⟩=some (.int .i64 ((((b1,b2):Nm.iq)).1).d)∧w'.cell? ⟨w.heap.size+1,3,none⟩=some (.slice none 0 0)∧w'.cell? ⟨w.heap.size+1,4,none⟩=some (.int .i64 ((((b1,b2):Nm.iq)).2).n)∧w'.cell? ⟨w.heap.size+1,5,none⟩=some (.slice none 0 0)∧w'.cell? ⟨w.heap.size+1,6,none⟩=some (.int .i64 ((((b1,b2):Nm.iq)).2).d)∧w'.cell? ⟨w.heap.size+1,7,none⟩=some (.slice none 0 0))) (by kernel_rfl) ?bU (fun hHeld=>?_)
  case bU=>exact ⟨((hB0.drew).aj rfl).cell (j:=0) rfl,((hB0.drew).aj rfl).cell (j:=1) rfl,((hB0.drew).aj rfl).cell (j:=2) rfl,((hB0.drew).aj rfl).cell (j:=3) rfl,((hB0.drew).aj rfl).cell (j:=4) rfl,((hB0.drew).aj rfl).cell (j:=5) rfl,((hB0.drew).aj rfl).cell (j:=6) rfl,((hB0.drew).aj rfl).cell (j:=7) rfl,((hB0.drew).get 1 rfl).cell (j:=0) rfl,((hB0.drew).get 1 rfl).cell (j:=1) rfl,((hB0.drew).get 1 rfl).cell (j:=2) rfl,((hB0.drew).get 1 rfl).cell (j:=3) rfl,((hB0.drew).get 1 rfl).cell (j:=4) rfl,((hB0.drew).get 1 rfl).cell (j:=5) rfl,((hB0.drew).get 1 rfl).cell (j:=6) rfl,((hB0.drew).get 1 rfl).cell (j:=7) rfl⟩
  refine tk 0 ?_;refine tk 1 ?_;refine tk 2 ?_;refine tk 3 ?_;refine tk 5 ?_;refine tk 6 ?_;refine tk 7 ?_;refine tk 8 ?_;refine tr 4 fun K hK=>?_;go_simp
  (go_at_call 98;refine (H1.out _).mono ?_;rintro e w1 ⟨rfl,hb1⟩)
  have hB1:=hB0.drew.call (by simp) hb1;refine hK.out _ _ ?vW (fun hHeld=>?_)
  case vW=>(exact ⟨((hB1).aj rfl).cell (j:=0) rfl,((hB1).aj rfl).cell (j:=1) rfl,((hB1).aj rfl).cell (j:=2) rfl,((hB1).aj rfl).cell (j:=3) rfl,((hB1).aj rfl).cell (j:=4) rfl,((hB1).aj rfl).cell (j:=5) rfl,((hB1).aj rfl).cell (j:=6) rfl,((hB1).aj rfl).cell (j:=7) rfl,((hB1).get 1 rfl).cell (j:=0) rfl,((hB1).get 1 rfl).cell (j:=1) rfl,((hB1).get 1 rfl).cell (j:=2) rfl,((hB1).get 1 rfl).cell (j:=3) rfl,((hB1).get 1 rfl).cell (j:=4) rfl,((hB1).get 1 rfl).cell (j:=5) rfl,((hB1).get 1 rfl).cell (j:=6) rfl,((hB1).get 1 rfl).cell (j:=7) rfl⟩)
  clear hK K
  try simp only [Act.put,la,lz,ls]
  refine tr 9 fun K hK=>?_;go_simp
  (go_at_call 98;refine (H2.out _).mono ?_;rintro e w2 ⟨rfl,hb2⟩)
  have hB2:=hB1.call (by simp) hb2;have yj:=(hB2.get 2 rfl).cell (j:=0) rfl;have mW:=(hB2.get 2 rfl).frozen 0;have yu:=(hB2.get 2 rfl).cell (j:=1) rfl;have mX:=(hB2.get 2 rfl).frozen 1;have yx:=(hB2.get 2 rfl).cell (j:=2) rfl;have mY:=(hB2.get 2 rfl).frozen 2;have yA:=(hB2.get 2 rfl).cell (j:=3) rfl;have mZ:=(hB2.get 2 rfl).frozen 3;have kz4:=(hB2.get 2 rfl).cell (j:=4) rfl;have Py:=(hB2.get 2 rfl).frozen 4;have kz5:=(hB2.get 2 rfl).cell (j:=5) rfl;have Pz:=(hB2.get 2 rfl).frozen 5;have kz6:=(hB2.get 2 rfl).cell (j:=6) rfl;have PD:=(hB2.get 2 rfl).frozen 6;have kz7:=(hB2.get 2 rfl).cell (j:=7) rfl;have PE:=(hB2.get 2 rfl).frozen 7;have hV:=((((((((hB2).set 2 rfl 0 (.int .i64 ((((c1,c2):Nm.iq)).1).n)).set 2 rfl 1 (.slice none 0 0)).set 2 rfl 2 (.int .i64 ((((c1,c2):Nm.iq)).1).d)).set 2 rfl 3 (.slice none 0 0)).set 2 rfl 4 (.int .i64 ((((c1,c2):Nm.iq)).2).n)).set 2 rfl 5 (.slice none 0 0)).set 2 rfl 6 (.int .i64 ((((c1,c2):Nm.iq)).2).d)).set 2 rfl 7 (.slice none 0 0);refine hK.out _ _ ?Ad (fun hHeld=>?_)
  case Ad=>(exact ⟨((hB2).aj rfl).cell (j:=0) rfl,((hB2).aj rfl).cell (j:=1) rfl,((hB2).aj rfl).cell (j:=2) rfl,((hB2).aj rfl).cell (j:=3) rfl,((hB2).aj rfl).cell (j:=4) rfl,((hB2).aj rfl).cell (j:=5) rfl,((hB2).aj rfl).cell (j:=6) rfl,((hB2).aj rfl).cell (j:=7) rfl,((hB2).get 1 rfl).cell (j:=0) rfl,((hB2).get 1 rfl).cell (j:=1) rfl,((hB2).get 1 rfl).cell (j:=2) rfl,((hB2).get 1 rfl).cell (j:=3) rfl,((hB2).get 1 rfl).cell (j:=4) rfl,((hB2).get 1 rfl).cell (j:=5) rfl,((hB2).get 1 rfl).cell (j:=6) rfl,((hB2).get 1 rfl).cell (j:=7) rfl⟩)
  clear hK K
  try simp only [Act.put,la,lz,ls]
  refine tk 10 ?_;refine tr 11 fun K hK=>?_;go_simp;refine hK.out _ _ ?uG (fun hHeld=>?_)
  case uG=>(exact ⟨((hV).aj rfl).cell (j:=0) rfl,((hV).aj rfl).cell (j:=1) rfl,((hV).aj rfl).cell (j:=2) rfl,((hV).aj rfl).cell (j:=3) rfl,((hV).aj rfl).cell (j:=4) rfl,((hV).aj rfl).cell (j:=5) rfl,((hV).aj rfl).cell (j:=6) rfl,((hV).aj rfl).cell (j:=7) rfl,((hV).get 1 rfl).cell (j:=0) rfl,((hV).get 1 rfl).cell (j:=1) rfl,((hV).get 1 rfl).cell (j:=2) rfl,((hV).get 1 rfl).cell (j:=3) rfl,((hV).get 1 rfl).cell (j:=4) rfl,((hV).get 1 rfl).cell (j:=5) rfl,((hV).get 1 rfl).cell (j:=6) rfl,((hV).get 1 rfl).cell (j:=7) rfl⟩)
  clear hK K
  try simp only [Act.put,la,lz,ls]
  refine wpAnyH_done (by kernel_rfl) ?_ _;go_wp2;exact bodyPost_ret (aP (p:=4) (hV.get 2 rfl) Tryz.underlying125 rfl lq rfl _ rfl) rfl ⟨rfl,hV.bw⟩
theorem sZ (v u:Nm.iq) (w:World) (hc:Nm.MN v u=true):Calls Tryz.prog 95 #[Wj v,Wj u] w fun e w'=>e= .returned (fD (Nm.iW v u))∧Below w.heap.size w w':=by
 obtain ⟨a1,a2⟩:=v;obtain ⟨b1,b2⟩:=u
 unfold Nm.MN Nm.EC at hc
 simp only [Bool.and_eq_true] at hc
 obtain ⟨⟨⟨⟨ha1,ha2⟩,hb1',hb2'⟩,hp⟩,hq⟩:=hc;have H1:=fun W=>gG a1 b1 W ha1 hb1';have H2:=fun W=>gG a2 b2 W ha2 hb2';rw [show Nm.iW (a1,a2) (b1,b2)=Nm.add (Nm.mul a1 b1) (Nm.mul a2 b2) from rfl];have H3:=fun W=>pY (Nm.mul a1 b1) (Nm.mul a2 b2) W hp hq;obtain ⟨c1,hc1⟩:∃ c,Nm.mul a1 b1=c:=⟨_,rfl⟩;obtain ⟨c2,hc2⟩:∃ c,Nm.mul a2 b2=c:=⟨_,rfl⟩
 simp only [hc1] at H1 H3 ⊢
 simp only [hc2] at H2 H3 ⊢
 obtain ⟨c3,hc3⟩:∃ c,Nm.add c1 c2=c:=⟨_,rfl⟩
 simp only [hc3] at H3 ⊢
 clear hc1 hc2 hc3 hp hq;have H1:=hide H1;have H2:=hide H2;have H3:=hide H3
 go_enter Tryz.func95,Tryz.ntmps95
 go_upto_region 0 with (fail)
 go_cut [2,3,4] (fun v2 v3 v4 wx=>v2=ptr w.heap.size∧v3=ptr (w.heap.size+1)∧v4=ptr (w.heap.size+2)∧aC w wx [(bD (a1,a2),125),(bD (b1,b2),125),(ah ⟨0,0⟩,109)])
 case first=>
  go_wp2;go_meet;exact ⟨rfl,rfl,rfl,((((aC.nil w).new (by simp) (bD (a1,a2)) _).new (by simp) (bD (b1,b2)) _).new (by simp) (ah ⟨0,0⟩) _)⟩
 case rest=>
  obtain ⟨rfl,rfl,rfl,hB⟩:=hcut;have hB0:=hB
  go_upto_region 1 with (fail)
  refine wp_region_held_drew (S:=(fun w':World=>w'.cell? ⟨w.heap.size,0,none⟩=some (.int .i64 ((((a1,a2):Nm.iq)).1).n)∧w'.cell? ⟨w.heap.size,1,none⟩=some (.slice none 0 0)∧w'.cell? ⟨w.heap.size,2,none⟩=some (.int .i64 ((((a1,a2):Nm.iq)).1).d)∧w'.cell? ⟨w.heap.size,3,none⟩=some (.slice none 0 0)∧w'.cell? ⟨w.heap.size,4,none⟩=some (.int .i64 ((((a1,a2):Nm.iq)).2).n)∧w'.cell? ⟨w.heap.size,5,none⟩=some (.slice none 0 0)∧w'.cell? ⟨w.heap.size,6,none⟩=some (.int .i64 ((((a1,a2):Nm.iq)).2).d)∧w'.cell? ⟨w.heap.size,7,none⟩=some (.slice none 0 0)∧w'.cell? ⟨w.heap.size+1,0,none⟩=some (.int .i64 ((((b1,b2):Nm.iq)).1).n)∧w'.cell? ⟨w.heap.size+1,1,none⟩=some (.slice none 0 0)∧w'.cell? ⟨w.heap.size+1,2,none⟩=some (.int .i64 ((((b1,b2):Nm.iq)).1).d)∧w'.cell? ⟨w.heap.size+1,3,none⟩=some (.slice none 0 0)∧w'.cell? ⟨w.heap.size+1,4,none⟩=some (.int .i64 ((((b1,b2):Nm.iq)).2).n)∧w'.cell? ⟨w.heap.size+1,5,none⟩=some (.slice none 0 0)∧w'.cell? ⟨w.heap.size+1,6,none⟩=some (.int .i64 ((((b1,b2):Nm.iq)).2).d)∧w'.cell? ⟨w.heap.size+1,7,none⟩=some (.slice none 0 0))) (by kernel_rfl) ?cu (fun hHeld=>?_)
  case cu=>exact ⟨((hB0.drew).aj rfl).cell (j:=0) rfl,((hB0.drew).aj rfl).cell (j:=1) rfl,((hB0.drew).aj rfl).cell (j:=2) rfl,((hB0.drew).aj rfl).cell (j:=3) rfl,((hB0.drew).aj rfl).cell (j:=4) rfl,((hB0.drew).aj rfl).cell (j:=5) rfl,((hB0.drew).aj rfl).cell (j:=6) rfl,((hB0.drew).aj rfl).cell (j:=7) rfl,((hB0.drew).get 1 rfl).cell (j:=0) rfl,((hB0.drew).get 1 rfl).cell (j:=1) rfl,((hB0.drew).get 1 rfl).cell (j:=2) rfl,((hB0.drew).get 1 rfl).cell (j:=3) rfl,((hB0.drew).get 1 rfl).cell (j:=4) rfl,((hB0.drew).get 1 rfl).cell (j:=5) rfl,((hB0.drew).get 1 rfl).cell (j:=6) rfl,((hB0.drew).get 1 rfl).cell (j:=7) rfl⟩
  refine tk 0 ?_;refine tk 1 ?_;refine tk 2 ?_;refine tk 3 ?_;refine tk 5 ?_;refine tk 6 ?_;refine tk 7 ?_;refine tk 8 ?_;refine tr 4 fun K hK=>?_;go_simp
  (go_at_call 97;refine (H1.out _).mono ?_;rintro e w1 ⟨rfl,hb1⟩)
  have hB1:=hB0.drew.call (by simp) hb1;refine hK.out _ _ ?vX (fun hHeld=>?_)
  case vX=>(exact ⟨((hB1).aj rfl).cell (j:=0) rfl,((hB1).aj rfl).cell (j:=1) rfl,((hB1).aj rfl).cell (j:=2) rfl,((hB1).aj rfl).cell (j:=3) rfl,((hB1).aj rfl).cell (j:=4) rfl,((hB1).aj rfl).cell (j:=5) rfl,((hB1).aj rfl).cell (j:=6) rfl,((hB1).aj rfl).cell (j:=7) rfl,((hB1).get 1 rfl).cell (j:=0) rfl,((hB1).get 1 rfl).cell (j:=1) rfl,((hB1).get 1 rfl).cell (j:=2) rfl,((hB1).get 1 rfl).cell (j:=3) rfl,((hB1).get 1 rfl).cell (j:=4) rfl,((hB1).get 1 rfl).cell (j:=5) rfl,((hB1).get 1 rfl).cell (j:=6) rfl,((hB1).get 1 rfl).cell (j:=7) rfl⟩)
  clear hK K
  try simp only [Act.put,la,lz,ls]
  refine tr 9 fun K hK=>?_;go_simp
  (go_at_call 97;refine (H2.out _).mono ?_;rintro e w2 ⟨rfl,hb2⟩)
  have hB2:=hB1.call (by simp) hb2;refine hK.out _ _ ?Qy (fun hHeld=>?_)
  case Qy=>(exact ⟨((hB2).aj rfl).cell (j:=0) rfl,((hB2).aj rfl).cell (j:=1) rfl,((hB2).aj rfl).cell (j:=2) rfl,((hB2).aj rfl).cell (j:=3) rfl,((hB2).aj rfl).cell (j:=4) rfl,((hB2).aj rfl).cell (j:=5) rfl,((hB2).aj rfl).cell (j:=6) rfl,((hB2).aj rfl).cell (j:=7) rfl,((hB2).get 1 rfl).cell (j:=0) rfl,((hB2).get 1 rfl).cell (j:=1) rfl,((hB2).get 1 rfl).cell (j:=2) rfl,((hB2).get 1 rfl).cell (j:=3) rfl,((hB2).get 1 rfl).cell (j:=4) rfl,((hB2).get 1 rfl).cell (j:=5) rfl,((hB2).get 1 rfl).cell (j:=6) rfl,((hB2).get 1 rfl).cell (j:=7) rfl⟩)
  clear hK K
  try simp only [Act.put,la,lz,ls]
  refine tr 10 fun K hK=>?_;go_simp
  (go_at_call 86;refine (H3.out _).mono ?_;rintro e w3 ⟨rfl,hb3⟩)
  have hB3:=hB2.call (by simp) hb3;have yj:=(hB3.get 2 rfl).cell (j:=0) rfl;have mW:=(hB3.get 2 rfl).frozen 0;have yu:=(hB3.get 2 rfl).cell (j:=1) rfl;have mX:=(hB3.get 2 rfl).frozen 1;have yx:=(hB3.get 2 rfl).cell (j:=2) rfl;have mY:=(hB3.get 2 rfl).frozen 2;have yA:=(hB3.get 2 rfl).cell (j:=3) rfl;have mZ:=(hB3.get 2 rfl).frozen 3;have hV:=((((hB3).set 2 rfl 0 (.int .i64 (c3).n)).set 2 rfl 1 (.slice none 0 0)).set 2 rfl 2 (.int .i64 (c3).d)).set 2 rfl 3 (.slice none 0 0);refine hK.out _ _ ?Ae (fun hHeld=>?_)
  case Ae=>(exact ⟨((hB3).aj rfl).cell (j:=0) rfl,((hB3).aj rfl).cell (j:=1) rfl,((hB3).aj rfl).cell (j:=2) rfl,((hB3).aj rfl).cell (j:=3) rfl,((hB3).aj rfl).cell (j:=4) rfl,((hB3).aj rfl).cell (j:=5) rfl,((hB3).aj rfl).cell (j:=6) rfl,((hB3).aj rfl).cell (j:=7) rfl,((hB3).get 1 rfl).cell (j:=0) rfl,((hB3).get 1 rfl).cell (j:=1) rfl,((hB3).get 1 rfl).cell (j:=2) rfl,((hB3).get 1 rfl).cell (j:=3) rfl,((hB3).get 1 rfl).cell (j:=4) rfl,((hB3).get 1 rfl).cell (j:=5) rfl,((hB3).get 1 rfl).cell (j:=6) rfl,((hB3).get 1 rfl).cell (j:=7) rfl⟩)
  clear hK K
  try simp only [Act.put,la,lz,ls]
  refine tr 11 fun K hK=>?_;go_simp;refine hK.out _ _ ?Af (fun hHeld=>?_)
  case Af=>(exact ⟨((hV).aj rfl).cell (j:=0) rfl,((hV).aj rfl).cell (j:=1) rfl,((hV).aj rfl).cell (j:=2) rfl,((hV).aj rfl).cell (j:=3) rfl,((hV).aj rfl).cell (j:=4) rfl,((hV).aj rfl).cell (j:=5) rfl,((hV).aj rfl).cell (j:=6) rfl,((hV).aj rfl).cell (j:=7) rfl,((hV).get 1 rfl).cell (j:=0) rfl,((hV).get 1 rfl).cell (j:=1) rfl,((hV).get 1 rfl).cell (j:=2) rfl,((hV).get 1 rfl).cell (j:=3) rfl,((hV).get 1 rfl).cell (j:=4) rfl,((hV).get 1 rfl).cell (j:=5) rfl,((hV).get 1 rfl).cell (j:=6) rfl,((hV).get 1 rfl).cell (j:=7) rfl⟩)
  clear hK K
  try simp only [Act.put,la,lz,ls]
  refine wpAnyH_done (by kernel_rfl) ?_ _;go_wp2;exact bodyPost_ret (aP (p:=4) (hV.get 2 rfl) Tryz.underlying109 rfl aU rfl _ rfl) rfl ⟨rfl,hV.bw⟩
theorem GX (s1 s2:ByteArray) (a1 a2:Nm.Fr) (w:World) (hg:Glob w) (H1:∀ W,Glob W→Calls Tryz.prog 49 #[.string s1] W fun e w'=>e= .returned (fD a1)∧Below W.heap.size W w') (H2:∀ W,Glob W→Calls Tryz.prog 49 #[.string s2] W fun e w'=>e= .returned (fD a2)∧Below W.heap.size W w'):
 Calls Tryz.prog 52 #[.agg #[.string s1,.string s2]] w fun e w'=>e= .returned (Wj (a1,a2))∧Below w.heap.size w w':=by
 have H1:=hide H1;have H2:=hide H2
 go_enter Tryz.func52,Tryz.ntmps52
 go_upto_region 0 with (fail)
 go_cut [1,2] (fun v1 v2 wx=>v1=ptr w.heap.size∧v2=ptr (w.heap.size+1)∧aC w wx [([.string s1,.string s2],66),(bD (⟨0,0⟩,⟨0,0⟩),125)])
 case first=>
  go_wp2;go_meet;exact ⟨rfl,rfl,(((aC.nil w).new (by simp) ([.string s1,.string s2]) _).new (by simp) (bD (⟨0,0⟩,⟨0,0⟩)) _)⟩
 case rest=>
  obtain ⟨rfl,rfl,hB⟩:=hcut;have hB0:=hB
  go_upto_region 1 with (fail)
  refine wp_region_held_drew (S:=(fun w':World=>w'.cell? ⟨w.heap.size,0,none⟩=some (.string s1)∧w'.cell? ⟨w.heap.size,1,none⟩=some (.string s2))) (by kernel_rfl) ?dF (fun hHeld=>?_)
  case dF=>exact ⟨((hB0.drew).aj rfl).cell (j:=0) rfl,((hB0.drew).aj rfl).cell (j:=1) rfl⟩
  refine tk 0 ?_;refine tk 1 ?_;refine tk 3 ?_;refine tk 4 ?_;refine tr 2 fun K hK=>?_;go_simp
  (go_at_call 49;refine (H1.out _ (hg.below hB0.drew.bw)).mono ?_;rintro e w1 ⟨rfl,hb1⟩)
  have hB1:=hB0.drew.call (by simp) hb1;refine hK.out _ _ ?Gv (fun hHeld=>?_)
  case Gv=>(exact ⟨((hB1).aj rfl).cell (j:=0) rfl,((hB1).aj rfl).cell (j:=1) rfl⟩)
  clear hK K
  try simp only [Act.put,la,lz,ls]
  refine tr 5 fun K hK=>?_;go_simp
  (go_at_call 49;refine (H2.out _ (hg.below hB1.bw)).mono ?_;rintro e w2 ⟨rfl,hb2⟩)
  have hB2:=hB1.call (by simp) hb2;have yj:=(hB2.get 1 rfl).cell (j:=0) rfl;have mW:=(hB2.get 1 rfl).frozen 0;have yu:=(hB2.get 1 rfl).cell (j:=1) rfl;have mX:=(hB2.get 1 rfl).frozen 1;have yx:=(hB2.get 1 rfl).cell (j:=2) rfl;have mY:=(hB2.get 1 rfl).frozen 2;have yA:=(hB2.get 1 rfl).cell (j:=3) rfl;have mZ:=(hB2.get 1 rfl).frozen 3;have kz4:=(hB2.get 1 rfl).cell (j:=4) rfl;have Py:=(hB2.get 1 rfl).frozen 4;have kz5:=(hB2.get 1 rfl).cell (j:=5) rfl;have Pz:=(hB2.get 1 rfl).frozen 5;have kz6:=(hB2.get 1 rfl).cell (j:=6) rfl;have PD:=(hB2.get 1 rfl).frozen 6;have kz7:=(hB2.get 1 rfl).cell (j:=7) rfl;have PE:=(hB2.get 1 rfl).frozen 7;have hV:=((((((((hB2).set 1 rfl 0 (.int .i64 ((((a1,a2):Nm.iq)).1).n)).set 1 rfl 1 (.slice none 0 0)).set 1 rfl 2 (.int .i64 ((((a1,a2):Nm.iq)).1).d)).set 1 rfl 3 (.slice none 0 0)).set 1 rfl 4 (.int .i64 ((((a1,a2):Nm.iq)).2).n)).set 1 rfl 5 (.slice none 0 0)).set 1 rfl 6 (.int .i64 ((((a1,a2):Nm.iq)).2).d)).set 1 rfl 7 (.slice none 0 0);refine hK.out _ _ ?Qz (fun hHeld=>?_)
  case Qz=>(exact ⟨((hB2).aj rfl).cell (j:=0) rfl,((hB2).aj rfl).cell (j:=1) rfl⟩)
  clear hK K
  try simp only [Act.put,la,lz,ls]
  refine tk 6 ?_;refine tr 7 fun K hK=>?_;go_simp;refine hK.out _ _ ?ab6 (fun hHeld=>?_)
  case ab6=>(exact ⟨((hV).aj rfl).cell (j:=0) rfl,((hV).aj rfl).cell (j:=1) rfl⟩)
  clear hK K
  try simp only [Act.put,la,lz,ls]
  refine wpAnyH_done (by kernel_rfl) ?_ _;go_wp2;exact bodyPost_ret (aP (p:=2) (hV.get 1 rfl) Tryz.underlying125 rfl lq rfl _ rfl) rfl ⟨rfl,hV.bw⟩
theorem zG (a b:Nm.Fr) (w:World) (ha:Nm.ok a=true) (hb:Nm.ok b=true):Calls Tryz.prog 96 #[fD a,fD b] w fun e w'=>e= .returned (.int .i64 (Nm.cmp a b))∧Below w.heap.size w w':=by
 obtain ⟨⟨a0,a1⟩,a2,a3⟩:=kL.1 ha;obtain ⟨⟨b0,b1⟩,b2,b3⟩:=kL.1 hb;obtain ⟨an,ad⟩:=a;obtain ⟨bn,bd⟩:=b
 dsimp only at a0 a1 a2 a3 b0 b1 b2 b3
 have P0:=mG (a:=an) (b:=bd) ⟨a0,a1⟩ ⟨by omega,by omega⟩;have Q0:=mG (a:=bn) (b:=ad) ⟨b0,b1⟩ ⟨by omega,by omega⟩;have HM:=jQ an bd;have HN:=jQ bn ad;rw [show Nm.cmp ⟨an,ad⟩ ⟨bn,bd⟩=Nm.N9 (an*bd) (bn*ad) from rfl];obtain ⟨p,hp⟩:∃ p,an*bd=p:=⟨_,rfl⟩
 simp only [hp] at HM P0 ⊢
 clear hp;obtain ⟨q,hq⟩:∃ q,bn*ad=q:=⟨_,rfl⟩
 simp only [hq] at HN Q0 ⊢
 clear hq;have HM:=hide HM;have HN:=hide HN
 go_enter Tryz.func96,Tryz.ntmps96
 go_upto_region 0 with (fail)
 go_cut [2,3] (fun v2 v3 wx=>v2=ptr w.heap.size∧v3=ptr (w.heap.size+1)∧aC w wx [(ah ⟨an,ad⟩,109),(ah ⟨bn,bd⟩,109)])
 case first=>
  go_wp2;go_meet;exact ⟨rfl,rfl,(((aC.nil w).new (by simp) (ah ⟨an,ad⟩) _).new (by simp) (ah ⟨bn,bd⟩) _)⟩
 case rest=>
  obtain ⟨rfl,rfl,hB⟩:=hcut
  go_upto_region 1 with (fail)
  refine wp_region_held_drew (S:=(fun w':World=>w'.cell? ⟨w.heap.size,0,none⟩=some (.int .i64 ((⟨an,ad⟩:Nm.Fr)).n)∧w'.cell? ⟨w.heap.size,1,none⟩=some (.slice none 0 0)∧w'.cell? ⟨w.heap.size,2,none⟩=some (.int .i64 ((⟨an,ad⟩:Nm.Fr)).d)∧w'.cell? ⟨w.heap.size,3,none⟩=some (.slice none 0 0)∧w'.cell? ⟨w.heap.size+1,0,none⟩=some (.int .i64 ((⟨bn,bd⟩:Nm.Fr)).n)∧w'.cell? ⟨w.heap.size+1,1,none⟩=some (.slice none 0 0)∧w'.cell? ⟨w.heap.size+1,2,none⟩=some (.int .i64 ((⟨bn,bd⟩:Nm.Fr)).d)∧w'.cell? ⟨w.heap.size+1,3,none⟩=some (.slice none 0 0))) (by kernel_rfl) ?bU (fun hHeld=>?_)
  case bU=>exact ⟨((hB.drew).aj rfl).cell (j:=0) rfl,((hB.drew).aj rfl).cell (j:=1) rfl,((hB.drew).aj rfl).cell (j:=2) rfl,((hB.drew).aj rfl).cell (j:=3) rfl,((hB.drew).get 1 rfl).cell (j:=0) rfl,((hB.drew).get 1 rfl).cell (j:=1) rfl,((hB.drew).get 1 rfl).cell (j:=2) rfl,((hB.drew).get 1 rfl).cell (j:=3) rfl⟩
  refine aA 0 ?_;refine aA 1 ?_;refine aA 2 ?_;refine aA 3 ?_;refine aA 5 ?_;refine aA 6 ?_;refine aA 7 ?_;refine aA 8 ?_;refine aB 4 fun K hK=>?_;go_simp
  (go_at_call 155;refine (HM.out _ (by omega) (by omega) (by omega) (by omega) (by omega) (by omega)).mono ?_;rintro e Wq ⟨rfl,zN⟩)
  have jY:=hB.drew.call (by simp) zN;refine au hK (⟨((jY).aj rfl).cell (j:=0) rfl,((jY).aj rfl).cell (j:=1) rfl,((jY).aj rfl).cell (j:=2) rfl,((jY).aj rfl).cell (j:=3) rfl,((jY).get 1 rfl).cell (j:=0) rfl,((jY).get 1 rfl).cell (j:=1) rfl,((jY).get 1 rfl).cell (j:=2) rfl,((jY).get 1 rfl).cell (j:=3) rfl⟩) fun hHeld=>?_;clear hK K;refine aB 9 fun K hK=>?_;go_simp
  (go_at_call 155;refine (HN.out _ (by omega) (by omega) (by omega) (by omega) (by omega) (by omega)).mono ?_;rintro e Ws ⟨rfl,zO⟩)
  have jZ:=jY.call (by simp) zO;refine au hK (⟨((jZ).aj rfl).cell (j:=0) rfl,((jZ).aj rfl).cell (j:=1) rfl,((jZ).aj rfl).cell (j:=2) rfl,((jZ).aj rfl).cell (j:=3) rfl,((jZ).get 1 rfl).cell (j:=0) rfl,((jZ).get 1 rfl).cell (j:=1) rfl,((jZ).get 1 rfl).cell (j:=2) rfl,((jZ).get 1 rfl).cell (j:=3) rfl⟩) fun hHeld=>?_;clear hK K;refine aB 10 fun K hK=>?_;go_simp
  (go_at_call 161;refine (O9 p q _).mono ?_;rintro e Wu ⟨rfl,zQ⟩)
  have ku:=jZ.call (by simp) zQ;refine au hK (⟨((ku).aj rfl).cell (j:=0) rfl,((ku).aj rfl).cell (j:=1) rfl,((ku).aj rfl).cell (j:=2) rfl,((ku).aj rfl).cell (j:=3) rfl,((ku).get 1 rfl).cell (j:=0) rfl,((ku).get 1 rfl).cell (j:=1) rfl,((ku).get 1 rfl).cell (j:=2) rfl,((ku).get 1 rfl).cell (j:=3) rfl⟩) fun hHeld=>?_;clear hK K;refine aA 11 ?_;refine wpAnyH_done (by kernel_rfl) ?_ _;go_wp2;go_ret;exact ⟨rfl,ku.bw⟩
theorem lI (a:Int):Nm.nC a= -1∨Nm.nC a=0∨Nm.nC a=1:=by unfold Nm.nC;split <;> (try split) <;> simp
theorem Ce (a b:Nm.Fr):Nm.cmp a b= -1∨Nm.cmp a b=0∨Nm.cmp a b=1:=by unfold Nm.cmp Nm.N9;split <;> (try split) <;> simp
def Nm.pG (x y d:Nm.Fr):Int:=
 if 0≤Nm.nC x.n*(Nm.nC y.n*Nm.nC d.n) then max (-1) (min 1 (Nm.nC x.n+Nm.nC y.n*Nm.nC d.n)) else Nm.nC x.n*Nm.cmp (Nm.mul x x) (Nm.mul (Nm.mul y y) d)
def Nm.Vo (x y d:Nm.Fr):Bool:=Nm.ok x && Nm.ok y && Nm.ok d && (decide (0≤Nm.nC x.n*(Nm.nC y.n*Nm.nC d.n)) || (Nm.ok (Nm.mul x x) && Nm.ok (Nm.mul y y) && Nm.ok (Nm.mul (Nm.mul y y) d)))
theorem lZ {a b:Int} (ha:a= -1∨a=0∨a=1) (hb:b= -1∨b=0∨b=1):a*b= -1∨a*b=0∨a*b=1:=by
 rcases ha with rfl | rfl | rfl <;> rcases hb with rfl | rfl | rfl <;> decide
theorem wrap_one {a:Int} (ha:a= -1∨a=0∨a=1):IntKind.i64.wrap a=a:=by rw [IntKind.wrap_i64];omega
theorem yG (x y d:Nm.Fr):Nm.pG x y d= -1∨Nm.pG x y d=0∨Nm.pG x y d=1:=by
 unfold Nm.pG
 have h1:=lI x.n;have h2:=lZ (lI y.n) (lI d.n)
 split
 · rcases h1 with h1 | h1 | h1 <;> rcases h2 with h2 | h2 | h2 <;> rw [h1,h2] <;> decide
 · exact lZ h1 (Ce _ _)
theorem xG (x y d:Nm.Fr) (w:World) (h:Nm.Vo x y d=true):Calls Tryz.prog 53 #[fD x,fD y,fD d] w fun e w'=>e= .returned (.int .i64 (Nm.pG x y d))∧Below w.heap.size w w':=by
 unfold Nm.Vo at h
 simp only [Bool.and_eq_true,Bool.or_eq_true,decide_eq_true_eq] at h
 obtain ⟨⟨⟨hx,hy⟩,hd⟩,h⟩:=h;have c1:=lI x.n;have c2:=lZ (lI y.n) (lI d.n);have c3:=lZ c1 c2;have w2:=wrap_one c2;have w3:=wrap_one c3
 by_cases hs:0≤Nm.nC x.n*(Nm.nC y.n*Nm.nC d.n)
 · have HS:=hide (show Nm.pG x y d=max (-1) (min 1 (Nm.nC x.n+Nm.nC y.n*Nm.nC d.n)) by unfold Nm.pG;rw [if_pos hs])
   have hs1:decide (0≤Nm.nC x.n*(Nm.nC y.n*Nm.nC d.n))=true:=decide_eq_true hs
   have w4:IntKind.i64.wrap (Nm.nC x.n+Nm.nC y.n*Nm.nC d.n)=Nm.nC x.n+Nm.nC y.n*Nm.nC d.n:=by rw [IntKind.wrap_i64];omega
   clear h hs
   go_enter Tryz.func53,Tryz.ntmps53
   go_upto_region 0 with (fail)
   go_cut [3,4,5] (fun v3 v4 v5 wx=>v3=ptr w.heap.size∧v4=ptr (w.heap.size+1)∧v5=ptr (w.heap.size+2)∧aC w wx [(ah x,109),(ah y,109),(ah d,109)])
   case first=>
    go_wp2;go_meet;exact ⟨rfl,rfl,rfl,((((aC.nil w).new (by simp) (ah x) _).new (by simp) (ah y) _).new (by simp) (ah d) _)⟩
   case rest=>
    obtain ⟨rfl,rfl,rfl,hB⟩:=hcut
    go_upto_region 1 with (fail)
    refine wp_region_held_drew (S:=(fun w':World=>w'.cell? ⟨w.heap.size,0,none⟩=some (.int .i64 (x).n)∧w'.cell? ⟨w.heap.size,1,none⟩=some (.slice none 0 0)∧w'.cell? ⟨w.heap.size,2,none⟩=some (.int .i64 (x).d)∧w'.cell? ⟨w.heap.size,3,none⟩=some (.slice none 0 0)∧w'.cell? ⟨w.heap.size+1,0,none⟩=some (.int .i64 (y).n)∧w'.cell? ⟨w.heap.size+1,1,none⟩=some (.slice none 0 0)∧w'.cell? ⟨w.heap.size+1,2,none⟩=some (.int .i64 (y).d)∧w'.cell? ⟨w.heap.size+1,3,none⟩=some (.slice none 0 0)∧w'.cell? ⟨w.heap.size+2,0,none⟩=some (.int .i64 (d).n)∧w'.cell? ⟨w.heap.size+2,1,none⟩=some (.slice none 0 0)∧w'.cell? ⟨w.heap.size+2,2,none⟩=some (.int .i64 (d).d)∧w'.cell? ⟨w.heap.size+2,3,none⟩=some (.slice none 0 0))) (by kernel_rfl) ?cu (fun hHeld=>?_)
    case cu=>exact ⟨((hB.drew).aj rfl).cell (j:=0) rfl,((hB.drew).aj rfl).cell (j:=1) rfl,((hB.drew).aj rfl).cell (j:=2) rfl,((hB.drew).aj rfl).cell (j:=3) rfl,((hB.drew).get 1 rfl).cell (j:=0) rfl,((hB.drew).get 1 rfl).cell (j:=1) rfl,((hB.drew).get 1 rfl).cell (j:=2) rfl,((hB.drew).get 1 rfl).cell (j:=3) rfl,((hB.drew).get 2 rfl).cell (j:=0) rfl,((hB.drew).get 2 rfl).cell (j:=1) rfl,((hB.drew).get 2 rfl).cell (j:=2) rfl,((hB.drew).get 2 rfl).cell (j:=3) rfl⟩
    refine aA 0 ?_;refine aA 2 ?_;refine aA 4 ?_;refine aB 1 fun K hK=>?_;go_simp
    (go_at_call 83;refine (jE x _).mono ?_;rintro e Wq ⟨rfl,zN⟩)
    have jY:=hB.drew.call (by simp) zN;refine au hK (⟨((jY).aj rfl).cell (j:=0) rfl,((jY).aj rfl).cell (j:=1) rfl,((jY).aj rfl).cell (j:=2) rfl,((jY).aj rfl).cell (j:=3) rfl,((jY).get 1 rfl).cell (j:=0) rfl,((jY).get 1 rfl).cell (j:=1) rfl,((jY).get 1 rfl).cell (j:=2) rfl,((jY).get 1 rfl).cell (j:=3) rfl,((jY).get 2 rfl).cell (j:=0) rfl,((jY).get 2 rfl).cell (j:=1) rfl,((jY).get 2 rfl).cell (j:=2) rfl,((jY).get 2 rfl).cell (j:=3) rfl⟩) fun hHeld=>?_;clear hK K;refine aB 3 fun K hK=>?_;go_simp
    (go_at_call 83;refine (jE y _).mono ?_;rintro e Ws ⟨rfl,zO⟩)
    have jZ:=jY.call (by simp) zO;refine au hK (⟨((jZ).aj rfl).cell (j:=0) rfl,((jZ).aj rfl).cell (j:=1) rfl,((jZ).aj rfl).cell (j:=2) rfl,((jZ).aj rfl).cell (j:=3) rfl,((jZ).get 1 rfl).cell (j:=0) rfl,((jZ).get 1 rfl).cell (j:=1) rfl,((jZ).get 1 rfl).cell (j:=2) rfl,((jZ).get 1 rfl).cell (j:=3) rfl,((jZ).get 2 rfl).cell (j:=0) rfl,((jZ).get 2 rfl).cell (j:=1) rfl,((jZ).get 2 rfl).cell (j:=2) rfl,((jZ).get 2 rfl).cell (j:=3) rfl⟩) fun hHeld=>?_;clear hK K;refine aB 5 fun K hK=>?_;go_simp
    (go_at_call 83;refine (jE d _).mono ?_;rintro e Wu ⟨rfl,zQ⟩)
    have ku:=jZ.call (by simp) zQ;refine au hK (⟨((ku).aj rfl).cell (j:=0) rfl,((ku).aj rfl).cell (j:=1) rfl,((ku).aj rfl).cell (j:=2) rfl,((ku).aj rfl).cell (j:=3) rfl,((ku).get 1 rfl).cell (j:=0) rfl,((ku).get 1 rfl).cell (j:=1) rfl,((ku).get 1 rfl).cell (j:=2) rfl,((ku).get 1 rfl).cell (j:=3) rfl,((ku).get 2 rfl).cell (j:=0) rfl,((ku).get 2 rfl).cell (j:=1) rfl,((ku).get 2 rfl).cell (j:=2) rfl,((ku).get 2 rfl).cell (j:=3) rfl⟩) fun hHeld=>?_;clear hK K;refine aA 6 ?_;refine aA 7 ?_;refine aA 8 ?_;refine wpAnyH_done (by kernel_rfl) ?_ _;go_wp2
    all_goals
     go_ret;exact ⟨bG (by first | (rw [HS.out];done) | (rw [HS.out];omega)),ku.bw⟩
 · have HS:=hide (show Nm.pG x y d=Nm.nC x.n*Nm.cmp (Nm.mul x x) (Nm.mul (Nm.mul y y) d) by unfold Nm.pG;rw [if_neg hs])
   have hs1:decide (0≤Nm.nC x.n*(Nm.nC y.n*Nm.nC d.n))=false:=decide_eq_false hs;have h5:=h.resolve_left hs;obtain ⟨⟨o1,o2⟩,o3⟩:=h5;have M1:=hide (fun W=>gG x x W hx hx);have M2:=hide (fun W=>gG y y W hy hy);have M3:=hide (fun W=>gG (Nm.mul y y) d W o2 hd);have M4:=hide (fun W=>zG (Nm.mul x x) (Nm.mul (Nm.mul y y) d) W o1 o3);have w4:=wrap_one (lZ c1 (Ce (Nm.mul x x) (Nm.mul (Nm.mul y y) d)));clear h hs
   go_enter Tryz.func53,Tryz.ntmps53
   go_upto_region 0 with (fail)
   go_cut [3,4,5] (fun v3 v4 v5 wx=>v3=ptr w.heap.size∧v4=ptr (w.heap.size+1)∧v5=ptr (w.heap.size+2)∧aC w wx [(ah x,109),(ah y,109),(ah d,109)])
   case first=>
    go_wp2;go_meet;exact ⟨rfl,rfl,rfl,((((aC.nil w).new (by simp) (ah x) _).new (by simp) (ah y) _).new (by simp) (ah d) _)⟩
   case rest=>
    obtain ⟨rfl,rfl,rfl,hB⟩:=hcut
    go_upto_region 1 with (fail)
    refine wp_region_held_drew (S:=(fun w':World=>w'.cell? ⟨w.heap.size,0,none⟩=some (.int .i64 (x).n)∧w'.cell? ⟨w.heap.size,1,none⟩=some (.slice none 0 0)∧w'.cell? ⟨w.heap.size,2,none⟩=some (.int .i64 (x).d)∧w'.cell? ⟨w.heap.size,3,none⟩=some (.slice none 0 0)∧w'.cell? ⟨w.heap.size+1,0,none⟩=some (.int .i64 (y).n)∧w'.cell? ⟨w.heap.size+1,1,none⟩=some (.slice none 0 0)∧w'.cell? ⟨w.heap.size+1,2,none⟩=some (.int .i64 (y).d)∧w'.cell? ⟨w.heap.size+1,3,none⟩=some (.slice none 0 0)∧w'.cell? ⟨w.heap.size+2,0,none⟩=some (.int .i64 (d).n)∧w'.cell? ⟨w.heap.size+2,1,none⟩=some (.slice none 0 0)∧w'.cell? ⟨w.heap.size+2,2,none⟩=some (.int .i64 (d).d)∧w'.cell? ⟨w.heap.size+2,3,none⟩=some (.slice none 0 0))) (by kernel_rfl) ?kQ (fun hHeld=>?_)
    case kQ=>exact ⟨((hB.drew).aj rfl).cell (j:=0) rfl,((hB.drew).aj rfl).cell (j:=1) rfl,((hB.drew).aj rfl).cell (j:=2) rfl,((hB.drew).aj rfl).cell (j:=3) rfl,((hB.drew).get 1 rfl).cell (j:=0) rfl,((hB.drew).get 1 rfl).cell (j:=1) rfl,((hB.drew).get 1 rfl).cell (j:=2) rfl,((hB.drew).get 1 rfl).cell (j:=3) rfl,((hB.drew).get 2 rfl).cell (j:=0) rfl,((hB.drew).get 2 rfl).cell (j:=1) rfl,((hB.drew).get 2 rfl).cell (j:=2) rfl,((hB.drew).get 2 rfl).cell (j:=3) rfl⟩
    refine aA 0 ?_;refine aA 2 ?_;refine aA 4 ?_;refine aB 1 fun K hK=>?_;go_simp
    (go_at_call 83;refine (jE x _).mono ?_;rintro e Wq ⟨rfl,zN⟩)
    have jY:=hB.drew.call (by simp) zN;refine au hK (⟨((jY).aj rfl).cell (j:=0) rfl,((jY).aj rfl).cell (j:=1) rfl,((jY).aj rfl).cell (j:=2) rfl,((jY).aj rfl).cell (j:=3) rfl,((jY).get 1 rfl).cell (j:=0) rfl,((jY).get 1 rfl).cell (j:=1) rfl,((jY).get 1 rfl).cell (j:=2) rfl,((jY).get 1 rfl).cell (j:=3) rfl,((jY).get 2 rfl).cell (j:=0) rfl,((jY).get 2 rfl).cell (j:=1) rfl,((jY).get 2 rfl).cell (j:=2) rfl,((jY).get 2 rfl).cell (j:=3) rfl⟩) fun hHeld=>?_;clear hK K;refine aB 3 fun K hK=>?_;go_simp
    (go_at_call 83;refine (jE y _).mono ?_;rintro e Ws ⟨rfl,zO⟩)
    have jZ:=jY.call (by simp) zO;refine au hK (⟨((jZ).aj rfl).cell (j:=0) rfl,((jZ).aj rfl).cell (j:=1) rfl,((jZ).aj rfl).cell (j:=2) rfl,((jZ).aj rfl).cell (j:=3) rfl,((jZ).get 1 rfl).cell (j:=0) rfl,((jZ).get 1 rfl).cell (j:=1) rfl,((jZ).get 1 rfl).cell (j:=2) rfl,((jZ).get 1 rfl).cell (j:=3) rfl,((jZ).get 2 rfl).cell (j:=0) rfl,((jZ).get 2 rfl).cell (j:=1) rfl,((jZ).get 2 rfl).cell (j:=2) rfl,((jZ).get 2 rfl).cell (j:=3) rfl⟩) fun hHeld=>?_;clear hK K;refine aB 5 fun K hK=>?_;go_simp
    (go_at_call 83;refine (jE d _).mono ?_;rintro e Wu ⟨rfl,zQ⟩)
    have ku:=jZ.call (by simp) zQ;refine au hK (⟨((ku).aj rfl).cell (j:=0) rfl,((ku).aj rfl).cell (j:=1) rfl,((ku).aj rfl).cell (j:=2) rfl,((ku).aj rfl).cell (j:=3) rfl,((ku).get 1 rfl).cell (j:=0) rfl,((ku).get 1 rfl).cell (j:=1) rfl,((ku).get 1 rfl).cell (j:=2) rfl,((ku).get 1 rfl).cell (j:=3) rfl,((ku).get 2 rfl).cell (j:=0) rfl,((ku).get 2 rfl).cell (j:=1) rfl,((ku).get 2 rfl).cell (j:=2) rfl,((ku).get 2 rfl).cell (j:=3) rfl⟩) fun hHeld=>?_;clear hK K;refine aA 6 ?_;refine aA 7 ?_;refine aA 8 ?_;refine wpAnyH_done (by kernel_rfl) ?_ _;have hB1:=ku
    go_upto_region 4 with (fail)
    refine wp_region_held_drew (S:=(fun w':World=>w'.cell? ⟨w.heap.size,0,none⟩=some (.int .i64 (x).n)∧w'.cell? ⟨w.heap.size,1,none⟩=some (.slice none 0 0)∧w'.cell? ⟨w.heap.size,2,none⟩=some (.int .i64 (x).d)∧w'.cell? ⟨w.heap.size,3,none⟩=some (.slice none 0 0)∧w'.cell? ⟨w.heap.size+1,0,none⟩=some (.int .i64 (y).n)∧w'.cell? ⟨w.heap.size+1,1,none⟩=some (.slice none 0 0)∧w'.cell? ⟨w.heap.size+1,2,none⟩=some (.int .i64 (y).d)∧w'.cell? ⟨w.heap.size+1,3,none⟩=some (.slice none 0 0)∧w'.cell? ⟨w.heap.size+2,0,none⟩=some (.int .i64 (d).n)∧w'.cell? ⟨w.heap.size+2,1,none⟩=some (.slice none 0 0)∧w'.cell? ⟨w.heap.size+2,2,none⟩=some (.int .i64 (d).d)∧w'.cell? ⟨w.heap.size+2,3,none⟩=some (.slice none 0 0))) (by kernel_rfl) ?dF (fun hHeld=>?_)
    case dF=>exact ⟨((hB1.drew).aj rfl).cell (j:=0) rfl,((hB1.drew).aj rfl).cell (j:=1) rfl,((hB1.drew).aj rfl).cell (j:=2) rfl,((hB1.drew).aj rfl).cell (j:=3) rfl,((hB1.drew).get 1 rfl).cell (j:=0) rfl,((hB1.drew).get 1 rfl).cell (j:=1) rfl,((hB1.drew).get 1 rfl).cell (j:=2) rfl,((hB1.drew).get 1 rfl).cell (j:=3) rfl,((hB1.drew).get 2 rfl).cell (j:=0) rfl,((hB1.drew).get 2 rfl).cell (j:=1) rfl,((hB1.drew).get 2 rfl).cell (j:=2) rfl,((hB1.drew).get 2 rfl).cell (j:=3) rfl⟩
    refine aA 0 ?_;refine aA 1 ?_;refine aA 2 ?_;refine aA 4 ?_;refine aA 5 ?_;refine aA 7 ?_;refine aB 3 fun K hK=>?_;go_simp
    (go_at_call 97;refine (M1.out _).mono ?_;rintro e amA ⟨rfl,Um⟩)
    have qc:=hB1.drew.call (by simp) Um;refine au hK (⟨((qc).aj rfl).cell (j:=0) rfl,((qc).aj rfl).cell (j:=1) rfl,((qc).aj rfl).cell (j:=2) rfl,((qc).aj rfl).cell (j:=3) rfl,((qc).get 1 rfl).cell (j:=0) rfl,((qc).get 1 rfl).cell (j:=1) rfl,((qc).get 1 rfl).cell (j:=2) rfl,((qc).get 1 rfl).cell (j:=3) rfl,((qc).get 2 rfl).cell (j:=0) rfl,((qc).get 2 rfl).cell (j:=1) rfl,((qc).get 2 rfl).cell (j:=2) rfl,((qc).get 2 rfl).cell (j:=3) rfl⟩) fun hHeld=>?_;clear hK K;refine aB 6 fun K hK=>?_;go_simp
    (go_at_call 97;refine (M2.out _).mono ?_;rintro e amH ⟨rfl,Un⟩)
    have qg:=qc.call (by simp) Un;refine au hK (⟨((qg).aj rfl).cell (j:=0) rfl,((qg).aj rfl).cell (j:=1) rfl,((qg).aj rfl).cell (j:=2) rfl,((qg).aj rfl).cell (j:=3) rfl,((qg).get 1 rfl).cell (j:=0) rfl,((qg).get 1 rfl).cell (j:=1) rfl,((qg).get 1 rfl).cell (j:=2) rfl,((qg).get 1 rfl).cell (j:=3) rfl,((qg).get 2 rfl).cell (j:=0) rfl,((qg).get 2 rfl).cell (j:=1) rfl,((qg).get 2 rfl).cell (j:=2) rfl,((qg).get 2 rfl).cell (j:=3) rfl⟩) fun hHeld=>?_;clear hK K;refine aB 8 fun K hK=>?_;go_simp
    (go_at_call 97;refine (M3.out _).mono ?_;rintro e amO ⟨rfl,Uo⟩)
    have qh:=qg.call (by simp) Uo;refine au hK (⟨((qh).aj rfl).cell (j:=0) rfl,((qh).aj rfl).cell (j:=1) rfl,((qh).aj rfl).cell (j:=2) rfl,((qh).aj rfl).cell (j:=3) rfl,((qh).get 1 rfl).cell (j:=0) rfl,((qh).get 1 rfl).cell (j:=1) rfl,((qh).get 1 rfl).cell (j:=2) rfl,((qh).get 1 rfl).cell (j:=3) rfl,((qh).get 2 rfl).cell (j:=0) rfl,((qh).get 2 rfl).cell (j:=1) rfl,((qh).get 2 rfl).cell (j:=2) rfl,((qh).get 2 rfl).cell (j:=3) rfl⟩) fun hHeld=>?_;clear hK K;refine aB 9 fun K hK=>?_;go_simp
    (go_at_call 96;refine (M4.out _).mono ?_;rintro e amV ⟨rfl,Ur⟩)
    have qj:=qh.call (by simp) Ur;refine au hK (⟨((qj).aj rfl).cell (j:=0) rfl,((qj).aj rfl).cell (j:=1) rfl,((qj).aj rfl).cell (j:=2) rfl,((qj).aj rfl).cell (j:=3) rfl,((qj).get 1 rfl).cell (j:=0) rfl,((qj).get 1 rfl).cell (j:=1) rfl,((qj).get 1 rfl).cell (j:=2) rfl,((qj).get 1 rfl).cell (j:=3) rfl,((qj).get 2 rfl).cell (j:=0) rfl,((qj).get 2 rfl).cell (j:=1) rfl,((qj).get 2 rfl).cell (j:=2) rfl,((qj).get 2 rfl).cell (j:=3) rfl⟩) fun hHeld=>?_;clear hK K;refine aA 10 ?_;refine aA 11 ?_;refine wpAnyH_done (by kernel_rfl) ?_ _;go_wp2;go_ret;exact ⟨bG HS.out.symm,qj.bw⟩
end Go.Proofs.YtcbmedfongiojaaGreatDoor
