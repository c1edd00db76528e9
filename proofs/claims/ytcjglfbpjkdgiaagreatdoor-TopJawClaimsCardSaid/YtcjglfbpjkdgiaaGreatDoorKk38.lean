/- Parts of a proof. -/
import Derived.Test.YtcjglfbpjkdgiaaGreatDoorKk23
import Derived.Test.YtcjglfbpjkdgiaaGreatDoorKk37
set_option maxHeartbeats 4000000
set_option maxRecDepth 100000
set_option linter.unusedVariables false
set_option linter.unusedSimpArgs false
namespace Go.Proofs.YtcjglfbpjkdgiaaGreatDoor
open Go.RowKit
abbrev Nm.Vec:=Nm.Fr × Nm.Fr
def Nm.Ru (v:Nm.Vec):Bool:=Nm.ok v.1 && Nm.ok v.2
def Nm.O9 (v w:Nm.Vec):Nm.Vec:=(Nm.add v.1 w.1,Nm.add v.2 w.2)
def Nm.rM (v w:Nm.Vec):Nm.Vec:=(Nm.sub v.1 w.1,Nm.sub v.2 w.2)
def Nm.cross (v w:Nm.Vec):Nm.Fr:=Nm.sub (Nm.mul v.1 w.2) (Nm.mul v.2 w.1)
def Nm.cok (v w:Nm.Vec):Bool:=Nm.Ru v && Nm.Ru w && Nm.ok (Nm.mul v.1 w.2) && Nm.ok (Nm.mul v.2 w.1)
@[reducible] def uU (v:Nm.Vec):Value:= .agg #[.int .i64 v.1.n,.slice none 0 0,.int .i64 v.1.d,.slice none 0 0,.int .i64 v.2.n,.slice none 0 0,.int .i64 v.2.d,.slice none 0 0]
def aN (v:Nm.Vec):List Value:=[.int .i64 v.1.n,.slice none 0 0,.int .i64 v.1.d,.slice none 0 0,.int .i64 v.2.n,.slice none 0 0,.int .i64 v.2.d,.slice none 0 0]
theorem jd (v:Nm.Vec):∀ x∈aN v,x.oneCell'=true:=by simp [aN,Value.oneCell']
theorem dZ:(Tryz.prog.info? 130).map (·.size)=some 8:=by kernel_rfl
theorem wQ:(Tryz.prog.info? 147).map (·.size)=some 2:=by kernel_rfl
theorem Rw (v u:Nm.Vec) (w:World) (hv:Nm.Ru v=true) (hu:Nm.Ru u=true):Calls Tryz.prog 57 #[uU v,uU u] w fun e w'=>e= .returned (uU (Nm.O9 v u))∧Below w.heap.size w w':=by
 obtain ⟨a1,a2⟩:=v;obtain ⟨b1,b2⟩:=u;obtain ⟨ha1,ha2⟩:=Bool.and_eq_true_iff.1 hv;obtain ⟨hb1',hb2'⟩:=Bool.and_eq_true_iff.1 hu;have H1:=fun W=>BU a1 b1 W ha1 hb1';have H2:=fun W=>BU a2 b2 W ha2 hb2';rw [show Nm.O9 (a1,a2) (b1,b2)=(Nm.add a1 b1,Nm.add a2 b2) from rfl];obtain ⟨c1,hc1⟩:∃ c,Nm.add a1 b1=c:=⟨_,rfl⟩;obtain ⟨c2,hc2⟩:∃ c,Nm.add a2 b2=c:=⟨_,rfl⟩
 simp only [hc1] at H1 ⊢
 simp only [hc2] at H2 ⊢
 clear hc1 hc2;have H1:=hide H1;have H2:=hide H2
 go_enter Tryz.func57,Tryz.ntmps57
 go_upto_region 0 with (fail)
 go_cut [2,3,4] (fun v2 v3 v4 wx=>v2=ptr w.heap.size∧v3=ptr (w.heap.size+1)∧v4=ptr (w.heap.size+2)∧aX w wx [(aN (a1,a2),130),(aN (b1,b2),130),(aN (⟨0,0⟩,⟨0,0⟩),130)])
 case first=>
  go_wp2;go_meet;exact ⟨rfl,rfl,rfl,((((aX.nil w).new (by simp) (aN (a1,a2)) _).new (by simp) (aN (b1,b2)) _).new (by simp) (aN (⟨0,0⟩,⟨0,0⟩)) _)⟩
 case rest=>
  obtain ⟨rfl,rfl,rfl,hB⟩:=hcut;have hB0:=hB
  go_upto_region 1 with (fail)
  refine wp_region_held_drew (S:=(fun w':World=>w'.cell? ⟨w.heap.size,0,none⟩=some (.int .i64 ((((a1,a2):Nm.Vec)).1).n)∧w'.cell? ⟨w.heap.size,1,none⟩=some (.slice none 0 0)∧w'.cell? ⟨w.heap.size,2,none⟩=some (.int .i64 ((((a1,a2):Nm.Vec)).1).d)∧w'.cell? ⟨w.heap.size,3,none⟩=some (.slice none 0 0)∧w'.cell? ⟨w.heap.size,4,none⟩=some (.int .i64 ((((a1,a2):Nm.Vec)).2).n)∧w'.cell? ⟨w.heap.size,5,none⟩=some (.slice none 0 0)∧w'.cell? ⟨w.heap.size,6,none⟩=some (.int .i64 ((((a1,a2):Nm.Vec)).2).d)∧w'.cell? ⟨w.heap.size,7,none⟩=some (.slice none 0 0)∧w'.cell? ⟨w.heap.size+1,0,none⟩=some (.int .i64 ((((b1,b2):Nm.Vec)).1).n)∧w'.cell? ⟨w.heap.size+1,1,none⟩=some (.slice none 0 0)∧w'.cell? ⟨w.heap.size+1,2,none⟩=some (.int .i64 ((((b1,b2):Nm.Vec)).1).d)∧w'.cell? ⟨w.heap.size+1,3,none⟩=some (.slice none 0 0)∧w'.cell? ⟨w.heap.size+1,4,none⟩=some (.int .i64 ((((b1,b2):Nm.Vec)).2).n)∧w'.cell? ⟨w.heap.size+1,5,none⟩=some (.slice none 0 0)∧w'.cell? ⟨w.heap.size+1,6,none⟩=some (.int .i64 ((((b1,b2):Nm.Vec)).2).d)∧w'.cell? ⟨w.heap.size+1,7,none⟩=some (.slice none 0 0))) (by kernel_rfl) ?dL (fun hHeld=>?_)
  case dL=>exact ⟨((hB0.drew).ah rfl).cell (j:=0) rfl,((hB0.drew).ah rfl).cell (j:=1) rfl,((hB0.drew).ah rfl).cell (j:=2) rfl,((hB0.drew).ah rfl).cell (j:=3) rfl,((hB0.drew).ah rfl).cell (j:=4) rfl,((hB0.drew).ah rfl).cell (j:=5) rfl,((hB0.drew).ah rfl).cell (j:=6) rfl,((hB0.drew).ah rfl).cell (j:=7) rfl,((hB0.drew).get 1 rfl).cell (j:=0) rfl,((hB0.drew).get 1 rfl).cell (j:=1) rfl,((hB0.drew).get 1 rfl).cell (j:=2) rfl,((hB0.drew).get 1 rfl).cell (j:=3) rfl,((hB0.drew).get 1 rfl).cell (j:=4) rfl,((hB0.drew).get 1 rfl).cell (j:=5) rfl,((hB0.drew).get 1 rfl).cell (j:=6) rfl,((hB0.drew).get 1 rfl).cell (j:=7) rfl⟩
  refine tk 0 ?_;refine tk 1 ?_;refine tk 2 ?_;refine tk 3 ?_;refine tk 5 ?_;refine tk 6 ?_;refine tk 7 ?_;refine tk 8 ?_;refine tr 4 fun K hK=>?_;go_simp
  (go_at_call 122;refine (H1.out _).mono ?_;rintro e w1 ⟨rfl,hb1⟩)
  have hB1:=hB0.drew.call (by simp) hb1;refine hK.out _ _ ?amr (fun hHeld=>?_)
  case amr=>(exact ⟨((hB1).ah rfl).cell (j:=0) rfl,((hB1).ah rfl).cell (j:=1) rfl,((hB1).ah rfl).cell (j:=2) rfl,((hB1).ah rfl).cell (j:=3) rfl,((hB1).ah rfl).cell (j:=4) rfl,((hB1).ah rfl).cell (j:=5) rfl,((hB1).ah rfl).cell (j:=6) rfl,((hB1).ah rfl).cell (j:=7) rfl,((hB1).get 1 rfl).cell (j:=0) rfl,((hB1).get 1 rfl).cell (j:=1) rfl,((hB1).get 1 rfl).cell (j:=2) rfl,((hB1).get 1 rfl).cell (j:=3) rfl,((hB1).get 1 rfl).cell (j:=4) rfl,((hB1).get 1 rfl).cell (j:=5) rfl,((hB1).get 1 rfl).cell (j:=6) rfl,((hB1).get 1 rfl).cell (j:=7) rfl⟩)
  clear hK K
  try simp only [Act.put,la,lz,ls]
  refine tr 9 fun K hK=>?_;go_simp
  (go_at_call 122;refine (H2.out _).mono ?_;rintro e w2 ⟨rfl,hb2⟩)
  have hB2:=hB1.call (by simp) hb2;have CV:=(hB2.get 2 rfl).cell (j:=0) rfl;have qE:=(hB2.get 2 rfl).frozen 0;have CW:=(hB2.get 2 rfl).cell (j:=1) rfl;have qF:=(hB2.get 2 rfl).frozen 1;have DU:=(hB2.get 2 rfl).cell (j:=2) rfl;have qR:=(hB2.get 2 rfl).frozen 2;have DV:=(hB2.get 2 rfl).cell (j:=3) rfl;have qU:=(hB2.get 2 rfl).frozen 3;have kz4:=(hB2.get 2 rfl).cell (j:=4) rfl;have abC:=(hB2.get 2 rfl).frozen 4;have kz5:=(hB2.get 2 rfl).cell (j:=5) rfl;have abK:=(hB2.get 2 rfl).frozen 5;have kz6:=(hB2.get 2 rfl).cell (j:=6) rfl;have abR:=(hB2.get 2 rfl).frozen 6;have kz7:=(hB2.get 2 rfl).cell (j:=7) rfl;have abY:=(hB2.get 2 rfl).frozen 7;have hV:=((((((((hB2).set 2 rfl 0 (.int .i64 ((((c1,c2):Nm.Vec)).1).n)).set 2 rfl 1 (.slice none 0 0)).set 2 rfl 2 (.int .i64 ((((c1,c2):Nm.Vec)).1).d)).set 2 rfl 3 (.slice none 0 0)).set 2 rfl 4 (.int .i64 ((((c1,c2):Nm.Vec)).2).n)).set 2 rfl 5 (.slice none 0 0)).set 2 rfl 6 (.int .i64 ((((c1,c2):Nm.Vec)).2).d)).set 2 rfl 7 (.slice none 0 0);refine hK.out _ _ ?amO (fun hHeld=>?_)
  case amO=>(exact ⟨((hB2).ah rfl).cell (j:=0) rfl,((hB2).ah rfl).cell (j:=1) rfl,((hB2).ah rfl).cell (j:=2) rfl,((hB2).ah rfl).cell (j:=3) rfl,((hB2).ah rfl).cell (j:=4) rfl,((hB2).ah rfl).cell (j:=5) rfl,((hB2).ah rfl).cell (j:=6) rfl,((hB2).ah rfl).cell (j:=7) rfl,((hB2).get 1 rfl).cell (j:=0) rfl,((hB2).get 1 rfl).cell (j:=1) rfl,((hB2).get 1 rfl).cell (j:=2) rfl,((hB2).get 1 rfl).cell (j:=3) rfl,((hB2).get 1 rfl).cell (j:=4) rfl,((hB2).get 1 rfl).cell (j:=5) rfl,((hB2).get 1 rfl).cell (j:=6) rfl,((hB2).get 1 rfl).cell (j:=7) rfl⟩)
  clear hK K
  try simp only [Act.put,la,lz,ls]
  refine tk 10 ?_;refine tr 11 fun K hK=>?_;go_simp;refine hK.out _ _ ?ady (fun hHeld=>?_)
  case ady=>(exact ⟨((hV).ah rfl).cell (j:=0) rfl,((hV).ah rfl).cell (j:=1) rfl,((hV).ah rfl).cell (j:=2) rfl,((hV).ah rfl).cell (j:=3) rfl,((hV).ah rfl).cell (j:=4) rfl,((hV).ah rfl).cell (j:=5) rfl,((hV).ah rfl).cell (j:=6) rfl,((hV).ah rfl).cell (j:=7) rfl,((hV).get 1 rfl).cell (j:=0) rfl,((hV).get 1 rfl).cell (j:=1) rfl,((hV).get 1 rfl).cell (j:=2) rfl,((hV).get 1 rfl).cell (j:=3) rfl,((hV).get 1 rfl).cell (j:=4) rfl,((hV).get 1 rfl).cell (j:=5) rfl,((hV).get 1 rfl).cell (j:=6) rfl,((hV).get 1 rfl).cell (j:=7) rfl⟩)
  clear hK K
  try simp only [Act.put,la,lz,ls]
  refine wpAnyH_done (by kernel_rfl) ?_ _;go_wp2;exact bodyPost_ret (bf (p:=4) (hV.get 2 rfl) Tryz.underlying130 rfl dZ rfl _ rfl) rfl ⟨rfl,hV.bw⟩
theorem Fq (v u:Nm.Vec) (w:World) (hv:Nm.Ru v=true) (hu:Nm.Ru u=true):Calls Tryz.prog 129 #[uU v,uU u] w fun e w'=>e= .returned (uU (Nm.rM v u))∧Below w.heap.size w w':=by
 obtain ⟨a1,a2⟩:=v;obtain ⟨b1,b2⟩:=u;obtain ⟨ha1,ha2⟩:=Bool.and_eq_true_iff.1 hv;obtain ⟨hb1',hb2'⟩:=Bool.and_eq_true_iff.1 hu;have H1:=fun W=>Cj a1 b1 W ha1 hb1';have H2:=fun W=>Cj a2 b2 W ha2 hb2';rw [show Nm.rM (a1,a2) (b1,b2)=(Nm.sub a1 b1,Nm.sub a2 b2) from rfl];obtain ⟨c1,hc1⟩:∃ c,Nm.sub a1 b1=c:=⟨_,rfl⟩;obtain ⟨c2,hc2⟩:∃ c,Nm.sub a2 b2=c:=⟨_,rfl⟩
 simp only [hc1] at H1 ⊢
 simp only [hc2] at H2 ⊢
 clear hc1 hc2;have H1:=hide H1;have H2:=hide H2
 go_enter Tryz.func129,Tryz.ntmps129
 go_upto_region 0 with (fail)
 go_cut [2,3,4] (fun v2 v3 v4 wx=>v2=ptr w.heap.size∧v3=ptr (w.heap.size+1)∧v4=ptr (w.heap.size+2)∧aX w wx [(aN (a1,a2),130),(aN (b1,b2),130),(aN (⟨0,0⟩,⟨0,0⟩),130)])
 case first=>
  go_wp2;go_meet;exact ⟨rfl,rfl,rfl,((((aX.nil w).new (by simp) (aN (a1,a2)) _).new (by simp) (aN (b1,b2)) _).new (by simp) (aN (⟨0,0⟩,⟨0,0⟩)) _)⟩
 case rest=>
  obtain ⟨rfl,rfl,rfl,hB⟩:=hcut;have hB0:=hB
  go_upto_region 1 with (fail)
  refine wp_region_held_drew (S:=(fun w':World=>w'.cell? ⟨w.heap.size,0,none⟩=some (.int .i64 ((((a1,a2):Nm.Vec)).1).n)∧w'.cell? ⟨w.heap.size,1,none⟩=some (.slice none 0 0)∧w'.cell? ⟨w.heap.size,2,none⟩=some (.int .i64 ((((a1,a2):Nm.Vec)).1).d)∧w'.cell? ⟨w.heap.size,3,none⟩=some (.slice none 0 0)∧w'.cell? ⟨w.heap.size,4,none⟩=some (.int .i64 ((((a1,a2):Nm.Vec)).2).n)∧w'.cell? ⟨w.heap.size,5,none⟩=some (.slice none 0 0)∧w'.cell? ⟨w.heap.size,6,none⟩=some (.int .i64 ((((a1,a2):Nm.Vec)).2).d)∧w'.cell? ⟨w.heap.size,7,none⟩=some (.slice none 0 0)∧w'.cell? ⟨w.heap.size+1,0,none⟩=some (.int .i64 ((((b1,b2):Nm.Vec)).1).n)∧w'.cell? ⟨w.heap.size+1,1,none⟩=some (.slice none 0 0)∧w'.cell? ⟨w.heap.size+1,2,none⟩=some (.int .i64 ((((b1,b2):Nm.Vec)).1).d)∧w'.cell? ⟨w.heap.size+1,3,none⟩=some (.slice none 0 0)∧w'.cell? ⟨w.heap.size+1,4,none⟩=some (.int .i64 ((((b1,b2):Nm.Vec)).2).n)∧w'.cell? ⟨w.heap.size+1,5,none⟩=some (.slice none 0 0)∧w'.cell? ⟨w.heap.size+1,6,none⟩=some (.int .i64 ((((b1,b2):Nm.Vec)).2).d)∧w'.cell? ⟨w.heap.size+1,7,none⟩=some (.slice none 0 0))) (by kernel_rfl) ?dY (fun hHeld=>?_)
  case dY=>exact ⟨((hB0.drew).ah rfl).cell (j:=0) rfl,((hB0.drew).ah rfl).cell (j:=1) rfl,((hB0.drew).ah rfl).cell (j:=2) rfl,((hB0.drew).ah rfl).cell (j:=3) rfl,((hB0.drew).ah rfl).cell (j:=4) rfl,((hB0.drew).ah rfl).cell (j:=5) rfl,((hB0.drew).ah rfl).cell (j:=6) rfl,((hB0.drew).ah rfl).cell (j:=7) rfl,((hB0.drew).get 1 rfl).cell (j:=0) rfl,((hB0.drew).get 1 rfl).cell (j:=1) rfl,((hB0.drew).get 1 rfl).cell (j:=2) rfl,((hB0.drew).get 1 rfl).cell (j:=3) rfl,((hB0.drew).get 1 rfl).cell (j:=4) rfl,((hB0.drew).get 1 rfl).cell (j:=5) rfl,((hB0.drew).get 1 rfl).cell (j:=6) rfl,((hB0.drew).get 1 rfl).cell (j:=7) rfl⟩
  refine tk 0 ?_;refine tk 1 ?_;refine tk 2 ?_;refine tk 3 ?_;refine tk 5 ?_;refine tk 6 ?_;refine tk 7 ?_;refine tk 8 ?_;refine tr 4 fun K hK=>?_;go_simp
  (go_at_call 178;refine (H1.out _).mono ?_;rintro e w1 ⟨rfl,hb1⟩)
  have hB1:=hB0.drew.call (by simp) hb1;refine hK.out _ _ ?am2 (fun hHeld=>?_)
  case am2=>(exact ⟨((hB1).ah rfl).cell (j:=0) rfl,((hB1).ah rfl).cell (j:=1) rfl,((hB1).ah rfl).cell (j:=2) rfl,((hB1).ah rfl).cell (j:=3) rfl,((hB1).ah rfl).cell (j:=4) rfl,((hB1).ah rfl).cell (j:=5) rfl,((hB1).ah rfl).cell (j:=6) rfl,((hB1).ah rfl).cell (j:=7) rfl,((hB1).get 1 rfl).cell (j:=0) rfl,((hB1).get 1 rfl).cell (j:=1) rfl,((hB1).get 1 rfl).cell (j:=2) rfl,((hB1).get 1 rfl).cell (j:=3) rfl,((hB1).get 1 rfl).cell (j:=4) rfl,((hB1).get 1 rfl).cell (j:=5) rfl,((hB1).get 1 rfl).cell (j:=6) rfl,((hB1).get 1 rfl).cell (j:=7) rfl⟩)
  clear hK K
  try simp only [Act.put,la,lz,ls]
  refine tr 9 fun K hK=>?_;go_simp
  (go_at_call 178;refine (H2.out _).mono ?_;rintro e w2 ⟨rfl,hb2⟩)
  have hB2:=hB1.call (by simp) hb2;have CV:=(hB2.get 2 rfl).cell (j:=0) rfl;have qE:=(hB2.get 2 rfl).frozen 0;have CW:=(hB2.get 2 rfl).cell (j:=1) rfl;have qF:=(hB2.get 2 rfl).frozen 1;have DU:=(hB2.get 2 rfl).cell (j:=2) rfl;have qR:=(hB2.get 2 rfl).frozen 2;have DV:=(hB2.get 2 rfl).cell (j:=3) rfl;have qU:=(hB2.get 2 rfl).frozen 3;have kz4:=(hB2.get 2 rfl).cell (j:=4) rfl;have abC:=(hB2.get 2 rfl).frozen 4;have kz5:=(hB2.get 2 rfl).cell (j:=5) rfl;have abK:=(hB2.get 2 rfl).frozen 5;have kz6:=(hB2.get 2 rfl).cell (j:=6) rfl;have abR:=(hB2.get 2 rfl).frozen 6;have kz7:=(hB2.get 2 rfl).cell (j:=7) rfl;have abY:=(hB2.get 2 rfl).frozen 7;have hV:=((((((((hB2).set 2 rfl 0 (.int .i64 ((((c1,c2):Nm.Vec)).1).n)).set 2 rfl 1 (.slice none 0 0)).set 2 rfl 2 (.int .i64 ((((c1,c2):Nm.Vec)).1).d)).set 2 rfl 3 (.slice none 0 0)).set 2 rfl 4 (.int .i64 ((((c1,c2):Nm.Vec)).2).n)).set 2 rfl 5 (.slice none 0 0)).set 2 rfl 6 (.int .i64 ((((c1,c2):Nm.Vec)).2).d)).set 2 rfl 7 (.slice none 0 0);refine hK.out _ _ ?anh (fun hHeld=>?_)
  case anh=>(exact ⟨((hB2).ah rfl).cell (j:=0) rfl,((hB2).ah rfl).cell (j:=1) rfl,((hB2).ah rfl).cell (j:=2) rfl,((hB2).ah rfl).cell (j:=3) rfl,((hB2).ah rfl).cell (j:=4) rfl,((hB2).ah rfl).cell (j:=5) rfl,((hB2).ah rfl).cell (j:=6) rfl,((hB2).ah rfl).cell (j:=7) rfl,((hB2).get 1 rfl).cell (j:=0) rfl,((hB2).get 1 rfl).cell (j:=1) rfl,((hB2).get 1 rfl).cell (j:=2) rfl,((hB2).get 1 rfl).cell (j:=3) rfl,((hB2).get 1 rfl).cell (j:=4) rfl,((hB2).get 1 rfl).cell (j:=5) rfl,((hB2).get 1 rfl).cell (j:=6) rfl,((hB2).get 1 rfl).cell (j:=7) rfl⟩)
  clear hK K
  try simp only [Act.put,la,lz,ls]
  refine tk 10 ?_;refine tr 11 fun K hK=>?_;go_simp;refine hK.out _ _ ?ad8 (fun hHeld=>?_)
  case ad8=>(exact ⟨((hV).ah rfl).cell (j:=0) rfl,((hV).ah rfl).cell (j:=1) rfl,((hV).ah rfl).cell (j:=2) rfl,((hV).ah rfl).cell (j:=3) rfl,((hV).ah rfl).cell (j:=4) rfl,((hV).ah rfl).cell (j:=5) rfl,((hV).ah rfl).cell (j:=6) rfl,((hV).ah rfl).cell (j:=7) rfl,((hV).get 1 rfl).cell (j:=0) rfl,((hV).get 1 rfl).cell (j:=1) rfl,((hV).get 1 rfl).cell (j:=2) rfl,((hV).get 1 rfl).cell (j:=3) rfl,((hV).get 1 rfl).cell (j:=4) rfl,((hV).get 1 rfl).cell (j:=5) rfl,((hV).get 1 rfl).cell (j:=6) rfl,((hV).get 1 rfl).cell (j:=7) rfl⟩)
  clear hK K
  try simp only [Act.put,la,lz,ls]
  refine wpAnyH_done (by kernel_rfl) ?_ _;go_wp2;exact bodyPost_ret (bf (p:=4) (hV.get 2 rfl) Tryz.underlying130 rfl dZ rfl _ rfl) rfl ⟨rfl,hV.bw⟩
theorem PK (v u:Nm.Vec) (w:World) (hc:Nm.cok v u=true):Calls Tryz.prog 130 #[uU v,uU u] w fun e w'=>e= .returned (iI (Nm.cross v u))∧Below w.heap.size w w':=by
 obtain ⟨a1,a2⟩:=v;obtain ⟨b1,b2⟩:=u
 unfold Nm.cok Nm.Ru at hc
 simp only [Bool.and_eq_true] at hc
 obtain ⟨⟨⟨⟨ha1,ha2⟩,hb1',hb2'⟩,hp⟩,hq⟩:=hc;have H1:=fun W=>Cc a1 b2 W ha1 hb2';have H2:=fun W=>Cc a2 b1 W ha2 hb1';rw [show Nm.cross (a1,a2) (b1,b2)=Nm.sub (Nm.mul a1 b2) (Nm.mul a2 b1) from rfl];have H3:=fun W=>Cj (Nm.mul a1 b2) (Nm.mul a2 b1) W hp hq;obtain ⟨c1,hc1⟩:∃ c,Nm.mul a1 b2=c:=⟨_,rfl⟩;obtain ⟨c2,hc2⟩:∃ c,Nm.mul a2 b1=c:=⟨_,rfl⟩
 simp only [hc1] at H1 H3 ⊢
 simp only [hc2] at H2 H3 ⊢
 obtain ⟨c3,hc3⟩:∃ c,Nm.sub c1 c2=c:=⟨_,rfl⟩
 simp only [hc3] at H3 ⊢
 clear hc1 hc2 hc3 hp hq;have H1:=hide H1;have H2:=hide H2;have H3:=hide H3
 go_enter Tryz.func130,Tryz.ntmps130
 go_upto_region 0 with (fail)
 go_cut [2,3,4] (fun v2 v3 v4 wx=>v2=ptr w.heap.size∧v3=ptr (w.heap.size+1)∧v4=ptr (w.heap.size+2)∧aX w wx [(aN (a1,a2),130),(aN (b1,b2),130),(aU ⟨0,0⟩,128)])
 case first=>
  go_wp2;go_meet;exact ⟨rfl,rfl,rfl,((((aX.nil w).new (by simp) (aN (a1,a2)) _).new (by simp) (aN (b1,b2)) _).new (by simp) (aU ⟨0,0⟩) _)⟩
 case rest=>
  obtain ⟨rfl,rfl,rfl,hB⟩:=hcut;have hB0:=hB
  go_upto_region 1 with (fail)
  refine wp_region_held_drew (S:=(fun w':World=>w'.cell? ⟨w.heap.size,0,none⟩=some (.int .i64 ((((a1,a2):Nm.Vec)).1).n)∧w'.cell? ⟨w.heap.size,1,none⟩=some (.slice none 0 0)∧w'.cell? ⟨w.heap.size,2,none⟩=some (.int .i64 ((((a1,a2):Nm.Vec)).1).d)∧w'.cell? ⟨w.heap.size,3,none⟩=some (.slice none 0 0)∧w'.cell? ⟨w.heap.size,4,none⟩=some (.int .i64 ((((a1,a2):Nm.Vec)).2).n)∧w'.cell? ⟨w.heap.size,5,none⟩=some (.slice none 0 0)∧w'.cell? ⟨w.heap.size,6,none⟩=some (.int .i64 ((((a1,a2):Nm.Vec)).2).d)∧w'.cell? ⟨w.heap.size,7,none⟩=some (.slice none 0 0)∧w'.cell? ⟨w.heap.size+1,0,none⟩=some (.int .i64 ((((b1,b2):Nm.Vec)).1).n)∧w'.cell? ⟨w.heap.size+1,1,none⟩=some (.slice none 0 0)∧w'.cell? ⟨w.heap.size+1,2,none⟩=some (.int .i64 ((((b1,b2):Nm.Vec)).1).d)∧w'.cell? ⟨w.heap.size+1,3,none⟩=some (.slice none 0 0)∧w'.cell? ⟨w.heap.size+1,4,none⟩=some (.int .i64 ((((b1,b2):Nm.Vec)).2).n)∧w'.cell? ⟨w.heap.size+1,5,none⟩=some (.slice none 0 0)∧w'.cell? ⟨w.heap.size+1,6,none⟩=some (.int .i64 ((((b1,b2):Nm.Vec)).2).d)∧w'.cell? ⟨w.heap.size+1,7,none⟩=some (.slice none 0 0))) (by kernel_rfl) ?jm (fun hHeld=>?_)
  case jm=>exact ⟨((hB0.drew).ah rfl).cell (j:=0) rfl,((hB0.drew).ah rfl).cell (j:=1) rfl,((hB0.drew).ah rfl).cell (j:=2) rfl,((hB0.drew).ah rfl).cell (j:=3) rfl,((hB0.drew).ah rfl).cell (j:=4) rfl,((hB0.drew).ah rfl).cell (j:=5) rfl,((hB0.drew).ah rfl).cell (j:=6) rfl,((hB0.drew).ah rfl).cell (j:=7) rfl,((hB0.drew).get 1 rfl).cell (j:=0) rfl,((hB0.drew).get 1 rfl).cell (j:=1) rfl,((hB0.drew).get 1 rfl).cell (j:=2) rfl,((hB0.drew).get 1 rfl).cell (j:=3) rfl,((hB0.drew).get 1 rfl).cell (j:=4) rfl,((hB0.drew).get 1 rfl).cell (j:=5) rfl,((hB0.drew).get 1 rfl).cell (j:=6) rfl,((hB0.drew).get 1 rfl).cell (j:=7) rfl⟩
  refine tk 0 ?_;refine tk 1 ?_;refine tk 2 ?_;refine tk 3 ?_;refine tk 5 ?_;refine tk 6 ?_;refine tk 7 ?_;refine tk 8 ?_;refine tr 4 fun K hK=>?_;go_simp
  (go_at_call 125;refine (H1.out _).mono ?_;rintro e w1 ⟨rfl,hb1⟩)
  have hB1:=hB0.drew.call (by simp) hb1;refine hK.out _ _ ?J6 (fun hHeld=>?_)
  case J6=>(exact ⟨((hB1).ah rfl).cell (j:=0) rfl,((hB1).ah rfl).cell (j:=1) rfl,((hB1).ah rfl).cell (j:=2) rfl,((hB1).ah rfl).cell (j:=3) rfl,((hB1).ah rfl).cell (j:=4) rfl,((hB1).ah rfl).cell (j:=5) rfl,((hB1).ah rfl).cell (j:=6) rfl,((hB1).ah rfl).cell (j:=7) rfl,((hB1).get 1 rfl).cell (j:=0) rfl,((hB1).get 1 rfl).cell (j:=1) rfl,((hB1).get 1 rfl).cell (j:=2) rfl,((hB1).get 1 rfl).cell (j:=3) rfl,((hB1).get 1 rfl).cell (j:=4) rfl,((hB1).get 1 rfl).cell (j:=5) rfl,((hB1).get 1 rfl).cell (j:=6) rfl,((hB1).get 1 rfl).cell (j:=7) rfl⟩)
  clear hK K
  try simp only [Act.put,la,lz,ls]
  refine tr 9 fun K hK=>?_;go_simp
  (go_at_call 125;refine (H2.out _).mono ?_;rintro e w2 ⟨rfl,hb2⟩)
  have hB2:=hB1.call (by simp) hb2;refine hK.out _ _ ?Vs (fun hHeld=>?_)
  case Vs=>(exact ⟨((hB2).ah rfl).cell (j:=0) rfl,((hB2).ah rfl).cell (j:=1) rfl,((hB2).ah rfl).cell (j:=2) rfl,((hB2).ah rfl).cell (j:=3) rfl,((hB2).ah rfl).cell (j:=4) rfl,((hB2).ah rfl).cell (j:=5) rfl,((hB2).ah rfl).cell (j:=6) rfl,((hB2).ah rfl).cell (j:=7) rfl,((hB2).get 1 rfl).cell (j:=0) rfl,((hB2).get 1 rfl).cell (j:=1) rfl,((hB2).get 1 rfl).cell (j:=2) rfl,((hB2).get 1 rfl).cell (j:=3) rfl,((hB2).get 1 rfl).cell (j:=4) rfl,((hB2).get 1 rfl).cell (j:=5) rfl,((hB2).get 1 rfl).cell (j:=6) rfl,((hB2).get 1 rfl).cell (j:=7) rfl⟩)
  clear hK K
  try simp only [Act.put,la,lz,ls]
  refine tr 10 fun K hK=>?_;go_simp
  (go_at_call 178;refine (H3.out _).mono ?_;rintro e w3 ⟨rfl,hb3⟩)
  have hB3:=hB2.call (by simp) hb3;have CV:=(hB3.get 2 rfl).cell (j:=0) rfl;have qE:=(hB3.get 2 rfl).frozen 0;have CW:=(hB3.get 2 rfl).cell (j:=1) rfl;have qF:=(hB3.get 2 rfl).frozen 1;have DU:=(hB3.get 2 rfl).cell (j:=2) rfl;have qR:=(hB3.get 2 rfl).frozen 2;have DV:=(hB3.get 2 rfl).cell (j:=3) rfl;have qU:=(hB3.get 2 rfl).frozen 3;have hV:=((((hB3).set 2 rfl 0 (.int .i64 (c3).n)).set 2 rfl 1 (.slice none 0 0)).set 2 rfl 2 (.int .i64 (c3).d)).set 2 rfl 3 (.slice none 0 0);refine hK.out _ _ ?Dv (fun hHeld=>?_)
  case Dv=>(exact ⟨((hB3).ah rfl).cell (j:=0) rfl,((hB3).ah rfl).cell (j:=1) rfl,((hB3).ah rfl).cell (j:=2) rfl,((hB3).ah rfl).cell (j:=3) rfl,((hB3).ah rfl).cell (j:=4) rfl,((hB3).ah rfl).cell (j:=5) rfl,((hB3).ah rfl).cell (j:=6) rfl,((hB3).ah rfl).cell (j:=7) rfl,((hB3).get 1 rfl).cell (j:=0) rfl,((hB3).get 1 rfl).cell (j:=1) rfl,((hB3).get 1 rfl).cell (j:=2) rfl,((hB3).get 1 rfl).cell (j:=3) rfl,((hB3).get 1 rfl).cell (j:=4) rfl,((hB3).get 1 rfl).cell (j:=5) rfl,((hB3).get 1 rfl).cell (j:=6) rfl,((hB3).get 1 rfl).cell (j:=7) rfl⟩)
  clear hK K
  try simp only [Act.put,la,lz,ls]
  refine tr 11 fun K hK=>?_;go_simp;refine hK.out _ _ ?NU (fun hHeld=>?_)
  case NU=>(exact ⟨((hV).ah rfl).cell (j:=0) rfl,((hV).ah rfl).cell (j:=1) rfl,((hV).ah rfl).cell (j:=2) rfl,((hV).ah rfl).cell (j:=3) rfl,((hV).ah rfl).cell (j:=4) rfl,((hV).ah rfl).cell (j:=5) rfl,((hV).ah rfl).cell (j:=6) rfl,((hV).ah rfl).cell (j:=7) rfl,((hV).get 1 rfl).cell (j:=0) rfl,((hV).get 1 rfl).cell (j:=1) rfl,((hV).get 1 rfl).cell (j:=2) rfl,((hV).get 1 rfl).cell (j:=3) rfl,((hV).get 1 rfl).cell (j:=4) rfl,((hV).get 1 rfl).cell (j:=5) rfl,((hV).get 1 rfl).cell (j:=6) rfl,((hV).get 1 rfl).cell (j:=7) rfl⟩)
  clear hK K
  try simp only [Act.put,la,lz,ls]
  refine wpAnyH_done (by kernel_rfl) ?_ _;go_wp2;exact bodyPost_ret (bf (p:=4) (hV.get 2 rfl) Tryz.underlying128 rfl dP rfl _ rfl) rfl ⟨rfl,hV.bw⟩
theorem zV (x y:Int) (w:World):Calls Tryz.prog 218 #[.agg #[.int .i64 x,.int .i64 y]] w fun e w'=>e= .returned (uU (⟨x,1⟩,⟨y,1⟩))∧Below w.heap.size w w':=by
 go_enter Tryz.func218,Tryz.ntmps218
 go_upto_region 0 with (fail)
 go_cut [1,2] (fun v1 v2 wx=>v1=ptr w.heap.size∧v2=ptr (w.heap.size+1)∧aX w wx [([.int .i64 x,.int .i64 y],151),(aN (⟨0,0⟩,⟨0,0⟩),130)])
 case first=>
  go_wp2;go_meet;exact ⟨rfl,rfl,(((aX.nil w).new (by simp) ([.int .i64 x,.int .i64 y]) _).new (by simp) (aN (⟨0,0⟩,⟨0,0⟩)) _)⟩
 case rest=>
  obtain ⟨rfl,rfl,hB⟩:=hcut;have hB0:=hB
  go_upto_region 1 with (fail)
  refine wp_region_held_drew (S:=(fun w':World=>w'.cell? ⟨w.heap.size,0,none⟩=some (.int .i64 x)∧w'.cell? ⟨w.heap.size,1,none⟩=some (.int .i64 y))) (by kernel_rfl) ?jo (fun hHeld=>?_)
  case jo=>exact ⟨((hB0.drew).ah rfl).cell (j:=0) rfl,((hB0.drew).ah rfl).cell (j:=1) rfl⟩
  refine tk 0 ?_;refine tk 1 ?_;refine tk 3 ?_;refine tk 4 ?_;refine tr 2 fun K hK=>?_;go_simp
  (go_at_call 58;refine (f_any x _).mono ?_;rintro e w1 ⟨rfl,hb1⟩)
  have hB1:=hB0.drew.call (by simp) hb1;refine hK.out _ _ ?Vt (fun hHeld=>?_)
  case Vt=>(exact ⟨((hB1).ah rfl).cell (j:=0) rfl,((hB1).ah rfl).cell (j:=1) rfl⟩)
  clear hK K
  try simp only [Act.put,la,lz,ls]
  refine tr 5 fun K hK=>?_;go_simp
  (go_at_call 58;refine (f_any y _).mono ?_;rintro e w2 ⟨rfl,hb2⟩)
  have hB2:=hB1.call (by simp) hb2;have CV:=(hB2.get 1 rfl).cell (j:=0) rfl;have qE:=(hB2.get 1 rfl).frozen 0;have CW:=(hB2.get 1 rfl).cell (j:=1) rfl;have qF:=(hB2.get 1 rfl).frozen 1;have DU:=(hB2.get 1 rfl).cell (j:=2) rfl;have qR:=(hB2.get 1 rfl).frozen 2;have DV:=(hB2.get 1 rfl).cell (j:=3) rfl;have qU:=(hB2.get 1 rfl).frozen 3;have kz4:=(hB2.get 1 rfl).cell (j:=4) rfl;have abC:=(hB2.get 1 rfl).frozen 4;have kz5:=(hB2.get 1 rfl).cell (j:=5) rfl;have abK:=(hB2.get 1 rfl).frozen 5;have kz6:=(hB2.get 1 rfl).cell (j:=6) rfl;have abR:=(hB2.get 1 rfl).frozen 6;have kz7:=(hB2.get 1 rfl).cell (j:=7) rfl;have abY:=(hB2.get 1 rfl).frozen 7;have hV:=((((((((hB2).set 1 rfl 0 (.int .i64 ((((⟨x,1⟩,⟨y,1⟩):Nm.Vec)).1).n)).set 1 rfl 1 (.slice none 0 0)).set 1 rfl 2 (.int .i64 ((((⟨x,1⟩,⟨y,1⟩):Nm.Vec)).1).d)).set 1 rfl 3 (.slice none 0 0)).set 1 rfl 4 (.int .i64 ((((⟨x,1⟩,⟨y,1⟩):Nm.Vec)).2).n)).set 1 rfl 5 (.slice none 0 0)).set 1 rfl 6 (.int .i64 ((((⟨x,1⟩,⟨y,1⟩):Nm.Vec)).2).d)).set 1 rfl 7 (.slice none 0 0);refine hK.out _ _ ?Vw (fun hHeld=>?_)
  case Vw=>(exact ⟨((hB2).ah rfl).cell (j:=0) rfl,((hB2).ah rfl).cell (j:=1) rfl⟩)
  clear hK K
  try simp only [Act.put,la,lz,ls]
  refine tk 6 ?_;refine tr 7 fun K hK=>?_;go_simp;refine hK.out _ _ ?Vx (fun hHeld=>?_)
  case Vx=>(exact ⟨((hV).ah rfl).cell (j:=0) rfl,((hV).ah rfl).cell (j:=1) rfl⟩)
  clear hK K
  try simp only [Act.put,la,lz,ls]
  refine wpAnyH_done (by kernel_rfl) ?_ _;go_wp2;exact bodyPost_ret (bf (p:=2) (hV.get 1 rfl) Tryz.underlying130 rfl dZ rfl _ rfl) rfl ⟨rfl,hV.bw⟩
theorem Us (s1 s2:ByteArray) (a1 a2:Nm.Fr) (w:World) (hg:Glob w) (H1:∀ W,Glob W→Calls Tryz.prog 166 #[.string s1] W fun e w'=>e= .returned (iI a1)∧Below W.heap.size W w') (H2:∀ W,Glob W→Calls Tryz.prog 166 #[.string s2] W fun e w'=>e= .returned (iI a2)∧Below W.heap.size W w'):
 Calls Tryz.prog 117 #[.agg #[.string s1,.string s2]] w fun e w'=>e= .returned (uU (a1,a2))∧Below w.heap.size w w':=by
 have H1:=hide H1;have H2:=hide H2
 go_enter Tryz.func117,Tryz.ntmps117
 go_upto_region 0 with (fail)
 go_cut [1,2] (fun v1 v2 wx=>v1=ptr w.heap.size∧v2=ptr (w.heap.size+1)∧aX w wx [([.string s1,.string s2],147),(aN (⟨0,0⟩,⟨0,0⟩),130)])
 case first=>
  go_wp2;go_meet;exact ⟨rfl,rfl,(((aX.nil w).new (by simp) ([.string s1,.string s2]) _).new (by simp) (aN (⟨0,0⟩,⟨0,0⟩)) _)⟩
 case rest=>
  obtain ⟨rfl,rfl,hB⟩:=hcut;have hB0:=hB
  go_upto_region 1 with (fail)
  refine wp_region_held_drew (S:=(fun w':World=>w'.cell? ⟨w.heap.size,0,none⟩=some (.string s1)∧w'.cell? ⟨w.heap.size,1,none⟩=some (.string s2))) (by kernel_rfl) ?jX (fun hHeld=>?_)
  case jX=>exact ⟨((hB0.drew).ah rfl).cell (j:=0) rfl,((hB0.drew).ah rfl).cell (j:=1) rfl⟩
  refine tk 0 ?_;refine tk 1 ?_;refine tk 3 ?_;refine tk 4 ?_;refine tr 2 fun K hK=>?_;go_simp
  (go_at_call 166;refine (H1.out _ (hg.below hB0.drew.bw)).mono ?_;rintro e w1 ⟨rfl,hb1⟩)
  have hB1:=hB0.drew.call (by simp) hb1;refine hK.out _ _ ?an0 (fun hHeld=>?_)
  case an0=>(exact ⟨((hB1).ah rfl).cell (j:=0) rfl,((hB1).ah rfl).cell (j:=1) rfl⟩)
  clear hK K
  try simp only [Act.put,la,lz,ls]
  refine tr 5 fun K hK=>?_;go_simp
  (go_at_call 166;refine (H2.out _ (hg.below hB1.bw)).mono ?_;rintro e w2 ⟨rfl,hb2⟩)
  have hB2:=hB1.call (by simp) hb2;have CV:=(hB2.get 1 rfl).cell (j:=0) rfl;have qE:=(hB2.get 1 rfl).frozen 0;have CW:=(hB2.get 1 rfl).cell (j:=1) rfl;have qF:=(hB2.get 1 rfl).frozen 1;have DU:=(hB2.get 1 rfl).cell (j:=2) rfl;have qR:=(hB2.get 1 rfl).frozen 2;have DV:=(hB2.get 1 rfl).cell (j:=3) rfl;have qU:=(hB2.get 1 rfl).frozen 3;have kz4:=(hB2.get 1 rfl).cell (j:=4) rfl;have abC:=(hB2.get 1 rfl).frozen 4;have kz5:=(hB2.get 1 rfl).cell (j:=5) rfl;have abK:=(hB2.get 1 rfl).frozen 5;have kz6:=(hB2.get 1 rfl).cell (j:=6) rfl;have abR:=(hB2.get 1 rfl).frozen 6;have kz7:=(hB2.get 1 rfl).cell (j:=7) rfl;have abY:=(hB2.get 1 rfl).frozen 7;have hV:=((((((((hB2).set 1 rfl 0 (.int .i64 ((((a1,a2):Nm.Vec)).1).n)).set 1 rfl 1 (.slice none 0 0)).set 1 rfl 2 (.int .i64 ((((a1,a2):Nm.Vec)).1).d)).set 1 rfl 3 (.slice none 0 0)).set 1 rfl 4 (.int .i64 ((((a1,a2):Nm.Vec)).2).n)).set 1 rfl 5 (.slice none 0 0)).set 1 rfl 6 (.int .i64 ((((a1,a2):Nm.Vec)).2).d)).set 1 rfl 7 (.slice none 0 0);refine hK.out _ _ ?Vy (fun hHeld=>?_)
  case Vy=>(exact ⟨((hB2).ah rfl).cell (j:=0) rfl,((hB2).ah rfl).cell (j:=1) rfl⟩)
  clear hK K
  try simp only [Act.put,la,lz,ls]
  refine tk 6 ?_;refine tr 7 fun K hK=>?_;go_simp;refine hK.out _ _ ?aoe (fun hHeld=>?_)
  case aoe=>(exact ⟨((hV).ah rfl).cell (j:=0) rfl,((hV).ah rfl).cell (j:=1) rfl⟩)
  clear hK K
  try simp only [Act.put,la,lz,ls]
  refine wpAnyH_done (by kernel_rfl) ?_ _;go_wp2;exact bodyPost_ret (bf (p:=2) (hV.get 1 rfl) Tryz.underlying130 rfl dZ rfl _ rfl) rfl ⟨rfl,hV.bw⟩
theorem KT (v:Nm.Vec) (w:World):Calls Tryz.prog 60 #[uU v,.int .i64 0] w fun e w'=>e= .returned (uU v)∧Below w.heap.size w w':=by
 go_enter Tryz.func60,Tryz.ntmps60
 go_upto_region 0 with (fail)
 go_cut [2,4] (fun v2 v4 wx=>v2=ptr w.heap.size∧v4=ptr (w.heap.size+1)∧aX w wx [(aN v,130),(aN (⟨0,0⟩,⟨0,0⟩),130)])
 case first=>
  go_wp2;go_meet;exact ⟨rfl,rfl,(((aX.nil w).new (by simp) (aN v) _).new (by simp) (aN (⟨0,0⟩,⟨0,0⟩)) _)⟩
 case rest=>
  obtain ⟨rfl,rfl,hB⟩:=hcut;go_wp2
  go_loop [9] (fun i=>i= .int .i64 0) (fun _=>0)
  case atStart=>rfl
  case round=>
   obtain rfl:=hrel
   go_wp2_with (first | (refine aB 130 (.tmp 2) rfl ?_;refine ak (hB.ah rfl) Tryz.underlying130 rfl dZ rfl (.tmp 2) rfl rfl ?_) | (refine aO 130 (.tmp 4) (.tmp 19) rfl ?_;refine aF (hB.get 1 rfl) (aN v) rfl dZ (jd _) rfl (.tmp 4) (.tmp 19) rfl rfl rfl ?_))
   have hZ:=hB.put 1 rfl (aN v) rfl;exact bodyPost_ret (bf (p:=4) (hZ.get 1 rfl) Tryz.underlying130 rfl dZ rfl _ rfl) rfl ⟨rfl,hZ.bw⟩
theorem Oe (v:Nm.Vec) (w:World) (hg:Glob w) (hv:Nm.Ru v=true):Calls Tryz.prog 62 #[uU v] w fun e w'=>∃ s1 s2,e= .returned (.tuple #[.agg #[.string s1,.string s2],.int .i64 0])∧Below w.heap.size w w':=by
 obtain ⟨a1,a2⟩:=v;obtain ⟨ha1,ha2⟩:=Bool.and_eq_true_iff.1 hv;have L1:=fun W=>EL a1 W ha1;have L2:=fun W=>EL a2 W ha2;have T1:=fun W h=>KJ a1 W h ha1;have T2:=fun W h=>KJ a2 W h ha2;obtain ⟨s1,hs1⟩:∃ s:ByteArray,⟨(Nm.text a1).toArray⟩=s:=⟨_,rfl⟩;obtain ⟨s2,hs2⟩:∃ s:ByteArray,⟨(Nm.text a2).toArray⟩=s:=⟨_,rfl⟩
 simp only [hs1] at T1
 simp only [hs2] at T2
 clear hs1 hs2;have L1:=hide L1;have L2:=hide L2;have T1:=hide T1;have T2:=hide T2
 go_enter Tryz.func62,Tryz.ntmps62
 go_upto_region 0 with (fail)
 go_cut [1,2] (fun v1 v2 wx=>v1=ptr w.heap.size∧v2=ptr (w.heap.size+1)∧aX w wx [(aN (a1,a2),130),([.string ⟨#[]⟩,.string ⟨#[]⟩],147)])
 case first=>
  go_wp2;go_meet;exact ⟨rfl,rfl,(((aX.nil w).new (by simp) (aN (a1,a2)) _).new (by simp) ([.string ⟨#[]⟩,.string ⟨#[]⟩]) _)⟩
 case rest=>
  obtain ⟨rfl,rfl,hB⟩:=hcut;have xI:=(hB.ah rfl).cell (j:=0) rfl;have lJ:=(hB.ah rfl).frozen 0;have ka1:=(hB.ah rfl).cell (j:=1) rfl;have lK:=(hB.ah rfl).frozen 1;have RI:=(hB.ah rfl).cell (j:=2) rfl;have AA:=(hB.ah rfl).frozen 2;have RN:=(hB.ah rfl).cell (j:=3) rfl;have AB:=(hB.ah rfl).frozen 3;have ka4:=(hB.ah rfl).cell (j:=4) rfl;have aEB:=(hB.ah rfl).frozen 4;have ka5:=(hB.ah rfl).cell (j:=5) rfl;have aEI:=(hB.ah rfl).frozen 5;have ka6:=(hB.ah rfl).cell (j:=6) rfl;have aEP:=(hB.ah rfl).frozen 6;have ka7:=(hB.ah rfl).cell (j:=7) rfl;have aEW:=(hB.ah rfl).frozen 7;have tok:=hide True.intro
  go_upto_region 3 with (first | (clear tok;go_at_call 132;refine (L1.out _).mono ?_;rintro e w1 ⟨rfl,hb1⟩;have hB1:=hB.call (by simp) hb1;have RP:=(hB1.ah rfl).cell (j:=0) rfl;have MX:=(hB1.ah rfl).frozen 0;have RQ:=(hB1.ah rfl).cell (j:=1) rfl;have MZ:=(hB1.ah rfl).frozen 1;have kx2:=(hB1.ah rfl).cell (j:=2) rfl;have abn:=(hB1.ah rfl).frozen 2;have kx3:=(hB1.ah rfl).cell (j:=3) rfl;have abv:=(hB1.ah rfl).frozen 3;have kx4:=(hB1.ah rfl).cell (j:=4) rfl;have aFR:=(hB1.ah rfl).frozen 4;have kx5:=(hB1.ah rfl).cell (j:=5) rfl;have aFY:=(hB1.ah rfl).frozen 5;have kx6:=(hB1.ah rfl).cell (j:=6) rfl;have aF5:=(hB1.ah rfl).frozen 6;have kx7:=(hB1.ah rfl).cell (j:=7) rfl;have aGc:=(hB1.ah rfl).frozen 7) | (go_at_call 132;refine (L2.out _).mono ?_;rintro e w2 ⟨rfl,hb2⟩;have hC0:=hB1.call (by simp) hb2))
  refine wp_region_held_drew (S:=(fun w':World=>w'.cell? ⟨w.heap.size,0,none⟩=some (.int .i64 ((((a1,a2):Nm.Vec)).1).n)∧w'.cell? ⟨w.heap.size,1,none⟩=some (.slice none 0 0)∧w'.cell? ⟨w.heap.size,2,none⟩=some (.int .i64 ((((a1,a2):Nm.Vec)).1).d)∧w'.cell? ⟨w.heap.size,3,none⟩=some (.slice none 0 0)∧w'.cell? ⟨w.heap.size,4,none⟩=some (.int .i64 ((((a1,a2):Nm.Vec)).2).n)∧w'.cell? ⟨w.heap.size,5,none⟩=some (.slice none 0 0)∧w'.cell? ⟨w.heap.size,6,none⟩=some (.int .i64 ((((a1,a2):Nm.Vec)).2).d)∧w'.cell? ⟨w.heap.size,7,none⟩=some (.slice none 0 0))) (by kernel_rfl) ?lQ (fun hHeld=>?_)
  case lQ=>exact ⟨((hC0.drew).ah rfl).cell (j:=0) rfl,((hC0.drew).ah rfl).cell (j:=1) rfl,((hC0.drew).ah rfl).cell (j:=2) rfl,((hC0.drew).ah rfl).cell (j:=3) rfl,((hC0.drew).ah rfl).cell (j:=4) rfl,((hC0.drew).ah rfl).cell (j:=5) rfl,((hC0.drew).ah rfl).cell (j:=6) rfl,((hC0.drew).ah rfl).cell (j:=7) rfl⟩
  refine tk 0 ?_;refine tk 1 ?_;refine tk 3 ?_;refine tk 4 ?_;refine tr 2 fun K hK=>?_;go_simp
  (go_at_call 133;refine (T1.out _ (hg.below hC0.drew.bw)).mono ?_;rintro e w3 ⟨rfl,hb3⟩)
  have RG:=hC0.drew.call (by simp) hb3;refine hK.out _ _ ?J7 (fun hHeld=>?_)
  case J7=>(exact ⟨((RG).ah rfl).cell (j:=0) rfl,((RG).ah rfl).cell (j:=1) rfl,((RG).ah rfl).cell (j:=2) rfl,((RG).ah rfl).cell (j:=3) rfl,((RG).ah rfl).cell (j:=4) rfl,((RG).ah rfl).cell (j:=5) rfl,((RG).ah rfl).cell (j:=6) rfl,((RG).ah rfl).cell (j:=7) rfl⟩)
  clear hK K
  try simp only [Act.put,la,lz,ls]
  refine tr 5 fun K hK=>?_;go_simp
  (go_at_call 133;refine (T2.out _ (hg.below RG.bw)).mono ?_;rintro e w4 ⟨rfl,hb4⟩)
  have vg:=RG.call (by simp) hb4;have CV:=(vg.get 1 rfl).cell (j:=0) rfl;have qE:=(vg.get 1 rfl).frozen 0;have CW:=(vg.get 1 rfl).cell (j:=1) rfl;have qF:=(vg.get 1 rfl).frozen 1;have hV:=((vg).set 1 rfl 0 (.string s1)).set 1 rfl 1 (.string s2);refine hK.out _ _ ?VA (fun hHeld=>?_)
  case VA=>(exact ⟨((vg).ah rfl).cell (j:=0) rfl,((vg).ah rfl).cell (j:=1) rfl,((vg).ah rfl).cell (j:=2) rfl,((vg).ah rfl).cell (j:=3) rfl,((vg).ah rfl).cell (j:=4) rfl,((vg).ah rfl).cell (j:=5) rfl,((vg).ah rfl).cell (j:=6) rfl,((vg).ah rfl).cell (j:=7) rfl⟩)
  clear hK K
  try simp only [Act.put,la,lz,ls]
  refine tk 6 ?_;refine tr 7 fun K hK=>?_;go_simp;refine hK.out _ _ ?aoG (fun hHeld=>?_)
  case aoG=>(exact ⟨((hV).ah rfl).cell (j:=0) rfl,((hV).ah rfl).cell (j:=1) rfl,((hV).ah rfl).cell (j:=2) rfl,((hV).ah rfl).cell (j:=3) rfl,((hV).ah rfl).cell (j:=4) rfl,((hV).ah rfl).cell (j:=5) rfl,((hV).ah rfl).cell (j:=6) rfl,((hV).ah rfl).cell (j:=7) rfl⟩)
  clear hK K
  try simp only [Act.put,la,lz,ls]
  refine tk 8 ?_;refine wpAnyH_done (by kernel_rfl) ?_ _;go_wp2;exact bodyPost_ret (qh (p:=2) (u:=3) (hV.get 1 rfl) Tryz.underlying147 rfl wQ rfl _ rfl) rfl ⟨⟨s1,s2,rfl⟩,hV.bw⟩
theorem Ro (b:Bool) (e:Int) (w:World):Calls Tryz.prog 56 #[.bool b,.int .i64 e] w fun r w'=>r= .returned (.int .i64 (wh b e))∧w=w':=by
 cases b
 all_goals
  go_enter Tryz.func56,Tryz.ntmps56
  go_wp2;go_ret;exact ⟨dw (by simp [wh]),rfl⟩
theorem Oj (S:Nat→Prop) (A:Option Addr) (c:Nat) (zs:List Int) (w:World) (h:bQ w S A c zs):
 Calls Tryz.prog 55 #[.slice A zs.length c] w fun r w'=>r= .returned (.int .i64 (aS zs))∧w=w':=by
 obtain ⟨b1,b2,b3⟩:=h.bd
 go_enter Tryz.func55,Tryz.ntmps55
 go_wp2
 go_loop [7] (fun i=>∃ k:Nat,k≤zs.length∧i= .int .i64 k∧aS zs=aS (zs.drop k)) (fun i=>zs.length - (intOf i).toNat)
 case atStart=>exact ⟨0,Nat.zero_le _,rfl,by simp⟩
 case round=>
  obtain ⟨k,hk,rfl,hx⟩:=hrel
  by_cases hlt:k<zs.length
  · obtain ⟨b,o,rfl,_,_,hc⟩:=h.at_ k hlt
    have hck:=hc k hlt;rw [sV hlt] at hx;clear hc
    by_cases he:zs[k]=0
    · have he':(zs[k] != 0)=false:=by simp [he]
      rw [if_neg (by simp [he])] at hx;have HX:=hide hx;clear hx he;go_wp2
      go_round
      case rel=>exact ⟨k+1,by omega,by go_num,HX.out⟩
      case measure=>simp [intOf];omega
    · have he':(zs[k] != 0)=true:=by simp [he]
      rw [if_pos he] at hx;have HX:=hide hx;clear hx he;go_wp2;go_ret;exact ⟨dw HX.out.symm,rfl⟩
  · have hz:aS zs=0:=by rw [hx,List.drop_of_length_le (by omega),aS]
    have HX:=hide hz;clear hx hz;go_wp2;go_ret;exact ⟨dw HX.out.symm,rfl⟩
theorem jM (e:Int) (w:World):Calls Tryz.prog 56 #[.bool false,.int .i64 e] w fun r w'=>r= .returned (.int .i64 0)∧w=w':=Ro false e w
theorem Ak (S:Nat→Prop) (A:Option Addr) (c n:Nat) (w:World) (h:bQ w S A c (List.replicate n 0)):Calls Tryz.prog 55 #[.slice A n c] w fun r w'=>r= .returned (.int .i64 0)∧w=w':=by
 have:=Oj S A c (List.replicate n 0) w h
 rw [List.length_replicate] at this;refine this.mono ?_
 rintro r w' ⟨rfl,rfl⟩
 refine ⟨?_,rfl⟩
 congr 2
 clear this h
 induction n with
 | zero=>rfl
 | succ n ih=>rw [List.replicate_succ];unfold aS;simpa using ih
theorem LV (S:Nat→Prop) (A:Option Addr) (c:Nat) (l:List M.kL) (g:Nat) (lb:Array Value) (p:M.kL→Bool) (w:World) (h:fP w S A c l) (hg:vJ g lb Jt p w):
 Calls Tryz.prog 159 #[.slice A l.length c,.func (.func g) #[] lb] w fun e w'=>(∃ i:Int,e= .returned (.int .i64 i)∧decide (0≤i)=l.any p)∧Below w.heap.size w w':=by
 obtain ⟨b1,b2,b3⟩:=h.bd;obtain ⟨eg,hq⟩:=hg
 go_enter Tryz.func159,Tryz.ntmps159
 go_wp2
 go_loopw [8] (fun i wr=>∃ k:Nat,k≤l.length∧i= .int .i64 k∧Aside ((l.take k).any p=false)∧Aside (Below w.heap.size w wr)) (fun i _=>l.length - (intOf i).toNat)
 case atStart=>exact ⟨0,Nat.zero_le _,rfl,by simp [Aside],Below.refl _ _⟩
 case round=>
  obtain ⟨k,hk,rfl,hall,hbw⟩:=hrel
  by_cases hlt:k<l.length
  · obtain ⟨b,o,rfl,_,hbl,hc⟩:=h.at_ k hlt
    have hck:=hc k hlt;obtain ⟨hck1,sZ⟩:=hck;have hc1:wr.cell? ⟨b,o+k*2,none⟩=some (.int .i64 l[k].aT):=(hbw.out.cell (p:=⟨b,o+k*2,none⟩) hbl).trans hck1;have hc2:wr.cell? ⟨b,o+k*2+1,none⟩=some (.int .i64 l[k].aP):=(hbw.out.cell (p:=⟨b,o+k*2+1,none⟩) hbl).trans sZ;have hcall:=hq wr l[k] hbw.out;clear hc hck1 sZ hq
    cases hp:p l[k] with
    | true=>
      rw [hp] at hcall;have HP:=hide (lg hlt hp);clear hp
      go_wp2_with (go_at_fn g;refine hcall.mono ?_;rintro e w2 ⟨rfl,hb2⟩)
      go_ret;exact ⟨⟨k,rfl,by rw [HP.out];simp⟩,hb2⟩
    | false=>
      rw [hp] at hcall;have HP:=hide (kN hlt hall.out hp);clear hp
      go_wp2_with (go_at_fn g;refine hcall.mono ?_;rintro e w2 ⟨rfl,hb2⟩)
      go_roundw
      case rel=>exact ⟨k+1,by omega,by go_num,HP.out,hb2⟩
      case measure=>simp [intOf];omega
  · have HA:=hide (show l.any p=false by have:=hall.out;rwa [List.take_of_length_le (by omega)] at this)
    go_wp2;go_ret;exact ⟨⟨-1,rfl,by rw [HA.out];rfl⟩,hbw.out⟩
theorem Td (S:Nat→Prop) (A:Option Addr) (c:Nat) (l:List M.kL) (g:Nat) (lb:Array Value) (p:M.kL→Bool) (w:World) (h:fP w S A c l) (hg:vJ g lb Jt p w):
 Calls Tryz.prog 108 #[.slice A l.length c,.func (.func g) #[] lb] w fun e w'=>e= .returned (.bool (l.any p))∧Below w.heap.size w w':=by
 go_enter Tryz.func108,Tryz.ntmps108
 go_wp2_with (go_at_call 159;refine (LV S A c l g lb p w h hg).mono ?_;rintro e w2 ⟨⟨i,rfl,hi⟩,hb2⟩)
 go_ret;exact ⟨rfl,hb2⟩
theorem PO (w:World):vJ 109 #[] Jt (fun p=>decide (10000<max p.aT p.aP) || decide (min p.aT p.aP< -10000)) w:=by
 refine ⟨enters_of Tryz.func109 (by kernel_rfl) rfl,fun W x hb=>?_⟩;obtain ⟨x,y⟩:=x;obtain ⟨b1,hb1⟩:∃ b,decide (10000<max x y)=b:=⟨_,rfl⟩;obtain ⟨b2,hb2⟩:∃ b,decide (min x y< -10000)=b:=⟨_,rfl⟩
 cases b1 with
 | true=>
   go_enter Tryz.func109,Tryz.ntmps109
   go_wp2
   all_goals
    go_ret;exact ⟨dD (by simp [hb1]),hb.alloc hb.size _⟩
 | false=>
   go_enter Tryz.func109,Tryz.ntmps109
   go_wp2
   all_goals
    go_ret;exact ⟨dD (by simp [hb1,hb2]),hb.alloc hb.size _⟩
@[reducible] def trV (f g:Nat):Value:= .agg #[.func (.func f) #[] #[],.func (.func g) #[] #[]]
def trL:List (ByteArray × Value):=[(⟨#[116,114,105,97,110,103,108,101]⟩,trV 118 119),(⟨#[100,105,97,109,111,110,100]⟩,trV 120 121)]
def KL (n:Nat):Array MapEntry:=((List.range n).filterMap fun i=>(trL[i]?).map fun p=>{key:= .string p.1,val:=p.2,born:=i }).toArray
theorem WU (n:Nat) (k:ByteArray) (v:Value) (h:trL[n]? =some (k,v)):(KL n).push {key:= .string k,val:=v,born:=n }=KL (n+1):=by
 simp [KL,List.range_succ,h]
theorem vT {P:Program} (t kt et:TypeId) (w:World) (n:Nat) (k:ByteArray) (v:Value) (ht:P.underlying t=some (.map kt et)) (hk:P.underlying kt=some .string)
 (hf:Instr.findNow .string (.string k) (KL n).toList 0=some none) (h:trL[n]? =some (k,v)):
 (Instr.mapUpdate t (.map (some w.heap.size)) (.string k) v).run P (w.alloc (.map (KL n) n))= .ok () (w.alloc (.map (KL (n+1)) (n+1))):=by
 rw [sJ t kt et w (KL n) n k v ht hk hf,WU n k v h]
theorem Ol (w:World):Calls Tryz.prog 54 #[] w fun r w'=>r= .returned (.map (some w.heap.size))∧w.alloc (.map (KL 2) 2)=w':=by
 have hmm:(Instr.makeMap 138 none).run Tryz.prog w= .ok (.map (some w.heap.size)) (w.alloc (.map (KL 0) 0)):=rfl;have h0:=vT 138 9 136 w 0 _ _ Tryz.underlying138 Tryz.underlying9 (by kernel_rfl) rfl;have h1:=vT 138 9 136 w 1 _ _ Tryz.underlying138 Tryz.underlying9 (by kernel_rfl) rfl
 go_enter Tryz.func54,Tryz.ntmps54
 go_wp2
 go_outline
 go_ret;exact ⟨rfl,rfl⟩
theorem Ef {w:World} {g:Nat} (hb:w.heap[g]? =some (.map (KL 2) 2)):(Instr.lookup 138 (.map (some g)) (.string ⟨#[116,114,105,97,110,103,108,101]⟩) true).run Tryz.prog w= .ok (.tuple #[trV 118 119,.bool true]) w:=by
 have hck:∀ b,(Instr.checkKey b 10000 9 (.string ⟨#[116,114,105,97,110,103,108,101]⟩)).run Tryz.prog w= .ok () w:=fun b=>kK 9 Tryz.underlying9 b 9999 _ w
 have hf:Instr.findNow .string (.string ⟨#[116,114,105,97,110,103,108,101]⟩) (KL 2).toList 0=some (some (0,trV 118 119)):=by kernel_rfl
 simp [Instr.lookup,run_underlying Tryz.underlying138,oJ hb,hck,Instr.findKey,run_underlying Tryz.underlying9,hf]
theorem YN (r k:Int) (w:World) (h0:0≤k) (h1:k≤1000):Calls Tryz.prog 118 #[.int .i64 r,.int .i64 k] w fun e w'=>e= .returned (.int .i64 (k+1))∧w'=w:=by
 go_enter Tryz.func118,Tryz.ntmps118
 go_wp2;go_ret;exact ⟨rfl,rfl⟩
theorem fits_any (r:Int) (w:World):Calls Tryz.prog 119 #[.int .i64 r] w fun e w'=>e= .returned (.bool true)∧w'=w:=by
 go_enter Tryz.func119,Tryz.ntmps119
 go_wp2;go_ret;exact ⟨rfl,rfl⟩
theorem Oi (nm x y:ByteArray) (b:Nat) (w:World) (hc:w.cell? ⟨b,0,none⟩=some (.string nm)) (hb:b<w.heap.size):Calls Tryz.prog 116 #[.agg #[.string nm,.string x,.string y],.pointer (some ⟨b,0,none⟩)] w fun e w'=>e= .returned (.bool true)∧Below w.heap.size w w':=by
 have he:(nm.toList == nm.toList)=true:=beq_self_eq_true _
 go_enter Tryz.func116,Tryz.ntmps116
 go_wp2;go_ret;exact ⟨rfl,(Below.refl _ _).alloc (Nat.le_refl _) _⟩
@[reducible] def yj (A:Option Addr) (c:Nat) (B:Option Addr) (d:Nat):Value:= .agg #[.slice A 4 c,.int .i64 30,.slice none 0 0,.slice B 1 d]
def dI (A:Option Addr) (c:Nat) (B:Option Addr) (d:Nat):List Value:=[.slice A 4 c,.int .i64 30,.slice none 0 0,.slice B 1 d]
theorem YR (A:Option Addr) (c:Nat) (B:Option Addr) (d:Nat):∀ v∈dI A c B d,v.oneCell'=true:=by simp [dI,Value.oneCell']
theorem sN:(Tryz.prog.info? 87).map (·.size)=some 4:=by kernel_rfl
abbrev iK:ByteArray:=⟨#[102,111,111,116]⟩
abbrev jc:ByteArray:=⟨#[49,53,48,48]⟩
abbrev lU:ByteArray:=⟨#[53,48,48]⟩
def corners:List M.kL:=[⟨0,0⟩,⟨2000,0⟩,⟨2000,1000⟩,⟨0,1000⟩]
theorem wS {w:World} {S:Nat→Prop} {B:Option Addr} {d:Nat} (h:Reads w S 3 B 1 d [.string iK,.string jc,.string lU]):∃ b o,B=some ⟨b,o,none⟩∧b<w.heap.size∧w.cell? ⟨b,o,none⟩=some (.string iK)∧w.cell? ⟨b,o+1,none⟩=some (.string jc)∧w.cell? ⟨b,o+2,none⟩=some (.string lU):=by
 obtain ⟨b,o,e,_,hb,hc⟩:=h.at_ (by omega);exact ⟨b,o,e,hb,hc 0 _ rfl,hc 1 _ rfl,hc 2 _ rfl⟩
theorem IB (S:Nat→Prop) (B:Option Addr) (d:Nat) (g:Nat) (w:World) (h:Reads w S 3 B 1 d [.string iK,.string jc,.string lU]) (hg:w.cell? ⟨g,0,none⟩=some (.string iK)) (hlt:g<w.heap.size):
 Calls Tryz.prog 115 #[.slice B 1 d,.func (.func 116) #[] #[.pointer (some ⟨g,0,none⟩)]] w fun e w'=>e= .returned (.int .i64 0)∧Below w.heap.size w w':=by
 have eg:∀ args w,(callFunc 116 args).run Tryz.prog w= .ok (.enter 116 args) w:=enters_of Tryz.func116 (by kernel_rfl) rfl;obtain ⟨b,o,rfl,hb,c0,c1,c2⟩:=wS h
 go_enter Tryz.func115,Tryz.ntmps115
 go_wp2
 go_loopw [8] (fun i wr=>i= .int .i64 0∧wr=w) (fun _ _=>0)
 case atStart=>exact ⟨rfl,rfl⟩
 case round=>
  obtain ⟨rfl,rfl⟩:=hrel
  go_wp2_with (go_at_fn 116;refine (Oi iK jc lU g _ hg hlt).mono ?_;rintro e w1 ⟨rfl,hb1⟩)
  go_ret;exact ⟨rfl,hb1⟩
theorem TJ (W:World) (h:Glob W):Calls Tryz.prog 166 #[.string jc] W fun e w'=>e= .returned (iI ⟨1500,1⟩)∧Below W.heap.size W w':=
 Ci [49,53,48,48] 1500 W h (by decide) (by decide) (by decide) (by decide) (by decide) (by decide) (by decide) (by decide)
theorem XI (W:World) (h:Glob W):Calls Tryz.prog 166 #[.string lU] W fun e w'=>e= .returned (iI ⟨500,1⟩)∧Below W.heap.size W w':=
 Ci [53,48,48] 500 W h (by decide) (by decide) (by decide) (by decide) (by decide) (by decide) (by decide) (by decide)
theorem O1 (w:World) (hg:Glob w):Calls Tryz.prog 117 #[.agg #[.string jc,.string lU]] w fun e w'=>e= .returned (uU (⟨1500,1⟩,⟨500,1⟩))∧Below w.heap.size w w':=Us jc lU ⟨1500,1⟩ ⟨500,1⟩ w hg TJ XI
theorem WR (S:Nat→Prop) (A B:Option Addr) (c d:Nat) (w:World) (hg:Glob w) (h:Reads w S 3 B 1 d [.string iK,.string jc,.string lU]):
 Calls Tryz.prog 53 #[yj A c B d,.string iK] w fun e w'=>e= .returned (.tuple #[uU (⟨1500,1⟩,⟨500,1⟩),.bool true])∧Below w.heap.size w w':=by
 have hsp:=hide h;clear h
 go_enter Tryz.func53,Tryz.ntmps53
 go_upto_region 0 with (fail)
 go_cut [2,3,4] (fun v2 v3 v4 wx=>v2=ptr w.heap.size∧v3=ptr (w.heap.size+1)∧v4=ptr (w.heap.size+2)∧aX w wx [(dI A c B d,87),([.string iK],9),(aN (⟨0,0⟩,⟨0,0⟩),130)])
 case first=>
  go_wp2;go_meet;exact ⟨rfl,rfl,rfl,((((aX.nil w).new (by simp) (dI A c B d) _).new (by simp) ([.string iK]) _).new (by simp) (aN (⟨0,0⟩,⟨0,0⟩)) _)⟩
 case rest=>
  obtain ⟨rfl,rfl,rfl,hB⟩:=hcut;have xI:=(hB.ah rfl).cell (j:=0) rfl;have lJ:=(hB.ah rfl).frozen 0;have ka1:=(hB.ah rfl).cell (j:=1) rfl;have lK:=(hB.ah rfl).frozen 1;have RI:=(hB.ah rfl).cell (j:=2) rfl;have AA:=(hB.ah rfl).frozen 2;have RN:=(hB.ah rfl).cell (j:=3) rfl;have AB:=(hB.ah rfl).frozen 3;have Hw:=(hB.get 1 rfl).cell (j:=0) rfl;have xJ:=(hB.get 1 rfl).frozen 0;have hlt:=hB.lt (i:=1) (by simp);have h1:=hsp.out.below hB.bw;obtain ⟨b,o,rfl,hb,c0,c1,c2⟩:=wS h1
  go_upto_region 4 with (go_at_call 115;refine (IB S _ d (w.heap.size+1) _ h1 Hw hlt).mono ?_;rintro e w1 ⟨rfl,hb1⟩;have hB1:=hB.call (by simp) hb1;have RP:=(hB1.ah rfl).cell (j:=0) rfl;have MX:=(hB1.ah rfl).frozen 0;have RQ:=(hB1.ah rfl).cell (j:=1) rfl;have MZ:=(hB1.ah rfl).frozen 1;have kx2:=(hB1.ah rfl).cell (j:=2) rfl;have abn:=(hB1.ah rfl).frozen 2;have kx3:=(hB1.ah rfl).cell (j:=3) rfl;have abv:=(hB1.ah rfl).frozen 3)
  have d1:w1.cell? ⟨b,o+1,none⟩=some (.string jc):=(hb1.cell (p:=⟨b,o+1,none⟩) hb).trans c1;have d2:w1.cell? ⟨b,o+2,none⟩=some (.string lU):=(hb1.cell (p:=⟨b,o+2,none⟩) hb).trans c2;clear c0 c1 c2 h1
  go_wp2_with (first | (go_at_call 117;refine (O1 _ (hg.below hB1.bw)).mono ?_;rintro e w2 ⟨rfl,hb2⟩;have hB2:=hB1.call (by simp) hb2) | (refine aO 130 (.tmp 4) (.tmp 20) rfl ?_;refine aF (hB2.get 2 rfl) (aN (⟨1500,1⟩,⟨500,1⟩)) rfl dZ (jd _) rfl (.tmp 4) (.tmp 20) rfl rfl rfl ?_))
  have hZ:=hB2.put 2 rfl (aN (⟨1500,1⟩,⟨500,1⟩)) rfl;exact bodyPost_ret (qh (p:=4) (u:=5) (hZ.get 2 rfl) Tryz.underlying130 rfl dZ rfl _ rfl) rfl ⟨rfl,hZ.bw⟩
def ptV (p:M.kL):Nm.Vec:=(⟨p.aT,1⟩,⟨p.aP,1⟩)
@[reducible] def Oy (v u:Nm.Vec):Value:= .agg #[.int .i64 v.1.n,.slice none 0 0,.int .i64 v.1.d,.slice none 0 0,.int .i64 v.2.n,.slice none 0 0,.int .i64 v.2.d,.slice none 0 0,.int .i64 u.1.n,.slice none 0 0,.int .i64 u.1.d,.slice none 0 0,.int .i64 u.2.n,.slice none 0 0,.int .i64 u.2.d,.slice none 0 0]
def fD (v u:Nm.Vec):List Value:=aN v++aN u
theorem Ic (v u:Nm.Vec):∀ x∈fD v u,x.oneCell'=true:=by simp [fD,aN,Value.oneCell']
theorem yR:(Tryz.prog.info? 213).map (·.size)=some 16:=by kernel_rfl
theorem oW {w w':World} {b o1 o2 o3 o4:Nat} {x y u v:Value} (hlt:b<w.heap.size) (h:w.cell? ⟨b,o1,none⟩=some x∧w.cell? ⟨b,o2,none⟩=some y∧w.cell? ⟨b,o3,none⟩=some u∧w.cell? ⟨b,o4,none⟩=some v) (hb:Below w.heap.size w w'):
 w'.cell? ⟨b,o1,none⟩=some x∧w'.cell? ⟨b,o2,none⟩=some y∧w'.cell? ⟨b,o3,none⟩=some u∧w'.cell? ⟨b,o4,none⟩=some v:=
 ⟨(hb.cell (p:=⟨b,o1,none⟩) hlt).trans h.1,(hb.cell (p:=⟨b,o2,none⟩) hlt).trans h.2.1,(hb.cell (p:=⟨b,o3,none⟩) hlt).trans h.2.2.1,(hb.cell (p:=⟨b,o4,none⟩) hlt).trans h.2.2.2⟩
theorem Tv (S:Nat→Prop) (A B:Option Addr) (c d k j:Nat) (w:World) (hk:k<4) (hj:j<4) (hm:(k+1) % 4=j) (h:fP w S A c corners):
 Calls Tryz.prog 177 #[yj A c B d,.int .i64 k] w fun e w'=>e= .returned (Oy (ptV (corners[k]'hk)) (ptV (corners[j]'hj)))∧Below w.heap.size w w':=by
 obtain ⟨b,o,rfl,_,hlt0,hc⟩:=h.at_ 0 (by decide);have c1:=hc k hk;have c2:=hc j hj;obtain ⟨x,hx⟩:∃ x,(corners[k]'hk).aT=x:=⟨_,rfl⟩;obtain ⟨y,hy⟩:∃ x,(corners[k]'hk).aP=x:=⟨_,rfl⟩;obtain ⟨u,hu⟩:∃ x,(corners[j]'hj).aT=x:=⟨_,rfl⟩;obtain ⟨v,hv⟩:∃ x,(corners[j]'hj).aP=x:=⟨_,rfl⟩
 unfold ptV
 simp only [hx,hy] at c1 ⊢
 simp only [hu,hv] at c2 ⊢
 have q0:w.cell? ⟨b,o+k*2,none⟩=some (.int .i64 x)∧w.cell? ⟨b,o+k*2+1,none⟩=some (.int .i64 y)∧w.cell? ⟨b,o+j*2,none⟩=some (.int .i64 u)∧w.cell? ⟨b,o+j*2+1,none⟩=some (.int .i64 v):=⟨c1.1,c1.2,c2.1,c2.2⟩;clear hc c1 c2 hx hy hu hv
 have hr1:((k:Int)+1).tmod 4=(j:Int):=by rw [Int.tmod_eq_emod_of_nonneg (by omega)];omega
 have hr2:((k:Int)+1) % 4=(j:Int):=by omega
 have hw:IntKind.i64.wrap ((k:Int)+1)=(k:Int)+1:=by rw [IntKind.wrap_i64];omega
 have hk':(k:Int)<4:=by omega
 have hj':(j:Int)<4:=by omega
 clear hm;have Q0:=hide q0;clear q0
 go_enter Tryz.func177,Tryz.ntmps177
 go_upto_region 0 with (fail)
 go_cut [2,4] (fun v2 v4 wx=>v2=ptr w.heap.size∧v4=ptr (w.heap.size+1)∧aX w wx [(dI (some ⟨b,o,none⟩) c B d,87),(fD (⟨0,0⟩,⟨0,0⟩) (⟨0,0⟩,⟨0,0⟩),213)])
 case first=>
  go_wp2;go_meet;exact ⟨rfl,rfl,(((aX.nil w).new (by simp) (dI (some ⟨b,o,none⟩) c B d) _).new (by simp) (fD (⟨0,0⟩,⟨0,0⟩) (⟨0,0⟩,⟨0,0⟩)) _)⟩
 case rest=>
  obtain ⟨rfl,rfl,hB⟩:=hcut;have hB0:=hB;have hq:=oW hlt0 Q0.out hB.bw;have hlt:b<wc.heap.size:=Nat.lt_of_lt_of_le hlt0 hB.bw.size
  go_upto_region 1 with (fail)
  refine wp_region_held_drew (S:=(fun w':World=>w'.cell? ⟨w.heap.size,0,none⟩=some (.slice (some ⟨b,o,none⟩) 4 c)∧w'.cell? ⟨w.heap.size,1,none⟩=some (.int .i64 30)∧w'.cell? ⟨w.heap.size,2,none⟩=some (.slice none 0 0)∧w'.cell? ⟨w.heap.size,3,none⟩=some (.slice B 1 d)∧w'.cell? ⟨b,o+k*2,none⟩=some (.int .i64 x)∧w'.cell? ⟨b,o+k*2+1,none⟩=some (.int .i64 y)∧w'.cell? ⟨b,o+j*2,none⟩=some (.int .i64 u)∧w'.cell? ⟨b,o+j*2+1,none⟩=some (.int .i64 v))) (by kernel_rfl) ?lS (fun hHeld=>?_)
  case lS=>exact ⟨((hB0.drew).ah rfl).cell (j:=0) rfl,((hB0.drew).ah rfl).cell (j:=1) rfl,((hB0.drew).ah rfl).cell (j:=2) rfl,((hB0.drew).ah rfl).cell (j:=3) rfl,(oW hlt0 Q0.out hB0.drew.bw).1,(oW hlt0 Q0.out hB0.drew.bw).2.1,(oW hlt0 Q0.out hB0.drew.bw).2.2.1,(oW hlt0 Q0.out hB0.drew.bw).2.2.2⟩
  refine tk 0 ?_;refine tk 1 ?_;refine tk 2 ?_;refine tk 3 ?_;refine tk 4 ?_;refine tk 6 ?_;refine tk 7 ?_;refine tk 8 ?_;refine tk 9 ?_;refine tk 10 ?_;refine tk 11 ?_;refine tk 12 ?_;refine tk 13 ?_;refine tk 14 ?_;refine tk 15 ?_;refine tr 5 fun K hK=>?_;go_simp
  (go_at_call 218;refine (zV x y _).mono ?_;rintro e w1 ⟨rfl,hb1⟩)
  have hB1:=hB0.drew.call (by simp) hb1;refine hK.out _ _ ?aoU (fun hHeld=>?_)
  case aoU=>(exact ⟨((hB1).ah rfl).cell (j:=0) rfl,((hB1).ah rfl).cell (j:=1) rfl,((hB1).ah rfl).cell (j:=2) rfl,((hB1).ah rfl).cell (j:=3) rfl,(oW hlt0 Q0.out hB1.bw).1,(oW hlt0 Q0.out hB1.bw).2.1,(oW hlt0 Q0.out hB1.bw).2.2.1,(oW hlt0 Q0.out hB1.bw).2.2.2⟩)
  clear hK K
  try simp only [Act.put,la,lz,ls]
  refine tr 16 fun K hK=>?_;go_simp
  (go_at_call 218;refine (zV u v _).mono ?_;rintro e w2 ⟨rfl,hb2⟩)
  have hB2:=hB1.call (by simp) hb2;have hV:=hB2.put 1 rfl (fD (⟨x,1⟩,⟨y,1⟩) (⟨u,1⟩,⟨v,1⟩)) rfl;refine hK.out _ _ ?af7 (fun hHeld=>?_)
  case af7=>(exact ⟨((hB2).ah rfl).cell (j:=0) rfl,((hB2).ah rfl).cell (j:=1) rfl,((hB2).ah rfl).cell (j:=2) rfl,((hB2).ah rfl).cell (j:=3) rfl,(oW hlt0 Q0.out hB2.bw).1,(oW hlt0 Q0.out hB2.bw).2.1,(oW hlt0 Q0.out hB2.bw).2.2.1,(oW hlt0 Q0.out hB2.bw).2.2.2⟩)
  clear hK K
  try simp only [Act.put,la,lz,ls]
  refine tk 17 ?_;refine wpAnyH_ready (rs:=[18]) (by kernel_rfl) (by simp) ?_;refine dM (o:=_) (ga rfl) (by kernel_rfl) (hB2.get 1 rfl) (fD (⟨x,1⟩,⟨y,1⟩) (⟨u,1⟩,⟨v,1⟩)) rfl yR (Ic _ _) (.tmp 4) (.tmp 22) rfl rfl rfl (by exact ⟨((hV).ah rfl).cell (j:=0) rfl,((hV).ah rfl).cell (j:=1) rfl,((hV).ah rfl).cell (j:=2) rfl,((hV).ah rfl).cell (j:=3) rfl,(oW hlt0 Q0.out hV.bw).1,(oW hlt0 Q0.out hV.bw).2.1,(oW hlt0 Q0.out hV.bw).2.2.1,(oW hlt0 Q0.out hV.bw).2.2.2⟩) ?_
  try simp only [Act.put,la,lz,ls]
  refine wpAnyH_done (by kernel_rfl) ?_ _;go_wp2;exact bodyPost_ret (bf (p:=4) (hV.get 1 rfl) Tryz.underlying213 rfl yR rfl _ rfl) rfl ⟨rfl,hV.bw⟩
end Go.Proofs.YtcjglfbpjkdgiaaGreatDoor
