/- Parts of a proof. -/
import Derived.Test.YtjbbfmofpjflmaaGreatDoorKb15
import Derived.Test.YtjbbfmofpjflmaaGreatDoorKb32
set_option maxHeartbeats 2000000
set_option maxRecDepth 100000
set_option linter.unusedVariables false
set_option linter.unusedSimpArgs false
namespace Go.Proofs.YtjbbfmofpjflmaaGreatDoor
open Go.RowKit
abbrev Nm.gZ:=Nm.Fr × Nm.Fr
def Nm.EO (v:Nm.gZ):Bool:=Nm.ok v.1 && Nm.ok v.2
def Nm.oZ (v w:Nm.gZ):Nm.gZ:=(Nm.sub v.1 w.1,Nm.sub v.2 w.2)
def Nm.iR (v w:Nm.gZ):Nm.Fr:=Nm.add (Nm.mul v.1 w.1) (Nm.mul v.2 w.2)
def Nm.ML (v w:Nm.gZ):Bool:=Nm.EO v && Nm.EO w && Nm.ok (Nm.mul v.1 w.1) && Nm.ok (Nm.mul v.2 w.2)
@[reducible] def VT (v:Nm.gZ):Value:= .agg #[.int .i64 v.1.n,.slice none 0 0,.int .i64 v.1.d,.slice none 0 0,.int .i64 v.2.n,.slice none 0 0,.int .i64 v.2.d,.slice none 0 0]
def bK (v:Nm.gZ):List Value:=[.int .i64 v.1.n,.slice none 0 0,.int .i64 v.1.d,.slice none 0 0,.int .i64 v.2.n,.slice none 0 0,.int .i64 v.2.d,.slice none 0 0]
theorem wE (v:Nm.gZ):∀ x∈bK v,x.oneCell'=true:=by simp [bK,Value.oneCell']
theorem lS:(Tryz.prog.info? 170).map (·.size)=some 8:=by kernel_rfl
theorem nN:(Tryz.prog.info? 114).map (·.size)=some 2:=by kernel_rfl
theorem BF (v u:Nm.gZ) (w:World) (hv:Nm.EO v=true) (hu:Nm.EO u=true):Calls Tryz.prog 153 #[VT v,VT u] w fun e w'=>e= .returned (VT (Nm.oZ v u))∧Below w.heap.size w w':=by
 obtain ⟨a1,a2⟩:=v;obtain ⟨b1,b2⟩:=u;obtain ⟨ha1,ha2⟩:=Bool.and_eq_true_iff.1 hv;obtain ⟨hb1',hb2'⟩:=Bool.and_eq_true_iff.1 hu;have H1:=fun W=>qK a1 b1 W ha1 hb1';have H2:=fun W=>qK a2 b2 W ha2 hb2';rw [show Nm.oZ (a1,a2) (b1,b2)=(Nm.sub a1 b1,Nm.sub a2 b2) from rfl];obtain ⟨c1,hc1⟩:∃ c,Nm.sub a1 b1=c:=⟨_,rfl⟩;obtain ⟨c2,hc2⟩:∃ c,Nm.sub a2 b2=c:=⟨_,rfl⟩
 simp only [hc1] at H1 ⊢
 simp only [hc2] at H2 ⊢
 clear hc1 hc2;have H1:=hide H1;have H2:=hide H2
 go_enter Tryz.func153,Tryz.ntmps153
 go_upto_region 0 with (fail)
 go_cut [2,3,4] (fun v2 v3 v4 wx=>v2=ptr w.heap.size∧v3=ptr (w.heap.size+1)∧v4=ptr (w.heap.size+2)∧aJ w wx [(bK (a1,a2),170),(bK (b1,b2),170),(bK (⟨0,0⟩,⟨0,0⟩),170)])
 case first=>
  go_wp2;go_meet;exact ⟨rfl,rfl,rfl,((((aJ.nil w).new (by simp) (bK (a1,a2)) _).new (by simp) (bK (b1,b2)) _).new (by simp) (bK (⟨0,0⟩,⟨0,0⟩)) _)⟩
 case rest=>
  obtain ⟨rfl,rfl,rfl,hB⟩:=hcut;have hB0:=hB
  go_upto_region 1 with (fail)
  refine wp_region_held_drew (S:=(fun w':World=>w'.cell? ⟨w.heap.size,0,none⟩=some (.int .i64 ((((a1,a2):Nm.gZ)).1).n)∧w'.cell? ⟨w.heap.size,1,none⟩=some (.slice none 0 0)∧w'.cell? ⟨w.heap.size,2,none⟩=some (.int .i64 ((((a1,a2):Nm.gZ)).1).d)∧w'.cell? ⟨w.heap.size,3,none⟩=some (.slice none 0 0)∧w'.cell? ⟨w.heap.size,4,none⟩=some (.int .i64 ((((a1,a2):Nm.gZ)).2).n)∧w'.cell? ⟨w.heap.size,5,none⟩=some (.slice none 0 0)∧w'.cell? ⟨w.heap.size,6,none⟩=some (.int .i64 ((((a1,a2):Nm.gZ)).2).d)∧w'.cell? ⟨w.heap.size,7,none⟩=some (.slice none 0 0)∧w'.cell? ⟨w.heap.size+1,0,none⟩=some (.int .i64 ((((b1,b2):Nm.gZ)).1).n)∧w'.cell? ⟨w.heap.size+1,1,none⟩=some (.slice none 0 0)∧w'.cell? ⟨w.heap.size+1,2,none⟩=some (.int .i64 ((((b1,b2):Nm.gZ)).1).d)∧w'.cell? ⟨w.heap.size+1,3,none⟩=some (.slice none 0 0)∧w'.cell? ⟨w.heap.size+1,4,none⟩=some (.int .i64 ((((b1,b2):Nm.gZ)).2).n)∧w'.cell? ⟨w.heap.size+1,5,none⟩=some (.slice none 0 0)∧w'.cell? ⟨w.heap.size+1,6,none⟩=some (.int .i64 ((((b1,b2):Nm.gZ)).2).d)∧w'.cell? ⟨w.heap.size+1,7,none⟩=some (.slice none 0 0))) (by kernel_rfl) ?bW (fun hHeld=>?_)
  case bW=>exact ⟨((hB0.drew).aA rfl).cell (j:=0) rfl,((hB0.drew).aA rfl).cell (j:=1) rfl,((hB0.drew).aA rfl).cell (j:=2) rfl,((hB0.drew).aA rfl).cell (j:=3) rfl,((hB0.drew).aA rfl).cell (j:=4) rfl,((hB0.drew).aA rfl).cell (j:=5) rfl,((hB0.drew).aA rfl).cell (j:=6) rfl,((hB0.drew).aA rfl).cell (j:=7) rfl,((hB0.drew).get 1 rfl).cell (j:=0) rfl,((hB0.drew).get 1 rfl).cell (j:=1) rfl,((hB0.drew).get 1 rfl).cell (j:=2) rfl,((hB0.drew).get 1 rfl).cell (j:=3) rfl,((hB0.drew).get 1 rfl).cell (j:=4) rfl,((hB0.drew).get 1 rfl).cell (j:=5) rfl,((hB0.drew).get 1 rfl).cell (j:=6) rfl,((hB0.drew).get 1 rfl).cell (j:=7) rfl⟩
  refine tk 0 ?_;refine tk 1 ?_;refine tk 2 ?_;refine tk 3 ?_;refine tk 5 ?_;refine tk 6 ?_;refine tk 7 ?_;refine tk 8 ?_;refine tr 4 fun K hK=>?_;go_simp
  (go_at_call 157;refine (H1.out _).mono ?_;rintro e w1 ⟨rfl,hb1⟩)
  have hB1:=hB0.drew.call (by simp) hb1;refine hK.out _ _ ?PZ (fun hHeld=>?_)
  case PZ=>(exact ⟨((hB1).aA rfl).cell (j:=0) rfl,((hB1).aA rfl).cell (j:=1) rfl,((hB1).aA rfl).cell (j:=2) rfl,((hB1).aA rfl).cell (j:=3) rfl,((hB1).aA rfl).cell (j:=4) rfl,((hB1).aA rfl).cell (j:=5) rfl,((hB1).aA rfl).cell (j:=6) rfl,((hB1).aA rfl).cell (j:=7) rfl,((hB1).get 1 rfl).cell (j:=0) rfl,((hB1).get 1 rfl).cell (j:=1) rfl,((hB1).get 1 rfl).cell (j:=2) rfl,((hB1).get 1 rfl).cell (j:=3) rfl,((hB1).get 1 rfl).cell (j:=4) rfl,((hB1).get 1 rfl).cell (j:=5) rfl,((hB1).get 1 rfl).cell (j:=6) rfl,((hB1).get 1 rfl).cell (j:=7) rfl⟩)
  clear hK K
  try simp only [Act.put,la,lz,ls]
  refine tr 9 fun K hK=>?_;go_simp
  (go_at_call 157;refine (H2.out _).mono ?_;rintro e w2 ⟨rfl,hb2⟩)
  have hB2:=hB1.call (by simp) hb2;have Sl:=(hB2.get 2 rfl).cell (j:=0) rfl;have BU:=(hB2.get 2 rfl).frozen 0;have Sm:=(hB2.get 2 rfl).cell (j:=1) rfl;have BX:=(hB2.get 2 rfl).frozen 1;have Sr:=(hB2.get 2 rfl).cell (j:=2) rfl;have BZ:=(hB2.get 2 rfl).frozen 2;have Sz:=(hB2.get 2 rfl).cell (j:=3) rfl;have Cb:=(hB2.get 2 rfl).frozen 3;have kz4:=(hB2.get 2 rfl).cell (j:=4) rfl;have alG:=(hB2.get 2 rfl).frozen 4;have kz5:=(hB2.get 2 rfl).cell (j:=5) rfl;have alN:=(hB2.get 2 rfl).frozen 5;have kz6:=(hB2.get 2 rfl).cell (j:=6) rfl;have alU:=(hB2.get 2 rfl).frozen 6;have kz7:=(hB2.get 2 rfl).cell (j:=7) rfl;have al1:=(hB2.get 2 rfl).frozen 7;have hV:=((((((((hB2).set 2 rfl 0 (.int .i64 ((((c1,c2):Nm.gZ)).1).n)).set 2 rfl 1 (.slice none 0 0)).set 2 rfl 2 (.int .i64 ((((c1,c2):Nm.gZ)).1).d)).set 2 rfl 3 (.slice none 0 0)).set 2 rfl 4 (.int .i64 ((((c1,c2):Nm.gZ)).2).n)).set 2 rfl 5 (.slice none 0 0)).set 2 rfl 6 (.int .i64 ((((c1,c2):Nm.gZ)).2).d)).set 2 rfl 7 (.slice none 0 0);refine hK.out _ _ ?aaL (fun hHeld=>?_)
  case aaL=>(exact ⟨((hB2).aA rfl).cell (j:=0) rfl,((hB2).aA rfl).cell (j:=1) rfl,((hB2).aA rfl).cell (j:=2) rfl,((hB2).aA rfl).cell (j:=3) rfl,((hB2).aA rfl).cell (j:=4) rfl,((hB2).aA rfl).cell (j:=5) rfl,((hB2).aA rfl).cell (j:=6) rfl,((hB2).aA rfl).cell (j:=7) rfl,((hB2).get 1 rfl).cell (j:=0) rfl,((hB2).get 1 rfl).cell (j:=1) rfl,((hB2).get 1 rfl).cell (j:=2) rfl,((hB2).get 1 rfl).cell (j:=3) rfl,((hB2).get 1 rfl).cell (j:=4) rfl,((hB2).get 1 rfl).cell (j:=5) rfl,((hB2).get 1 rfl).cell (j:=6) rfl,((hB2).get 1 rfl).cell (j:=7) rfl⟩)
  clear hK K
  try simp only [Act.put,la,lz,ls]
  refine tk 10 ?_;refine tr 11 fun K hK=>?_;go_simp;refine hK.out _ _ ?XF (fun hHeld=>?_)
  case XF=>(exact ⟨((hV).aA rfl).cell (j:=0) rfl,((hV).aA rfl).cell (j:=1) rfl,((hV).aA rfl).cell (j:=2) rfl,((hV).aA rfl).cell (j:=3) rfl,((hV).aA rfl).cell (j:=4) rfl,((hV).aA rfl).cell (j:=5) rfl,((hV).aA rfl).cell (j:=6) rfl,((hV).aA rfl).cell (j:=7) rfl,((hV).get 1 rfl).cell (j:=0) rfl,((hV).get 1 rfl).cell (j:=1) rfl,((hV).get 1 rfl).cell (j:=2) rfl,((hV).get 1 rfl).cell (j:=3) rfl,((hV).get 1 rfl).cell (j:=4) rfl,((hV).get 1 rfl).cell (j:=5) rfl,((hV).get 1 rfl).cell (j:=6) rfl,((hV).get 1 rfl).cell (j:=7) rfl⟩)
  clear hK K
  try simp only [Act.put,la,lz,ls]
  refine wpAnyH_done (by kernel_rfl) ?_ _;go_wp2;exact bodyPost_ret (aX (p:=4) (hV.get 2 rfl) Tryz.underlying170 rfl lS rfl _ rfl) rfl ⟨rfl,hV.bw⟩
theorem uZ (v u:Nm.gZ) (w:World) (hc:Nm.ML v u=true):Calls Tryz.prog 154 #[VT v,VT u] w fun e w'=>e= .returned (fQ (Nm.iR v u))∧Below w.heap.size w w':=by
 obtain ⟨a1,a2⟩:=v;obtain ⟨b1,b2⟩:=u
 unfold Nm.ML Nm.EO at hc
 simp only [Bool.and_eq_true] at hc
 obtain ⟨⟨⟨⟨ha1,ha2⟩,hb1',hb2'⟩,hp⟩,hq⟩:=hc;have H1:=fun W=>iG a1 b1 W ha1 hb1';have H2:=fun W=>iG a2 b2 W ha2 hb2';rw [show Nm.iR (a1,a2) (b1,b2)=Nm.add (Nm.mul a1 b1) (Nm.mul a2 b2) from rfl];have H3:=fun W=>zV (Nm.mul a1 b1) (Nm.mul a2 b2) W hp hq;obtain ⟨c1,hc1⟩:∃ c,Nm.mul a1 b1=c:=⟨_,rfl⟩;obtain ⟨c2,hc2⟩:∃ c,Nm.mul a2 b2=c:=⟨_,rfl⟩
 simp only [hc1] at H1 H3 ⊢
 simp only [hc2] at H2 H3 ⊢
 obtain ⟨c3,hc3⟩:∃ c,Nm.add c1 c2=c:=⟨_,rfl⟩
 simp only [hc3] at H3 ⊢
 clear hc1 hc2 hc3 hp hq;have H1:=hide H1;have H2:=hide H2;have H3:=hide H3
 go_enter Tryz.func154,Tryz.ntmps154
 go_upto_region 0 with (fail)
 go_cut [2,3,4] (fun v2 v3 v4 wx=>v2=ptr w.heap.size∧v3=ptr (w.heap.size+1)∧v4=ptr (w.heap.size+2)∧aJ w wx [(bK (a1,a2),170),(bK (b1,b2),170),(aj ⟨0,0⟩,164)])
 case first=>
  go_wp2;go_meet;exact ⟨rfl,rfl,rfl,((((aJ.nil w).new (by simp) (bK (a1,a2)) _).new (by simp) (bK (b1,b2)) _).new (by simp) (aj ⟨0,0⟩) _)⟩
 case rest=>
  obtain ⟨rfl,rfl,rfl,hB⟩:=hcut;have hB0:=hB
  go_upto_region 1 with (fail)
  refine wp_region_held_drew (S:=(fun w':World=>w'.cell? ⟨w.heap.size,0,none⟩=some (.int .i64 ((((a1,a2):Nm.gZ)).1).n)∧w'.cell? ⟨w.heap.size,1,none⟩=some (.slice none 0 0)∧w'.cell? ⟨w.heap.size,2,none⟩=some (.int .i64 ((((a1,a2):Nm.gZ)).1).d)∧w'.cell? ⟨w.heap.size,3,none⟩=some (.slice none 0 0)∧w'.cell? ⟨w.heap.size,4,none⟩=some (.int .i64 ((((a1,a2):Nm.gZ)).2).n)∧w'.cell? ⟨w.heap.size,5,none⟩=some (.slice none 0 0)∧w'.cell? ⟨w.heap.size,6,none⟩=some (.int .i64 ((((a1,a2):Nm.gZ)).2).d)∧w'.cell? ⟨w.heap.size,7,none⟩=some (.slice none 0 0)∧w'.cell? ⟨w.heap.size+1,0,none⟩=some (.int .i64 ((((b1,b2):Nm.gZ)).1).n)∧w'.cell? ⟨w.heap.size+1,1,none⟩=some (.slice none 0 0)∧w'.cell? ⟨w.heap.size+1,2,none⟩=some (.int .i64 ((((b1,b2):Nm.gZ)).1).d)∧w'.cell? ⟨w.heap.size+1,3,none⟩=some (.slice none 0 0)∧w'.cell? ⟨w.heap.size+1,4,none⟩=some (.int .i64 ((((b1,b2):Nm.gZ)).2).n)∧w'.cell? ⟨w.heap.size+1,5,none⟩=some (.slice none 0 0)∧w'.cell? ⟨w.heap.size+1,6,none⟩=some (.int .i64 ((((b1,b2):Nm.gZ)).2).d)∧w'.cell? ⟨w.heap.size+1,7,none⟩=some (.slice none 0 0))) (by kernel_rfl) ?dI (fun hHeld=>?_)
  case dI=>exact ⟨((hB0.drew).aA rfl).cell (j:=0) rfl,((hB0.drew).aA rfl).cell (j:=1) rfl,((hB0.drew).aA rfl).cell (j:=2) rfl,((hB0.drew).aA rfl).cell (j:=3) rfl,((hB0.drew).aA rfl).cell (j:=4) rfl,((hB0.drew).aA rfl).cell (j:=5) rfl,((hB0.drew).aA rfl).cell (j:=6) rfl,((hB0.drew).aA rfl).cell (j:=7) rfl,((hB0.drew).get 1 rfl).cell (j:=0) rfl,((hB0.drew).get 1 rfl).cell (j:=1) rfl,((hB0.drew).get 1 rfl).cell (j:=2) rfl,((hB0.drew).get 1 rfl).cell (j:=3) rfl,((hB0.drew).get 1 rfl).cell (j:=4) rfl,((hB0.drew).get 1 rfl).cell (j:=5) rfl,((hB0.drew).get 1 rfl).cell (j:=6) rfl,((hB0.drew).get 1 rfl).cell (j:=7) rfl⟩
  refine tk 0 ?_;refine tk 1 ?_;refine tk 2 ?_;refine tk 3 ?_;refine tk 5 ?_;refine tk 6 ?_;refine tk 7 ?_;refine tk 8 ?_;refine tr 4 fun K hK=>?_;go_simp
  (go_at_call 156;refine (H1.out _).mono ?_;rintro e w1 ⟨rfl,hb1⟩)
  have hB1:=hB0.drew.call (by simp) hb1;refine hK.out _ _ ?Qp (fun hHeld=>?_)
  case Qp=>(exact ⟨((hB1).aA rfl).cell (j:=0) rfl,((hB1).aA rfl).cell (j:=1) rfl,((hB1).aA rfl).cell (j:=2) rfl,((hB1).aA rfl).cell (j:=3) rfl,((hB1).aA rfl).cell (j:=4) rfl,((hB1).aA rfl).cell (j:=5) rfl,((hB1).aA rfl).cell (j:=6) rfl,((hB1).aA rfl).cell (j:=7) rfl,((hB1).get 1 rfl).cell (j:=0) rfl,((hB1).get 1 rfl).cell (j:=1) rfl,((hB1).get 1 rfl).cell (j:=2) rfl,((hB1).get 1 rfl).cell (j:=3) rfl,((hB1).get 1 rfl).cell (j:=4) rfl,((hB1).get 1 rfl).cell (j:=5) rfl,((hB1).get 1 rfl).cell (j:=6) rfl,((hB1).get 1 rfl).cell (j:=7) rfl⟩)
  clear hK K
  try simp only [Act.put,la,lz,ls]
  refine tr 9 fun K hK=>?_;go_simp
  (go_at_call 156;refine (H2.out _).mono ?_;rintro e w2 ⟨rfl,hb2⟩)
  have hB2:=hB1.call (by simp) hb2;refine hK.out _ _ ?aaZ (fun hHeld=>?_)
  case aaZ=>(exact ⟨((hB2).aA rfl).cell (j:=0) rfl,((hB2).aA rfl).cell (j:=1) rfl,((hB2).aA rfl).cell (j:=2) rfl,((hB2).aA rfl).cell (j:=3) rfl,((hB2).aA rfl).cell (j:=4) rfl,((hB2).aA rfl).cell (j:=5) rfl,((hB2).aA rfl).cell (j:=6) rfl,((hB2).aA rfl).cell (j:=7) rfl,((hB2).get 1 rfl).cell (j:=0) rfl,((hB2).get 1 rfl).cell (j:=1) rfl,((hB2).get 1 rfl).cell (j:=2) rfl,((hB2).get 1 rfl).cell (j:=3) rfl,((hB2).get 1 rfl).cell (j:=4) rfl,((hB2).get 1 rfl).cell (j:=5) rfl,((hB2).get 1 rfl).cell (j:=6) rfl,((hB2).get 1 rfl).cell (j:=7) rfl⟩)
  clear hK K
  try simp only [Act.put,la,lz,ls]
  refine tr 10 fun K hK=>?_;go_simp
  (go_at_call 164;refine (H3.out _).mono ?_;rintro e w3 ⟨rfl,hb3⟩)
  have hB3:=hB2.call (by simp) hb3;have Sl:=(hB3.get 2 rfl).cell (j:=0) rfl;have BU:=(hB3.get 2 rfl).frozen 0;have Sm:=(hB3.get 2 rfl).cell (j:=1) rfl;have BX:=(hB3.get 2 rfl).frozen 1;have Sr:=(hB3.get 2 rfl).cell (j:=2) rfl;have BZ:=(hB3.get 2 rfl).frozen 2;have Sz:=(hB3.get 2 rfl).cell (j:=3) rfl;have Cb:=(hB3.get 2 rfl).frozen 3;have hV:=((((hB3).set 2 rfl 0 (.int .i64 (c3).n)).set 2 rfl 1 (.slice none 0 0)).set 2 rfl 2 (.int .i64 (c3).d)).set 2 rfl 3 (.slice none 0 0);refine hK.out _ _ ?Jy (fun hHeld=>?_)
  case Jy=>(exact ⟨((hB3).aA rfl).cell (j:=0) rfl,((hB3).aA rfl).cell (j:=1) rfl,((hB3).aA rfl).cell (j:=2) rfl,((hB3).aA rfl).cell (j:=3) rfl,((hB3).aA rfl).cell (j:=4) rfl,((hB3).aA rfl).cell (j:=5) rfl,((hB3).aA rfl).cell (j:=6) rfl,((hB3).aA rfl).cell (j:=7) rfl,((hB3).get 1 rfl).cell (j:=0) rfl,((hB3).get 1 rfl).cell (j:=1) rfl,((hB3).get 1 rfl).cell (j:=2) rfl,((hB3).get 1 rfl).cell (j:=3) rfl,((hB3).get 1 rfl).cell (j:=4) rfl,((hB3).get 1 rfl).cell (j:=5) rfl,((hB3).get 1 rfl).cell (j:=6) rfl,((hB3).get 1 rfl).cell (j:=7) rfl⟩)
  clear hK K
  try simp only [Act.put,la,lz,ls]
  refine tr 11 fun K hK=>?_;go_simp;refine hK.out _ _ ?XG (fun hHeld=>?_)
  case XG=>(exact ⟨((hV).aA rfl).cell (j:=0) rfl,((hV).aA rfl).cell (j:=1) rfl,((hV).aA rfl).cell (j:=2) rfl,((hV).aA rfl).cell (j:=3) rfl,((hV).aA rfl).cell (j:=4) rfl,((hV).aA rfl).cell (j:=5) rfl,((hV).aA rfl).cell (j:=6) rfl,((hV).aA rfl).cell (j:=7) rfl,((hV).get 1 rfl).cell (j:=0) rfl,((hV).get 1 rfl).cell (j:=1) rfl,((hV).get 1 rfl).cell (j:=2) rfl,((hV).get 1 rfl).cell (j:=3) rfl,((hV).get 1 rfl).cell (j:=4) rfl,((hV).get 1 rfl).cell (j:=5) rfl,((hV).get 1 rfl).cell (j:=6) rfl,((hV).get 1 rfl).cell (j:=7) rfl⟩)
  clear hK K
  try simp only [Act.put,la,lz,ls]
  refine wpAnyH_done (by kernel_rfl) ?_ _;go_wp2;exact bodyPost_ret (aX (p:=4) (hV.get 2 rfl) Tryz.underlying164 rfl aZ rfl _ rfl) rfl ⟨rfl,hV.bw⟩
theorem G6 (s1 s2:ByteArray) (a1 a2:Nm.Fr) (w:World) (hg:Glob w) (H1:∀ W,Glob W→Calls Tryz.prog 99 #[.string s1] W fun e w'=>e= .returned (fQ a1)∧Below W.heap.size W w') (H2:∀ W,Glob W→Calls Tryz.prog 99 #[.string s2] W fun e w'=>e= .returned (fQ a2)∧Below W.heap.size W w'):
 Calls Tryz.prog 102 #[.agg #[.string s1,.string s2]] w fun e w'=>e= .returned (VT (a1,a2))∧Below w.heap.size w w':=by
 have H1:=hide H1;have H2:=hide H2
 go_enter Tryz.func102,Tryz.ntmps102
 go_upto_region 0 with (fail)
 go_cut [1,2] (fun v1 v2 wx=>v1=ptr w.heap.size∧v2=ptr (w.heap.size+1)∧aJ w wx [([.string s1,.string s2],114),(bK (⟨0,0⟩,⟨0,0⟩),170)])
 case first=>
  go_wp2;go_meet;exact ⟨rfl,rfl,(((aJ.nil w).new (by simp) ([.string s1,.string s2]) _).new (by simp) (bK (⟨0,0⟩,⟨0,0⟩)) _)⟩
 case rest=>
  obtain ⟨rfl,rfl,hB⟩:=hcut;have hB0:=hB
  go_upto_region 1 with (fail)
  refine wp_region_held_drew (S:=(fun w':World=>w'.cell? ⟨w.heap.size,0,none⟩=some (.string s1)∧w'.cell? ⟨w.heap.size,1,none⟩=some (.string s2))) (by kernel_rfl) ?dS (fun hHeld=>?_)
  case dS=>exact ⟨((hB0.drew).aA rfl).cell (j:=0) rfl,((hB0.drew).aA rfl).cell (j:=1) rfl⟩
  refine tk 0 ?_;refine tk 1 ?_;refine tk 3 ?_;refine tk 4 ?_;refine tr 2 fun K hK=>?_;go_simp
  (go_at_call 99;refine (H1.out _ (hg.below hB0.drew.bw)).mono ?_;rintro e w1 ⟨rfl,hb1⟩)
  have hB1:=hB0.drew.call (by simp) hb1;refine hK.out _ _ ?Qr (fun hHeld=>?_)
  case Qr=>(exact ⟨((hB1).aA rfl).cell (j:=0) rfl,((hB1).aA rfl).cell (j:=1) rfl⟩)
  clear hK K
  try simp only [Act.put,la,lz,ls]
  refine tr 5 fun K hK=>?_;go_simp
  (go_at_call 99;refine (H2.out _ (hg.below hB1.bw)).mono ?_;rintro e w2 ⟨rfl,hb2⟩)
  have hB2:=hB1.call (by simp) hb2;have Sl:=(hB2.get 1 rfl).cell (j:=0) rfl;have BU:=(hB2.get 1 rfl).frozen 0;have Sm:=(hB2.get 1 rfl).cell (j:=1) rfl;have BX:=(hB2.get 1 rfl).frozen 1;have Sr:=(hB2.get 1 rfl).cell (j:=2) rfl;have BZ:=(hB2.get 1 rfl).frozen 2;have Sz:=(hB2.get 1 rfl).cell (j:=3) rfl;have Cb:=(hB2.get 1 rfl).frozen 3;have kz4:=(hB2.get 1 rfl).cell (j:=4) rfl;have alG:=(hB2.get 1 rfl).frozen 4;have kz5:=(hB2.get 1 rfl).cell (j:=5) rfl;have alN:=(hB2.get 1 rfl).frozen 5;have kz6:=(hB2.get 1 rfl).cell (j:=6) rfl;have alU:=(hB2.get 1 rfl).frozen 6;have kz7:=(hB2.get 1 rfl).cell (j:=7) rfl;have al1:=(hB2.get 1 rfl).frozen 7;have hV:=((((((((hB2).set 1 rfl 0 (.int .i64 ((((a1,a2):Nm.gZ)).1).n)).set 1 rfl 1 (.slice none 0 0)).set 1 rfl 2 (.int .i64 ((((a1,a2):Nm.gZ)).1).d)).set 1 rfl 3 (.slice none 0 0)).set 1 rfl 4 (.int .i64 ((((a1,a2):Nm.gZ)).2).n)).set 1 rfl 5 (.slice none 0 0)).set 1 rfl 6 (.int .i64 ((((a1,a2):Nm.gZ)).2).d)).set 1 rfl 7 (.slice none 0 0);refine hK.out _ _ ?abv (fun hHeld=>?_)
  case abv=>(exact ⟨((hB2).aA rfl).cell (j:=0) rfl,((hB2).aA rfl).cell (j:=1) rfl⟩)
  clear hK K
  try simp only [Act.put,la,lz,ls]
  refine tk 6 ?_;refine tr 7 fun K hK=>?_;go_simp;refine hK.out _ _ ?abK (fun hHeld=>?_)
  case abK=>(exact ⟨((hV).aA rfl).cell (j:=0) rfl,((hV).aA rfl).cell (j:=1) rfl⟩)
  clear hK K
  try simp only [Act.put,la,lz,ls]
  refine wpAnyH_done (by kernel_rfl) ?_ _;go_wp2;exact bodyPost_ret (aX (p:=2) (hV.get 1 rfl) Tryz.underlying170 rfl lS rfl _ rfl) rfl ⟨rfl,hV.bw⟩
theorem Fz (a b:Nm.Fr) (w:World) (ha:Nm.ok a=true) (hb:Nm.ok b=true):Calls Tryz.prog 155 #[fQ a,fQ b] w fun e w'=>e= .returned (.int .i64 (Nm.cmp a b))∧Below w.heap.size w w':=by
 obtain ⟨⟨a0,a1⟩,a2,a3⟩:=kG.1 ha;obtain ⟨⟨b0,b1⟩,b2,b3⟩:=kG.1 hb;obtain ⟨an,ad⟩:=a;obtain ⟨bn,bd⟩:=b
 dsimp only at a0 a1 a2 a3 b0 b1 b2 b3
 have P0:=nC (a:=an) (b:=bd) ⟨a0,a1⟩ ⟨by omega,by omega⟩;have Q0:=nC (a:=bn) (b:=ad) ⟨b0,b1⟩ ⟨by omega,by omega⟩;have HM:=jS an bd;have HN:=jS bn ad;rw [show Nm.cmp ⟨an,ad⟩ ⟨bn,bd⟩=Nm.NS (an*bd) (bn*ad) from rfl];obtain ⟨p,hp⟩:∃ p,an*bd=p:=⟨_,rfl⟩
 simp only [hp] at HM P0 ⊢
 clear hp;obtain ⟨q,hq⟩:∃ q,bn*ad=q:=⟨_,rfl⟩
 simp only [hq] at HN Q0 ⊢
 clear hq;have HM:=hide HM;have HN:=hide HN
 go_enter Tryz.func155,Tryz.ntmps155
 go_upto_region 0 with (fail)
 go_cut [2,3] (fun v2 v3 wx=>v2=ptr w.heap.size∧v3=ptr (w.heap.size+1)∧aJ w wx [(aj ⟨an,ad⟩,164),(aj ⟨bn,bd⟩,164)])
 case first=>
  go_wp2;go_meet;exact ⟨rfl,rfl,(((aJ.nil w).new (by simp) (aj ⟨an,ad⟩) _).new (by simp) (aj ⟨bn,bd⟩) _)⟩
 case rest=>
  obtain ⟨rfl,rfl,hB⟩:=hcut
  go_upto_region 1 with (fail)
  refine wp_region_held_drew (S:=(fun w':World=>w'.cell? ⟨w.heap.size,0,none⟩=some (.int .i64 ((⟨an,ad⟩:Nm.Fr)).n)∧w'.cell? ⟨w.heap.size,1,none⟩=some (.slice none 0 0)∧w'.cell? ⟨w.heap.size,2,none⟩=some (.int .i64 ((⟨an,ad⟩:Nm.Fr)).d)∧w'.cell? ⟨w.heap.size,3,none⟩=some (.slice none 0 0)∧w'.cell? ⟨w.heap.size+1,0,none⟩=some (.int .i64 ((⟨bn,bd⟩:Nm.Fr)).n)∧w'.cell? ⟨w.heap.size+1,1,none⟩=some (.slice none 0 0)∧w'.cell? ⟨w.heap.size+1,2,none⟩=some (.int .i64 ((⟨bn,bd⟩:Nm.Fr)).d)∧w'.cell? ⟨w.heap.size+1,3,none⟩=some (.slice none 0 0))) (by kernel_rfl) ?bW (fun hHeld=>?_)
  case bW=>exact ⟨((hB.drew).aA rfl).cell (j:=0) rfl,((hB.drew).aA rfl).cell (j:=1) rfl,((hB.drew).aA rfl).cell (j:=2) rfl,((hB.drew).aA rfl).cell (j:=3) rfl,((hB.drew).get 1 rfl).cell (j:=0) rfl,((hB.drew).get 1 rfl).cell (j:=1) rfl,((hB.drew).get 1 rfl).cell (j:=2) rfl,((hB.drew).get 1 rfl).cell (j:=3) rfl⟩
  refine aF 0 ?_;refine aF 1 ?_;refine aF 2 ?_;refine aF 3 ?_;refine aF 5 ?_;refine aF 6 ?_;refine aF 7 ?_;refine aF 8 ?_;refine aG 4 fun K hK=>?_;go_simp
  (go_at_call 196;refine (HM.out _ (by omega) (by omega) (by omega) (by omega) (by omega) (by omega)).mono ?_;rintro e VW ⟨rfl,Ah⟩)
  have kD:=hB.drew.call (by simp) Ah;refine ay hK (⟨((kD).aA rfl).cell (j:=0) rfl,((kD).aA rfl).cell (j:=1) rfl,((kD).aA rfl).cell (j:=2) rfl,((kD).aA rfl).cell (j:=3) rfl,((kD).get 1 rfl).cell (j:=0) rfl,((kD).get 1 rfl).cell (j:=1) rfl,((kD).get 1 rfl).cell (j:=2) rfl,((kD).get 1 rfl).cell (j:=3) rfl⟩) fun hHeld=>?_;clear hK K;refine aG 9 fun K hK=>?_;go_simp
  (go_at_call 196;refine (HN.out _ (by omega) (by omega) (by omega) (by omega) (by omega) (by omega)).mono ?_;rintro e VX ⟨rfl,Ai⟩)
  have kE:=kD.call (by simp) Ai;refine ay hK (⟨((kE).aA rfl).cell (j:=0) rfl,((kE).aA rfl).cell (j:=1) rfl,((kE).aA rfl).cell (j:=2) rfl,((kE).aA rfl).cell (j:=3) rfl,((kE).get 1 rfl).cell (j:=0) rfl,((kE).get 1 rfl).cell (j:=1) rfl,((kE).get 1 rfl).cell (j:=2) rfl,((kE).get 1 rfl).cell (j:=3) rfl⟩) fun hHeld=>?_;clear hK K;refine aG 10 fun K hK=>?_;go_simp
  (go_at_call 189;refine (OY p q _).mono ?_;rintro e VY ⟨rfl,Aj⟩)
  have kF:=kE.call (by simp) Aj;refine ay hK (⟨((kF).aA rfl).cell (j:=0) rfl,((kF).aA rfl).cell (j:=1) rfl,((kF).aA rfl).cell (j:=2) rfl,((kF).aA rfl).cell (j:=3) rfl,((kF).get 1 rfl).cell (j:=0) rfl,((kF).get 1 rfl).cell (j:=1) rfl,((kF).get 1 rfl).cell (j:=2) rfl,((kF).get 1 rfl).cell (j:=3) rfl⟩) fun hHeld=>?_;clear hK K;refine aF 11 ?_;refine wpAnyH_done (by kernel_rfl) ?_ _;go_wp2;go_ret;exact ⟨rfl,kF.bw⟩
theorem lX (a:Int):Nm.og a= -1∨Nm.og a=0∨Nm.og a=1:=by unfold Nm.og;split <;> (try split) <;> simp
theorem CQ (a b:Nm.Fr):Nm.cmp a b= -1∨Nm.cmp a b=0∨Nm.cmp a b=1:=by unfold Nm.cmp Nm.NS;split <;> (try split) <;> simp
def Nm.pY (x y d:Nm.Fr):Int:=
 if 0≤Nm.og x.n*(Nm.og y.n*Nm.og d.n) then max (-1) (min 1 (Nm.og x.n+Nm.og y.n*Nm.og d.n)) else Nm.og x.n*Nm.cmp (Nm.mul x x) (Nm.mul (Nm.mul y y) d)
def Nm.UN (x y d:Nm.Fr):Bool:=Nm.ok x && Nm.ok y && Nm.ok d && (decide (0≤Nm.og x.n*(Nm.og y.n*Nm.og d.n)) || (Nm.ok (Nm.mul x x) && Nm.ok (Nm.mul y y) && Nm.ok (Nm.mul (Nm.mul y y) d)))
theorem mW {a b:Int} (ha:a= -1∨a=0∨a=1) (hb:b= -1∨b=0∨b=1):a*b= -1∨a*b=0∨a*b=1:=by
 rcases ha with rfl | rfl | rfl <;> rcases hb with rfl | rfl | rfl <;> decide
theorem wrap_one {a:Int} (ha:a= -1∨a=0∨a=1):IntKind.i64.wrap a=a:=by rw [IntKind.wrap_i64];omega
theorem zk (x y d:Nm.Fr):Nm.pY x y d= -1∨Nm.pY x y d=0∨Nm.pY x y d=1:=by
 unfold Nm.pY
 have h1:=lX x.n;have h2:=mW (lX y.n) (lX d.n)
 split
 · rcases h1 with h1 | h1 | h1 <;> rcases h2 with h2 | h2 | h2 <;> rw [h1,h2] <;> decide
 · exact mW h1 (CQ _ _)
theorem uY (x y d:Nm.Fr) (w:World) (h:Nm.UN x y d=true):Calls Tryz.prog 103 #[fQ x,fQ y,fQ d] w fun e w'=>e= .returned (.int .i64 (Nm.pY x y d))∧Below w.heap.size w w':=by
 unfold Nm.UN at h
 simp only [Bool.and_eq_true,Bool.or_eq_true,decide_eq_true_eq] at h
 obtain ⟨⟨⟨hx,hy⟩,hd⟩,h⟩:=h;have c1:=lX x.n;have c2:=mW (lX y.n) (lX d.n);have c3:=mW c1 c2;have w2:=wrap_one c2;have w3:=wrap_one c3
 by_cases hs:0≤Nm.og x.n*(Nm.og y.n*Nm.og d.n)
 · have HS:=hide (show Nm.pY x y d=max (-1) (min 1 (Nm.og x.n+Nm.og y.n*Nm.og d.n)) by unfold Nm.pY;rw [if_pos hs])
   have hs1:decide (0≤Nm.og x.n*(Nm.og y.n*Nm.og d.n))=true:=decide_eq_true hs
   have w4:IntKind.i64.wrap (Nm.og x.n+Nm.og y.n*Nm.og d.n)=Nm.og x.n+Nm.og y.n*Nm.og d.n:=by rw [IntKind.wrap_i64];omega
   clear h hs
   go_enter Tryz.func103,Tryz.ntmps103
   go_upto_region 0 with (fail)
   go_cut [3,4,5] (fun v3 v4 v5 wx=>v3=ptr w.heap.size∧v4=ptr (w.heap.size+1)∧v5=ptr (w.heap.size+2)∧aJ w wx [(aj x,164),(aj y,164),(aj d,164)])
   case first=>
    go_wp2;go_meet;exact ⟨rfl,rfl,rfl,((((aJ.nil w).new (by simp) (aj x) _).new (by simp) (aj y) _).new (by simp) (aj d) _)⟩
   case rest=>
    obtain ⟨rfl,rfl,rfl,hB⟩:=hcut
    go_upto_region 1 with (fail)
    refine wp_region_held_drew (S:=(fun w':World=>w'.cell? ⟨w.heap.size,0,none⟩=some (.int .i64 (x).n)∧w'.cell? ⟨w.heap.size,1,none⟩=some (.slice none 0 0)∧w'.cell? ⟨w.heap.size,2,none⟩=some (.int .i64 (x).d)∧w'.cell? ⟨w.heap.size,3,none⟩=some (.slice none 0 0)∧w'.cell? ⟨w.heap.size+1,0,none⟩=some (.int .i64 (y).n)∧w'.cell? ⟨w.heap.size+1,1,none⟩=some (.slice none 0 0)∧w'.cell? ⟨w.heap.size+1,2,none⟩=some (.int .i64 (y).d)∧w'.cell? ⟨w.heap.size+1,3,none⟩=some (.slice none 0 0)∧w'.cell? ⟨w.heap.size+2,0,none⟩=some (.int .i64 (d).n)∧w'.cell? ⟨w.heap.size+2,1,none⟩=some (.slice none 0 0)∧w'.cell? ⟨w.heap.size+2,2,none⟩=some (.int .i64 (d).d)∧w'.cell? ⟨w.heap.size+2,3,none⟩=some (.slice none 0 0))) (by kernel_rfl) ?dI (fun hHeld=>?_)
    case dI=>exact ⟨((hB.drew).aA rfl).cell (j:=0) rfl,((hB.drew).aA rfl).cell (j:=1) rfl,((hB.drew).aA rfl).cell (j:=2) rfl,((hB.drew).aA rfl).cell (j:=3) rfl,((hB.drew).get 1 rfl).cell (j:=0) rfl,((hB.drew).get 1 rfl).cell (j:=1) rfl,((hB.drew).get 1 rfl).cell (j:=2) rfl,((hB.drew).get 1 rfl).cell (j:=3) rfl,((hB.drew).get 2 rfl).cell (j:=0) rfl,((hB.drew).get 2 rfl).cell (j:=1) rfl,((hB.drew).get 2 rfl).cell (j:=2) rfl,((hB.drew).get 2 rfl).cell (j:=3) rfl⟩
    refine aF 0 ?_;refine aF 2 ?_;refine aF 4 ?_;refine aG 1 fun K hK=>?_;go_simp
    (go_at_call 147;refine (jY x _).mono ?_;rintro e VW ⟨rfl,Ah⟩)
    have kD:=hB.drew.call (by simp) Ah;refine ay hK (⟨((kD).aA rfl).cell (j:=0) rfl,((kD).aA rfl).cell (j:=1) rfl,((kD).aA rfl).cell (j:=2) rfl,((kD).aA rfl).cell (j:=3) rfl,((kD).get 1 rfl).cell (j:=0) rfl,((kD).get 1 rfl).cell (j:=1) rfl,((kD).get 1 rfl).cell (j:=2) rfl,((kD).get 1 rfl).cell (j:=3) rfl,((kD).get 2 rfl).cell (j:=0) rfl,((kD).get 2 rfl).cell (j:=1) rfl,((kD).get 2 rfl).cell (j:=2) rfl,((kD).get 2 rfl).cell (j:=3) rfl⟩) fun hHeld=>?_;clear hK K;refine aG 3 fun K hK=>?_;go_simp
    (go_at_call 147;refine (jY y _).mono ?_;rintro e VX ⟨rfl,Ai⟩)
    have kE:=kD.call (by simp) Ai;refine ay hK (⟨((kE).aA rfl).cell (j:=0) rfl,((kE).aA rfl).cell (j:=1) rfl,((kE).aA rfl).cell (j:=2) rfl,((kE).aA rfl).cell (j:=3) rfl,((kE).get 1 rfl).cell (j:=0) rfl,((kE).get 1 rfl).cell (j:=1) rfl,((kE).get 1 rfl).cell (j:=2) rfl,((kE).get 1 rfl).cell (j:=3) rfl,((kE).get 2 rfl).cell (j:=0) rfl,((kE).get 2 rfl).cell (j:=1) rfl,((kE).get 2 rfl).cell (j:=2) rfl,((kE).get 2 rfl).cell (j:=3) rfl⟩) fun hHeld=>?_;clear hK K;refine aG 5 fun K hK=>?_;go_simp
    (go_at_call 147;refine (jY d _).mono ?_;rintro e VY ⟨rfl,Aj⟩)
    have kF:=kE.call (by simp) Aj;refine ay hK (⟨((kF).aA rfl).cell (j:=0) rfl,((kF).aA rfl).cell (j:=1) rfl,((kF).aA rfl).cell (j:=2) rfl,((kF).aA rfl).cell (j:=3) rfl,((kF).get 1 rfl).cell (j:=0) rfl,((kF).get 1 rfl).cell (j:=1) rfl,((kF).get 1 rfl).cell (j:=2) rfl,((kF).get 1 rfl).cell (j:=3) rfl,((kF).get 2 rfl).cell (j:=0) rfl,((kF).get 2 rfl).cell (j:=1) rfl,((kF).get 2 rfl).cell (j:=2) rfl,((kF).get 2 rfl).cell (j:=3) rfl⟩) fun hHeld=>?_;clear hK K;refine aF 6 ?_;refine aF 7 ?_;refine aF 8 ?_;refine wpAnyH_done (by kernel_rfl) ?_ _;go_wp2
    all_goals
     go_ret;exact ⟨bf (by first | (rw [HS.out];done) | (rw [HS.out];omega)),kF.bw⟩
 · have HS:=hide (show Nm.pY x y d=Nm.og x.n*Nm.cmp (Nm.mul x x) (Nm.mul (Nm.mul y y) d) by unfold Nm.pY;rw [if_neg hs])
   have hs1:decide (0≤Nm.og x.n*(Nm.og y.n*Nm.og d.n))=false:=decide_eq_false hs;have h5:=h.resolve_left hs;obtain ⟨⟨o1,o2⟩,o3⟩:=h5;have M1:=hide (fun W=>iG x x W hx hx);have M2:=hide (fun W=>iG y y W hy hy);have M3:=hide (fun W=>iG (Nm.mul y y) d W o2 hd);have M4:=hide (fun W=>Fz (Nm.mul x x) (Nm.mul (Nm.mul y y) d) W o1 o3);have w4:=wrap_one (mW c1 (CQ (Nm.mul x x) (Nm.mul (Nm.mul y y) d)));clear h hs
   go_enter Tryz.func103,Tryz.ntmps103
   go_upto_region 0 with (fail)
   go_cut [3,4,5] (fun v3 v4 v5 wx=>v3=ptr w.heap.size∧v4=ptr (w.heap.size+1)∧v5=ptr (w.heap.size+2)∧aJ w wx [(aj x,164),(aj y,164),(aj d,164)])
   case first=>
    go_wp2;go_meet;exact ⟨rfl,rfl,rfl,((((aJ.nil w).new (by simp) (aj x) _).new (by simp) (aj y) _).new (by simp) (aj d) _)⟩
   case rest=>
    obtain ⟨rfl,rfl,rfl,hB⟩:=hcut
    go_upto_region 1 with (fail)
    refine wp_region_held_drew (S:=(fun w':World=>w'.cell? ⟨w.heap.size,0,none⟩=some (.int .i64 (x).n)∧w'.cell? ⟨w.heap.size,1,none⟩=some (.slice none 0 0)∧w'.cell? ⟨w.heap.size,2,none⟩=some (.int .i64 (x).d)∧w'.cell? ⟨w.heap.size,3,none⟩=some (.slice none 0 0)∧w'.cell? ⟨w.heap.size+1,0,none⟩=some (.int .i64 (y).n)∧w'.cell? ⟨w.heap.size+1,1,none⟩=some (.slice none 0 0)∧w'.cell? ⟨w.heap.size+1,2,none⟩=some (.int .i64 (y).d)∧w'.cell? ⟨w.heap.size+1,3,none⟩=some (.slice none 0 0)∧w'.cell? ⟨w.heap.size+2,0,none⟩=some (.int .i64 (d).n)∧w'.cell? ⟨w.heap.size+2,1,none⟩=some (.slice none 0 0)∧w'.cell? ⟨w.heap.size+2,2,none⟩=some (.int .i64 (d).d)∧w'.cell? ⟨w.heap.size+2,3,none⟩=some (.slice none 0 0))) (by kernel_rfl) ?oQ (fun hHeld=>?_)
    case oQ=>exact ⟨((hB.drew).aA rfl).cell (j:=0) rfl,((hB.drew).aA rfl).cell (j:=1) rfl,((hB.drew).aA rfl).cell (j:=2) rfl,((hB.drew).aA rfl).cell (j:=3) rfl,((hB.drew).get 1 rfl).cell (j:=0) rfl,((hB.drew).get 1 rfl).cell (j:=1) rfl,((hB.drew).get 1 rfl).cell (j:=2) rfl,((hB.drew).get 1 rfl).cell (j:=3) rfl,((hB.drew).get 2 rfl).cell (j:=0) rfl,((hB.drew).get 2 rfl).cell (j:=1) rfl,((hB.drew).get 2 rfl).cell (j:=2) rfl,((hB.drew).get 2 rfl).cell (j:=3) rfl⟩
    refine aF 0 ?_;refine aF 2 ?_;refine aF 4 ?_;refine aG 1 fun K hK=>?_;go_simp
    (go_at_call 147;refine (jY x _).mono ?_;rintro e VW ⟨rfl,Ah⟩)
    have kD:=hB.drew.call (by simp) Ah;refine ay hK (⟨((kD).aA rfl).cell (j:=0) rfl,((kD).aA rfl).cell (j:=1) rfl,((kD).aA rfl).cell (j:=2) rfl,((kD).aA rfl).cell (j:=3) rfl,((kD).get 1 rfl).cell (j:=0) rfl,((kD).get 1 rfl).cell (j:=1) rfl,((kD).get 1 rfl).cell (j:=2) rfl,((kD).get 1 rfl).cell (j:=3) rfl,((kD).get 2 rfl).cell (j:=0) rfl,((kD).get 2 rfl).cell (j:=1) rfl,((kD).get 2 rfl).cell (j:=2) rfl,((kD).get 2 rfl).cell (j:=3) rfl⟩) fun hHeld=>?_;clear hK K;refine aG 3 fun K hK=>?_;go_simp
    (go_at_call 147;refine (jY y _).mono ?_;rintro e VX ⟨rfl,Ai⟩)
    have kE:=kD.call (by simp) Ai;refine ay hK (⟨((kE).aA rfl).cell (j:=0) rfl,((kE).aA rfl).cell (j:=1) rfl,((kE).aA rfl).cell (j:=2) rfl,((kE).aA rfl).cell (j:=3) rfl,((kE).get 1 rfl).cell (j:=0) rfl,((kE).get 1 rfl).cell (j:=1) rfl,((kE).get 1 rfl).cell (j:=2) rfl,((kE).get 1 rfl).cell (j:=3) rfl,((kE).get 2 rfl).cell (j:=0) rfl,((kE).get 2 rfl).cell (j:=1) rfl,((kE).get 2 rfl).cell (j:=2) rfl,((kE).get 2 rfl).cell (j:=3) rfl⟩) fun hHeld=>?_;clear hK K;refine aG 5 fun K hK=>?_;go_simp
    (go_at_call 147;refine (jY d _).mono ?_;rintro e VY ⟨rfl,Aj⟩)
    have kF:=kE.call (by simp) Aj;refine ay hK (⟨((kF).aA rfl).cell (j:=0) rfl,((kF).aA rfl).cell (j:=1) rfl,((kF).aA rfl).cell (j:=2) rfl,((kF).aA rfl).cell (j:=3) rfl,((kF).get 1 rfl).cell (j:=0) rfl,((kF).get 1 rfl).cell (j:=1) rfl,((kF).get 1 rfl).cell (j:=2) rfl,((kF).get 1 rfl).cell (j:=3) rfl,((kF).get 2 rfl).cell (j:=0) rfl,((kF).get 2 rfl).cell (j:=1) rfl,((kF).get 2 rfl).cell (j:=2) rfl,((kF).get 2 rfl).cell (j:=3) rfl⟩) fun hHeld=>?_;clear hK K;refine aF 6 ?_;refine aF 7 ?_;refine aF 8 ?_;refine wpAnyH_done (by kernel_rfl) ?_ _;have hB1:=kF
    go_upto_region 4 with (fail)
    refine wp_region_held_drew (S:=(fun w':World=>w'.cell? ⟨w.heap.size,0,none⟩=some (.int .i64 (x).n)∧w'.cell? ⟨w.heap.size,1,none⟩=some (.slice none 0 0)∧w'.cell? ⟨w.heap.size,2,none⟩=some (.int .i64 (x).d)∧w'.cell? ⟨w.heap.size,3,none⟩=some (.slice none 0 0)∧w'.cell? ⟨w.heap.size+1,0,none⟩=some (.int .i64 (y).n)∧w'.cell? ⟨w.heap.size+1,1,none⟩=some (.slice none 0 0)∧w'.cell? ⟨w.heap.size+1,2,none⟩=some (.int .i64 (y).d)∧w'.cell? ⟨w.heap.size+1,3,none⟩=some (.slice none 0 0)∧w'.cell? ⟨w.heap.size+2,0,none⟩=some (.int .i64 (d).n)∧w'.cell? ⟨w.heap.size+2,1,none⟩=some (.slice none 0 0)∧w'.cell? ⟨w.heap.size+2,2,none⟩=some (.int .i64 (d).d)∧w'.cell? ⟨w.heap.size+2,3,none⟩=some (.slice none 0 0))) (by kernel_rfl) ?dS (fun hHeld=>?_)
    case dS=>exact ⟨((hB1.drew).aA rfl).cell (j:=0) rfl,((hB1.drew).aA rfl).cell (j:=1) rfl,((hB1.drew).aA rfl).cell (j:=2) rfl,((hB1.drew).aA rfl).cell (j:=3) rfl,((hB1.drew).get 1 rfl).cell (j:=0) rfl,((hB1.drew).get 1 rfl).cell (j:=1) rfl,((hB1.drew).get 1 rfl).cell (j:=2) rfl,((hB1.drew).get 1 rfl).cell (j:=3) rfl,((hB1.drew).get 2 rfl).cell (j:=0) rfl,((hB1.drew).get 2 rfl).cell (j:=1) rfl,((hB1.drew).get 2 rfl).cell (j:=2) rfl,((hB1.drew).get 2 rfl).cell (j:=3) rfl⟩
    refine aF 0 ?_;refine aF 1 ?_;refine aF 2 ?_;refine aF 4 ?_;refine aF 5 ?_;refine aF 7 ?_;refine aG 3 fun K hK=>?_;go_simp
    (go_at_call 156;refine (M1.out _).mono ?_;rintro e amR ⟨rfl,TR⟩)
    have qL:=hB1.drew.call (by simp) TR;refine ay hK (⟨((qL).aA rfl).cell (j:=0) rfl,((qL).aA rfl).cell (j:=1) rfl,((qL).aA rfl).cell (j:=2) rfl,((qL).aA rfl).cell (j:=3) rfl,((qL).get 1 rfl).cell (j:=0) rfl,((qL).get 1 rfl).cell (j:=1) rfl,((qL).get 1 rfl).cell (j:=2) rfl,((qL).get 1 rfl).cell (j:=3) rfl,((qL).get 2 rfl).cell (j:=0) rfl,((qL).get 2 rfl).cell (j:=1) rfl,((qL).get 2 rfl).cell (j:=2) rfl,((qL).get 2 rfl).cell (j:=3) rfl⟩) fun hHeld=>?_;clear hK K;refine aG 6 fun K hK=>?_;go_simp
    (go_at_call 156;refine (M2.out _).mono ?_;rintro e amY ⟨rfl,TS⟩)
    have qM:=qL.call (by simp) TS;refine ay hK (⟨((qM).aA rfl).cell (j:=0) rfl,((qM).aA rfl).cell (j:=1) rfl,((qM).aA rfl).cell (j:=2) rfl,((qM).aA rfl).cell (j:=3) rfl,((qM).get 1 rfl).cell (j:=0) rfl,((qM).get 1 rfl).cell (j:=1) rfl,((qM).get 1 rfl).cell (j:=2) rfl,((qM).get 1 rfl).cell (j:=3) rfl,((qM).get 2 rfl).cell (j:=0) rfl,((qM).get 2 rfl).cell (j:=1) rfl,((qM).get 2 rfl).cell (j:=2) rfl,((qM).get 2 rfl).cell (j:=3) rfl⟩) fun hHeld=>?_;clear hK K;refine aG 8 fun K hK=>?_;go_simp
    (go_at_call 156;refine (M3.out _).mono ?_;rintro e am5 ⟨rfl,TT⟩)
    have qN:=qM.call (by simp) TT;refine ay hK (⟨((qN).aA rfl).cell (j:=0) rfl,((qN).aA rfl).cell (j:=1) rfl,((qN).aA rfl).cell (j:=2) rfl,((qN).aA rfl).cell (j:=3) rfl,((qN).get 1 rfl).cell (j:=0) rfl,((qN).get 1 rfl).cell (j:=1) rfl,((qN).get 1 rfl).cell (j:=2) rfl,((qN).get 1 rfl).cell (j:=3) rfl,((qN).get 2 rfl).cell (j:=0) rfl,((qN).get 2 rfl).cell (j:=1) rfl,((qN).get 2 rfl).cell (j:=2) rfl,((qN).get 2 rfl).cell (j:=3) rfl⟩) fun hHeld=>?_;clear hK K;refine aG 9 fun K hK=>?_;go_simp
    (go_at_call 155;refine (M4.out _).mono ?_;rintro e anc ⟨rfl,TU⟩)
    have qO:=qN.call (by simp) TU;refine ay hK (⟨((qO).aA rfl).cell (j:=0) rfl,((qO).aA rfl).cell (j:=1) rfl,((qO).aA rfl).cell (j:=2) rfl,((qO).aA rfl).cell (j:=3) rfl,((qO).get 1 rfl).cell (j:=0) rfl,((qO).get 1 rfl).cell (j:=1) rfl,((qO).get 1 rfl).cell (j:=2) rfl,((qO).get 1 rfl).cell (j:=3) rfl,((qO).get 2 rfl).cell (j:=0) rfl,((qO).get 2 rfl).cell (j:=1) rfl,((qO).get 2 rfl).cell (j:=2) rfl,((qO).get 2 rfl).cell (j:=3) rfl⟩) fun hHeld=>?_;clear hK K;refine aF 10 ?_;refine aF 11 ?_;refine wpAnyH_done (by kernel_rfl) ?_ _;go_wp2;go_ret;exact ⟨bf HS.out.symm,qO.bw⟩
end Go.Proofs.YtjbbfmofpjflmaaGreatDoor
