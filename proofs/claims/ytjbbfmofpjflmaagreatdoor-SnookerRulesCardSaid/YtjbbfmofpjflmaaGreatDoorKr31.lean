/- Parts of a proof. -/
import Derived.Test.YtjbbfmofpjflmaaGreatDoorKr14
import Derived.Test.YtjbbfmofpjflmaaGreatDoorKr30
set_option maxHeartbeats 2000000
set_option maxRecDepth 100000
set_option linter.unusedVariables false
set_option linter.unusedSimpArgs false
namespace Go.Proofs.YtjbbfmofpjflmaaGreatDoor
open Go.RowKit
abbrev Nm.iG:=Nm.Fr × Nm.Fr
def Nm.Fj (v:Nm.iG):Bool:=Nm.ok v.1 && Nm.ok v.2
def Nm.pV (v w:Nm.iG):Nm.iG:=(Nm.sub v.1 w.1,Nm.sub v.2 w.2)
def Nm.iY (v w:Nm.iG):Nm.Fr:=Nm.add (Nm.mul v.1 w.1) (Nm.mul v.2 w.2)
def Nm.NT (v w:Nm.iG):Bool:=Nm.Fj v && Nm.Fj w && Nm.ok (Nm.mul v.1 w.1) && Nm.ok (Nm.mul v.2 w.2)
@[reducible] def WY (v:Nm.iG):Value:= .agg #[.int .i64 v.1.n,.slice none 0 0,.int .i64 v.1.d,.slice none 0 0,.int .i64 v.2.n,.slice none 0 0,.int .i64 v.2.d,.slice none 0 0]
def bF (v:Nm.iG):List Value:=[.int .i64 v.1.n,.slice none 0 0,.int .i64 v.1.d,.slice none 0 0,.int .i64 v.2.n,.slice none 0 0,.int .i64 v.2.d,.slice none 0 0]
theorem wP (v:Nm.iG):∀ x∈bF v,x.oneCell'=true:=by simp [bF,Value.oneCell']
theorem lN:(Tryz.prog.info? 170).map (·.size)=some 8:=by kernel_rfl
theorem nO:(Tryz.prog.info? 114).map (·.size)=some 2:=by kernel_rfl
theorem Cm (v u:Nm.iG) (w:World) (hv:Nm.Fj v=true) (hu:Nm.Fj u=true):Calls Tryz.prog 153 #[WY v,WY u] w fun e w'=>e= .returned (WY (Nm.pV v u))∧Below w.heap.size w w':=by
 obtain ⟨a1,a2⟩:=v;obtain ⟨b1,b2⟩:=u;obtain ⟨ha1,ha2⟩:=Bool.and_eq_true_iff.1 hv;obtain ⟨hb1',hb2'⟩:=Bool.and_eq_true_iff.1 hu;have H1:=fun W=>qV a1 b1 W ha1 hb1';have H2:=fun W=>qV a2 b2 W ha2 hb2';rw [show Nm.pV (a1,a2) (b1,b2)=(Nm.sub a1 b1,Nm.sub a2 b2) from rfl];obtain ⟨c1,hc1⟩:∃ c,Nm.sub a1 b1=c:=⟨_,rfl⟩;obtain ⟨c2,hc2⟩:∃ c,Nm.sub a2 b2=c:=⟨_,rfl⟩
 simp only [hc1] at H1 ⊢
 simp only [hc2] at H2 ⊢
 clear hc1 hc2;have H1:=hide H1;have H2:=hide H2
 go_enter Tryz.func153,Tryz.ntmps153
 go_upto_region 0 with (fail)
 go_cut [2,3,4] (fun v2 v3 v4 wx=>v2=ptr w.heap.size∧v3=ptr (w.heap.size+1)∧v4=ptr (w.heap.size+2)∧aG w wx [(bF (a1,a2),170),(bF (b1,b2),170),(bF (⟨0,0⟩,⟨0,0⟩),170)])
 case first=>
  go_wp2;go_meet;exact ⟨rfl,rfl,rfl,((((aG.nil w).new (by simp) (bF (a1,a2)) _).new (by simp) (bF (b1,b2)) _).new (by simp) (bF (⟨0,0⟩,⟨0,0⟩)) _)⟩
 case rest=>
  obtain ⟨rfl,rfl,rfl,hB⟩:=hcut;have hB0:=hB
  go_upto_region 1 with (fail)
  refine wp_region_held_drew (S:=(fun w':World=>w'.cell? ⟨w.heap.size,0,none⟩=some (.int .i64 ((((a1,a2):Nm.iG)).1).n)∧w'.cell? ⟨w.heap.size,1,none⟩=some (.slice none 0 0)∧w'.cell? ⟨w.heap.size,2,none⟩=some (.int .i64 ((((a1,a2):Nm.iG)).1).d)∧w'.cell? ⟨w.heap.size,3,none⟩=some (.slice none 0 0)∧w'.cell? ⟨w.heap.size,4,none⟩=some (.int .i64 ((((a1,a2):Nm.iG)).2).n)∧w'.cell? ⟨w.heap.size,5,none⟩=some (.slice none 0 0)∧w'.cell? ⟨w.heap.size,6,none⟩=some (.int .i64 ((((a1,a2):Nm.iG)).2).d)∧w'.cell? ⟨w.heap.size,7,none⟩=some (.slice none 0 0)∧w'.cell? ⟨w.heap.size+1,0,none⟩=some (.int .i64 ((((b1,b2):Nm.iG)).1).n)∧w'.cell? ⟨w.heap.size+1,1,none⟩=some (.slice none 0 0)∧w'.cell? ⟨w.heap.size+1,2,none⟩=some (.int .i64 ((((b1,b2):Nm.iG)).1).d)∧w'.cell? ⟨w.heap.size+1,3,none⟩=some (.slice none 0 0)∧w'.cell? ⟨w.heap.size+1,4,none⟩=some (.int .i64 ((((b1,b2):Nm.iG)).2).n)∧w'.cell? ⟨w.heap.size+1,5,none⟩=some (.slice none 0 0)∧w'.cell? ⟨w.heap.size+1,6,none⟩=some (.int .i64 ((((b1,b2):Nm.iG)).2).d)∧w'.cell? ⟨w.heap.size+1,7,none⟩=some (.slice none 0 0))) (by kernel_rfl) ?bg (fun hHeld=>?_)
  case bg=>exact ⟨((hB0.drew).au rfl).cell (j:=0) rfl,((hB0.drew).au rfl).cell (j:=1) rfl,((hB0.drew).au rfl).cell (j:=2) rfl,((hB0.drew).au rfl).cell (j:=3) rfl,((hB0.drew).au rfl).cell (j:=4) rfl,((hB0.drew).au rfl).cell (j:=5) rfl,((hB0.drew).au rfl).cell (j:=6) rfl,((hB0.drew).au rfl).cell (j:=7) rfl,((hB0.drew).get 1 rfl).cell (j:=0) rfl,((hB0.drew).get 1 rfl).cell (j:=1) rfl,((hB0.drew).get 1 rfl).cell (j:=2) rfl,((hB0.drew).get 1 rfl).cell (j:=3) rfl,((hB0.drew).get 1 rfl).cell (j:=4) rfl,((hB0.drew).get 1 rfl).cell (j:=5) rfl,((hB0.drew).get 1 rfl).cell (j:=6) rfl,((hB0.drew).get 1 rfl).cell (j:=7) rfl⟩
  refine tk 0 ?_;refine tk 1 ?_;refine tk 2 ?_;refine tk 3 ?_;refine tk 5 ?_;refine tk 6 ?_;refine tk 7 ?_;refine tk 8 ?_;refine tr 4 fun K hK=>?_;go_simp
  (go_at_call 157;refine (H1.out _).mono ?_;rintro e w1 ⟨rfl,hb1⟩)
  have hB1:=hB0.drew.call (by simp) hb1;refine hK.out _ _ ?BG (fun hHeld=>?_)
  case BG=>(exact ⟨((hB1).au rfl).cell (j:=0) rfl,((hB1).au rfl).cell (j:=1) rfl,((hB1).au rfl).cell (j:=2) rfl,((hB1).au rfl).cell (j:=3) rfl,((hB1).au rfl).cell (j:=4) rfl,((hB1).au rfl).cell (j:=5) rfl,((hB1).au rfl).cell (j:=6) rfl,((hB1).au rfl).cell (j:=7) rfl,((hB1).get 1 rfl).cell (j:=0) rfl,((hB1).get 1 rfl).cell (j:=1) rfl,((hB1).get 1 rfl).cell (j:=2) rfl,((hB1).get 1 rfl).cell (j:=3) rfl,((hB1).get 1 rfl).cell (j:=4) rfl,((hB1).get 1 rfl).cell (j:=5) rfl,((hB1).get 1 rfl).cell (j:=6) rfl,((hB1).get 1 rfl).cell (j:=7) rfl⟩)
  clear hK K
  try simp only [Act.put,la,lz,ls]
  refine tr 9 fun K hK=>?_;go_simp
  (go_at_call 157;refine (H2.out _).mono ?_;rintro e w2 ⟨rfl,hb2⟩)
  have hB2:=hB1.call (by simp) hb2;have TW:=(hB2.get 2 rfl).cell (j:=0) rfl;have C9:=(hB2.get 2 rfl).frozen 0;have TY:=(hB2.get 2 rfl).cell (j:=1) rfl;have Dc:=(hB2.get 2 rfl).frozen 1;have Ua:=(hB2.get 2 rfl).cell (j:=2) rfl;have Df:=(hB2.get 2 rfl).frozen 2;have Ub:=(hB2.get 2 rfl).cell (j:=3) rfl;have Dh:=(hB2.get 2 rfl).frozen 3;have kz4:=(hB2.get 2 rfl).cell (j:=4) rfl;have aqV:=(hB2.get 2 rfl).frozen 4;have kz5:=(hB2.get 2 rfl).cell (j:=5) rfl;have aq2:=(hB2.get 2 rfl).frozen 5;have kz6:=(hB2.get 2 rfl).cell (j:=6) rfl;have aq9:=(hB2.get 2 rfl).frozen 6;have kz7:=(hB2.get 2 rfl).cell (j:=7) rfl;have arj:=(hB2.get 2 rfl).frozen 7;have hV:=((((((((hB2).set 2 rfl 0 (.int .i64 ((((c1,c2):Nm.iG)).1).n)).set 2 rfl 1 (.slice none 0 0)).set 2 rfl 2 (.int .i64 ((((c1,c2):Nm.iG)).1).d)).set 2 rfl 3 (.slice none 0 0)).set 2 rfl 4 (.int .i64 ((((c1,c2):Nm.iG)).2).n)).set 2 rfl 5 (.slice none 0 0)).set 2 rfl 6 (.int .i64 ((((c1,c2):Nm.iG)).2).d)).set 2 rfl 7 (.slice none 0 0);refine hK.out _ _ ?agF (fun hHeld=>?_)
  case agF=>(exact ⟨((hB2).au rfl).cell (j:=0) rfl,((hB2).au rfl).cell (j:=1) rfl,((hB2).au rfl).cell (j:=2) rfl,((hB2).au rfl).cell (j:=3) rfl,((hB2).au rfl).cell (j:=4) rfl,((hB2).au rfl).cell (j:=5) rfl,((hB2).au rfl).cell (j:=6) rfl,((hB2).au rfl).cell (j:=7) rfl,((hB2).get 1 rfl).cell (j:=0) rfl,((hB2).get 1 rfl).cell (j:=1) rfl,((hB2).get 1 rfl).cell (j:=2) rfl,((hB2).get 1 rfl).cell (j:=3) rfl,((hB2).get 1 rfl).cell (j:=4) rfl,((hB2).get 1 rfl).cell (j:=5) rfl,((hB2).get 1 rfl).cell (j:=6) rfl,((hB2).get 1 rfl).cell (j:=7) rfl⟩)
  clear hK K
  try simp only [Act.put,la,lz,ls]
  refine tk 10 ?_;refine tr 11 fun K hK=>?_;go_simp;refine hK.out _ _ ?Yv (fun hHeld=>?_)
  case Yv=>(exact ⟨((hV).au rfl).cell (j:=0) rfl,((hV).au rfl).cell (j:=1) rfl,((hV).au rfl).cell (j:=2) rfl,((hV).au rfl).cell (j:=3) rfl,((hV).au rfl).cell (j:=4) rfl,((hV).au rfl).cell (j:=5) rfl,((hV).au rfl).cell (j:=6) rfl,((hV).au rfl).cell (j:=7) rfl,((hV).get 1 rfl).cell (j:=0) rfl,((hV).get 1 rfl).cell (j:=1) rfl,((hV).get 1 rfl).cell (j:=2) rfl,((hV).get 1 rfl).cell (j:=3) rfl,((hV).get 1 rfl).cell (j:=4) rfl,((hV).get 1 rfl).cell (j:=5) rfl,((hV).get 1 rfl).cell (j:=6) rfl,((hV).get 1 rfl).cell (j:=7) rfl⟩)
  clear hK K
  try simp only [Act.put,la,lz,ls]
  refine wpAnyH_done (by kernel_rfl) ?_ _;go_wp2;exact bodyPost_ret (aI (p:=4) (hV.get 2 rfl) Tryz.underlying170 rfl lN rfl _ rfl) rfl ⟨rfl,hV.bw⟩
theorem vG (v u:Nm.iG) (w:World) (hc:Nm.NT v u=true):Calls Tryz.prog 154 #[WY v,WY u] w fun e w'=>e= .returned (gy (Nm.iY v u))∧Below w.heap.size w w':=by
 obtain ⟨a1,a2⟩:=v;obtain ⟨b1,b2⟩:=u
 unfold Nm.NT Nm.Fj at hc
 simp only [Bool.and_eq_true] at hc
 obtain ⟨⟨⟨⟨ha1,ha2⟩,hb1',hb2'⟩,hp⟩,hq⟩:=hc;have H1:=fun W=>iU a1 b1 W ha1 hb1';have H2:=fun W=>iU a2 b2 W ha2 hb2';rw [show Nm.iY (a1,a2) (b1,b2)=Nm.add (Nm.mul a1 b1) (Nm.mul a2 b2) from rfl];have H3:=fun W=>Au (Nm.mul a1 b1) (Nm.mul a2 b2) W hp hq;obtain ⟨c1,hc1⟩:∃ c,Nm.mul a1 b1=c:=⟨_,rfl⟩;obtain ⟨c2,hc2⟩:∃ c,Nm.mul a2 b2=c:=⟨_,rfl⟩
 simp only [hc1] at H1 H3 ⊢
 simp only [hc2] at H2 H3 ⊢
 obtain ⟨c3,hc3⟩:∃ c,Nm.add c1 c2=c:=⟨_,rfl⟩
 simp only [hc3] at H3 ⊢
 clear hc1 hc2 hc3 hp hq;have H1:=hide H1;have H2:=hide H2;have H3:=hide H3
 go_enter Tryz.func154,Tryz.ntmps154
 go_upto_region 0 with (fail)
 go_cut [2,3,4] (fun v2 v3 v4 wx=>v2=ptr w.heap.size∧v3=ptr (w.heap.size+1)∧v4=ptr (w.heap.size+2)∧aG w wx [(bF (a1,a2),170),(bF (b1,b2),170),(ah ⟨0,0⟩,164)])
 case first=>
  go_wp2;go_meet;exact ⟨rfl,rfl,rfl,((((aG.nil w).new (by simp) (bF (a1,a2)) _).new (by simp) (bF (b1,b2)) _).new (by simp) (ah ⟨0,0⟩) _)⟩
 case rest=>
  obtain ⟨rfl,rfl,rfl,hB⟩:=hcut;have hB0:=hB
  go_upto_region 1 with (fail)
  refine wp_region_held_drew (S:=(fun w':World=>w'.cell? ⟨w.heap.size,0,none⟩=some (.int .i64 ((((a1,a2):Nm.iG)).1).n)∧w'.cell? ⟨w.heap.size,1,none⟩=some (.slice none 0 0)∧w'.cell? ⟨w.heap.size,2,none⟩=some (.int .i64 ((((a1,a2):Nm.iG)).1).d)∧w'.cell? ⟨w.heap.size,3,none⟩=some (.slice none 0 0)∧w'.cell? ⟨w.heap.size,4,none⟩=some (.int .i64 ((((a1,a2):Nm.iG)).2).n)∧w'.cell? ⟨w.heap.size,5,none⟩=some (.slice none 0 0)∧w'.cell? ⟨w.heap.size,6,none⟩=some (.int .i64 ((((a1,a2):Nm.iG)).2).d)∧w'.cell? ⟨w.heap.size,7,none⟩=some (.slice none 0 0)∧w'.cell? ⟨w.heap.size+1,0,none⟩=some (.int .i64 ((((b1,b2):Nm.iG)).1).n)∧w'.cell? ⟨w.heap.size+1,1,none⟩=some (.slice none 0 0)∧w'.cell? ⟨w.heap.size+1,2,none⟩=some (.int .i64 ((((b1,b2):Nm.iG)).1).d)∧w'.cell? ⟨w.heap.size+1,3,none⟩=some (.slice none 0 0)∧w'.cell? ⟨w.heap.size+1,4,none⟩=some (.int .i64 ((((b1,b2):Nm.iG)).2).n)∧w'.cell? ⟨w.heap.size+1,5,none⟩=some (.slice none 0 0)∧w'.cell? ⟨w.heap.size+1,6,none⟩=some (.int .i64 ((((b1,b2):Nm.iG)).2).d)∧w'.cell? ⟨w.heap.size+1,7,none⟩=some (.slice none 0 0))) (by kernel_rfl) ?bV (fun hHeld=>?_)
  case bV=>exact ⟨((hB0.drew).au rfl).cell (j:=0) rfl,((hB0.drew).au rfl).cell (j:=1) rfl,((hB0.drew).au rfl).cell (j:=2) rfl,((hB0.drew).au rfl).cell (j:=3) rfl,((hB0.drew).au rfl).cell (j:=4) rfl,((hB0.drew).au rfl).cell (j:=5) rfl,((hB0.drew).au rfl).cell (j:=6) rfl,((hB0.drew).au rfl).cell (j:=7) rfl,((hB0.drew).get 1 rfl).cell (j:=0) rfl,((hB0.drew).get 1 rfl).cell (j:=1) rfl,((hB0.drew).get 1 rfl).cell (j:=2) rfl,((hB0.drew).get 1 rfl).cell (j:=3) rfl,((hB0.drew).get 1 rfl).cell (j:=4) rfl,((hB0.drew).get 1 rfl).cell (j:=5) rfl,((hB0.drew).get 1 rfl).cell (j:=6) rfl,((hB0.drew).get 1 rfl).cell (j:=7) rfl⟩
  refine tk 0 ?_;refine tk 1 ?_;refine tk 2 ?_;refine tk 3 ?_;refine tk 5 ?_;refine tk 6 ?_;refine tk 7 ?_;refine tk 8 ?_;refine tr 4 fun K hK=>?_;go_simp
  (go_at_call 156;refine (H1.out _).mono ?_;rintro e w1 ⟨rfl,hb1⟩)
  have hB1:=hB0.drew.call (by simp) hb1;refine hK.out _ _ ?G5 (fun hHeld=>?_)
  case G5=>(exact ⟨((hB1).au rfl).cell (j:=0) rfl,((hB1).au rfl).cell (j:=1) rfl,((hB1).au rfl).cell (j:=2) rfl,((hB1).au rfl).cell (j:=3) rfl,((hB1).au rfl).cell (j:=4) rfl,((hB1).au rfl).cell (j:=5) rfl,((hB1).au rfl).cell (j:=6) rfl,((hB1).au rfl).cell (j:=7) rfl,((hB1).get 1 rfl).cell (j:=0) rfl,((hB1).get 1 rfl).cell (j:=1) rfl,((hB1).get 1 rfl).cell (j:=2) rfl,((hB1).get 1 rfl).cell (j:=3) rfl,((hB1).get 1 rfl).cell (j:=4) rfl,((hB1).get 1 rfl).cell (j:=5) rfl,((hB1).get 1 rfl).cell (j:=6) rfl,((hB1).get 1 rfl).cell (j:=7) rfl⟩)
  clear hK K
  try simp only [Act.put,la,lz,ls]
  refine tr 9 fun K hK=>?_;go_simp
  (go_at_call 156;refine (H2.out _).mono ?_;rintro e w2 ⟨rfl,hb2⟩)
  have hB2:=hB1.call (by simp) hb2;refine hK.out _ _ ?ag0 (fun hHeld=>?_)
  case ag0=>(exact ⟨((hB2).au rfl).cell (j:=0) rfl,((hB2).au rfl).cell (j:=1) rfl,((hB2).au rfl).cell (j:=2) rfl,((hB2).au rfl).cell (j:=3) rfl,((hB2).au rfl).cell (j:=4) rfl,((hB2).au rfl).cell (j:=5) rfl,((hB2).au rfl).cell (j:=6) rfl,((hB2).au rfl).cell (j:=7) rfl,((hB2).get 1 rfl).cell (j:=0) rfl,((hB2).get 1 rfl).cell (j:=1) rfl,((hB2).get 1 rfl).cell (j:=2) rfl,((hB2).get 1 rfl).cell (j:=3) rfl,((hB2).get 1 rfl).cell (j:=4) rfl,((hB2).get 1 rfl).cell (j:=5) rfl,((hB2).get 1 rfl).cell (j:=6) rfl,((hB2).get 1 rfl).cell (j:=7) rfl⟩)
  clear hK K
  try simp only [Act.put,la,lz,ls]
  refine tr 10 fun K hK=>?_;go_simp
  (go_at_call 164;refine (H3.out _).mono ?_;rintro e w3 ⟨rfl,hb3⟩)
  have hB3:=hB2.call (by simp) hb3;have TW:=(hB3.get 2 rfl).cell (j:=0) rfl;have C9:=(hB3.get 2 rfl).frozen 0;have TY:=(hB3.get 2 rfl).cell (j:=1) rfl;have Dc:=(hB3.get 2 rfl).frozen 1;have Ua:=(hB3.get 2 rfl).cell (j:=2) rfl;have Df:=(hB3.get 2 rfl).frozen 2;have Ub:=(hB3.get 2 rfl).cell (j:=3) rfl;have Dh:=(hB3.get 2 rfl).frozen 3;have hV:=((((hB3).set 2 rfl 0 (.int .i64 (c3).n)).set 2 rfl 1 (.slice none 0 0)).set 2 rfl 2 (.int .i64 (c3).d)).set 2 rfl 3 (.slice none 0 0);refine hK.out _ _ ?wG (fun hHeld=>?_)
  case wG=>(exact ⟨((hB3).au rfl).cell (j:=0) rfl,((hB3).au rfl).cell (j:=1) rfl,((hB3).au rfl).cell (j:=2) rfl,((hB3).au rfl).cell (j:=3) rfl,((hB3).au rfl).cell (j:=4) rfl,((hB3).au rfl).cell (j:=5) rfl,((hB3).au rfl).cell (j:=6) rfl,((hB3).au rfl).cell (j:=7) rfl,((hB3).get 1 rfl).cell (j:=0) rfl,((hB3).get 1 rfl).cell (j:=1) rfl,((hB3).get 1 rfl).cell (j:=2) rfl,((hB3).get 1 rfl).cell (j:=3) rfl,((hB3).get 1 rfl).cell (j:=4) rfl,((hB3).get 1 rfl).cell (j:=5) rfl,((hB3).get 1 rfl).cell (j:=6) rfl,((hB3).get 1 rfl).cell (j:=7) rfl⟩)
  clear hK K
  try simp only [Act.put,la,lz,ls]
  refine tr 11 fun K hK=>?_;go_simp;refine hK.out _ _ ?JK (fun hHeld=>?_)
  case JK=>(exact ⟨((hV).au rfl).cell (j:=0) rfl,((hV).au rfl).cell (j:=1) rfl,((hV).au rfl).cell (j:=2) rfl,((hV).au rfl).cell (j:=3) rfl,((hV).au rfl).cell (j:=4) rfl,((hV).au rfl).cell (j:=5) rfl,((hV).au rfl).cell (j:=6) rfl,((hV).au rfl).cell (j:=7) rfl,((hV).get 1 rfl).cell (j:=0) rfl,((hV).get 1 rfl).cell (j:=1) rfl,((hV).get 1 rfl).cell (j:=2) rfl,((hV).get 1 rfl).cell (j:=3) rfl,((hV).get 1 rfl).cell (j:=4) rfl,((hV).get 1 rfl).cell (j:=5) rfl,((hV).get 1 rfl).cell (j:=6) rfl,((hV).get 1 rfl).cell (j:=7) rfl⟩)
  clear hK K
  try simp only [Act.put,la,lz,ls]
  refine wpAnyH_done (by kernel_rfl) ?_ _;go_wp2;exact bodyPost_ret (aI (p:=4) (hV.get 2 rfl) Tryz.underlying164 rfl aW rfl _ rfl) rfl ⟨rfl,hV.bw⟩
theorem H7 (s1 s2:ByteArray) (a1 a2:Nm.Fr) (w:World) (hg:Glob w) (H1:∀ W,Glob W→Calls Tryz.prog 99 #[.string s1] W fun e w'=>e= .returned (gy a1)∧Below W.heap.size W w') (H2:∀ W,Glob W→Calls Tryz.prog 99 #[.string s2] W fun e w'=>e= .returned (gy a2)∧Below W.heap.size W w'):
 Calls Tryz.prog 102 #[.agg #[.string s1,.string s2]] w fun e w'=>e= .returned (WY (a1,a2))∧Below w.heap.size w w':=by
 have H1:=hide H1;have H2:=hide H2
 go_enter Tryz.func102,Tryz.ntmps102
 go_upto_region 0 with (fail)
 go_cut [1,2] (fun v1 v2 wx=>v1=ptr w.heap.size∧v2=ptr (w.heap.size+1)∧aG w wx [([.string s1,.string s2],114),(bF (⟨0,0⟩,⟨0,0⟩),170)])
 case first=>
  go_wp2;go_meet;exact ⟨rfl,rfl,(((aG.nil w).new (by simp) ([.string s1,.string s2]) _).new (by simp) (bF (⟨0,0⟩,⟨0,0⟩)) _)⟩
 case rest=>
  obtain ⟨rfl,rfl,hB⟩:=hcut;have hB0:=hB
  go_upto_region 1 with (fail)
  refine wp_region_held_drew (S:=(fun w':World=>w'.cell? ⟨w.heap.size,0,none⟩=some (.string s1)∧w'.cell? ⟨w.heap.size,1,none⟩=some (.string s2))) (by kernel_rfl) ?dJ (fun hHeld=>?_)
  case dJ=>exact ⟨((hB0.drew).au rfl).cell (j:=0) rfl,((hB0.drew).au rfl).cell (j:=1) rfl⟩
  refine tk 0 ?_;refine tk 1 ?_;refine tk 3 ?_;refine tk 4 ?_;refine tr 2 fun K hK=>?_;go_simp
  (go_at_call 99;refine (H1.out _ (hg.below hB0.drew.bw)).mono ?_;rintro e w1 ⟨rfl,hb1⟩)
  have hB1:=hB0.drew.call (by simp) hb1;refine hK.out _ _ ?Rl (fun hHeld=>?_)
  case Rl=>(exact ⟨((hB1).au rfl).cell (j:=0) rfl,((hB1).au rfl).cell (j:=1) rfl⟩)
  clear hK K
  try simp only [Act.put,la,lz,ls]
  refine tr 5 fun K hK=>?_;go_simp
  (go_at_call 99;refine (H2.out _ (hg.below hB1.bw)).mono ?_;rintro e w2 ⟨rfl,hb2⟩)
  have hB2:=hB1.call (by simp) hb2;have TW:=(hB2.get 1 rfl).cell (j:=0) rfl;have C9:=(hB2.get 1 rfl).frozen 0;have TY:=(hB2.get 1 rfl).cell (j:=1) rfl;have Dc:=(hB2.get 1 rfl).frozen 1;have Ua:=(hB2.get 1 rfl).cell (j:=2) rfl;have Df:=(hB2.get 1 rfl).frozen 2;have Ub:=(hB2.get 1 rfl).cell (j:=3) rfl;have Dh:=(hB2.get 1 rfl).frozen 3;have kz4:=(hB2.get 1 rfl).cell (j:=4) rfl;have aqV:=(hB2.get 1 rfl).frozen 4;have kz5:=(hB2.get 1 rfl).cell (j:=5) rfl;have aq2:=(hB2.get 1 rfl).frozen 5;have kz6:=(hB2.get 1 rfl).cell (j:=6) rfl;have aq9:=(hB2.get 1 rfl).frozen 6;have kz7:=(hB2.get 1 rfl).cell (j:=7) rfl;have arj:=(hB2.get 1 rfl).frozen 7;have hV:=((((((((hB2).set 1 rfl 0 (.int .i64 ((((a1,a2):Nm.iG)).1).n)).set 1 rfl 1 (.slice none 0 0)).set 1 rfl 2 (.int .i64 ((((a1,a2):Nm.iG)).1).d)).set 1 rfl 3 (.slice none 0 0)).set 1 rfl 4 (.int .i64 ((((a1,a2):Nm.iG)).2).n)).set 1 rfl 5 (.slice none 0 0)).set 1 rfl 6 (.int .i64 ((((a1,a2):Nm.iG)).2).d)).set 1 rfl 7 (.slice none 0 0);refine hK.out _ _ ?ahl (fun hHeld=>?_)
  case ahl=>(exact ⟨((hB2).au rfl).cell (j:=0) rfl,((hB2).au rfl).cell (j:=1) rfl⟩)
  clear hK K
  try simp only [Act.put,la,lz,ls]
  refine tk 6 ?_;refine tr 7 fun K hK=>?_;go_simp;refine hK.out _ _ ?ahz (fun hHeld=>?_)
  case ahz=>(exact ⟨((hV).au rfl).cell (j:=0) rfl,((hV).au rfl).cell (j:=1) rfl⟩)
  clear hK K
  try simp only [Act.put,la,lz,ls]
  refine wpAnyH_done (by kernel_rfl) ?_ _;go_wp2;exact bodyPost_ret (aI (p:=2) (hV.get 1 rfl) Tryz.underlying170 rfl lN rfl _ rfl) rfl ⟨rfl,hV.bw⟩
theorem FU (a b:Nm.Fr) (w:World) (ha:Nm.ok a=true) (hb:Nm.ok b=true):Calls Tryz.prog 155 #[gy a,gy b] w fun e w'=>e= .returned (.int .i64 (Nm.cmp a b))∧Below w.heap.size w w':=by
 obtain ⟨⟨a0,a1⟩,a2,a3⟩:=kG.1 ha;obtain ⟨⟨b0,b1⟩,b2,b3⟩:=kG.1 hb;obtain ⟨an,ad⟩:=a;obtain ⟨bn,bd⟩:=b
 dsimp only at a0 a1 a2 a3 b0 b1 b2 b3
 have P0:=nG (a:=an) (b:=bd) ⟨a0,a1⟩ ⟨by omega,by omega⟩;have Q0:=nG (a:=bn) (b:=ad) ⟨b0,b1⟩ ⟨by omega,by omega⟩;have HM:=jU an bd;have HN:=jU bn ad;rw [show Nm.cmp ⟨an,ad⟩ ⟨bn,bd⟩=Nm.OI (an*bd) (bn*ad) from rfl];obtain ⟨p,hp⟩:∃ p,an*bd=p:=⟨_,rfl⟩
 simp only [hp] at HM P0 ⊢
 clear hp;obtain ⟨q,hq⟩:∃ q,bn*ad=q:=⟨_,rfl⟩
 simp only [hq] at HN Q0 ⊢
 clear hq;have HM:=hide HM;have HN:=hide HN
 go_enter Tryz.func155,Tryz.ntmps155
 go_upto_region 0 with (fail)
 go_cut [2,3] (fun v2 v3 wx=>v2=ptr w.heap.size∧v3=ptr (w.heap.size+1)∧aG w wx [(ah ⟨an,ad⟩,164),(ah ⟨bn,bd⟩,164)])
 case first=>
  go_wp2;go_meet;exact ⟨rfl,rfl,(((aG.nil w).new (by simp) (ah ⟨an,ad⟩) _).new (by simp) (ah ⟨bn,bd⟩) _)⟩
 case rest=>
  obtain ⟨rfl,rfl,hB⟩:=hcut
  go_upto_region 1 with (fail)
  refine wp_region_held_drew (S:=(fun w':World=>w'.cell? ⟨w.heap.size,0,none⟩=some (.int .i64 ((⟨an,ad⟩:Nm.Fr)).n)∧w'.cell? ⟨w.heap.size,1,none⟩=some (.slice none 0 0)∧w'.cell? ⟨w.heap.size,2,none⟩=some (.int .i64 ((⟨an,ad⟩:Nm.Fr)).d)∧w'.cell? ⟨w.heap.size,3,none⟩=some (.slice none 0 0)∧w'.cell? ⟨w.heap.size+1,0,none⟩=some (.int .i64 ((⟨bn,bd⟩:Nm.Fr)).n)∧w'.cell? ⟨w.heap.size+1,1,none⟩=some (.slice none 0 0)∧w'.cell? ⟨w.heap.size+1,2,none⟩=some (.int .i64 ((⟨bn,bd⟩:Nm.Fr)).d)∧w'.cell? ⟨w.heap.size+1,3,none⟩=some (.slice none 0 0))) (by kernel_rfl) ?bg (fun hHeld=>?_)
  case bg=>exact ⟨((hB.drew).au rfl).cell (j:=0) rfl,((hB.drew).au rfl).cell (j:=1) rfl,((hB.drew).au rfl).cell (j:=2) rfl,((hB.drew).au rfl).cell (j:=3) rfl,((hB.drew).get 1 rfl).cell (j:=0) rfl,((hB.drew).get 1 rfl).cell (j:=1) rfl,((hB.drew).get 1 rfl).cell (j:=2) rfl,((hB.drew).get 1 rfl).cell (j:=3) rfl⟩
  refine aA 0 ?_;refine aA 1 ?_;refine aA 2 ?_;refine aA 3 ?_;refine aA 5 ?_;refine aA 6 ?_;refine aA 7 ?_;refine aA 8 ?_;refine aB 4 fun K hK=>?_;go_simp
  (go_at_call 196;refine (HM.out _ (by omega) (by omega) (by omega) (by omega) (by omega) (by omega)).mono ?_;rintro e Xb ⟨rfl,AZ⟩)
  have kD:=hB.drew.call (by simp) AZ;refine ak hK (⟨((kD).au rfl).cell (j:=0) rfl,((kD).au rfl).cell (j:=1) rfl,((kD).au rfl).cell (j:=2) rfl,((kD).au rfl).cell (j:=3) rfl,((kD).get 1 rfl).cell (j:=0) rfl,((kD).get 1 rfl).cell (j:=1) rfl,((kD).get 1 rfl).cell (j:=2) rfl,((kD).get 1 rfl).cell (j:=3) rfl⟩) fun hHeld=>?_;clear hK K;refine aB 9 fun K hK=>?_;go_simp
  (go_at_call 196;refine (HN.out _ (by omega) (by omega) (by omega) (by omega) (by omega) (by omega)).mono ?_;rintro e Xc ⟨rfl,A8⟩)
  have kE:=kD.call (by simp) A8;refine ak hK (⟨((kE).au rfl).cell (j:=0) rfl,((kE).au rfl).cell (j:=1) rfl,((kE).au rfl).cell (j:=2) rfl,((kE).au rfl).cell (j:=3) rfl,((kE).get 1 rfl).cell (j:=0) rfl,((kE).get 1 rfl).cell (j:=1) rfl,((kE).get 1 rfl).cell (j:=2) rfl,((kE).get 1 rfl).cell (j:=3) rfl⟩) fun hHeld=>?_;clear hK K;refine aB 10 fun K hK=>?_;go_simp
  (go_at_call 189;refine (P6 p q _).mono ?_;rintro e Xd ⟨rfl,Ba⟩)
  have kF:=kE.call (by simp) Ba;refine ak hK (⟨((kF).au rfl).cell (j:=0) rfl,((kF).au rfl).cell (j:=1) rfl,((kF).au rfl).cell (j:=2) rfl,((kF).au rfl).cell (j:=3) rfl,((kF).get 1 rfl).cell (j:=0) rfl,((kF).get 1 rfl).cell (j:=1) rfl,((kF).get 1 rfl).cell (j:=2) rfl,((kF).get 1 rfl).cell (j:=3) rfl⟩) fun hHeld=>?_;clear hK K;refine aA 11 ?_;refine wpAnyH_done (by kernel_rfl) ?_ _;go_wp2;go_ret;exact ⟨rfl,kF.bw⟩
theorem lV (a:Int):Nm.oG a= -1∨Nm.oG a=0∨Nm.oG a=1:=by unfold Nm.oG;split <;> (try split) <;> simp
theorem Dz (a b:Nm.Fr):Nm.cmp a b= -1∨Nm.cmp a b=0∨Nm.cmp a b=1:=by unfold Nm.cmp Nm.OI;split <;> (try split) <;> simp
def Nm.qp (x y d:Nm.Fr):Int:=
 if 0≤Nm.oG x.n*(Nm.oG y.n*Nm.oG d.n) then max (-1) (min 1 (Nm.oG x.n+Nm.oG y.n*Nm.oG d.n)) else Nm.oG x.n*Nm.cmp (Nm.mul x x) (Nm.mul (Nm.mul y y) d)
def Nm.VJ (x y d:Nm.Fr):Bool:=Nm.ok x && Nm.ok y && Nm.ok d && (decide (0≤Nm.oG x.n*(Nm.oG y.n*Nm.oG d.n)) || (Nm.ok (Nm.mul x x) && Nm.ok (Nm.mul y y) && Nm.ok (Nm.mul (Nm.mul y y) d)))
theorem mW {a b:Int} (ha:a= -1∨a=0∨a=1) (hb:b= -1∨b=0∨b=1):a*b= -1∨a*b=0∨a*b=1:=by
 rcases ha with rfl | rfl | rfl <;> rcases hb with rfl | rfl | rfl <;> decide
theorem wrap_one {a:Int} (ha:a= -1∨a=0∨a=1):IntKind.i64.wrap a=a:=by rw [IntKind.wrap_i64];omega
theorem zI (x y d:Nm.Fr):Nm.qp x y d= -1∨Nm.qp x y d=0∨Nm.qp x y d=1:=by
 unfold Nm.qp
 have h1:=lV x.n;have h2:=mW (lV y.n) (lV d.n)
 split
 · rcases h1 with h1 | h1 | h1 <;> rcases h2 with h2 | h2 | h2 <;> rw [h1,h2] <;> decide
 · exact mW h1 (Dz _ _)
theorem vC (x y d:Nm.Fr) (w:World) (h:Nm.VJ x y d=true):Calls Tryz.prog 103 #[gy x,gy y,gy d] w fun e w'=>e= .returned (.int .i64 (Nm.qp x y d))∧Below w.heap.size w w':=by
 unfold Nm.VJ at h
 simp only [Bool.and_eq_true,Bool.or_eq_true,decide_eq_true_eq] at h
 obtain ⟨⟨⟨hx,hy⟩,hd⟩,h⟩:=h;have c1:=lV x.n;have c2:=mW (lV y.n) (lV d.n);have c3:=mW c1 c2;have w2:=wrap_one c2;have w3:=wrap_one c3
 by_cases hs:0≤Nm.oG x.n*(Nm.oG y.n*Nm.oG d.n)
 · have HS:=hide (show Nm.qp x y d=max (-1) (min 1 (Nm.oG x.n+Nm.oG y.n*Nm.oG d.n)) by unfold Nm.qp;rw [if_pos hs])
   have hs1:decide (0≤Nm.oG x.n*(Nm.oG y.n*Nm.oG d.n))=true:=decide_eq_true hs
   have w4:IntKind.i64.wrap (Nm.oG x.n+Nm.oG y.n*Nm.oG d.n)=Nm.oG x.n+Nm.oG y.n*Nm.oG d.n:=by rw [IntKind.wrap_i64];omega
   clear h hs
   go_enter Tryz.func103,Tryz.ntmps103
   go_upto_region 0 with (fail)
   go_cut [3,4,5] (fun v3 v4 v5 wx=>v3=ptr w.heap.size∧v4=ptr (w.heap.size+1)∧v5=ptr (w.heap.size+2)∧aG w wx [(ah x,164),(ah y,164),(ah d,164)])
   case first=>
    go_wp2;go_meet;exact ⟨rfl,rfl,rfl,((((aG.nil w).new (by simp) (ah x) _).new (by simp) (ah y) _).new (by simp) (ah d) _)⟩
   case rest=>
    obtain ⟨rfl,rfl,rfl,hB⟩:=hcut
    go_upto_region 1 with (fail)
    refine wp_region_held_drew (S:=(fun w':World=>w'.cell? ⟨w.heap.size,0,none⟩=some (.int .i64 (x).n)∧w'.cell? ⟨w.heap.size,1,none⟩=some (.slice none 0 0)∧w'.cell? ⟨w.heap.size,2,none⟩=some (.int .i64 (x).d)∧w'.cell? ⟨w.heap.size,3,none⟩=some (.slice none 0 0)∧w'.cell? ⟨w.heap.size+1,0,none⟩=some (.int .i64 (y).n)∧w'.cell? ⟨w.heap.size+1,1,none⟩=some (.slice none 0 0)∧w'.cell? ⟨w.heap.size+1,2,none⟩=some (.int .i64 (y).d)∧w'.cell? ⟨w.heap.size+1,3,none⟩=some (.slice none 0 0)∧w'.cell? ⟨w.heap.size+2,0,none⟩=some (.int .i64 (d).n)∧w'.cell? ⟨w.heap.size+2,1,none⟩=some (.slice none 0 0)∧w'.cell? ⟨w.heap.size+2,2,none⟩=some (.int .i64 (d).d)∧w'.cell? ⟨w.heap.size+2,3,none⟩=some (.slice none 0 0))) (by kernel_rfl) ?bV (fun hHeld=>?_)
    case bV=>exact ⟨((hB.drew).au rfl).cell (j:=0) rfl,((hB.drew).au rfl).cell (j:=1) rfl,((hB.drew).au rfl).cell (j:=2) rfl,((hB.drew).au rfl).cell (j:=3) rfl,((hB.drew).get 1 rfl).cell (j:=0) rfl,((hB.drew).get 1 rfl).cell (j:=1) rfl,((hB.drew).get 1 rfl).cell (j:=2) rfl,((hB.drew).get 1 rfl).cell (j:=3) rfl,((hB.drew).get 2 rfl).cell (j:=0) rfl,((hB.drew).get 2 rfl).cell (j:=1) rfl,((hB.drew).get 2 rfl).cell (j:=2) rfl,((hB.drew).get 2 rfl).cell (j:=3) rfl⟩
    refine aA 0 ?_;refine aA 2 ?_;refine aA 4 ?_;refine aB 1 fun K hK=>?_;go_simp
    (go_at_call 147;refine (jY x _).mono ?_;rintro e Xb ⟨rfl,AZ⟩)
    have kD:=hB.drew.call (by simp) AZ;refine ak hK (⟨((kD).au rfl).cell (j:=0) rfl,((kD).au rfl).cell (j:=1) rfl,((kD).au rfl).cell (j:=2) rfl,((kD).au rfl).cell (j:=3) rfl,((kD).get 1 rfl).cell (j:=0) rfl,((kD).get 1 rfl).cell (j:=1) rfl,((kD).get 1 rfl).cell (j:=2) rfl,((kD).get 1 rfl).cell (j:=3) rfl,((kD).get 2 rfl).cell (j:=0) rfl,((kD).get 2 rfl).cell (j:=1) rfl,((kD).get 2 rfl).cell (j:=2) rfl,((kD).get 2 rfl).cell (j:=3) rfl⟩) fun hHeld=>?_;clear hK K;refine aB 3 fun K hK=>?_;go_simp
    (go_at_call 147;refine (jY y _).mono ?_;rintro e Xc ⟨rfl,A8⟩)
    have kE:=kD.call (by simp) A8;refine ak hK (⟨((kE).au rfl).cell (j:=0) rfl,((kE).au rfl).cell (j:=1) rfl,((kE).au rfl).cell (j:=2) rfl,((kE).au rfl).cell (j:=3) rfl,((kE).get 1 rfl).cell (j:=0) rfl,((kE).get 1 rfl).cell (j:=1) rfl,((kE).get 1 rfl).cell (j:=2) rfl,((kE).get 1 rfl).cell (j:=3) rfl,((kE).get 2 rfl).cell (j:=0) rfl,((kE).get 2 rfl).cell (j:=1) rfl,((kE).get 2 rfl).cell (j:=2) rfl,((kE).get 2 rfl).cell (j:=3) rfl⟩) fun hHeld=>?_;clear hK K;refine aB 5 fun K hK=>?_;go_simp
    (go_at_call 147;refine (jY d _).mono ?_;rintro e Xd ⟨rfl,Ba⟩)
    have kF:=kE.call (by simp) Ba;refine ak hK (⟨((kF).au rfl).cell (j:=0) rfl,((kF).au rfl).cell (j:=1) rfl,((kF).au rfl).cell (j:=2) rfl,((kF).au rfl).cell (j:=3) rfl,((kF).get 1 rfl).cell (j:=0) rfl,((kF).get 1 rfl).cell (j:=1) rfl,((kF).get 1 rfl).cell (j:=2) rfl,((kF).get 1 rfl).cell (j:=3) rfl,((kF).get 2 rfl).cell (j:=0) rfl,((kF).get 2 rfl).cell (j:=1) rfl,((kF).get 2 rfl).cell (j:=2) rfl,((kF).get 2 rfl).cell (j:=3) rfl⟩) fun hHeld=>?_;clear hK K;refine aA 6 ?_;refine aA 7 ?_;refine aA 8 ?_;refine wpAnyH_done (by kernel_rfl) ?_ _;go_wp2
    all_goals
     go_ret;exact ⟨aV (by first | (rw [HS.out];done) | (rw [HS.out];omega)),kF.bw⟩
 · have HS:=hide (show Nm.qp x y d=Nm.oG x.n*Nm.cmp (Nm.mul x x) (Nm.mul (Nm.mul y y) d) by unfold Nm.qp;rw [if_neg hs])
   have hs1:decide (0≤Nm.oG x.n*(Nm.oG y.n*Nm.oG d.n))=false:=decide_eq_false hs;have h5:=h.resolve_left hs;obtain ⟨⟨o1,o2⟩,o3⟩:=h5;have M1:=hide (fun W=>iU x x W hx hx);have M2:=hide (fun W=>iU y y W hy hy);have M3:=hide (fun W=>iU (Nm.mul y y) d W o2 hd);have M4:=hide (fun W=>FU (Nm.mul x x) (Nm.mul (Nm.mul y y) d) W o1 o3);have w4:=wrap_one (mW c1 (Dz (Nm.mul x x) (Nm.mul (Nm.mul y y) d)));clear h hs
   go_enter Tryz.func103,Tryz.ntmps103
   go_upto_region 0 with (fail)
   go_cut [3,4,5] (fun v3 v4 v5 wx=>v3=ptr w.heap.size∧v4=ptr (w.heap.size+1)∧v5=ptr (w.heap.size+2)∧aG w wx [(ah x,164),(ah y,164),(ah d,164)])
   case first=>
    go_wp2;go_meet;exact ⟨rfl,rfl,rfl,((((aG.nil w).new (by simp) (ah x) _).new (by simp) (ah y) _).new (by simp) (ah d) _)⟩
   case rest=>
    obtain ⟨rfl,rfl,rfl,hB⟩:=hcut
    go_upto_region 1 with (fail)
    refine wp_region_held_drew (S:=(fun w':World=>w'.cell? ⟨w.heap.size,0,none⟩=some (.int .i64 (x).n)∧w'.cell? ⟨w.heap.size,1,none⟩=some (.slice none 0 0)∧w'.cell? ⟨w.heap.size,2,none⟩=some (.int .i64 (x).d)∧w'.cell? ⟨w.heap.size,3,none⟩=some (.slice none 0 0)∧w'.cell? ⟨w.heap.size+1,0,none⟩=some (.int .i64 (y).n)∧w'.cell? ⟨w.heap.size+1,1,none⟩=some (.slice none 0 0)∧w'.cell? ⟨w.heap.size+1,2,none⟩=some (.int .i64 (y).d)∧w'.cell? ⟨w.heap.size+1,3,none⟩=some (.slice none 0 0)∧w'.cell? ⟨w.heap.size+2,0,none⟩=some (.int .i64 (d).n)∧w'.cell? ⟨w.heap.size+2,1,none⟩=some (.slice none 0 0)∧w'.cell? ⟨w.heap.size+2,2,none⟩=some (.int .i64 (d).d)∧w'.cell? ⟨w.heap.size+2,3,none⟩=some (.slice none 0 0))) (by kernel_rfl) ?pK (fun hHeld=>?_)
    case pK=>exact ⟨((hB.drew).au rfl).cell (j:=0) rfl,((hB.drew).au rfl).cell (j:=1) rfl,((hB.drew).au rfl).cell (j:=2) rfl,((hB.drew).au rfl).cell (j:=3) rfl,((hB.drew).get 1 rfl).cell (j:=0) rfl,((hB.drew).get 1 rfl).cell (j:=1) rfl,((hB.drew).get 1 rfl).cell (j:=2) rfl,((hB.drew).get 1 rfl).cell (j:=3) rfl,((hB.drew).get 2 rfl).cell (j:=0) rfl,((hB.drew).get 2 rfl).cell (j:=1) rfl,((hB.drew).get 2 rfl).cell (j:=2) rfl,((hB.drew).get 2 rfl).cell (j:=3) rfl⟩
    refine aA 0 ?_;refine aA 2 ?_;refine aA 4 ?_;refine aB 1 fun K hK=>?_;go_simp
    (go_at_call 147;refine (jY x _).mono ?_;rintro e Xb ⟨rfl,AZ⟩)
    have kD:=hB.drew.call (by simp) AZ;refine ak hK (⟨((kD).au rfl).cell (j:=0) rfl,((kD).au rfl).cell (j:=1) rfl,((kD).au rfl).cell (j:=2) rfl,((kD).au rfl).cell (j:=3) rfl,((kD).get 1 rfl).cell (j:=0) rfl,((kD).get 1 rfl).cell (j:=1) rfl,((kD).get 1 rfl).cell (j:=2) rfl,((kD).get 1 rfl).cell (j:=3) rfl,((kD).get 2 rfl).cell (j:=0) rfl,((kD).get 2 rfl).cell (j:=1) rfl,((kD).get 2 rfl).cell (j:=2) rfl,((kD).get 2 rfl).cell (j:=3) rfl⟩) fun hHeld=>?_;clear hK K;refine aB 3 fun K hK=>?_;go_simp
    (go_at_call 147;refine (jY y _).mono ?_;rintro e Xc ⟨rfl,A8⟩)
    have kE:=kD.call (by simp) A8;refine ak hK (⟨((kE).au rfl).cell (j:=0) rfl,((kE).au rfl).cell (j:=1) rfl,((kE).au rfl).cell (j:=2) rfl,((kE).au rfl).cell (j:=3) rfl,((kE).get 1 rfl).cell (j:=0) rfl,((kE).get 1 rfl).cell (j:=1) rfl,((kE).get 1 rfl).cell (j:=2) rfl,((kE).get 1 rfl).cell (j:=3) rfl,((kE).get 2 rfl).cell (j:=0) rfl,((kE).get 2 rfl).cell (j:=1) rfl,((kE).get 2 rfl).cell (j:=2) rfl,((kE).get 2 rfl).cell (j:=3) rfl⟩) fun hHeld=>?_;clear hK K;refine aB 5 fun K hK=>?_;go_simp
    (go_at_call 147;refine (jY d _).mono ?_;rintro e Xd ⟨rfl,Ba⟩)
    have kF:=kE.call (by simp) Ba;refine ak hK (⟨((kF).au rfl).cell (j:=0) rfl,((kF).au rfl).cell (j:=1) rfl,((kF).au rfl).cell (j:=2) rfl,((kF).au rfl).cell (j:=3) rfl,((kF).get 1 rfl).cell (j:=0) rfl,((kF).get 1 rfl).cell (j:=1) rfl,((kF).get 1 rfl).cell (j:=2) rfl,((kF).get 1 rfl).cell (j:=3) rfl,((kF).get 2 rfl).cell (j:=0) rfl,((kF).get 2 rfl).cell (j:=1) rfl,((kF).get 2 rfl).cell (j:=2) rfl,((kF).get 2 rfl).cell (j:=3) rfl⟩) fun hHeld=>?_;clear hK K;refine aA 6 ?_;refine aA 7 ?_;refine aA 8 ?_;refine wpAnyH_done (by kernel_rfl) ?_ _;have hB1:=kF
    go_upto_region 4 with (fail)
    refine wp_region_held_drew (S:=(fun w':World=>w'.cell? ⟨w.heap.size,0,none⟩=some (.int .i64 (x).n)∧w'.cell? ⟨w.heap.size,1,none⟩=some (.slice none 0 0)∧w'.cell? ⟨w.heap.size,2,none⟩=some (.int .i64 (x).d)∧w'.cell? ⟨w.heap.size,3,none⟩=some (.slice none 0 0)∧w'.cell? ⟨w.heap.size+1,0,none⟩=some (.int .i64 (y).n)∧w'.cell? ⟨w.heap.size+1,1,none⟩=some (.slice none 0 0)∧w'.cell? ⟨w.heap.size+1,2,none⟩=some (.int .i64 (y).d)∧w'.cell? ⟨w.heap.size+1,3,none⟩=some (.slice none 0 0)∧w'.cell? ⟨w.heap.size+2,0,none⟩=some (.int .i64 (d).n)∧w'.cell? ⟨w.heap.size+2,1,none⟩=some (.slice none 0 0)∧w'.cell? ⟨w.heap.size+2,2,none⟩=some (.int .i64 (d).d)∧w'.cell? ⟨w.heap.size+2,3,none⟩=some (.slice none 0 0))) (by kernel_rfl) ?dJ (fun hHeld=>?_)
    case dJ=>exact ⟨((hB1.drew).au rfl).cell (j:=0) rfl,((hB1.drew).au rfl).cell (j:=1) rfl,((hB1.drew).au rfl).cell (j:=2) rfl,((hB1.drew).au rfl).cell (j:=3) rfl,((hB1.drew).get 1 rfl).cell (j:=0) rfl,((hB1.drew).get 1 rfl).cell (j:=1) rfl,((hB1.drew).get 1 rfl).cell (j:=2) rfl,((hB1.drew).get 1 rfl).cell (j:=3) rfl,((hB1.drew).get 2 rfl).cell (j:=0) rfl,((hB1.drew).get 2 rfl).cell (j:=1) rfl,((hB1.drew).get 2 rfl).cell (j:=2) rfl,((hB1.drew).get 2 rfl).cell (j:=3) rfl⟩
    refine aA 0 ?_;refine aA 1 ?_;refine aA 2 ?_;refine aA 4 ?_;refine aA 5 ?_;refine aA 7 ?_;refine aB 3 fun K hK=>?_;go_simp
    (go_at_call 156;refine (M1.out _).mono ?_;rintro e asj ⟨rfl,UY⟩)
    have qW:=hB1.drew.call (by simp) UY;refine ak hK (⟨((qW).au rfl).cell (j:=0) rfl,((qW).au rfl).cell (j:=1) rfl,((qW).au rfl).cell (j:=2) rfl,((qW).au rfl).cell (j:=3) rfl,((qW).get 1 rfl).cell (j:=0) rfl,((qW).get 1 rfl).cell (j:=1) rfl,((qW).get 1 rfl).cell (j:=2) rfl,((qW).get 1 rfl).cell (j:=3) rfl,((qW).get 2 rfl).cell (j:=0) rfl,((qW).get 2 rfl).cell (j:=1) rfl,((qW).get 2 rfl).cell (j:=2) rfl,((qW).get 2 rfl).cell (j:=3) rfl⟩) fun hHeld=>?_;clear hK K;refine aB 6 fun K hK=>?_;go_simp
    (go_at_call 156;refine (M2.out _).mono ?_;rintro e asv ⟨rfl,UZ⟩)
    have qX:=qW.call (by simp) UZ;refine ak hK (⟨((qX).au rfl).cell (j:=0) rfl,((qX).au rfl).cell (j:=1) rfl,((qX).au rfl).cell (j:=2) rfl,((qX).au rfl).cell (j:=3) rfl,((qX).get 1 rfl).cell (j:=0) rfl,((qX).get 1 rfl).cell (j:=1) rfl,((qX).get 1 rfl).cell (j:=2) rfl,((qX).get 1 rfl).cell (j:=3) rfl,((qX).get 2 rfl).cell (j:=0) rfl,((qX).get 2 rfl).cell (j:=1) rfl,((qX).get 2 rfl).cell (j:=2) rfl,((qX).get 2 rfl).cell (j:=3) rfl⟩) fun hHeld=>?_;clear hK K;refine aB 8 fun K hK=>?_;go_simp
    (go_at_call 156;refine (M3.out _).mono ?_;rintro e asC ⟨rfl,U1⟩)
    have qY:=qX.call (by simp) U1;refine ak hK (⟨((qY).au rfl).cell (j:=0) rfl,((qY).au rfl).cell (j:=1) rfl,((qY).au rfl).cell (j:=2) rfl,((qY).au rfl).cell (j:=3) rfl,((qY).get 1 rfl).cell (j:=0) rfl,((qY).get 1 rfl).cell (j:=1) rfl,((qY).get 1 rfl).cell (j:=2) rfl,((qY).get 1 rfl).cell (j:=3) rfl,((qY).get 2 rfl).cell (j:=0) rfl,((qY).get 2 rfl).cell (j:=1) rfl,((qY).get 2 rfl).cell (j:=2) rfl,((qY).get 2 rfl).cell (j:=3) rfl⟩) fun hHeld=>?_;clear hK K;refine aB 9 fun K hK=>?_;go_simp
    (go_at_call 155;refine (M4.out _).mono ?_;rintro e asJ ⟨rfl,U2⟩)
    have qZ:=qY.call (by simp) U2;refine ak hK (⟨((qZ).au rfl).cell (j:=0) rfl,((qZ).au rfl).cell (j:=1) rfl,((qZ).au rfl).cell (j:=2) rfl,((qZ).au rfl).cell (j:=3) rfl,((qZ).get 1 rfl).cell (j:=0) rfl,((qZ).get 1 rfl).cell (j:=1) rfl,((qZ).get 1 rfl).cell (j:=2) rfl,((qZ).get 1 rfl).cell (j:=3) rfl,((qZ).get 2 rfl).cell (j:=0) rfl,((qZ).get 2 rfl).cell (j:=1) rfl,((qZ).get 2 rfl).cell (j:=2) rfl,((qZ).get 2 rfl).cell (j:=3) rfl⟩) fun hHeld=>?_;clear hK K;refine aA 10 ?_;refine aA 11 ?_;refine wpAnyH_done (by kernel_rfl) ?_ _;go_wp2;go_ret;exact ⟨aV HS.out.symm,qZ.bw⟩
end Go.Proofs.YtjbbfmofpjflmaaGreatDoor
