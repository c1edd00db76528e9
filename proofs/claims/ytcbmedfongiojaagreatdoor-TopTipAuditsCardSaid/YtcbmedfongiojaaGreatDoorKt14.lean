/- Parts of a proof. -/
import Derived.LaidLaws
import Derived.LaidMore
import Derived.Lay
import Derived.OpenShut
import Derived.ProofKit
import Derived.SevenTiedAt
import Derived.Test.YtcbmedfongiojaaGreatDoorCards
import Derived.Test.YtcbmedfongiojaaGreatDoorTie
import Derived.Test.YtcbmedfongiojaaGreatDoorKt13
import Derived.Test.YtcbmedfongiojaaGreatDoorKt3
set_option maxRecDepth 100000
set_option linter.unusedVariables false
set_option linter.unusedSimpArgs false
namespace Go.Proofs.YtcbmedfongiojaaGreatDoor
open Go.ChangeShapes Go.WideShapes Go.ChangeAt Go.RowKit
def CU:List (String × DataW Unit):=[("math/bits.deBruijn32tab",Rows.laid_math_bits_deBruijn32tab),("math/bits.deBruijn64tab",Rows.laid_math_bits_deBruijn64tab),("internal/strconv.uint64pow10",Rows.laid_internal_strconv_uint64pow10),("unicode/utf8.acceptRanges",Rows.laid_unicode_utf8_acceptRanges),("strconv.ErrRange",Rows.laid_strconv_ErrRange),("strconv.ErrSyntax",Rows.laid_strconv_ErrSyntax),("unicode/utf8.first",Rows.laid_unicode_utf8_first)]
theorem alY:ownKnob Tryz.prog.godebug=none:=by kernel_rfl
theorem laidOutP:laidOutB Tryz.prog=true:=by kernel_rfl
theorem al5:((begin Tryz.prog (fun _ _=>0) default).world.heap[0]?).bind Obj.row? =some (#[.int .i64 0],3):=by kernel_rfl
theorem afp:0<Tryz.prog.globals.size:=of_decide_eq_true (by kernel_rfl)
theorem WI:Tryz.prog.buildable 3=true:=by kernel_rfl
theorem Yu:Tryz.prog.cellTypes Tryz.prog.depth 3=some [3]:=by kernel_rfl
theorem WQ {W:World} (h:W.ShapedOpen Tryz.prog):∃ m,W.cell? ⟨0,0,none⟩=some (.int .i64 m):=by
 obtain ⟨cs,hc,hs,ho⟩:=h.1 0 _ _ afp al5;obtain ⟨ts,h1,_,h3⟩:=ho WI;rw [Yu] at h1
 cases h1
 have hs:cs.size=1:=hs;obtain ⟨l⟩:=cs
 obtain ⟨v,rfl⟩:∃ v,l=[v]:=by match l,hs with | [v],_=>exact ⟨v,rfl⟩
 obtain ⟨u,hu,hk⟩:=h3 0 v rfl
 cases hu
 have hh:∃ m,v= .int .i64 m:=by
  simp only [Cell.ok,Tryz.underlying3] at hk
  cases v <;> simp_all
 obtain ⟨m,rfl⟩:=hh;refine ⟨m,?_⟩;rw [cell_of_row W 0 0 _ _ _ hc]
 rfl
theorem xZ {W:World} {g:Nat} {t:TypeId} {cs:Array Value} {f:Nat} {name:String} {d:DataW Unit} {p:List MemPlace} {g':Nat} (hg:g'=g) (ht:(Tryz.prog.globals[g]?).map (·.type)=some t) (hty:(Tryz.prog.globals[g']?).map (·.type)=some 220)
 (hd:DataW.trod (fun _=>()) Tryz.prog W 0 (fun _=>true) false f t cs.toList=some (.iface name d,p)):∃ tp q,cs= #[.iface tp q]:=by
 subst hg;rw [hty] at ht
 cases ht
 obtain ⟨_,u,v,hc,_,_⟩:=iface_of_trod Tryz.underlying220 hd;obtain ⟨l⟩:=cs;exact ⟨u,v,congrArg List.toArray hc⟩
theorem Jj:(Rows.laid_internal_strconv_uint64pow10:DataW Unit)=Lib.tabData .u64 Lib.pow10Tab:=by kernel_rfl
theorem Jk:(Tryz.prog.globals[5]?).map (·.type)=some 315:=by kernel_rfl
theorem globs {W:World} (hL:laidMetH Tryz.prog CU W) (hS:W.ShapedOpen Tryz.prog):Glob W:=by
 rw [MakeChecks.laidMetH_plain _ _ _ (by kernel_rfl)] at hL;obtain ⟨ps,⟨g0,t0,cs0,f0,p0,q0,_,_,_,_,⟨g1,t1,cs1,f1,p1,q1,_,_,_,_,⟨g2,t2,cs2,f2,p2,q2,hg2,ht2,hv2,hd2,⟨g3,t3,cs3,f3,p3,q3,_,_,_,_,⟨g4,t4,cs4,f4,p4,q4,hg4,ht4,hv4,hd4,⟨g5,t5,cs5,f5,p5,q5,hg5,ht5,hv5,hd5,_⟩,_⟩,_⟩,_⟩,_⟩,_⟩,_,_⟩:=hL;refine ⟨WQ hS,?_,?_,?_⟩
 · obtain ⟨u,v,rfl⟩:=xZ (Option.some.inj ((show Tryz.prog.globalNamed "strconv.ErrSyntax" =some 3 by kernel_rfl).symm.trans hg5)) ht5 (by kernel_rfl) hd5
   exact ⟨u,v,hv5⟩
 · obtain ⟨u,v,rfl⟩:=xZ (Option.some.inj ((show Tryz.prog.globalNamed "strconv.ErrRange" =some 4 by kernel_rfl).symm.trans hg4)) ht4 (by kernel_rfl) hd4
   exact ⟨u,v,hv4⟩
 · obtain rfl:=Option.some.inj ((show Tryz.prog.globalNamed "internal/strconv.uint64pow10" =some 5 by kernel_rfl).symm.trans hg2)
   rw [Jk] at ht2
   cases ht2
   rw [Jj] at hd2
   have:=Lib.cells_of_tab Tryz.underlying315 Tryz.underlying229 (by kernel_rfl) (by kernel_rfl) hd2
   unfold Lib.TabIs
   rw [hv2, ← this]
theorem Vz (os:Os) (args:Array Value):laidMetH Tryz.prog CU ((World.laidAll Tryz.prog os CU).forCall (fun _ _=>0) ⟨#[],args,[]⟩).memory:=by
 rw [MakeChecks.laidMetH_plain _ _ _ (by kernel_rfl)];exact laidMet_laidAll _ (by kernel_rfl) (by kernel_rfl)
theorem JK (os:Os) (args:Array Value):((World.laidAll Tryz.prog os CU).forCall (fun _ _=>0) ⟨#[],args,[]⟩).Shaped Tryz.prog:=World.shaped_of_ZipB (by kernel_rfl) (by kernel_rfl)
theorem Np (os:Os) (args:Array Value) (fr:Frame):({}:Assume).holds Tryz.prog (lone fr [] ((World.laidAll Tryz.prog os CU).forCall (fun _ _=>0) ⟨#[],args,[]⟩)):=by
 simp only [Assume.holds]
 exact ⟨by simp,by simp,fun _=>Modest.zero,by simp,by simp⟩
end Go.Proofs.YtcbmedfongiojaaGreatDoor
