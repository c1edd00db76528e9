/- SnookerEntries: for every input the law returns true, and each argument reads afterwards as it read before. Conditions: the listed package-level variables hold what the program's text lays (the card ties them). -/
import Derived.Test.YtjbbfmofpjflmaaGreatDoorKb14
import Derived.Test.YtjbbfmofpjflmaaGreatDoorKe8
import Derived.Test.YtjbbfmofpjflmaaGreatDoorKe9
set_option maxHeartbeats 16000000
set_option maxRecDepth 100000
set_option linter.unusedVariables false
set_option linter.unusedSimpArgs false
namespace Go.Proofs.YtjbbfmofpjflmaaGreatDoor
open Go.ChangeShapes Go.WideShapes Go.ChangeAt Go.RowKit
theorem aat (H:Type) (enc:TypeId × Value→H) (W:World) (base:Nat) (args:Array Value) (ds gs:List (DataW H)) (before:List MemPlace)
 (hval:∀ (j:Nat) t v,Tryz.f11.params[j]? =some t→args[j]? =some v→Value.okWide Tryz.prog W .any base t v)
 (hW:DataW.Whole enc Tryz.prog Tryz.f11.params.toList Rows.snookerEntriesSpec.vars false W args.toList ds gs before)
 (hsz:(DataW.weightsEach Tryz.prog (Tryz.f11.params.toList++(OpenSpec.ofChange Rows.snookerEntriesSpec).bare.plain.varTypes Tryz.prog) (ds++gs)).all (· ≤reachBytes)=true)
 (hL:laidMetH Tryz.prog Di W) (hSh:W.ShapedOpen Tryz.prog):
 Calls Tryz.prog 11 args W fun e W'=>∃ v,e= .returned v∧Rows.snookerEntriesSpec.post enc Tryz.prog Tryz.f11 false true false false W args v W':=by
 have hG:=globs hL hSh;have hW':=hW;obtain ⟨p,q,hA0,hV,rfl,hfz,hnd⟩:=hW;have hA:DataW.TrodAll enc Tryz.prog W 0 (fun _=>true) true Tryz.f11.params.toList args.toList ds p:=hA0;rw [Tryz.params11] at hA hval;obtain ⟨v0,vs0,d0,ds0,p0,q0,e0,rfl,rfl,h0,r0⟩:=trodAll_cons hA;obtain ⟨v1,vs1,d1,ds1,p1,q1,e1,rfl,rfl,h1,r1⟩:=trodAll_cons r0;obtain ⟨v2,vs2,d2,ds2,p2,q2,e2,rfl,rfl,h2,r2⟩:=trodAll_cons r1;obtain ⟨rfl,rfl,rfl⟩:=trodAll_nil r2;subst e2;subst e1
 obtain rfl:args= #[v0,v1,v2]:=by cases args;simp_all
 obtain ⟨rfl,rfl⟩:=trodVars_none hV;have hw0:=lN (hsz);have hw1:=lN (iY (hsz));have hw2:=lN (iY (iY (hsz)));clear hsz hA0;obtain ⟨g0,rfl⟩:=Rw (hval 0 _ v0 rfl rfl) h0;obtain ⟨s1,rfl⟩:=MV (hval 1 _ v1 rfl rfl) h1;obtain ⟨e2x,rfl,hr2⟩:=ael (hval 2 _ v2 rfl rfl) h2 hw2;refine (acG (fun _=>True) g0 s1 e2x W hG hr2).mono fun e W' ⟨he,hb⟩=>?_;subst he;exact ⟨_,rfl,MB laidOutP (by rw [Tryz.params11];intro t ht;simp only [List.mem_cons,List.mem_nil_iff,or_false] at ht;rcases ht with rfl | rfl | rfl <;> exact ⟨of_decide_eq_true (by kernel_rfl),by kernel_rfl⟩) rfl rfl Tryz.underlying4 rfl rfl rfl hW' hb⟩
theorem aa8 (os:Os) {H:Type} (enc:TypeId × Value→H):∃ places,DataW.whole enc Tryz.prog ((World.laidAll Tryz.prog os Di).forCall (fun _ _=>0) ⟨#[], #[.agg #[.string ⟨#[]⟩,.int .i64 0,.int .i64 0,.int .i64 0],.agg #[.int .i64 0,.int .i64 0,.int .i64 0,.int .i64 0,.string ⟨#[]⟩,.int .i64 0,.int .i64 0,.bool false,.bool false,.int .i64 0,.int .i64 0,.int .i64 0,.int .i64 0],.agg #[.string ⟨#[]⟩,.string ⟨#[]⟩,.slice none 0 0,.slice none 0 0,.int .i64 0]],[]⟩).memory Tryz.f11.params.toList Rows.snookerEntriesSpec.vars false (#[.agg #[.string ⟨#[]⟩,.int .i64 0,.int .i64 0,.int .i64 0],.agg #[.int .i64 0,.int .i64 0,.int .i64 0,.int .i64 0,.string ⟨#[]⟩,.int .i64 0,.int .i64 0,.bool false,.bool false,.int .i64 0,.int .i64 0,.int .i64 0,.int .i64 0],.agg #[.string ⟨#[]⟩,.string ⟨#[]⟩,.slice none 0 0,.slice none 0 0,.int .i64 0]]:Array Value).toList 8=some ([.agg [.lit (.string []),.lit (.int .i64 0),.lit (.int .i64 0),.lit (.int .i64 0)],.agg [.lit (.int .i64 0),.agg [.lit (.int .i64 0),.lit (.int .i64 0)],.lit (.int .i64 0),.lit (.string []),.lit (.int .i64 0),.lit (.int .i64 0),.lit (.bool false),.lit (.bool false),.lit (.int .i64 0),.agg [.lit (.int .i64 0),.lit (.int .i64 0)],.lit (.int .i64 0)],.agg [.lit (.string []),.lit (.string []),.nil,.nil,.lit (.int .i64 0)]],[],places):=
 ⟨[],by kernel_rfl⟩
theorem abj (os:Os):Input.okWideB Tryz.prog ((World.laidAll Tryz.prog os Di).forCall (fun _ _=>0) ⟨#[], #[.agg #[.string ⟨#[]⟩,.int .i64 0,.int .i64 0,.int .i64 0],.agg #[.int .i64 0,.int .i64 0,.int .i64 0,.int .i64 0,.string ⟨#[]⟩,.int .i64 0,.int .i64 0,.bool false,.bool false,.int .i64 0,.int .i64 0,.int .i64 0,.int .i64 0],.agg #[.string ⟨#[]⟩,.string ⟨#[]⟩,.slice none 0 0,.slice none 0 0,.int .i64 0]],[]⟩) 11 ⟨#[], #[.agg #[.string ⟨#[]⟩,.int .i64 0,.int .i64 0,.int .i64 0],.agg #[.int .i64 0,.int .i64 0,.int .i64 0,.int .i64 0,.string ⟨#[]⟩,.int .i64 0,.int .i64 0,.bool false,.bool false,.int .i64 0,.int .i64 0,.int .i64 0,.int .i64 0],.agg #[.string ⟨#[]⟩,.string ⟨#[]⟩,.slice none 0 0,.slice none 0 0,.int .i64 0]],[]⟩=true:=by kernel_rfl
theorem aaR (os:Os) (started:os.Started) (H:Type) (enc:TypeId × Value→H) (F:Stop.Interp):
 ReturnsInHanded {} Tryz.checked os 11 .any ((OpenSpec.ofChange Rows.snookerEntriesSpec).preRow enc Tryz.prog Tryz.f11 Rows.snookerEntriesRow.domain false Rows.snookerEntriesRow.laid) (((OpenSpec.ofChange Rows.snookerEntriesSpec).at F).post enc Tryz.prog Tryz.f11 false true false false):=by
 obtain ⟨places,hx⟩:=aa8 os enc;have hok:=abj os
 refine returnsInHanded_of_row (C:=Tryz.checked) (s:=OpenSpec.ofChange Rows.snookerEntriesSpec) al8 started (by kernel_rfl) Tryz.func11
  ⟨World.laidAll Tryz.prog os Di,fun _ _=>0,⟨#[], #[.agg #[.string ⟨#[]⟩,.int .i64 0,.int .i64 0,.int .i64 0],.agg #[.int .i64 0,.int .i64 0,.int .i64 0,.int .i64 0,.string ⟨#[]⟩,.int .i64 0,.int .i64 0,.bool false,.bool false,.int .i64 0,.int .i64 0,.int .i64 0,.int .i64 0],.agg #[.string ⟨#[]⟩,.string ⟨#[]⟩,.slice none 0 0,.slice none 0 0,.int .i64 0]],[]⟩,World.laidAll_os _ _ _,JQ os _,(Input.okWide_of_okWideB (base:=0) hok).1,(Input.okWide_of_okWideB hok).2,
   OpenSpec.preRow_of_cond 8 hx (by kernel_rfl) (fun k hk=>by cases hk) (by kernel_rfl) (UZ os _),Nh os _ _⟩ ?_
 intro W base args ds gs before hval hW _ _ hsz hL hSh _;exact aat H enc W base args ds gs before hval hW hsz hL hSh
theorem aaJ:joinedFacts Tryz.pinned.checked.prog 11 Tryz.f11 (OpenSpec.ofChange Rows.snookerEntriesSpec).bare Rows.snookerEntriesRow=true:=by
 unfold joinedFacts
 simp only [Bool.and_eq_true]
 repeat' apply And.intro
 all_goals as_aux_lemma=>kernel_rfl
theorem abr:Rows.SnookerEntriesSaid:=
 OpenClaim.holds_of_cond 11 Tryz.f11 rfl rfl rfl rfl rfl rfl rfl ⟨rfl,rfl,rfl,rfl,rfl⟩ rfl rfl rfl rfl rfl (by kernel_rfl) Tryz.func11 aaJ
  (of_decide_eq_true (by kernel_rfl)) (by unfold Func.isWrapper;first | (rw [if_pos (by decide+kernel)];kernel_rfl) | (rw [if_neg (by decide+kernel)];exact ⟨rfl,rfl⟩))
  (fun os started H enc _ F=>by rw [OpenClaim.pre_eq_preRow];exact aaR os started H enc F)
theorem aa0 (f:FuncId) (fn:Func) (hf:Tryz.pinned.checked.prog.funcNamed "baulk/baulklaw06.SnookerEntries" =some f) (hfn:Tryz.pinned.checked.prog.funcs[f]? =some fn):
 true=Tryz.pinned.checked.prog.looks []∧∀ (j:Nat) t,fn.params[j]? =some t→Tryz.pinned.checked.prog.wantsStandIn t=false:=by
 obtain rfl:f=11:=Option.some.inj ((show Tryz.prog.funcNamed "baulk/baulklaw06.SnookerEntries" =some 11 by kernel_rfl).symm.trans hf) |>.symm;obtain rfl:fn=Tryz.f11:=(Option.some.inj (Tryz.func11.symm.trans hfn)).symm;refine ⟨by kernel_rfl,fun j t ht=>?_⟩;rw [Tryz.params11] at ht
 have hm:t∈[23,26,83]:=by simpa using Array.mem_of_getElem? ht
 have hall:([23,26,83].all fun u=> !Tryz.prog.wantsStandIn u)=true:=by kernel_rfl
 exact (show Tryz.prog.wantsStandIn t=false by simpa using List.all_eq_true.1 hall t hm)
theorem snookerEntries_card:Rows.SnookerEntriesCardSaid:=
 Claim7.holds_tied_plain_at .later [] _ _ _ _ abr (fun _ h=>by cases h) (by kernel_rfl) (fun _ h=>by cases h) snookerEntries_row_tie rfl ⟨rfl,rfl⟩ (by kernel_rfl) rfl aa0 (by kernel_rfl)
#print axioms snookerEntries_card
end Go.Proofs.YtjbbfmofpjflmaaGreatDoor
