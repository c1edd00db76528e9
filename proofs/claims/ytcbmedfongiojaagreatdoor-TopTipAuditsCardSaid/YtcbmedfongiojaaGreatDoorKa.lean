/- TopTipAudits: for every input the law returns true, and each argument reads afterwards as it read before. Conditions: the listed package-level variables hold what the program's text lays (the card ties them). -/
import Derived.Test.YtcbmedfongiojaaGreatDoorKa10
import Derived.Test.YtcbmedfongiojaaGreatDoorKa9
import Derived.Test.YtcbmedfongiojaaGreatDoorKt14
set_option maxHeartbeats 16000000
set_option maxRecDepth 100000
set_option linter.unusedVariables false
set_option linter.unusedSimpArgs false
namespace Go.Proofs.YtcbmedfongiojaaGreatDoor
open Go.ChangeShapes Go.WideShapes Go.ChangeAt Go.RowKit
theorem afL (H:Type) (enc:TypeId × Value→H) (W:World) (base:Nat) (args:Array Value) (ds gs:List (DataW H)) (before:List MemPlace)
 (hval:∀ (j:Nat) t v,Tryz.f4.params[j]? =some t→args[j]? =some v→Value.okWide Tryz.prog W .any base t v)
 (hW:DataW.Whole enc Tryz.prog Tryz.f4.params.toList Rows.topTipAuditsSpec.vars false W args.toList ds gs before)
 (hsz:(DataW.weightsEach Tryz.prog (Tryz.f4.params.toList++(OpenSpec.ofChange Rows.topTipAuditsSpec).bare.plain.varTypes Tryz.prog) (ds++gs)).all (· ≤reachBytes)=true)
 (hL:laidMetH Tryz.prog CU W) (hSh:W.ShapedOpen Tryz.prog):
 Calls Tryz.prog 4 args W fun e W'=>∃ v,e= .returned v∧Rows.topTipAuditsSpec.post enc Tryz.prog Tryz.f4 false true false false W args v W':=by
 have hG:=globs hL hSh;have hW':=hW;obtain ⟨p,q,hA0,hV,rfl,hfz,hnd⟩:=hW;have hA:DataW.TrodAll enc Tryz.prog W 0 (fun _=>true) true Tryz.f4.params.toList args.toList ds p:=hA0;rw [Tryz.params4] at hA hval;obtain ⟨v0,vs0,d0,ds0,p0,q0,e0,rfl,rfl,h0,r0⟩:=trodAll_cons hA;obtain ⟨v1,vs1,d1,ds1,p1,q1,e1,rfl,rfl,h1,r1⟩:=trodAll_cons r0;obtain ⟨v2,vs2,d2,ds2,p2,q2,e2,rfl,rfl,h2,r2⟩:=trodAll_cons r1;obtain ⟨rfl,rfl,rfl⟩:=trodAll_nil r2;subst e2;subst e1
 obtain rfl:args= #[v0,v1,v2]:=by cases args;simp_all
 obtain ⟨rfl,rfl⟩:=trodVars_none hV;have hw0:=aaK (hsz);have hw1:=aaK (aau (hsz));have hw2:=aaK (aau (aau (hsz)));clear hsz hA0;obtain ⟨g0,rfl⟩:=Si (hval 0 _ v0 rfl rfl) h0;obtain ⟨A1,c1,l1,rfl,hr1,hn1⟩:=ayh (hval 1 _ v1 rfl rfl) h1 hw1;obtain ⟨n2,e2x,rfl,hu2,hr2⟩:=ayo (hval 2 _ v2 rfl rfl) h2 hw2;refine (aox (fun _=>True) g0 l1 A1 c1 n2 e2x hu2 W hG hr1 hn1 hr2).mono fun e W' ⟨he,hb⟩=>?_;subst he;exact ⟨_,rfl,LU laidOutP (by rw [Tryz.params4];intro t ht;simp only [List.mem_cons,List.mem_nil_iff,or_false] at ht;rcases ht with rfl | rfl | rfl <;> exact ⟨of_decide_eq_true (by kernel_rfl),by kernel_rfl⟩) rfl rfl Tryz.underlying4 rfl rfl rfl hW' hb⟩
theorem aie (os:Os) {H:Type} (enc:TypeId × Value→H):∃ places,DataW.whole enc Tryz.prog ((World.laidAll Tryz.prog os CU).forCall (fun _ _=>0) ⟨#[], #[.agg #[.string ⟨#[]⟩,.int .i64 0,.int .i64 0,.int .i64 0],.slice none 0 0,.agg #[.int .u8 0,.string ⟨#[]⟩,.string ⟨#[]⟩,.slice none 0 0,.slice none 0 0,.int .i64 0]],[]⟩).memory Tryz.f4.params.toList Rows.topTipAuditsSpec.vars false (#[.agg #[.string ⟨#[]⟩,.int .i64 0,.int .i64 0,.int .i64 0],.slice none 0 0,.agg #[.int .u8 0,.string ⟨#[]⟩,.string ⟨#[]⟩,.slice none 0 0,.slice none 0 0,.int .i64 0]]:Array Value).toList 8=some ([.agg [.lit (.string []),.lit (.int .i64 0),.lit (.int .i64 0),.lit (.int .i64 0)],.nil,.agg [.lit (.int .u8 0),.agg [.lit (.string []),.lit (.string []),.nil,.nil,.lit (.int .i64 0)]]],[],places):=
 ⟨[],by kernel_rfl⟩
theorem aiF (os:Os):Input.okWideB Tryz.prog ((World.laidAll Tryz.prog os CU).forCall (fun _ _=>0) ⟨#[], #[.agg #[.string ⟨#[]⟩,.int .i64 0,.int .i64 0,.int .i64 0],.slice none 0 0,.agg #[.int .u8 0,.string ⟨#[]⟩,.string ⟨#[]⟩,.slice none 0 0,.slice none 0 0,.int .i64 0]],[]⟩) 4 ⟨#[], #[.agg #[.string ⟨#[]⟩,.int .i64 0,.int .i64 0,.int .i64 0],.slice none 0 0,.agg #[.int .u8 0,.string ⟨#[]⟩,.string ⟨#[]⟩,.slice none 0 0,.slice none 0 0,.int .i64 0]],[]⟩=true:=by kernel_rfl
theorem ahh (os:Os) (started:os.Started) (H:Type) (enc:TypeId × Value→H) (F:Stop.Interp):
 ReturnsInHanded {} Tryz.checked os 4 .any ((OpenSpec.ofChange Rows.topTipAuditsSpec).preRow enc Tryz.prog Tryz.f4 Rows.topTipAuditsRow.domain false Rows.topTipAuditsRow.laid) (((OpenSpec.ofChange Rows.topTipAuditsSpec).at F).post enc Tryz.prog Tryz.f4 false true false false):=by
 obtain ⟨places,hx⟩:=aie os enc;have hok:=aiF os
 refine returnsInHanded_of_row (C:=Tryz.checked) (s:=OpenSpec.ofChange Rows.topTipAuditsSpec) alY started (by kernel_rfl) Tryz.func4
  ⟨World.laidAll Tryz.prog os CU,fun _ _=>0,⟨#[], #[.agg #[.string ⟨#[]⟩,.int .i64 0,.int .i64 0,.int .i64 0],.slice none 0 0,.agg #[.int .u8 0,.string ⟨#[]⟩,.string ⟨#[]⟩,.slice none 0 0,.slice none 0 0,.int .i64 0]],[]⟩,World.laidAll_os _ _ _,JK os _,(Input.okWide_of_okWideB (base:=0) hok).1,(Input.okWide_of_okWideB hok).2,
   OpenSpec.preRow_of_cond 8 hx (by kernel_rfl) (fun k hk=>by cases hk) (by kernel_rfl) (Vz os _),Np os _ _⟩ ?_
 intro W base args ds gs before hval hW _ _ hsz hL hSh _;exact afL H enc W base args ds gs before hval hW hsz hL hSh
theorem ag9:joinedFacts Tryz.pinned.checked.prog 4 Tryz.f4 (OpenSpec.ofChange Rows.topTipAuditsSpec).bare Rows.topTipAuditsRow=true:=by
 unfold joinedFacts
 simp only [Bool.and_eq_true]
 repeat' apply And.intro
 all_goals as_aux_lemma=>kernel_rfl
theorem aiN:Rows.TopTipAuditsSaid:=
 OpenClaim.holds_of_cond 4 Tryz.f4 rfl rfl rfl rfl rfl rfl rfl ⟨rfl,rfl,rfl,rfl,rfl⟩ rfl rfl rfl rfl rfl (by kernel_rfl) Tryz.func4 ag9
  (of_decide_eq_true (by kernel_rfl)) (by unfold Func.isWrapper;first | (rw [if_pos (by decide+kernel)];kernel_rfl) | (rw [if_neg (by decide+kernel)];exact ⟨rfl,rfl⟩))
  (fun os started H enc _ F=>by rw [OpenClaim.pre_eq_preRow];exact ahh os started H enc F)
theorem ah4 (f:FuncId) (fn:Func) (hf:Tryz.pinned.checked.prog.funcNamed "baulk/baulktop.TopTipAudits" =some f) (hfn:Tryz.pinned.checked.prog.funcs[f]? =some fn):
 true=Tryz.pinned.checked.prog.looks []∧∀ (j:Nat) t,fn.params[j]? =some t→Tryz.pinned.checked.prog.wantsStandIn t=false:=by
 obtain rfl:f=4:=Option.some.inj ((show Tryz.prog.funcNamed "baulk/baulktop.TopTipAudits" =some 4 by kernel_rfl).symm.trans hf) |>.symm;obtain rfl:fn=Tryz.f4:=(Option.some.inj (Tryz.func4.symm.trans hfn)).symm;refine ⟨by kernel_rfl,fun j t ht=>?_⟩;rw [Tryz.params4] at ht
 have hm:t∈[23,38,43]:=by simpa using Array.mem_of_getElem? ht
 have hall:([23,38,43].all fun u=> !Tryz.prog.wantsStandIn u)=true:=by kernel_rfl
 exact (show Tryz.prog.wantsStandIn t=false by simpa using List.all_eq_true.1 hall t hm)
theorem topTipAudits_card:Rows.TopTipAuditsCardSaid:=
 Claim7.holds_tied_plain_at .later [] _ _ _ _ aiN (fun _ h=>by cases h) (by kernel_rfl) (fun _ h=>by cases h) topTipAudits_row_tie rfl ⟨rfl,rfl⟩ (by kernel_rfl) rfl ah4 (by kernel_rfl)
#print axioms topTipAudits_card
end Go.Proofs.YtcbmedfongiojaaGreatDoor
