/- Parts of the proofs about chapter 5 (pool), joined by program. -/
import Derived.Test.YtelpepbpdojikaaGreatDoorKg21
import Derived.Test.YtelpepbpdojikaaGreatDoorKz13
set_option maxHeartbeats 1600000
set_option maxRecDepth 100000
set_option linter.unusedVariables false
set_option linter.unusedSimpArgs false
namespace Go.Proofs.YtelpepbpdojikaaGreatDoor
open Go.RowKit
theorem ZB {W:World} {g:Nat} {cs:List Value} {t:TypeId} {d:TypeDesc} {fn:Func} {p u:Tmp} (h:Held W g cs t) (hu:Tryz.prog.underlying t=some d) (hd:d.isRow=true) (hi:(Tryz.prog.info? t).map (·.size)=some cs.length) (hr:fn.results= #[.cell p t,.tmp u]) (tmps:Array Value) (hp:tmps.getD p undef= .pointer (some ⟨g,0,none⟩)):
 (results fn tmps).run Tryz.prog W= .ok (.tuple #[.agg cs.toArray,tmps.getD u undef]) W:=by
 rw [results_cell_tmp hr,hp]
 simp only [asAddr,Sem.run_pure,Result.andThen_ok,run_loadVar_row W g t t cs.toArray (0,0) d h hu (by cases d <;> first | rfl | cases hd) (by rw [jD rfl rfl];exact hi)]
theorem afK (v0 v1 v2 v3 v4 v5 v6 v7 v8 v9 v10 v11 v12 v13 v14 v15 v16 v17:Value) (w:World):(Instr.field 127 (.agg #[v0,v1,v2,v3,v4,v5,v6,v7,v8,v9,v10,v11,v12,v13,v14,v15,v16,v17]) 1).run Tryz.prog w= .ok (.agg #[v3,v4,v5,v6,v7,v8,v9,v10,v11,v12,v13,v14,v15,v16,v17]) w:=by kernel_rfl
theorem ain (r:M.Rules) (w:World):
 Calls Tryz.prog 36 #[jM r] w fun e w'=>∃ A' c',e= .returned (.tuple #[wF (if M.aH r=0 then M.start r else M.zero) A' c',.int .i64 (M.aH r)])∧bD w' (fun b=>w.heap.size≤b) A' c' (if M.aH r=0 then M.start r else M.zero).ay∧Below w.heap.size w w':=by
 have hfs:=afK
 go_enter Tryz.func36,Tryz.ntmps36
 go_upto_region 0 with (fail)
 go_cut [1,2] (fun v1 v2 wx=>v1=ptr w.heap.size∧v2=ptr (w.heap.size+1)∧bU w wx [([.string r.game,.int .i64 r.target,.int .i64 r.aY],23),(aj,33)])
 case first=>
  go_wp2
  go_meet
  exact ⟨rfl,rfl,(((bU.nil w).new (by simp) ([.string r.game,.int .i64 r.target,.int .i64 r.aY]) _).new (by simp) (aj) _)⟩
 case rest=>
  obtain ⟨rfl,rfl,hB⟩:=hcut
  have xA:=hB.size (by simp)
  simp only [List.length_cons,List.length_nil] at xA
  go_upto_region 1 with (fail)
  go_cut [4] (fun v wx=>v= .int .i64 (M.aH r)∧bU w wx [([.string r.game,.int .i64 r.target,.int .i64 r.aY],23),(aj,33)])
  case first=>
   have hF:=hB.bf rfl
   have k0:=hF.cell (j:=0) rfl
   have GL:=hF.frozen 0
   have k1:=hF.cell (j:=1) rfl
   have JE:=hF.frozen 1
   have k2:=hF.cell (j:=2) rfl
   have Pn:=hF.frozen 2
   go_wp2_with (go_at_call 39;refine (dP r _).mono ?_;rintro e w1 ⟨rfl,hb1⟩;have hB1:=hB.call (by simp) hb1)
   go_meet
   exact ⟨rfl,hB1⟩
  case rest=>
   obtain ⟨rfl,hB1⟩:=hcut
   clear hB xA
   have xA:=hB1.size (by simp)
   simp only [List.length_cons,List.length_nil] at xA
   have hF:=hB1.bf rfl
   have k0:=hF.cell (j:=0) rfl
   have GL:=hF.frozen 0
   have k1:=hF.cell (j:=1) rfl
   have JE:=hF.frozen 1
   have k2:=hF.cell (j:=2) rfl
   have Pn:=hF.frozen 2
   by_cases hz:M.aH r=0
   · have hz':(M.aH r != 0)=false:=by simp [hz]
     have HZ:=hide hz
     clear hz
     go_wp2_with (first | (go_at_call 64;refine (BJ r _).mono ?_;rintro e w2 ⟨A2,c2,rfl,hr2,hb2⟩;have hB2:=hB1.call (by simp) hb2) | (refine aO 33 (.tmp 2) (.tmp 13) rfl ?_;refine aF (hB2.get 1 rfl) (aW (M.start r) A2 c2) rfl bW (dL _ _ _) rfl (.tmp 2) (.tmp 13) rfl rfl rfl ?_))
     have hE:=hB2.put 1 rfl (aW (M.start r) A2 c2) rfl
     refine bodyPost_ret (ZB (p:=2) (hE.get 1 rfl) Tryz.underlying33 rfl bW rfl _ rfl) rfl ⟨A2,c2,?_,?_,hE.bw⟩
     · rfl
     · exact (hr2.above (D:=w.heap.size+2) (fun b h=>Nat.le_trans xA h) (iT.setCells (by omega) _ _ _ (iT.refl _ _))).more (fun b _ h=>by omega)
   · have hz':(M.aH r != 0)=true:=by simp [hz]
     have HZ:=hide hz
     clear hz
     go_wp2_with (first | (refine aO 33 (.tmp 2) (.tmp 9) rfl ?_;refine aF (hB1.get 1 rfl) (aj) rfl bW (dL M.zero none 0) rfl (.tmp 2) (.tmp 9) rfl rfl rfl ?_))
     have hE:=hB1.put 1 rfl aj rfl
     refine bodyPost_ret (ZB (p:=2) (hE.get 1 rfl) Tryz.underlying33 rfl bW rfl _ rfl) rfl ⟨none,0,?_,?_,hE.bw⟩
     · rfl
     · exact Reads.none_ _ _ _
theorem aiB {p:World→Prop} {W:World} (h:∀ W',W'=W→p W'):p W:=h W rfl
end Go.Proofs.YtelpepbpdojikaaGreatDoor
