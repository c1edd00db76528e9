/- Parts of a proof. -/
import Derived.Laws.ResultCell
import Derived.Test.YtcjglfbpjkdgiaaGreatDoorKk39
set_option maxHeartbeats 1600000
set_option maxRecDepth 100000
set_option linter.unusedVariables false
set_option linter.unusedSimpArgs false
namespace Go.Proofs.YtcjglfbpjkdgiaaGreatDoor
open Go.RowKit
theorem jB {op:Oper} {a:Act} {W:World} {Q:Exit→Act→World→Prop} {g:Nat} {cs:List Value} {t:TypeId} {K:Act→World→Prop} (h:Held W g cs t) (vs:List Value) (hl:vs.length=cs.length) (hi:(Tryz.prog.info? t).map (·.size)=some cs.length) (h1:∀ v∈vs,v.oneCell'=true) (x y:Operand) (ho:op.op= .store t x y)
 (hx:a.eval x= .pointer (some ⟨g,0,none⟩)) (hy:a.eval y= .agg vs.toArray)
 (k:K (a.put op.dst undef) (W.setCells g 0 vs)):op.wp Tryz.prog a W K Q:=
 wp_store_mid t x y ho g 0 vs.toArray hx hy (by rw [gU rfl hl];exact h.there) (by rw [gU rfl hl];exact hi) (all_oneCell_toArray h1) (by rw [List.toList_toArray];exact k)
theorem jI {g:Nat}:∀ (vs:List Value) (o p q:Nat) {W:World},p≠g→(W.setCells g o vs).cell? ⟨p,q,none⟩=W.cell? ⟨p,q,none⟩
 | [],_,_,_,_,_=>rfl
 | v::r,o,p,q,W,h=>(jI r (o+1) p q h).trans (World.cell?_setCell_other W ⟨g,o,none⟩ ⟨p,q,none⟩ v (fun e=>h (congrArg Addr.block e).symm))
def aJ (s:M.State) (A:Option Addr) (c:Nat):List Value:=[.int .i64 s.turn,.bool s.brk,.bool s.hand,.bool s.push,.bool s.pushed,.int .i64 s.group,.slice A s.au.length c,.int .i64 s.s0,.int .i64 s.s1,.int .i64 s.f0,.int .i64 s.f1,.int .i64 s.run,.int .i64 s.bI,.bool s.over,.int .i64 s.bP]
theorem fG (s:M.State) (A:Option Addr) (c:Nat):∀ v∈aJ s A c,v.oneCell'=true:=by simp [aJ,Value.oneCell']
def aZ:List Value:=[.int .i64 0,.bool false,.bool false,.bool false,.bool false,.int .i64 0,.slice none 0 0,.int .i64 0,.int .i64 0,.int .i64 0,.int .i64 0,.int .i64 0,.int .i64 0,.bool false,.int .i64 0]
theorem dB:(Tryz.prog.info? 23).map (·.size)=some 3:=by kernel_rfl
theorem fF (r:M.Rules) (w:World):
 Calls Tryz.prog 36 #[iJ r] w fun e w'=>∃ A' c',e= .returned (dX r (M.start r) A' c')∧bQ w' (fun b=>w.heap.size≤b) A' c' (M.start r).au∧Below w.heap.size w w':=by
 go_enter Tryz.func36,Tryz.ntmps36
 go_upto_region 0 with (fail)
 go_cut [1,2] (fun v1 v2 wx=>v1=ptr w.heap.size∧v2=ptr (w.heap.size+1)∧aX w wx [([.string r.game,.int .i64 r.target,.int .i64 r.bD],23),(aY,99)])
 case first=>
  go_wp2;go_meet;exact ⟨rfl,rfl,(((aX.nil w).new (by simp) ([.string r.game,.int .i64 r.target,.int .i64 r.bD]) _).new (by simp) (aY) _)⟩
 case rest=>
  obtain ⟨rfl,rfl,hB⟩:=hcut;have qB:=hB.size (by simp)
  simp only [List.length_cons,List.length_nil] at qB
  have hrR:∀ W:World,(fun w':World=>∀ p q,p<w.heap.size+1→w'.cell? ⟨p,q,none⟩=wc.cell? ⟨p,q,none⟩) W→W.rangeAt w.heap.size 0 ([.string r.game,.int .i64 r.target,.int .i64 r.bD]):=fun W h j v hj=>by rw [h _ _ (by omega)];exact (hB.ah rfl).range j v hj
  go_upto_region 1 with (fail)
  go_cut [] (fun wx=>∃ A1 c1,aX w wx [([.string r.game,.int .i64 r.target,.int .i64 r.bD],23),(aj r (M.start r) A1 c1,99)]∧bQ wx (fun b=>w.heap.size+2≤b) A1 c1 (M.jr r))
  case first=>
   refine wp_region_held_drew (S:=(fun w':World=>∀ p q,p<w.heap.size+1→w'.cell? ⟨p,q,none⟩=wc.cell? ⟨p,q,none⟩)) (by kernel_rfl) ?dL (fun hHeld=>?_)
   case dL=>first | exact fun p q h=>hk2 p q h | exact fun p q h=>hk1 p q h | exact fun p q h=>rfl
   refine wpAnyH_take (i:=0) (oi:=_) (v:=_) (ga rfl) (by kernel_rfl) (by kernel_rfl) (by kernel_rfl) (fun _ _ _ h=>h) (yieldsIf_load_mid (by rfl) _ _ (by rfl) _ _ (by rfl) _ _ hrR Tryz.underlying23 rfl (by kernel_rfl)) (by assumption) ?_
   try simp only [Act.put,la,lz,ls]
   refine wpAnyH_take (i:=1) (oi:=_) (v:=_) (ga rfl) (by kernel_rfl) (by kernel_rfl) (by kernel_rfl) (fun _ _ _ h=>h) (yieldsIf_load_mid (by rfl) _ _ (by rfl) _ _ (by rfl) _ _ hrR Tryz.underlying23 rfl (by kernel_rfl)) (by assumption) ?_
   try simp only [Act.put,la,lz,ls]
   refine tr 2 fun K hK=>?_;go_simp
   (go_at_call 68;refine (Dw r _).mono ?_;rintro e w1 ⟨A1,c1,rfl,hr1,hb1⟩;have hD:=hB.drew.call (by simp) hb1;have hk1:=fun p q (h:p<w.heap.size+1)=>hb1.cell (p:=⟨p,q,none⟩) (by show p<wc.heap.size;omega))
   refine hK.out _ _ ?UU (fun hHeld=>?_)
   case UU=>(first | (first | exact fun p q h=>hk2 p q h | exact fun p q h=>hk1 p q h | exact fun p q h=>rfl) | (dsimp only;first | exact fun p q h=>hk2 p q h | exact fun p q h=>hk1 p q h | exact fun p q h=>rfl))
   clear hK K
   try simp only [Act.put,la,lz,ls]
   refine tk 3 ?_;refine tk 4 ?_;refine tr 5 fun K hK=>?_;have hE:=hD.put 1 rfl (aj r (M.start r) A1 c1) rfl;have hk2:=fun p q (h:p<w.heap.size+1)=>(jI (W:=w1) (g:=w.heap.size+1) (aj r (M.start r) A1 c1) 0 p q (by omega)).trans (hk1 p q h);refine jB (hD.get 1 rfl) (aj r (M.start r) A1 c1) rfl ay (bM _ _ _ _) (.tmp 2) (.tmp 7) rfl rfl rfl ?_;refine hK.out _ _ ?U7 (fun hHeld=>?_)
   case U7=>(first | (first | exact fun p q h=>hk2 p q h | exact fun p q h=>hk1 p q h | exact fun p q h=>rfl) | (dsimp only;first | exact fun p q h=>hk2 p q h | exact fun p q h=>hk1 p q h | exact fun p q h=>rfl))
   clear hK K
   try simp only [Act.put,la,lz,ls]
   refine wpAnyH_done (by kernel_rfl) ?_ _;go_wp2;go_meet;exact ⟨A1,c1,hE,(hr1.above (D:=w.heap.size+2) (fun b h=>Nat.le_trans qB h) (iG.setCells (by omega) _ _ _ (iG.refl _ _))).more (fun b _ h=>Nat.le_trans qB h)⟩
  case rest=>
   obtain ⟨A1,c1,hC,hr1⟩:=hcut;go_wp2;exact bodyPost_ret (bf (p:=2) (hC.get 1 rfl) Tryz.underlying99 rfl ay rfl _ rfl) rfl ⟨A1,c1,rfl,hr1.more (fun b _ h=>by omega),hC.bw⟩
theorem qh {W:World} {g:Nat} {cs:List Value} {t:TypeId} {d:TypeDesc} {fn:Func} {p u:Tmp} (h:Held W g cs t) (hu:Tryz.prog.underlying t=some d) (hd:d.isRow=true) (hi:(Tryz.prog.info? t).map (·.size)=some cs.length) (hr:fn.results= #[.cell p t,.tmp u]) (tmps:Array Value) (hp:tmps.getD p undef= .pointer (some ⟨g,0,none⟩)):
 (results fn tmps).run Tryz.prog W= .ok (.tuple #[.agg cs.toArray,tmps.getD u undef]) W:=by
 rw [results_cell_tmp hr,hp]
 simp only [asAddr,Sem.run_pure,Result.andThen_ok,run_loadVar_row W g t t cs.toArray (0,0) d h hu (by cases d <;> first | rfl | cases hd) (by rw [gU rfl rfl];exact hi)]
theorem Ii (v0 v1 v2 v3 v4 v5 v6 v7 v8 v9 v10 v11 v12 v13 v14 v15 v16 v17:Value) (w:World):(Instr.field 99 (.agg #[v0,v1,v2,v3,v4,v5,v6,v7,v8,v9,v10,v11,v12,v13,v14,v15,v16,v17]) 1).run Tryz.prog w= .ok (.agg #[v3,v4,v5,v6,v7,v8,v9,v10,v11,v12,v13,v14,v15,v16,v17]) w:=by kernel_rfl
theorem rD {p:World→Prop} {W:World} (h:∀ W',W'=W→p W'):p W:=h W rfl
theorem dM {md:Region.Mode} {ops:Array Oper} {Q:Exit→Act→World→Prop} {S:World→Prop} {fuel:Nat} {listed:Array Bool} {a:Act} {w:World} {i:Nat} {o:Oper} {g:Nat} {cs:List Value} {t:TypeId} (ho:ops[i]? =some o) (hw:Region.wanted o (yielded ops a.tmps)=true)
 (h:Held w g cs t) (vs:List Value) (hl:vs.length=cs.length) (hi:(Tryz.prog.info? t).map (·.size)=some cs.length) (h1:∀ v∈vs,v.oneCell'=true) (x y:Operand) (hop:o.op= .store t x y) (hx:a.eval x= .pointer (some ⟨g,0,none⟩)) (hy:a.eval y= .agg vs.toArray)
 (hS:S (w.setCells g 0 vs)) (k:wpAnyH Tryz.prog md ops Q S fuel (listed.setIfInBounds i true) (a.put o.dst undef) (w.setCells g 0 vs)):AllReadyH Tryz.prog md ops Q S fuel listed a w [i]:=
 AllReadyH.cons ho (fun K hK=>by rw [if_pos hw];exact jB h vs hl hi h1 x y hop hx hy (hK.out _ _ hS (fun _=>k))) AllReadyH.nil
theorem Qj {P:Program} {md:Region.Mode} {ops:Array Oper} {Q:Exit→Act→World→Prop} {S:World→Prop} {n:Nat} {l:Array Bool} {a:Act} {w:World} (h:∀ f:Nat→Array Bool→Act→World→Prop,f=wpAnyH P md ops Q S→f n l a w):wpAnyH P md ops Q S n l a w:=h _ rfl
end Go.Proofs.YtcjglfbpjkdgiaaGreatDoor
