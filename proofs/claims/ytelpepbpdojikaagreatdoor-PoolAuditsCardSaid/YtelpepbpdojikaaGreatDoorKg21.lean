/- Parts of the proofs about chapter 5 (pool), joined by program. -/
import Derived.Laws.ResultCell
import Derived.Test.YtelpepbpdojikaaGreatDoorKg10
set_option maxHeartbeats 1600000
set_option maxRecDepth 100000
set_option linter.unusedVariables false
set_option linter.unusedSimpArgs false
namespace Go.Proofs.YtelpepbpdojikaaGreatDoor
open Go.RowKit
theorem bF {op:Oper} {a:Act} {W:World} {Q:Exit→Act→World→Prop} {g:Nat} {cs:List Value} {t:TypeId} {K:Act→World→Prop} (h:Held W g cs t) (vs:List Value) (hl:vs.length=cs.length) (hi:(Tryz.prog.info? t).map (·.size)=some cs.length) (h1:∀ v∈vs,v.oneCell'=true) (x y:Operand) (ho:op.op= .store t x y)
 (hx:a.eval x= .pointer (some ⟨g,0,none⟩)) (hy:a.eval y= .agg vs.toArray)
 (k:K (a.put op.dst undef) (W.setCells g 0 vs)):op.wp Tryz.prog a W K Q:=
 wp_store_mid t x y ho g 0 vs.toArray hx hy (by rw [jD rfl hl];exact h.there) (by rw [jD rfl hl];exact hi) (all_oneCell_toArray h1) (by rw [List.toList_toArray];exact k)
theorem kN {g:Nat}:∀ (vs:List Value) (o p q:Nat) {W:World},p≠g→(W.setCells g o vs).cell? ⟨p,q,none⟩=W.cell? ⟨p,q,none⟩
 | [],_,_,_,_,_=>rfl
 | v::r,o,p,q,W,h=>(kN r (o+1) p q h).trans (World.cell?_setCell_other W ⟨g,o,none⟩ ⟨p,q,none⟩ v (fun e=>h (congrArg Addr.block e).symm))
def aW (s:M.State) (A:Option Addr) (c:Nat):List Value:=[.int .i64 s.turn,.bool s.brk,.bool s.hand,.bool s.push,.bool s.pushed,.int .i64 s.group,.slice A s.ay.length c,.int .i64 s.s0,.int .i64 s.s1,.int .i64 s.f0,.int .i64 s.f1,.int .i64 s.run,.int .i64 s.aZ,.bool s.over,.int .i64 s.bC]
theorem dL (s:M.State) (A:Option Addr) (c:Nat):∀ v∈aW s A c,v.oneCell'=true:=by simp [aW,Value.oneCell']
def aj:List Value:=[.int .i64 0,.bool false,.bool false,.bool false,.bool false,.int .i64 0,.slice none 0 0,.int .i64 0,.int .i64 0,.int .i64 0,.int .i64 0,.int .i64 0,.int .i64 0,.bool false,.int .i64 0]
theorem kV:(Tryz.prog.info? 23).map (·.size)=some 3:=by kernel_rfl
theorem BJ (r:M.Rules) (w:World):
 Calls Tryz.prog 64 #[jM r] w fun e w'=>∃ A' c',e= .returned (dH r (M.start r) A' c')∧bD w' (fun b=>w.heap.size≤b) A' c' (M.start r).ay∧Below w.heap.size w w':=by
 go_enter Tryz.func64,Tryz.ntmps64
 go_upto_region 0 with (fail)
 go_cut [1,2] (fun v1 v2 wx=>v1=ptr w.heap.size∧v2=ptr (w.heap.size+1)∧bU w wx [([.string r.game,.int .i64 r.target,.int .i64 r.aY],23),(aK,127)])
 case first=>
  go_wp2
  go_meet
  exact ⟨rfl,rfl,(((bU.nil w).new (by simp) ([.string r.game,.int .i64 r.target,.int .i64 r.aY]) _).new (by simp) (aK) _)⟩
 case rest=>
  obtain ⟨rfl,rfl,hB⟩:=hcut
  have xA:=hB.size (by simp)
  simp only [List.length_cons,List.length_nil] at xA
  have hrR:∀ W:World,(fun w':World=>∀ p q,p<w.heap.size+1→w'.cell? ⟨p,q,none⟩=wc.cell? ⟨p,q,none⟩) W→W.rangeAt w.heap.size 0 ([.string r.game,.int .i64 r.target,.int .i64 r.aY]):=fun W h j v hj=>by rw [h _ _ (by omega)];exact (hB.bf rfl).range j v hj
  go_upto_region 1 with (fail)
  go_cut [] (fun wx=>∃ A1 c1,bU w wx [([.string r.game,.int .i64 r.target,.int .i64 r.aY],23),(ah r (M.start r) A1 c1,127)]∧bD wx (fun b=>w.heap.size+2≤b) A1 c1 (M.jA r))
  case first=>
   refine wp_region_held_drew (S:=(fun w':World=>∀ p q,p<w.heap.size+1→w'.cell? ⟨p,q,none⟩=wc.cell? ⟨p,q,none⟩)) (by kernel_rfl) ?eP (fun hHeld=>?_)
   case eP=>first | exact fun p q h=>hk2 p q h | exact fun p q h=>hk1 p q h | exact fun p q h=>rfl
   refine wpAnyH_take (i:=0) (oi:=_) (v:=_) (ga rfl) (by kernel_rfl) (by kernel_rfl) (by kernel_rfl) (fun _ _ _ h=>h) (yieldsIf_load_mid (by rfl) _ _ (by rfl) _ _ (by rfl) _ _ hrR Tryz.underlying23 rfl (by kernel_rfl)) (by assumption) ?_
   try simp only [Act.put,la,lz,ls]
   refine wpAnyH_take (i:=1) (oi:=_) (v:=_) (ga rfl) (by kernel_rfl) (by kernel_rfl) (by kernel_rfl) (fun _ _ _ h=>h) (yieldsIf_load_mid (by rfl) _ _ (by rfl) _ _ (by rfl) _ _ hrR Tryz.underlying23 rfl (by kernel_rfl)) (by assumption) ?_
   try simp only [Act.put,la,lz,ls]
   refine tr 2 fun K hK=>?_
   go_simp
   (go_at_call 92;refine (zW r _).mono ?_;rintro e w1 ⟨A1,c1,rfl,hr1,hb1⟩;have hD:=hB.drew.call (by simp) hb1;have hk1:=fun p q (h:p<w.heap.size+1)=>hb1.cell (p:=⟨p,q,none⟩) (by show p<wc.heap.size;omega))
   refine hK.out _ _ ?Td (fun hHeld=>?_)
   case Td=>(first | (first | exact fun p q h=>hk2 p q h | exact fun p q h=>hk1 p q h | exact fun p q h=>rfl) | (dsimp only;first | exact fun p q h=>hk2 p q h | exact fun p q h=>hk1 p q h | exact fun p q h=>rfl))
   clear hK K
   try simp only [Act.put,la,lz,ls]
   refine tk 3 ?_
   refine tk 4 ?_
   refine tr 5 fun K hK=>?_
   have hE:=hD.put 1 rfl (ah r (M.start r) A1 c1) rfl;have hk2:=fun p q (h:p<w.heap.size+1)=>(kN (W:=w1) (g:=w.heap.size+1) (ah r (M.start r) A1 c1) 0 p q (by omega)).trans (hk1 p q h);refine bF (hD.get 1 rfl) (ah r (M.start r) A1 c1) rfl ak (aX _ _ _ _) (.tmp 2) (.tmp 7) rfl rfl rfl ?_
   refine hK.out _ _ ?Tf (fun hHeld=>?_)
   case Tf=>(first | (first | exact fun p q h=>hk2 p q h | exact fun p q h=>hk1 p q h | exact fun p q h=>rfl) | (dsimp only;first | exact fun p q h=>hk2 p q h | exact fun p q h=>hk1 p q h | exact fun p q h=>rfl))
   clear hK K
   try simp only [Act.put,la,lz,ls]
   refine wpAnyH_done (by kernel_rfl) ?_ _
   go_wp2
   go_meet
   exact ⟨A1,c1,hE,(hr1.above (D:=w.heap.size+2) (fun b h=>Nat.le_trans xA h) (iT.setCells (by omega) _ _ _ (iT.refl _ _))).more (fun b _ h=>Nat.le_trans xA h)⟩
  case rest=>
   obtain ⟨A1,c1,hC,hr1⟩:=hcut
   go_wp2
   exact bodyPost_ret (bP (p:=2) (hC.get 1 rfl) Tryz.underlying127 rfl ak rfl _ rfl) rfl ⟨A1,c1,rfl,hr1.more (fun b _ h=>by omega),hC.bw⟩
end Go.Proofs.YtelpepbpdojikaaGreatDoor
