/- Parts of a proof. -/
import Derived.Test.YtjbbfmofpjflmaaGreatDoorKr33
import Derived.Test.YtjbbfmofpjflmaaGreatDoorKr34
set_option linter.unusedVariables false
set_option linter.unusedSimpArgs false
namespace Go.Proofs.YtjbbfmofpjflmaaGreatDoor
open Go.RowKit
theorem MO {g:Sk.Game} {s:Sk.State} (h:Sk.Ok g s):(0≤s.aY∧s.aY≤15)∧(0≤s.t0∧s.t0≤100)∧(0≤s.t1∧s.t1≤100):=by
 have h1:=h.inr.aY;have h2:=h.inr.t0;have h3:=h.inr.t1
 rcases Sk.iW h.game with ⟨_,a,_,b⟩ | ⟨_,a,_,b⟩ | ⟨_,a,_,b⟩ <;> omega
theorem OL {g:Sk.Game} {e:Sk.Entry} (h:Sk.dH g e=0) (h1:¬ e.kind=Sk.gu) (h2:¬ e.kind=Sk.iI) (h3:¬ e.kind=Sk.fJ):e.kind=Sk.cO:=by
 unfold Sk.dH at h
 by_cases hk:Sk.isKind e.kind=false
 · rw [if_pos hk] at h;cases h
 · unfold Sk.isKind at hk
   simp only [h1,h2,h3,or_false,decide_eq_false_iff_not,Decidable.not_not] at hk
   exact hk
theorem xg {g:Sk.Game} {e:Sk.Entry} (h:Sk.dH g e=0) (hk:e.kind=Sk.cO):e.aF.length≤22:=by
 unfold Sk.dH at h
 by_cases h1:Sk.isKind e.kind=false
 · rw [if_pos h1] at h;cases h
 · rw [if_neg h1,if_neg (by simp [hk])] at h
   by_cases h2:22<e.hits.length∨22<e.aF.length
   · rw [if_pos h2] at h;cases h
   · omega
theorem G8 (S:Nat→Prop) (g:Sk.Game) (s:Sk.State) (e:En) (w:World) (h:Sk.Ok g s) (hx:Sk.dH g e.x=0) (he:iL w S e):Calls Tryz.prog 48 #[lX g,jE s,rU e] w fun e_ w'=>e_= .returned (.int .i64 (Sk.legal g s e.x))∧Below w.heap.size w w':=by
 have hc:=G9 S g s e w h.inr.turn h.inr.colour h.inr.s0 h.inr.s1 he
 rwa [Sk.NK h hx] at hc
theorem G7 (S:Nat→Prop) (g:Sk.Game) (s:Sk.State) (e:En) (w:World) (h:Sk.Ok g s) (hx:Sk.dH g e.x=0) (hl:Sk.legal g s e.x=0) (hk:e.x.kind=Sk.cO) (he:iL w S e):Calls Tryz.prog 49 #[lX g,jE s,rU e] w fun e_ w'=>e_= .returned (FD (Sk.judge g s e.x))∧Below w.heap.size w w':=by
 have hc:=wI S g s e h.inr.turn h.inr.colour w he
 rwa [Sk.uY h hx hk (Sk.mV.1 hl).call] at hc
theorem JV (S:Nat→Prop) (g:Sk.Game) (s:Sk.State) (e:En) (w:World) (h:Sk.Ok g s) (hx:Sk.dH g e.x=0) (hl:Sk.legal g s e.x=0) (he:iL w S e):Calls Tryz.prog 50 #[lX g,jE s,rU e] w fun e_ w'=>e_= .returned (jE (Sk.next g s e.x))∧Below w.heap.size w w':=by
 obtain ⟨b1,b2,b3⟩:=MO h
 have hc:=JW S g s e w h.inr.turn h.inr.colour b1 h.inr.aO h.inr.s0 h.inr.s1 h.inr.brk b2 b3 (fun h1 h2 h3=>by
  have hk:=OL hx h1 h2 h3;have hp:=xg hx hk;have hv:=Sk.Hr h hx hl hk;have hj:=Sk.uY h hx hk (Sk.mV.1 hl).call;have hb:=WW g s e.x h.inr.colour;rw [hj] at hb ⊢
  have:=hv.points
  have:=hv.penalty
  omega) he
 rwa [Sk.SH h hx (Sk.mV.1 hl)] at hc
end Go.Proofs.YtjbbfmofpjflmaaGreatDoor
