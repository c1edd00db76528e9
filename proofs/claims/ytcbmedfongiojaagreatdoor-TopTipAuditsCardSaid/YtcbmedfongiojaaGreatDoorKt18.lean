/- Parts of a proof. -/
import Derived.OrdersIn
import Derived.TacticsIn
import Derived.Test.YtcbmedfongiojaaGreatDoorKt10
import Derived.Test.YtcbmedfongiojaaGreatDoorKt17
set_option linter.unusedVariables false
set_option linter.unusedSimpArgs false
namespace Go.Proofs.YtcbmedfongiojaaGreatDoor
open Go.RowKit
def jO (ro:Option Nat):Fence:={Fence.wide with round:=ro }
theorem kG {ro:Option Nat} {n:Nat} {P:Program} {f:FuncId} {args:Array Value} {w:World} {R:Ending→World→Prop} (h:Calls P f args w R):CallsIn (jO ro) n P f args w R:=callsIn_wide.2 h
def sQ (ops:Array Oper):Bool:=ops.all fun o=>match o.op with | .defer _=>false | _=>true
theorem Jc {ops:Array Oper} (h:sQ ops=true) {i:Nat} {o:Oper} (hi:ops[i]? =some o):∀ c,o.op≠ .defer c:=by
 intro c hc
 have:=Array.all_eq_true_iff_forall_mem.1 h o (Array.mem_of_getElem? hi)
 simp [hc] at this
section
variable {P:Program} {ops:Array Oper} {Q:Exit→Act→World→Prop} {n:Nat} {ro:Option Nat}
theorem BM {row:String} {args:Array Value} {w:World} {R:Value→World→Prop} (h:Rows P row args w R):RowsIn (jO ro) n P row args w R:=
 fun c cs _=>let ⟨v,w',r,s⟩:=h c cs;⟨v,w',r,stepsIn_wide.2 s⟩
theorem Eh {o:Oper} {a:Act} {w:World} {K:Act→World→Prop} (hnd:∀ c,o.op≠ .defer c) (h:o.wp P a w K Q):o.wpIn (jO ro) n P a w K Q:=by
 refine ⟨fun _ _=>trivial,?_⟩;rw [Oper.semAt_eq _ _ _ hnd]
 unfold Oper.wp at h
 generalize (execOp a.eval o).run P w=r at h
 cases r with
 | ok nx w'=>
   cases nx with
   | value v=>exact h
   | skip=>exact h
   | defer d=>exact h
   | enter f args=>exact ⟨fun e=>(by cases e),kG h⟩
   | row row args=>exact ⟨fun e=>(by cases e),BM h⟩
   | _=>exact h.elim
 | halt x w'=>
   cases x <;> first | exact h | exact h.elim
theorem VB {i:Nat} {K:Act→World→Prop} {a:Act} {w:World} (hnd:sQ ops=true) (hno:¬ LetsOut Q) (h:wpOp P ops Q i K a w):wpOpIn (jO ro) n P ops Q i K a w:=by
 unfold wpOp at h
 unfold wpOpIn
 cases hi:ops[i]? with
 | none=>rw [hi] at h;exact h
 | some o=>
   rw [hi] at h
   simp only at h ⊢
   split
   · next hw=>
     rw [if_pos hw] at h
     rcases h with h | h
     · exact Eh (Jc hnd hi) h
     · exact absurd h.2 hno
   · next hw=>
     rw [if_neg hw] at h;exact ⟨fun _ _=>trivial,h⟩
theorem EN {F:Fence} {i:Nat} {K K':Act→World→Prop} {a:Act} {w:World} (hk:∀ a w,K a w→K' a w) (h:wpOpIn F n P ops Q i K a w):wpOpIn F n P ops Q i K' a w:=wpOpIn_mono hk h
theorem G9 {md:Region.Mode} (hnd:sQ ops=true) (hno:¬ LetsOut Q):∀ (fuel:Nat) (listed:Array Bool) (a:Act) (w:World),wpAny P md ops Q fuel listed a w→wpAnyIn (jO ro) n P md ops Q fuel listed a w
 | 0,_,_,_,h=>h
 | fuel+1,_,_,_,h=>⟨h.1,fun i hi=>EN (fun a' w' h'=>G9 hnd hno fuel _ a' w' h') (VB hnd hno (h.2 i hi))⟩
theorem rG {S:World→Prop} {id:Nat} {a:Act} {w:World} (hnd:sQ ops=true) (hno:¬ LetsOut Q) (hm:P.follows .mixedOrders=true) (hS:S w.drew)
 (h:S w.drew→wpAnyH P .any ops Q S ops.size (Array.replicate ops.size false) a w.drew):(Code.region id ops true).wpIn (jO ro) n P Q a w:=
 wpIn_region_any hm (G9 hnd hno _ _ _ _ (wpAny_of_held _ _ _ _ (h hS)))
theorem Dj (hnd:∀ o∈ops.toList,∀ c,o.op≠ .defer c) (hno:¬ LetsOut Q):∀ (l:List Oper),(∀ o∈l,o∈ops.toList)→∀ (a:Act) (w:World),wpList P ops Q l a w→wpListIn (jO ro) n P ops Q l a w
 | [],_,_,_,h=>h
 | o::rest,hl,a,w,h=>by
   have hr:=fun a w=>Dj hnd hno rest (fun o ho=>hl o (List.mem_cons_of_mem _ ho)) a w
   unfold wpList at h
   unfold wpListIn
   split
   · next hw=>
     rw [if_pos hw] at h
     rcases h with h | h
     · exact Oper.wpIn_mono hr (Eh (hnd o (hl o List.mem_cons_self)) h)
     · exact absurd h.2 hno
   · next hw=>
     rw [if_neg hw] at h;exact ⟨fun _ _=>trivial,hr _ _ h⟩
theorem wB {id:Nat} {a:Act} {w:World} (hnd:sQ ops=true) (hno:¬ LetsOut Q) (h:wpList P ops Q ops.toList a w):(Code.region id ops false).wpIn (jO ro) n P Q a w:=
 wpIn_region_list (Dj (fun o ho c hc=>by
  have:=Array.all_eq_true_iff_forall_mem.1 hnd o (by simpa using ho)
  simp [hc] at this) hno ops.toList (fun _ h=>h) a w h)
end
end Go.Proofs.YtcbmedfongiojaaGreatDoor
