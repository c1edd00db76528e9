/- Parts of a proof. -/
import Derived.Test.YtjbbfmofpjflmaaGreatDoorKb0
set_option linter.unusedVariables false
set_option linter.unusedSimpArgs false
namespace Go.Proofs.YtjbbfmofpjflmaaGreatDoor
namespace Sk
def mine (p:Int):ByteArray:=if p=0 then bQ else cu
def aaB (g:Game) (s:State):List ByteArray:=if g.kind=aW then on s++cO.filter (callable s ·) else [theirs s,dw]
end Sk
namespace Sk
theorem ahC {s:State} (h:s.phase=iI):on s=[dw]:=by unfold on;rw [if_pos h]
theorem aeL {s:State} (h:s.phase=dG):on s=[gQ s.colour]:=by unfold on;rw [if_neg (by rw [h];exact uO),if_neg (by rw [h];exact rO)]
end Sk
namespace Sk
def aad (s:State) (b:ByteArray):Bool:=s.free∧((s.phase=iI∧2≤value b)∨(s.phase=dG∧s.colour<value b))
theorem acy (s:State) (b:ByteArray):aad s b=callable s b:=by
 unfold aad callable
 cases s.free
 · simp
 · by_cases h:s.phase=iI
   · simp [h,UJ]
   · simp [h]
def aal (s:State) (n:Int):Bool:=(s.phase=iI∧n=1)∨(s.phase=dW∧1<n)∨(s.phase=dG∧n=s.colour)
def rOn (g:Game) (s:State):List ByteArray:=
 if g.kind≠aW then [mine (1 - s.turn),dw]
 else ([1,2,3,4,5,6,7]:List Int).filterMap fun n=>if aal s n=true∨callable s (gQ n)=true then some (gQ n) else none
theorem ac5 {s:State} (h:s.turn=0∨s.turn=1):mine (1 - s.turn)=theirs s∧mine s.turn=own s:=by
 unfold mine theirs own
 rcases h with h | h <;> rw [h] <;> simp
theorem agq:gQ 0=bQ∧gQ 1=dw∧gQ 2=cu∧gQ 3=jZ∧gQ 4=ql∧gQ 5=CO∧gQ 6=CP∧gQ 7=qj:=by decide+kernel
theorem ahK {g:Game} {s:State} (h:Ok g s):rOn g s=aaB g s:=by
 unfold rOn aaB
 by_cases hg:g.kind=aW
 · rw [if_neg (by simp [hg]),if_pos hg]
   obtain ⟨b0,b1,b2,b3,b4,b5,b6,b7⟩:=agq;obtain ⟨v0,v1,v2,v3,v4,v5,v6,v7⟩:=vals
   unfold cO
   simp only [List.filterMap_cons,List.filterMap_nil,b1,b2,b3,b4,b5,b6,b7,List.filter_cons,List.filter_nil]
   rcases Gm h hg with ⟨hp,_⟩ | ⟨hp,_,hf,_⟩ | ⟨hp,_,hc⟩
   · have e1:∀ n,aal s n=decide (n=1):=fun n=>by unfold aal;simp [hp,UJ,fun hx=>wO (Eq.symm hx)]
     have e2:∀ b,callable s b=(s.free && decide (2≤value b)):=fun b=>by unfold callable;cases s.free <;> simp [hp]
     simp only [e1,e2,v0,v1,v2,v3,v4,v5,v6,v7,ahC hp]
     cases s.free <;> simp
   · have e1:∀ n,aal s n=decide (1<n):=fun n=>by unfold aal;simp [hp,wO,SQ]
     have e2:∀ b,callable s b=false:=fun b=>by unfold callable;simp [hf]
     have e3:on s=cO.drop 2:=by unfold on;rw [if_neg (by rw [hp];exact wO),if_pos hp]
     simp only [e1,e2,e3]
     simp [cO]
   · have e1:∀ n,aal s n=decide (n=s.colour):=fun n=>by unfold aal;simp [hp,uO,rO]
     have e2:∀ b,callable s b=(s.free && decide (s.colour<value b)):=fun b=>by unfold callable;cases s.free <;> simp [hp,uO]
     simp only [e1,e2,v0,v1,v2,v3,v4,v5,v6,v7,aeL hp]
     obtain ⟨c,hcc⟩:∃ c,s.colour=c:=⟨_,rfl⟩;rw [hcc] at hc ⊢
     have:c=2∨c=3∨c=4∨c=5∨c=6∨c=7:=by omega
     rcases this with rfl | rfl | rfl | rfl | rfl | rfl <;> cases s.free <;> simp [b2,b3,b4,b5,b6,b7]
 · rw [if_pos hg,if_neg hg,(ac5 h.inr.turn).1]
end Sk
end Go.Proofs.YtjbbfmofpjflmaaGreatDoor
