/- Parts of a proof. -/
import Derived.Test.YtjbbfmofpjflmaaGreatDoorKb0
set_option linter.unusedVariables false
set_option linter.unusedSimpArgs false
namespace Go.Proofs.YtjbbfmofpjflmaaGreatDoor
namespace Sk
theorem adf (s:State) (p:Int):0≤needed s p∧score s (1 - p) - score s p - left s≤4*needed s p∧(0<needed s p→4*(needed s p - 1)<score s (1 - p) - score s p - left s):=by
 unfold needed
 obtain ⟨b,hb⟩:∃ b,score s (1 - p) - score s p - left s=b:=⟨_,rfl⟩;rw [hb]
 rcases Int.lt_or_le (b+4 - 1) 0 with h | h
 · have:(b+4 - 1).tdiv 4≤0:=by
    have:=Int.neg_tdiv (-(b+4 - 1)) 4
    rw [Int.neg_neg] at this;rw [this,Int.tdiv_eq_ediv_of_nonneg (by omega)]
    omega
   omega
 · rw [Int.tdiv_eq_ediv_of_nonneg h]
   omega
end Sk
namespace Sk
def abJ (s:State):Int:=
 if 0≤s.aB then 0
 else jP (max 2 s.colour) (8 - max 2 s.colour).toNat+8*s.bI+(if s.phase=dW then 7 else 0)+(if s.free=true∧s.phase=iI then 8 else 0)+(if s.free=true∧s.phase=dG∧s.colour<7 then s.colour else 0)
theorem acn {g:Game} {s:State} (h:Ok g s) (hg:g.kind=aW):abJ s=left s:=by
 unfold abJ left
 by_cases hw:0≤s.aB
 · rw [if_pos hw,if_pos hw]
 simp only [if_neg hw]
 have e27:jP 2 (8 - (2:Int)).toNat=27:=by decide
 rcases Gm h hg with ⟨hp,hc0,_⟩ | ⟨hp,hc0,hf,_⟩ | ⟨hp,hr,hc⟩
 · have e1:max 2 s.colour=2:=by omega
   simp only [e1,e27,hp,UJ,fun hx=>wO (Eq.symm hx),if_true,false_and,and_false,if_false,and_true]
   have n1:iI≠dW:=fun hx=>wO hx.symm
   simp only [n1,if_false]
   omega
 · have e1:max 2 s.colour=2:=by omega
   simp only [e1,e27,hp,wO,SQ,if_true,if_false,false_and,and_false,hf]
   omega
 · have e1:max 2 s.colour=s.colour:=by omega
   simp only [e1,hp,uO,rO,hr,if_false,and_false,true_and]
   omega
theorem acP {s:State} {p n:Int} (h0:0≤n) (h1:score s (1 - p) - score s p - left s≤4*n) (h2:0<n→4*(n - 1)<score s (1 - p) - score s p - left s):n=needed s p:=by
 have h:=adf s p
 rcases Int.lt_or_le 0 n with h3 | h3
 · have:=h2 h3
   rcases Int.lt_or_le 0 (needed s p) with h4 | h4
   · have:=h.2.2 h4;omega
   · omega
 · rcases Int.lt_or_le 0 (needed s p) with h4 | h4
   · have:=h.2.2 h4;omega
   · omega
end Sk
end Go.Proofs.YtjbbfmofpjflmaaGreatDoor
