/- Parts of the proofs about chapter 5 (pool), joined by program. -/
import Derived.Laws.Strings
import Derived.Test.YtelpepbpdojikaaGreatDoorKg0
set_option linter.unusedVariables false
set_option linter.unusedSimpArgs false
namespace Go.Proofs.YtelpepbpdojikaaGreatDoor
namespace M
theorem FD {k:ByteArray} (h:isKind k=true):k=dh∨k=jO∨k=vk∨k=eu∨k=jo∨k=aT:=by
 unfold isKind at h;exact of_decide_eq_true h
theorem FH {k:ByteArray} (h:isKind k=true):(32:UInt8) ∉ k.toList∧k.toList≠[]∧k.toList.length≤7:=by
 rcases FD h with rfl | rfl | rfl | rfl | rfl | rfl <;> rw [ByteArray.toList_eq] <;> decide
theorem jE (n:Int):(dec n).length≤2:=by unfold dec;split <;> simp
section
variable {x:aI}
theorem Ad (x:aI):tail x=(if x.aJ≠0 then [dR 99 x.aJ x.aP] else [])++((if x.first≠0 then [102::dec x.first] else [])++((if x.dA=true then [[43]] else [])++x.aA.map fun p=>dR 112 p.aJ p.aP)):=by
 unfold tail;simp only [List.append_assoc]
end
end M
namespace M
def jr (l:List (List UInt8)):List aI:=l.map fun s=>(parse s).1
def O1:List (List UInt8):=[[97,32,98,114,101,97,107,32,102,51,32,43,32,112,57,47,50],[97,32,112,108,97,121,32,99,49,48,47,49,32,102,49,48,32,112,49,48,47,49],[97,32,112,108,97,121,32,99,49,49,47,52,32,102,51,32,43,32,112,49,49,47,52]]
def BN:List aI:=[⟨0,dh,0,0,3,true,[⟨9,2⟩]⟩,⟨0,jO,10,1,10,false,[⟨10,1⟩]⟩,⟨0,jO,11,4,3,true,[⟨11,4⟩]⟩]
theorem NU:jr O1=BN:=by rfl
def wI:List (List UInt8):=[[98,32,112,108,97,121,32,99,56,47,49,32,102,49,32,112,56,47,49]]
def yR:List aI:=[⟨1,jO,8,1,1,false,[⟨8,1⟩]⟩]
theorem rW:jr wI=yR:=by rfl
def xM:List (List UInt8):=[[97,32,98,114,101,97,107,32,102,49,32,43,32,112,52,47,49],[97,32,112,117,115,104,32,102,57],[98,32,112,97,115,115],[97,32,112,108,97,121,32,102,49,32,112,49,47,50,32,112,57,47,51]]
def Ai:List aI:=[⟨0,dh,0,0,1,true,[⟨4,1⟩]⟩,⟨0,eu,0,0,9,false,[]⟩,⟨1,jo,0,0,0,false,[]⟩,⟨0,jO,0,0,1,false,[⟨1,2⟩,⟨9,3⟩]⟩]
theorem tC:jr xM=Ai:=by rfl
def xO:List (List UInt8):=[[97,32,98,114,101,97,107],[98,32,115,97,102,101,116,121,32,102,49,32,43],[97,32,115,97,102,101,116,121,32,102,49]]
def Aj:List aI:=[⟨0,dh,0,0,0,false,[]⟩,⟨1,vk,0,0,1,true,[]⟩,⟨0,vk,0,0,1,false,[]⟩]
theorem tH:jr xO=Aj:=by rfl
def xP:List (List UInt8):=[[97,32,98,114,101,97,107,32,102,49,32,43],[98,32,112,108,97,121,32,99,53,47,50,32,102,53,32,112,53,47,50],[97,32,112,108,97,121,32,99,53,47,50,32,102,53,32,112,53,47,50],[98,32,112,108,97,121,32,99,54,47,49,32,102,54,32,112,54,47,49,32,112,55,47,50,32,112,48,47,51]]
def yS:List aI:=[⟨0,dh,0,0,1,true,[]⟩,⟨1,jO,5,2,5,false,[⟨5,2⟩]⟩,⟨0,jO,5,2,5,false,[⟨5,2⟩]⟩,⟨1,jO,6,1,6,false,[⟨6,1⟩,⟨7,2⟩,⟨0,3⟩]⟩]
theorem tJ:jr xP=yS:=by rfl
def O4:List (List UInt8):=[[98,32,112,108,97,121,32,99,53,47,50,32,102,53,32,43,32,112,53,47,50,32,112,48,47,51]]
def PK:List aI:=[⟨1,jO,5,2,5,true,[⟨5,2⟩,⟨0,3⟩]⟩]
theorem NV:jr O4=PK:=by rfl
def JC:Rules:=⟨aQ,0,0⟩
def UJ:Rules:=⟨bM,0,3⟩
def PL:Rules:=⟨aB,2,2⟩
def xg:State:=⟨1,false,true,false,false,2,[1,2,3,4,5,6,7,8,12,13,14,15],2,0,1,0,0,1,false,0⟩
def vO:State:=⟨1,false,false,false,false,2,[1,2,3,4,5,6,7,12,13,14,15],2,1,1,0,1,1,true,0⟩
def uH:State:=⟨0,false,false,false,false,0,[2,3,5,6,7,8],3,0,0,0,2,1,true,0⟩
def vG:State:=⟨0,true,false,false,false,0,[1,2,3,4,5,6,7,8,9,10,11,12,13,14,15], -17,0,0,0,0,2,false,0⟩
def vP:State:=⟨0,false,true,false,false,0,[1,2,3,4,6,7,8,9,10,11,12,13,14,15],0,0,0,1,0,1,false,0⟩
theorem He:final JC (start JC) BN=xg:=by rfl
theorem kY:final JC (start JC) (BN++yR)=vO:=by rfl
theorem lV:final UJ (start UJ) Ai=uH:=by rfl
theorem lW:final PL (start PL) Aj=vG:=by rfl
theorem lX:final PL (start PL) yS=vP:=by rfl
theorem tK:jy PL (start PL) 1 yS=[⟨3,2⟩]:=by rfl
theorem ER:targets JC xg=[1,2,3,4,5,6,7]:=by rfl
theorem yT:notes JC (start JC) 1 BN=[⟨1,0,0,0,1,false⟩,⟨2,0,0,0,1,false⟩,⟨3,0,0,3,0,true⟩]:=by rfl
theorem NW:runs JC BN=[⟨0,2⟩]:=by rfl
theorem bV:aH JC=0∧aH UJ=0∧aH PL=0:=by decide
theorem Dz:jf JC xg=0:=by decide
theorem dn:je BN=0∧je (BN++yR)=0∧je Ai=0∧je Aj=0∧je yS=0∧je PK=0:=by refine ⟨?_,?_,?_,?_,?_,?_⟩ <;> rfl
def VW:List UInt8:=[97,32,112,108,97,121,32,99,53]
theorem JV:parse VW=(blank,3,25):=by rfl
def Ub:aI:=⟨1,jO,5,2,5,true,[⟨5,2⟩,⟨0,3⟩]⟩
theorem Dy:print Ub=[98,32,112,108,97,121,32,99,53,47,50,32,102,53,32,43,32,112,53,47,50,32,112,48,47,51]∧cZ Ub=0:=by refine ⟨?_,by rfl⟩;unfold print pieces;rw [ByteArray.toList_eq];rfl
end M
end Go.Proofs.YtelpepbpdojikaaGreatDoor
