/- Parts of the proofs about chapter 5 (pool), joined by program. -/
import Derived.Test.YtelpepbpdojikaaGreatDoorKg10
import Derived.Test.YtelpepbpdojikaaGreatDoorKg11
import Derived.Test.YtelpepbpdojikaaGreatDoorKg3
set_option linter.unusedVariables false
set_option linter.unusedSimpArgs false
namespace Go.Proofs.YtelpepbpdojikaaGreatDoor
open Go.RowKit
theorem JX (a b:List UInt8):(ByteArray.mk a.toArray)++(ByteArray.mk b.toArray)=⟨(a++b).toArray⟩:=by
 apply ByteArray.ext
 rw [ByteArray.data_append]
 simp
theorem Gv (k:ByteArray):k=⟨k.toList.toArray⟩:=by rw [ByteArray.toList_eq]
def S9 (x:M.aI):List UInt8:=if x.aC=1 then [98,32] else [97,32]
def SS (x:M.aI):List UInt8:=S9 x++x.kind.toList
def SV (x:M.aI):List UInt8:=SS x++if x.aJ≠0 then [32,99]++M.dec x.aJ++[47]++M.dec x.aP else []
def SX (x:M.aI):List UInt8:=SV x++if x.first≠0 then [32,102]++M.dec x.first else []
def SY (x:M.aI):List UInt8:=SX x++if x.dA=true then [32,43] else []
def BH (p:M.rD):List UInt8:=[32,112]++M.dec p.aJ++[47]++M.dec p.aP
def Um (x:M.aI) (k:Nat):List UInt8:=SY x++(x.aA.take k).flatMap BH
theorem Iy (x:M.aI):Um x x.aA.length=M.print x:=by
 unfold Um M.print M.pieces M.join SY SX SV SS S9
 simp only
 rw [List.take_length,List.flatMap_cons,M.Ad,List.flatMap_append,List.flatMap_append,List.flatMap_append]
 have e1:(if x.aC=1 then [98,32] else [97,32])++x.kind.toList=M.letter x.aC++(32::x.kind.toList):=by unfold M.letter;split <;> simp
 have e2:(if x.aJ≠0 then [32,99]++M.dec x.aJ++[47]++M.dec x.aP else [])=(if x.aJ≠0 then [M.dR 99 x.aJ x.aP] else []).flatMap fun b=>(32:UInt8)::b:=by split <;> simp [M.dR]
 have e3:(if x.first≠0 then [32,102]++M.dec x.first else [])=(if x.first≠0 then [(102:UInt8)::M.dec x.first] else []).flatMap fun b=>(32:UInt8)::b:=by split <;> simp
 have e4:(if x.dA=true then [(32:UInt8),43] else [])=(if x.dA=true then [[(43:UInt8)]] else []).flatMap fun b=>(32:UInt8)::b:=by split <;> simp
 have e5:x.aA.flatMap BH=(x.aA.map fun p=>M.dR 112 p.aJ p.aP).flatMap fun b=>(32:UInt8)::b:=by
  rw [List.flatMap_map]
  congr 1
  funext p
  simp [BH,M.dR]
 rw [e1,e2,e3,e4,e5]
 simp only [List.append_assoc]
theorem Iz (p:M.rD):(BH p).length≤7:=by
 have h1:=M.jE p.aJ
 have h2:=M.jE p.aP
 simp only [BH,List.length_append,List.length_cons,List.length_nil]
 omega
theorem FY (l:List M.rD):(l.flatMap BH).length≤7*l.length:=by
 induction l with
 | nil=>simp
 | cons p l ih=>
   have:=Iz p
   rw [List.flatMap_cons,List.length_append,List.length_cons]
   omega
theorem Qk {x:M.aI} (hx:M.ni x):(S9 x).length≤2∧(SS x).length≤9∧(SV x).length≤16∧(SX x).length≤20∧(SY x).length≤22∧x.kind.size≤7:=by
 have hk:=(M.FH hx.kind).2.2
 have hks:x.kind.size=x.kind.toList.length:=by rw [ByteArray.toList_eq];exact Array.length_toList.symm
 have h0:(S9 x).length≤2:=by unfold S9;split <;> simp
 have h1:(SS x).length≤9:=by unfold SS;rw [List.length_append];omega
 have h2:(SV x).length≤16:=by
  have a:=M.jE x.aJ
  have b:=M.jE x.aP
  unfold SV
  rw [List.length_append]
  split
  · simp only [List.length_append,List.length_cons,List.length_nil];omega
  · simp only [List.length_nil];omega
 have h3:(SX x).length≤20:=by
  have a:=M.jE x.first
  unfold SX
  rw [List.length_append]
  split
  · simp only [List.length_append,List.length_cons,List.length_nil];omega
  · simp only [List.length_nil];omega
 have h4:(SY x).length≤22:=by
  unfold SY
  rw [List.length_append]
  split <;> simp <;> omega
 exact ⟨h0,h1,h2,h3,h4,by omega⟩
theorem OH {x:M.aI} (hx:M.ni x) (k:Nat):(Um x k).length≤140:=by
 have h:=(Qk hx).2.2.2.2.1
 have h2:=FY (x.aA.take k)
 have h3:=hx.few
 have h4:(x.aA.take k).length≤x.aA.length:=List.length_take_le' _ _
 unfold Um
 rw [List.length_append]
 omega
end Go.Proofs.YtelpepbpdojikaaGreatDoor
