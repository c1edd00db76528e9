/- Parts of a proof. -/
import Derived.Test.YtcjglfbpjkdgiaaGreatDoorKk11
import Derived.Test.YtcjglfbpjkdgiaaGreatDoorKk12
import Derived.Test.YtcjglfbpjkdgiaaGreatDoorKk4
set_option linter.unusedVariables false
set_option linter.unusedSimpArgs false
namespace Go.Proofs.YtcjglfbpjkdgiaaGreatDoor
open Go.RowKit
theorem FD (a b:List UInt8):(ByteArray.mk a.toArray)++(ByteArray.mk b.toArray)=⟨(a++b).toArray⟩:=by
 apply ByteArray.ext;rw [ByteArray.data_append]
 simp
theorem Ox (k:ByteArray):k=⟨k.toList.toArray⟩:=by rw [ByteArray.toList_eq]
def prL (x:M.aV):List UInt8:=if x.aG=1 then [98,32] else [97,32]
def pr0 (x:M.aV):List UInt8:=prL x++x.kind.toList
def pr1 (x:M.aV):List UInt8:=pr0 x++if x.aT≠0 then [32,99]++M.dec x.aT++[47]++M.dec x.aP else []
def pr2 (x:M.aV):List UInt8:=pr1 x++if x.first≠0 then [32,102]++M.dec x.first else []
def pr3 (x:M.aV):List UInt8:=pr2 x++if x.cO=true then [32,43] else []
def Fb (p:M.kL):List UInt8:=[32,112]++M.dec p.aT++[47]++M.dec p.aP
def prK (x:M.aV) (k:Nat):List UInt8:=pr3 x++(x.aC.take k).flatMap Fb
theorem QE (x:M.aV):prK x x.aC.length=M.print x:=by
 unfold prK M.print M.pieces M.join pr3 pr2 pr1 pr0 prL
 simp only
 rw [List.take_length,List.flatMap_cons,M.qL,List.flatMap_append,List.flatMap_append,List.flatMap_append]
 have e1:(if x.aG=1 then [98,32] else [97,32])++x.kind.toList=M.letter x.aG++(32::x.kind.toList):=by unfold M.letter;split <;> simp
 have e2:(if x.aT≠0 then [32,99]++M.dec x.aT++[47]++M.dec x.aP else [])=(if x.aT≠0 then [M.bV 99 x.aT x.aP] else []).flatMap fun b=>(32:UInt8)::b:=by split <;> simp [M.bV]
 have e3:(if x.first≠0 then [32,102]++M.dec x.first else [])=(if x.first≠0 then [(102:UInt8)::M.dec x.first] else []).flatMap fun b=>(32:UInt8)::b:=by split <;> simp
 have e4:(if x.cO=true then [(32:UInt8),43] else [])=(if x.cO=true then [[(43:UInt8)]] else []).flatMap fun b=>(32:UInt8)::b:=by split <;> simp
 have e5:x.aC.flatMap Fb=(x.aC.map fun p=>M.bV 112 p.aT p.aP).flatMap fun b=>(32:UInt8)::b:=by
  rw [List.flatMap_map]
  congr 1
  funext p
  simp [Fb,M.bV]
 rw [e1,e2,e3,e4,e5]
 simp only [List.append_assoc]
theorem QF (p:M.kL):(Fb p).length≤7:=by
 have h1:=M.ig p.aT;have h2:=M.ig p.aP
 simp only [Fb,List.length_append,List.length_cons,List.length_nil]
 omega
theorem NJ (l:List M.kL):(l.flatMap Fb).length≤7*l.length:=by
 induction l with
 | nil=>simp
 | cons p l ih=>
   have:=QF p
   rw [List.flatMap_cons,List.length_append,List.length_cons]
   omega
theorem acA {x:M.aV} (hx:M.jR x):(prL x).length≤2∧(pr0 x).length≤9∧(pr1 x).length≤16∧(pr2 x).length≤20∧(pr3 x).length≤22∧x.kind.size≤7:=by
 have hk:=(M.wH hx.kind).2.2
 have hks:x.kind.size=x.kind.toList.length:=by rw [ByteArray.toList_eq];exact Array.length_toList.symm
 have h0:(prL x).length≤2:=by unfold prL;split <;> simp
 have h1:(pr0 x).length≤9:=by unfold pr0;rw [List.length_append];omega
 have h2:(pr1 x).length≤16:=by
  have a:=M.ig x.aT;have b:=M.ig x.aP
  unfold pr1
  rw [List.length_append]
  split
  · simp only [List.length_append,List.length_cons,List.length_nil];omega
  · simp only [List.length_nil];omega
 have h3:(pr2 x).length≤20:=by
  have a:=M.ig x.first
  unfold pr2
  rw [List.length_append]
  split
  · simp only [List.length_append,List.length_cons,List.length_nil];omega
  · simp only [List.length_nil];omega
 have h4:(pr3 x).length≤22:=by
  unfold pr3
  rw [List.length_append]
  split <;> simp <;> omega
 exact ⟨h0,h1,h2,h3,h4,by omega⟩
theorem Yz {x:M.aV} (hx:M.jR x) (k:Nat):(prK x k).length≤140:=by
 have h:=(acA hx).2.2.2.2.1;have h2:=NJ (x.aC.take k);have h3:=hx.few;have h4:(x.aC.take k).length≤x.aC.length:=List.length_take_le' _ _
 unfold prK
 rw [List.length_append]
 omega
end Go.Proofs.YtcjglfbpjkdgiaaGreatDoor
