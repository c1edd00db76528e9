/- Parts of a proof. -/
import Derived.Test.YtjbbfmofpjflmaaGreatDoorKb35
import Derived.Test.YtjbbfmofpjflmaaGreatDoorKg0
set_option linter.unusedVariables false
set_option linter.unusedSimpArgs false
namespace Go.Proofs.YtjbbfmofpjflmaaGreatDoor
open Go.RowKit
section
variable {w W W':World} {L:List (Nat × List Value × TypeId)} {B e size k g:Nat} {v:Value} {xs:List Value} {cs:List Value} {t:TypeId}
theorem Bx.grow {row:Option Nat} (h:Bx w W L) (hg:W.grownBy W' row) (hr:∀ b,row=some b→w.heap.size≤b) (hL:∀ p∈L,row≠some p.1):Bx w W' L:=
 ⟨h.bw.grown hg h.bw.size hr,fun p hp=>⟨(h.bx p hp).1,(h.bx p hp).2.blk (hg.block p.1 (h.bx p hp).2.lt (fun e=>hL p hp e.symm))⟩,h.nd⟩
end
section
variable {w W W':World} {L L':List (Nat × List Value × TypeId)} {B e size k:Nat} {v:Value} {xs:List Value}
end
theorem aku {a b:Int} (h:(a != b)=false):a=b:=by simpa using h
theorem wb {b:ByteArray} {l:List UInt8} (h:(b.toList == l)=true):b=⟨l.toArray⟩:=by rw [gG] at h;exact of_decide_eq_true h
theorem ahm {g:Sk.Game} {s:Sk.State} {e:Sk.Entry} (h:Sk.Ok g s) (he:Sk.dV g e=0):iU g s e=0:=by
 unfold iU;rw [Sk.kG.2 h,he];rfl
theorem afH {g:Sk.Game} {s:Sk.State} {e:Sk.Entry} (h:Sk.Ok g s) (he:Sk.dV g e=0):Pj g s e=Sk.legal g s e∧XD g s e=(if Sk.legal g s e=0 then 0 else 18)∧(Sk.legal g s e=0→nxS g s e=Sk.next g s e):=by
 have h1:=ahm h he
 have h2:Pj g s e=Sk.legal g s e:=by unfold Pj;rw [if_pos h1]
 have h3:XD g s e=(if Sk.legal g s e=0 then 0 else 18):=by
  unfold XD
  rw [rQ,h1,h2]
  by_cases hl:Sk.legal g s e=0 <;> simp [hl,iL]
 exact ⟨h2,h3,fun hl=>by unfold nxS;rw [h3,if_pos hl];rfl⟩
theorem ahC {g:Sk.Game} {s:Sk.State} {e:Sk.Entry} (h:Sk.Ok g s) (he:Sk.dV g e=0) (hl:Sk.legal g s e=0) (hk:e.kind=Sk.dJ):Jb g s e=0∧Uo g s e=Sk.judge g s e:=by
 have h1:O1 g s e=0:=by unfold O1;rw [rQ,ahm h he];simp [hk,iL]
 have h2:Jb g s e=0:=by unfold Jb;rw [h1];simp [hl]
 exact ⟨h2,by unfold Uo;rw [if_pos h2]⟩
end Go.Proofs.YtjbbfmofpjflmaaGreatDoor
