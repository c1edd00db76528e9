/- Parts of a proof. -/
import Derived.Laws.EntriesVeiled
import Derived.Maps.Own
import Derived.Test.YtcbmedfongiojaaGreatDoorKt1
set_option linter.unusedVariables false
set_option linter.unusedSimpArgs false
namespace Go.Proofs.YtcbmedfongiojaaGreatDoor
open Go.RowKit
theorem oU {P:Program} {W:World} {r:Nat} {es:Array MapEntry} {c:Nat} (hb:W.heap[r]? =some (.map es c)):(getObj r).run P W= .ok (.map es c) W:=by
 simp [getObj,Sem.run,hb]
theorem Am {P:Program} {W:World} {r:Nat} {es:Array MapEntry} {c:Nat} (o:Obj) (hb:W.heap[r]? =some (.map es c)):(setObj r o).run P W= .ok () {W with heap:=W.heap.setIfInBounds r o }:=by
 simp [setObj,Sem.run,hb]
theorem nT {P:Program} (kt:TypeId) (hk:P.underlying kt=some .string) (b:Bool) (n:Nat) (s:ByteArray) (W:World):(Instr.checkKey b (n+1) kt (.string s)).run P W= .ok () W:=by
 unfold Instr.checkKey
 simp [run_underlying hk]
theorem pV (W:World) (us:List Value) (t:TypeId) (g:Nat) (hg:W.heap.size=g) (j:Nat) (v:Value) (h:us[j]? =some v):(W.alloc (.cells us.toArray t)).cell? ⟨g,j,none⟩=some v:=by
 have:=jU W t us g hg j v h;rwa [qB,Nat.zero_add] at this
end Go.Proofs.YtcbmedfongiojaaGreatDoor
