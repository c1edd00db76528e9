/- Parts of a proof. -/
import Derived.Test.YtcbmedfongiojaaGreatDoorKt12
import Derived.Test.YtcbmedfongiojaaGreatDoorKt5
set_option linter.unusedVariables false
set_option linter.unusedSimpArgs false
namespace Go.Proofs.YtcbmedfongiojaaGreatDoor
open Go.RowKit
structure Glob (w:World):Prop where
 n:∃ m,w.cell? ⟨0,0,none⟩=some (.int .i64 m)
 es:∃ tp p,w.var? Tryz.prog "strconv.ErrSyntax" =some #[.iface tp p]
 er:∃ tp p,w.var? Tryz.prog "strconv.ErrRange" =some #[.iface tp p]
 tab:Lib.TabIs Tryz.prog w "internal/strconv.uint64pow10" .u64 Lib.pow10Tab
theorem AZ {P:Program} {w w':World} {n:String} {cs:Array Value} (h:w.var? P n=some cs) (hb:Below w.heap.size w w'):w'.var? P n=some cs:=by
 unfold World.var? at h ⊢
 cases hg:P.globalNamed n with
 | none=>rw [hg] at h;cases h
 | some g=>
   rw [hg] at h
   simp only [Option.bind_some] at h ⊢
   cases ho:w.heap[g]? with
   | none=>rw [ho] at h;cases h
   | some o=>
     have hlt:g<w.heap.size:=(Array.getElem?_eq_some_iff.1 ho).1;rw [hb.block g hlt];exact h
theorem Glob.below {w w':World} (h:Glob w) (hb:Below w.heap.size w w'):Glob w':=by
 obtain ⟨m,hm⟩:=h.n;obtain ⟨t1,p1,h1⟩:=h.es;obtain ⟨t2,p2,h2⟩:=h.er;have hlt:0<w.heap.size:=Lib.lt_of_cell hm;exact ⟨⟨m,(hb.cell (p:=⟨0,0,none⟩) hlt).trans hm⟩,⟨t1,p1,AZ h1 hb⟩,⟨t2,p2,AZ h2 hb⟩,AZ h.tab hb⟩
theorem Iu {w w':World} (h:∃ k os,w'=Go.Sort.grow (w.drewN k) os):Below w.heap.size w w':=by
 obtain ⟨k,os,rfl⟩:=h;refine ⟨rfl,rfl,rfl,?_,fun b hb=>?_⟩
 · show w.heap.size≤(w.heap++os).size
   rw [Array.size_append];omega
 · show (w.heap++os)[b]? =_
   exact Array.getElem?_append_left hb
theorem Dy {w w':World} {e:TypeId} (h:w'=w∨∃ t,w'=Lib.bytesWorld w e t):Below w.heap.size w w':=by
 rcases h with rfl | ⟨t,rfl⟩
 · exact Below.refl _ _
 · exact Lib.bytesWorld_below _ _ _
end Go.Proofs.YtcbmedfongiojaaGreatDoor
