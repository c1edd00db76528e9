/- Parts of a proof. -/
import Derived.ChangeKeysEq
import Derived.Test.YtjbbfmofpjflmaaGreatDoorKb20
set_option maxHeartbeats 1600000
set_option maxRecDepth 100000
set_option linter.unusedVariables false
set_option linter.unusedSimpArgs false
namespace Go.Proofs.YtjbbfmofpjflmaaGreatDoor
open Go.RowKit
theorem MQ (a b c d:Int) (w:World):(Op.equalIn 9999 24 (.agg #[.int .i64 a,.int .i64 b]) (.agg #[.int .i64 c,.int .i64 d])).run Tryz.prog w= .ok ((a == c) && (b == d)) w:=by
 obtain ⟨i,hi,hz0,hz1,hz2⟩:=info_parts (show (Tryz.prog.info? 3).map (fun i=>(i.zero,i.size,i.bytes))=some (some (.int .i64 0),1,8) by kernel_rfl)
 have hu:Tryz.prog.underlying 24=some (.array 2 3):=by kernel_rfl
 have hui:Tryz.prog.underlying 3=some (.int .i64):=by kernel_rfl
 have hc:Tryz.prog.cellsOf 3=1:=by kernel_rfl
 have h2:List.range 2=[0,1]:=rfl
 have p:∀ (x y:Value) (w:World),(part 3 #[x,y] (0*1)).run Tryz.prog w= .ok x w:=fun x y w=>by kernel_rfl
 have p':∀ (x y:Value) (w:World),(part 3 #[x,y] (1*1)).run Tryz.prog w= .ok y w:=fun x y w=>by kernel_rfl
 have q:∀ (a b:Int) (w:World),(Op.equalIn 9998 3 (.int .i64 a) (.int .i64 b)).run Tryz.prog w= .ok (a == b) w:=fun a b w=>run_equalIn_int w 9997 _ _ _ a b hui;rw [show (9999:Nat)=9998+1 from rfl,run_equalIn_array w 9998 _ _ hu hi,h2,hc]
 unfold Op.eqItems Op.eqItems Op.eqItems
 simp only [Sem.run_bind,p,p',q,Result.andThen_ok]
 have p1:∀ (x y:Value) (w:World),(part 3 #[x,y] 1).run Tryz.prog w= .ok y w:=fun x y w=>by kernel_rfl
 cases h1:(a == c) <;> cases h2:(b == d) <;> simp [q,p1,h2]
theorem Jk (s s2:Sk.State) (b n:Int) (hn:b=n) (hs:s=if n=0 then s2 else Sk.zero) (w:World):Calls Tryz.prog 23 #[kW s,.int .i64 b,.int .i64 n,kW s2] w fun e w'=>e= .returned (.bool true)∧Below w.heap.size w w':=by
 subst hn;have hq2:=fun a b c d W=>MQ a b c d W
 by_cases h:b=0
 · subst h
   rw [if_pos rfl] at hs;subst hs
   go_enter Tryz.func23,Tryz.ntmps23
   go_upto_region 0 with (fail)
   go_cut [4,7,8] (fun v4 v7 v8 wx=>v4=ptr (w.heap.size)∧v7=ptr (w.heap.size+1)∧v8= .bool false∧Bx w wx [(w.heap.size,aO s,26),(w.heap.size+1,aO s,39)])
   case first=>
    go_wp2;go_meet;exact ⟨rfl,rfl,rfl,Bx.of (((aJ.nil w).new (by simp) (aO s) 26).new (by simp) (aO s) 39) _ rfl⟩
   case rest=>
    obtain ⟨rfl,rfl,rfl,hL⟩:=hcut
    go_wp2_with (first | ((with_reducible (refine ah 26 (.tmp 4) ?lx ?_));(case lx=>rfl);refine aK (hL.rng 0 rfl 0 ([.int .i64 s.turn,.int .i64 s.s0,.int .i64 s.s1,.int .i64 s.brk,.string s.phase,.int .i64 s.bI,.int .i64 s.colour,.bool s.free,.bool s.aT,.int .i64 s.aP,.int .i64 s.t0,.int .i64 s.t1,.int .i64 s.aB]) rfl) Tryz.underlying26 rfl ak rfl (.tmp 4) rfl rfl ?_) | ((with_reducible (refine ah 26 (.tmp 4) ?lx ?_));(case lx=>rfl);refine fA (hL.rng 0 rfl 0 ([.int .i64 s.turn,.int .i64 s.s0,.int .i64 s.s1,.int .i64 s.brk,.string s.phase,.int .i64 s.bI,.int .i64 s.colour,.bool s.free,.bool s.aT,.int .i64 s.aP,.int .i64 s.t0,.int .i64 s.t1,.int .i64 s.aB]) rfl) Tryz.underlying26 rfl ak rfl (.tmp 4) rfl rfl ?_) | ((with_reducible (refine aI 26 (.tmp 4) ?lx ?_));(case lx=>rfl);refine eu (hL.rng 0 rfl 0 ([.int .i64 s.turn,.int .i64 s.s0,.int .i64 s.s1,.int .i64 s.brk,.string s.phase,.int .i64 s.bI,.int .i64 s.colour,.bool s.free,.bool s.aT,.int .i64 s.aP,.int .i64 s.t0,.int .i64 s.t1,.int .i64 s.aB]) rfl) Tryz.underlying26 rfl ak (.tmp 4) rfl rfl ?_) | ((with_reducible (refine ah 39 (.tmp 7) ?lx ?_));(case lx=>rfl);refine aK (hL.rng 1 rfl 0 ([.int .i64 s.turn,.int .i64 s.s0,.int .i64 s.s1,.int .i64 s.brk,.string s.phase,.int .i64 s.bI,.int .i64 s.colour,.bool s.free,.bool s.aT,.int .i64 s.aP,.int .i64 s.t0,.int .i64 s.t1,.int .i64 s.aB]) rfl) Tryz.underlying39 rfl iQ rfl (.tmp 7) rfl rfl ?_) | ((with_reducible (refine ah 39 (.tmp 7) ?lx ?_));(case lx=>rfl);refine fA (hL.rng 1 rfl 0 ([.int .i64 s.turn,.int .i64 s.s0,.int .i64 s.s1,.int .i64 s.brk,.string s.phase,.int .i64 s.bI,.int .i64 s.colour,.bool s.free,.bool s.aT,.int .i64 s.aP,.int .i64 s.t0,.int .i64 s.t1,.int .i64 s.aB]) rfl) Tryz.underlying39 rfl iQ rfl (.tmp 7) rfl rfl ?_) | ((with_reducible (refine aI 39 (.tmp 7) ?lx ?_));(case lx=>rfl);refine eu (hL.rng 1 rfl 0 ([.int .i64 s.turn,.int .i64 s.s0,.int .i64 s.s1,.int .i64 s.brk,.string s.phase,.int .i64 s.bI,.int .i64 s.colour,.bool s.free,.bool s.aT,.int .i64 s.aP,.int .i64 s.t0,.int .i64 s.t1,.int .i64 s.aB]) rfl) Tryz.underlying39 rfl iQ (.tmp 7) rfl rfl ?_))
    go_ret;exact ⟨rfl,hL.bw⟩
 · rw [if_neg h] at hs
   subst hs
   have h1:(b != 0)=true:=by simp [h]
   go_enter Tryz.func23,Tryz.ntmps23
   go_upto_region 0 with (fail)
   go_cut [4,7,8] (fun v4 v7 v8 wx=>v4=ptr (w.heap.size)∧v7=ptr (w.heap.size+1)∧v8= .bool false∧Bx w wx [(w.heap.size,aO Sk.zero,26),(w.heap.size+1,aO s2,39)])
   case first=>
    go_wp2;go_meet;exact ⟨rfl,rfl,rfl,Bx.of (((aJ.nil w).new (by simp) (aO Sk.zero) 26).new (by simp) (aO s2) 39) _ rfl⟩
   case rest=>
    obtain ⟨rfl,rfl,rfl,hL⟩:=hcut
    go_wp2_with (first | ((with_reducible (refine ah 26 (.tmp 4) ?lx ?_));(case lx=>rfl);refine aK (hL.rng 0 rfl 0 ([.int .i64 0,.int .i64 0,.int .i64 0,.int .i64 0,.string ⟨#[]⟩,.int .i64 0,.int .i64 0,.bool false,.bool false,.int .i64 0,.int .i64 0,.int .i64 0,.int .i64 0]) rfl) Tryz.underlying26 rfl ak rfl (.tmp 4) rfl rfl ?_) | ((with_reducible (refine ah 26 (.tmp 4) ?lx ?_));(case lx=>rfl);refine fA (hL.rng 0 rfl 0 ([.int .i64 0,.int .i64 0,.int .i64 0,.int .i64 0,.string ⟨#[]⟩,.int .i64 0,.int .i64 0,.bool false,.bool false,.int .i64 0,.int .i64 0,.int .i64 0,.int .i64 0]) rfl) Tryz.underlying26 rfl ak rfl (.tmp 4) rfl rfl ?_) | ((with_reducible (refine aI 26 (.tmp 4) ?lx ?_));(case lx=>rfl);refine eu (hL.rng 0 rfl 0 ([.int .i64 0,.int .i64 0,.int .i64 0,.int .i64 0,.string ⟨#[]⟩,.int .i64 0,.int .i64 0,.bool false,.bool false,.int .i64 0,.int .i64 0,.int .i64 0,.int .i64 0]) rfl) Tryz.underlying26 rfl ak (.tmp 4) rfl rfl ?_))
    go_ret;exact ⟨rfl,hL.bw⟩
end Go.Proofs.YtjbbfmofpjflmaaGreatDoor
