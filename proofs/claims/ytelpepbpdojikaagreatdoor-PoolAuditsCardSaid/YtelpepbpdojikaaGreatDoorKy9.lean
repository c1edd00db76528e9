/- Parts of a proof. -/
import Derived.Test.YtelpepbpdojikaaGreatDoorKg23
import Derived.Test.YtelpepbpdojikaaGreatDoorKy6
import Derived.Test.YtelpepbpdojikaaGreatDoorKy8
set_option maxHeartbeats 4000000
set_option maxRecDepth 100000
set_option linter.unusedVariables false
set_option linter.unusedSimpArgs false
namespace Go.Proofs.YtelpepbpdojikaaGreatDoor
open Go.RowKit
theorem Z7:(Tryz.prog.info? 69).map (·.size)=some 7:=by kernel_rfl
theorem aoe:(Tryz.prog.info? 142).map (fun i=>(i.zero,i.size,i.bytes))=some (some (.agg #[.int .i64 0,.int .i64 0]),2,16):=by kernel_rfl
theorem anx (S:Nat→Prop) (x:M.aI) (P:Option Addr) (d:Nat) (w:World) (hp:jl w S P d x.aA) (hl:x.aA.length*16≤140737488355328):
 Calls Tryz.prog 26 #[iO x P d] w fun e w'=>∃ A c,e= .returned (iO x A c)∧jl w' (fun b=>w.heap.size≤b) A c x.aA∧Below w.heap.size w w':=by
 obtain ⟨b1,b2,b3⟩:=hp.bd;obtain ⟨i0,hi0,hz0,hz1,hz2⟩:=info_parts aoe;have hone:=uq (AY x 0) none 0
 go_enter Tryz.func26,Tryz.ntmps26
 go_upto_region 1 with (fail)
 go_cut [3] from 6 to 18 (fun v3 wx=>v3=ptr (w.heap.size+2)∧GZ 66 69 69 142 w (au ⟨x,P,d⟩) JB x 0 none 0 wx)
 case first=>
  have hB:=(bU.nil w).new (by simp) (au ⟨x,P,d⟩) 66;have hB2:=hB.new (by simp) JB 69;have hB3:=hB2.new (by simp) JB 69;have hl2:(au ⟨AY x 0,none,0⟩).length=(JB).length:=rfl
  go_wp2_with (first | (refine aO 69 (.tmp 3) (.tmp 18) rfl ?_;refine aF (hB3.get 2 rfl) (au ⟨AY x 0,none,0⟩) rfl Z7 hone rfl (.tmp 3) (.tmp 18) rfl rfl rfl ?_))
  go_meet;have hb:=hB3.bw;exact ⟨rfl,(Held.others (by omega) _ _ _ (hB3.bf rfl)),Held.others (by omega) _ _ _ (hB3.get 1 rfl),(hB3.get 2 rfl).whole _ rfl,World.ownsRow_nil _ _ _ _,below_setCells _ (by omega) _ _ _ _ hb,by rw [setCells_size];simp⟩
 case rest=>
  obtain ⟨rfl,st0⟩:=hcut;have k6:=st0.src.cell (j:=6) rfl;go_wp2
  go_loopw [22] (fun i wr=>∃ (k:Nat) (A:Option Addr) (c:Nat),k≤x.aA.length∧i= .int .i64 k∧GZ 66 69 69 142 w (au ⟨x,P,d⟩) JB x k A c wr) (fun i _=>x.aA.length - (intOf i).toNat)
  case atStart=>exact ⟨0,none,0,Nat.zero_le _,rfl,st0⟩
  case round=>
   obtain ⟨k,A,c,hk,rfl,st⟩:=hrel
   have hlk:(x.aA.take k).length=k:=by rw [List.length_take];omega
   by_cases hlt:k<x.aA.length
   · obtain ⟨b,o,rfl,_,hbl,hc⟩:=(hp.below st.bw).at_ k hlt
     obtain ⟨hck1,Fb⟩:=hc k hlt;clear hc;have m6:wr.cell? ⟨w.heap.size+2,6,none⟩=some (.slice A k c):=(st.bx.cell (j:=6) rfl).trans (by show some (Value.slice A (x.aA.take k).length c)=_;rw [hlk]);have Y6:=st.bx.frozen 6;have hlt2:=st.bx.lt
     have i1:(0:Int)≤(k:Int):=by omega
     have i2:(k:Int)<(x.aA.length:Int):=by omega
     go_wp2_with (first | (at_builtin;refine wpList_append_lies _ rfl _ _ _ rfl (w.heap.size+3) 142 i0 (.agg #[.int .i64 0,.int .i64 0]) 2 16 Tryz.underlying67 hi0 hz0 hz1 hz2 rfl (by omega) _ _ _ rfl ((st.own.alloc _).alloc _) ⟨wr.heap.size+1,0,none⟩ 1 1 [.int .i64 x.aA[k].aJ,.int .i64 x.aA[k].aP] rfl rfl (dK _ _ _ _ (by simp)) (by simp [Value.oneCell']) (by omega) (by simp only [maxLen];omega) (by omega) (by have:=st.sz;simp;omega) (wr.heap.size+1+1) (by simp) ?_))
     intro g1 cap w4 hown4 hgrow _ _;obtain ⟨xu,hst⟩:=GZ.append st ((Below.refl _ _).alloc (Nat.le_refl _) _) hlt hgrow hown4;have n6:=xu.frozen 6;have c6:=xu.cell (j:=6) rfl;have HST:=hide hst;clear hst hgrow hown4;go_wp2
     go_roundw
     case rel=>exact ⟨k+1,_,_,by omega,by go_num,HST.out⟩
     case measure=>simp [intOf] <;> omega
   · have hke:k=x.aA.length:=by omega
     subst hke;have hx:=st.bx;rw [Nz] at hx;have hown:=st.own;rw [List.take_length] at hown;have hrd:jl wr (fun b=>w.heap.size+3≤b) A c x.aA:=Reads.kG hown (fun b h=>h) (by omega);have hz:=st.z;have Sv:=uq x A c
     go_wp2_with (first | (refine aN 69 (.tmp 3) rfl ?_;refine aG hx Tryz.underlying69 rfl Z7 rfl (.tmp 3) rfl rfl ?_) | (refine aO 69 (.tmp 2) (.tmp 33) rfl ?_;refine aF hz (au ⟨x,A,c⟩) rfl Z7 Sv rfl (.tmp 2) (.tmp 33) rfl rfl rfl ?_))
     have hF:=hz.whole (au ⟨x,A,c⟩) rfl;refine bodyPost_ret (bP (p:=2) hF Tryz.underlying69 rfl Z7 rfl _ rfl) rfl ⟨A,c,rfl,?_,below_setCells _ (by omega) _ _ _ _ st.bw⟩;exact Reads.more (Reads.keep hrd (by rw [setCells_size];exact Nat.le_refl _) (fun b o hb hlt=>World.cell?_of_block (Held.lC (g:=w.heap.size+1) (b:=b) (by have hb:w.heap.size+3≤b:=hb;omega) _ _ _))) (fun b _ h=>by have h:w.heap.size+3≤b:=h;show w.heap.size≤b;omega)
end Go.Proofs.YtelpepbpdojikaaGreatDoor
