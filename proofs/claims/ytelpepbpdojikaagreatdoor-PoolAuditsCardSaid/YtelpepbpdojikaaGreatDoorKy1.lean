/- Parts of a proof. -/
import Derived.Test.YtelpepbpdojikaaGreatDoorKg1
import Derived.Test.YtelpepbpdojikaaGreatDoorKy0
set_option maxHeartbeats 800000
set_option maxRecDepth 100000
set_option linter.unusedVariables false
set_option linter.unusedSimpArgs false
namespace Go.Proofs.YtelpepbpdojikaaGreatDoor
open Go.RowKit
section
variable {w w':World} {S S':Nat→Prop} {size n c:Nat} {A:Option Addr} {xs:List Value}
end
theorem ath {B:Nat} {W w1:World} (hb:Below B W w1):(∀ b o,b<B→w1.cell? ⟨b,o,none⟩=W.cell? ⟨b,o,none⟩)∧(∀ b o,b<B→w1.frozen? ⟨b,o,none⟩=W.frozen? ⟨b,o,none⟩):=
 ⟨fun b o h=>hb.cell (p:=⟨b,o,none⟩) h,fun b o h=>hb.frozen (p:=⟨b,o,none⟩) h⟩
theorem adT {x:Int} {l:List Int} {k:Nat} (hk:k<l.length) (h:x ∉ l.take k) (hx:l[k]≠x):x ∉ l.take (k+1):=by
 rw [List.take_succ_eq_append_getElem hk]
 simp only [List.mem_append,List.mem_singleton,not_or]
 exact ⟨h,fun e=>hx e.symm⟩
theorem ZK (S:Nat→Prop) (A:Option Addr) (c:Nat) (zs:List Int) (x:Int) (w:World) (h:bD w S A c zs):
 Calls Tryz.prog 54 #[.slice A zs.length c,.int .i64 x] w fun r w'=>r= .returned (.bool (decide (x∈zs)))∧w=w':=by
 obtain ⟨b1,b2,b3⟩:=h.bd
 go_enter Tryz.func54,Tryz.ntmps54
 go_wp2
 go_loop [5] (fun i=>∃ k:Nat,k≤zs.length∧i= .int .i64 k∧x ∉ zs.take k) (fun i=>zs.length - (intOf i).toNat)
 case atStart=>exact ⟨0,Nat.zero_le _,rfl,by simp⟩
 case round=>
  obtain ⟨k,hk,rfl,hx⟩:=hrel
  by_cases hlt:k<zs.length
  · obtain ⟨b,o,rfl,_,_,hc⟩:=h.at_ k hlt
    have hck:=hc k hlt;clear hc
    by_cases he:zs[k]=x
    · go_wp2
      go_ret
      have:x∈zs:=by rw [← he];exact List.getElem_mem hlt
      exact ⟨bZ (by simp [this]),rfl⟩
    · go_wp2
      go_round
      case rel=>exact ⟨k+1,by omega,by go_num,adT hlt hx he⟩
      case measure=>simp [intOf];omega
  · go_wp2
    go_ret;rw [List.take_of_length_le (by omega)] at hx;exact ⟨bZ (by simp [hx]),rfl⟩
theorem group_any (n:Int) (w:World):Calls Tryz.prog 102 #[.int .i64 n] w fun r w'=>r= .returned (.int .i64 (M.side n))∧w=w':=by
 go_enter Tryz.func102,Tryz.ntmps102
 go_wp2
 all_goals
  go_ret;exact ⟨dG (by simp [M.side, *];try omega),rfl⟩
theorem Z5 (r:M.Rules) (w:World):Calls Tryz.prog 90 #[jM r] w fun e w'=>
 ∃ A c,e= .returned (.slice A (M.jA r).length c)∧bD w' (fun b=>w.heap.size≤b) A c (M.jA r)∧Below w.heap.size w w':=by
 obtain ⟨i0,hi,hz0,hz1,hz2⟩:=info_parts uN;obtain ⟨g,tg,fo⟩:=r
 by_cases hg:g=M.bM
 · subst hg
   go_enter Tryz.func90,Tryz.ntmps90
   go_wp2
   go_loopw [4,5] (fun v i wr=>∃ k:Nat,k≤9∧i= .int .i64 (k+1)∧(∃ A c,v= .slice A k c)∧wr.ownsRow (w.heap.size+1) 3 1 v k ((M.kH k).map (Value.int .i64))∧Below (w.heap.size+1) (w.alloc (.cells #[.string M.bM,.int .i64 tg,.int .i64 fo] 25)) wr)
    (fun _ i _=>9+1 - (intOf i).toNat)
   case atStart=>exact ⟨0,by omega,rfl,⟨_,_,rfl⟩,World.ownsRow_nil _ _ _ _,Below.refl _ _⟩
   case round=>
    obtain ⟨k,hk,rfl,⟨A,c,rfl⟩,hown,hb⟩:=hrel
    by_cases hlt:k<9
    · go_wp2_with (at_builtin;go_loud (refine wpList_append_lies _ rfl _ _ _ rfl (w.heap.size+1) 3 i0 (.int .i64 0) 1 8 Tryz.underlying30 hi hz0 hz1 hz2 rfl (by omega) _ _ _ rfl (hown.alloc _) ⟨wr.heap.size,0,none⟩ 1 1 [.int .i64 (k+1)] rfl rfl (wQ _ _ _) ?c1 (by omega) ?c2 ?c3 ?c4 (wr.heap.size+1) (by simp) ?_))
      case c1=>simp [Value.oneCell']
      case c2=>simp only [maxLen];omega
      case c3=>omega
      case c4=>have:=hb.size;simp at this;simp;omega
      intro g1 cap w1 hown1 hgrow _ _;have hbd:Below (w.heap.size+1) (wr.alloc (.cells #[.int .i64 (k+1)] 3)) w1:=dX (hown.alloc _) hgrow (by omega) (by have:=hb.size;simp at this;simp;omega);have hb1:Below (w.heap.size+1) _ w1:=(hb.alloc (by have:=hb.size;simp at this;omega) _).trans hbd
      have hown2:w1.ownsRow (w.heap.size+1) 3 1 (.slice (some ⟨g1,0,none⟩) (k+1) cap) (k+1) ((M.kH (k+1)).map (Value.int .i64)):=by rw [yx];simpa using hown1
      clear hown hgrow hown1 hbd hb;go_wp2
      go_roundw
      case rel=>exact ⟨k+1,by omega,by go_num,⟨_,_,rfl⟩,hown2,hb1⟩
      case measure=>simp [intOf];omega
    · obtain rfl:k=9:=by omega
      go_wp2;go_ret
      have hr:M.jA ⟨M.bM,tg,fo⟩=M.kH 9:=by simp [M.jA,M.dS]
      rw [hr,kQ];refine ⟨A,c,rfl,?_,((Below.refl _ _).alloc (Nat.le_refl _) _).trans (hb.mono (by omega))⟩
      unfold bD
      rw [kQ];exact Reads.kG hown (fun b h=>by omega) (by omega)
 · have hg':(g.toList == [110,105,110,101])=false:=beq_eq_false_iff_ne.2 (bQ hg)
   go_enter Tryz.func90,Tryz.ntmps90
   go_wp2
   go_loopw [4,5] (fun v i wr=>∃ k:Nat,k≤15∧i= .int .i64 (k+1)∧(∃ A c,v= .slice A k c)∧wr.ownsRow (w.heap.size+1) 3 1 v k ((M.kH k).map (Value.int .i64))∧Below (w.heap.size+1) (w.alloc (.cells #[.string g,.int .i64 tg,.int .i64 fo] 25)) wr)
    (fun _ i _=>15+1 - (intOf i).toNat)
   case atStart=>exact ⟨0,by omega,rfl,⟨_,_,rfl⟩,World.ownsRow_nil _ _ _ _,Below.refl _ _⟩
   case round=>
    obtain ⟨k,hk,rfl,⟨A,c,rfl⟩,hown,hb⟩:=hrel
    by_cases hlt:k<15
    · go_wp2_with (at_builtin;go_loud (refine wpList_append_lies _ rfl _ _ _ rfl (w.heap.size+1) 3 i0 (.int .i64 0) 1 8 Tryz.underlying30 hi hz0 hz1 hz2 rfl (by omega) _ _ _ rfl (hown.alloc _) ⟨wr.heap.size,0,none⟩ 1 1 [.int .i64 (k+1)] rfl rfl (wQ _ _ _) ?c1 (by omega) ?c2 ?c3 ?c4 (wr.heap.size+1) (by simp) ?_))
      case c1=>simp [Value.oneCell']
      case c2=>simp only [maxLen];omega
      case c3=>omega
      case c4=>have:=hb.size;simp at this;simp;omega
      intro g1 cap w1 hown1 hgrow _ _;have hbd:Below (w.heap.size+1) (wr.alloc (.cells #[.int .i64 (k+1)] 3)) w1:=dX (hown.alloc _) hgrow (by omega) (by have:=hb.size;simp at this;simp;omega);have hb1:Below (w.heap.size+1) _ w1:=(hb.alloc (by have:=hb.size;simp at this;omega) _).trans hbd
      have hown2:w1.ownsRow (w.heap.size+1) 3 1 (.slice (some ⟨g1,0,none⟩) (k+1) cap) (k+1) ((M.kH (k+1)).map (Value.int .i64)):=by rw [yx];simpa using hown1
      clear hown hgrow hown1 hbd hb;go_wp2
      go_roundw
      case rel=>exact ⟨k+1,by omega,by go_num,⟨_,_,rfl⟩,hown2,hb1⟩
      case measure=>simp [intOf];omega
    · obtain rfl:k=15:=by omega
      go_wp2;go_ret
      have hr:M.jA ⟨g,tg,fo⟩=M.kH 15:=by simp [M.jA,M.dS,hg]
      rw [hr,kQ];refine ⟨A,c,rfl,?_,((Below.refl _ _).alloc (Nat.le_refl _) _).trans (hb.mono (by omega))⟩
      unfold bD
      rw [kQ];exact Reads.kG hown (fun b h=>by omega) (by omega)
end Go.Proofs.YtelpepbpdojikaaGreatDoor
