/- Parts of a proof. -/
import Derived.Test.YtelpepbpdojikaaGreatDoorKg2
import Derived.Test.YtelpepbpdojikaaGreatDoorKy1
set_option maxHeartbeats 800000
set_option maxRecDepth 100000
set_option linter.unusedVariables false
set_option linter.unusedSimpArgs false
namespace Go.Proofs.YtelpepbpdojikaaGreatDoor
open Go.RowKit
section
variable {w w':World} {S S':Nat→Prop} {A:Option Addr} {c:Nat} {l:List Sh}
end
section
variable {w w':World} {S S':Nat→Prop} {A:Option Addr} {c:Nat} {zs:List Int} {ps:List M.rD}
end
theorem ZN {P:Program} {f:FuncId} {args:Array Value} {w:World} {a n:Nat} {v:Value}
 (h:Calls P f args (w.drewN (a+n)) fun e w'=>e= .returned v∧w.drewN (a+n)=w'):
 Calls P f args (w.drewN (a+n)) fun e w''=>e= .returned v∧∃ m,w''=w.drewN (a+m):=
 h.mono fun _ _ ⟨he,hm⟩=>⟨he,n,hm.symm⟩
section
variable {w B W W':World} {nb:Nat}
theorem Keeps.of3 (w:World) (o p q:Obj):Keeps w (((w.alloc o).alloc p).alloc q) 3 (((w.alloc o).alloc p).alloc q):= .of ((((Below.refl _ _).alloc (Nat.le_refl _) _).alloc (by simp) _).alloc (by simp;omega) _) (by simp)
end
theorem Ze (S:Nat→Prop) (x:M.aI) (A:Option Addr) (c:Nat) (w:World) (hp:jl w S A c x.aA):
 Calls Tryz.prog 72 #[iO x A c] w fun e w'=>∃ A' c',e= .returned (.slice A' (M.objects x).length c')∧bD w' (fun b=>w.heap.size≤b) A' c' (M.objects x)∧Below w.heap.size w w':=by
 obtain ⟨i0,hi,hz0,hz1,hz2⟩:=info_parts uN;obtain ⟨b1,b2,b3⟩:=hp.bd;obtain ⟨pl,kd,ba,po,fi,cu,aA⟩:=x
 go_enter Tryz.func72,Tryz.ntmps72
 go_wp2
 go_loopw [3,4] (fun v i wr=>∃ k:Nat,k≤aA.length∧i= .int .i64 k∧(∃ A c,v= .slice A (lT (aA.take k)).length c)∧wr.ownsRow (w.heap.size+1) 3 1 v (lT (aA.take k)).length ((lT (aA.take k)).map (Value.int .i64))∧Below (w.heap.size+1) (w.alloc (.cells #[.int .i64 pl,.string kd,.int .i64 ba,.int .i64 po,.int .i64 fi,.bool cu,.slice A aA.length c] 69)) wr)
  (fun _ i _=>aA.length - (intOf i).toNat)
 case atStart=>exact ⟨0,by omega,rfl,⟨_,_,rfl⟩,World.ownsRow_nil _ _ _ _,Below.refl _ _⟩
 case round=>
  obtain ⟨k,hk,rfl,⟨A1,c1,rfl⟩,hown,hb⟩:=hrel;obtain ⟨hc1,hf1⟩:=ath hb
  by_cases hlt:k<aA.length
  · obtain ⟨b,o,rfl,_,hbl,hc⟩:=hp.at_ k hlt
    have hcell:=(hc k hlt).1;clear hc
    by_cases hz:aA[k].aJ=0
    · have hz':(aA[k].aJ != 0)=false:=by simp [hz]
      have hs:lT (aA.take (k+1))=lT (aA.take k):=by rw [zK hlt,if_pos hz];simp
      have HS:=hide hs;have HZ:=hide hz;clear hs hz;go_wp2
      go_roundw
      case rel=>exact ⟨k+1,by omega,by go_num,by rw [HS.out];exact ⟨⟨_,_,rfl⟩,hown,hb⟩⟩
      case measure=>simp [intOf];omega
    · have hz':(aA[k].aJ != 0)=true:=by simp [hz]
      have hs:lT (aA.take (k+1))=lT (aA.take k)++[aA[k].aJ]:=by rw [zK hlt,if_neg hz]
      have hle:=zJ (aA.take k);rw [List.length_take] at hle;have hsz:=hb.size
      simp at hsz
      have HS:=hide hs;clear hs hz
      go_wp2_with (at_builtin;refine wpList_append_lies _ rfl _ _ _ rfl (w.heap.size+1) 3 i0 (.int .i64 0) 1 8 Tryz.underlying30 hi hz0 hz1 hz2 rfl (by omega) _ _ _ rfl (hown.alloc _) ⟨wr.heap.size,0,none⟩ 1 1 [.int .i64 aA[k].aJ] rfl rfl (dK _ _ _ _ (by simp)) ?c1 (by omega) ?c2 ?c3 ?c4 (wr.heap.size+1) (by simp) ?_)
      case c1=>simp [Value.oneCell']
      case c2=>simp only [maxLen];omega
      case c3=>omega
      case c4=>simp;omega
      intro g1 cap w1 hown1 hgrow _ _;have hbd:=dX (B:=w.heap.size+1) (hown.alloc _) hgrow (by omega) (by simp;omega);have hb1:=(hb.alloc (by omega) _).trans hbd
      have hown2:w1.ownsRow (w.heap.size+1) 3 1 (.slice (some ⟨g1,0,none⟩) (lT (aA.take (k+1))).length cap) (lT (aA.take (k+1))).length ((lT (aA.take (k+1))).map (Value.int .i64)):=by rw [HS.out];simpa using hown1
      have hv:(lT (aA.take k)).length+1=(lT (aA.take (k+1))).length:=by rw [HS.out];simp
      rw [hv];clear hown hgrow hown1 hbd hb hc1 hf1 hle hv HS hcell;go_wp2
      go_roundw
      case rel=>exact ⟨k+1,by omega,by go_num,⟨_,_,rfl⟩,hown2,hb1⟩
      case measure=>simp [intOf];omega
  · obtain rfl:k=aA.length:=by omega
    go_wp2;go_ret;have hr:M.objects ⟨pl,kd,ba,po,fi,cu,aA⟩=lT aA:=rfl;have hle:=zJ aA;rw [List.take_length] at hown ⊢;rw [hr];exact ⟨A1,c1,rfl,Reads.kG hown (fun b h=>by omega) (by omega),((Below.refl _ _).alloc (Nat.le_refl _) _).trans (hb.mono (by omega))⟩
end Go.Proofs.YtelpepbpdojikaaGreatDoor
