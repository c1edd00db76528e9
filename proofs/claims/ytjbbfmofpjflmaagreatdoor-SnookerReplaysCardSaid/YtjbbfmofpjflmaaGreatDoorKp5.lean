/- Parts of a proof. -/
import Derived.Test.YtjbbfmofpjflmaaGreatDoorKp0
import Derived.Test.YtjbbfmofpjflmaaGreatDoorKp1
import Derived.Test.YtjbbfmofpjflmaaGreatDoorKr19
set_option maxHeartbeats 3200000
set_option maxRecDepth 100000
set_option linter.unusedVariables false
set_option linter.unusedSimpArgs false
namespace Go.Proofs.YtjbbfmofpjflmaaGreatDoor
open Go.RowKit
theorem ab9:(Tryz.prog.info? 141).map (fun i=>(i.zero,i.size,i.bytes))=some (some (.agg #[.int .i64 0,.int .i64 0]),2,16):=by kernel_rfl
theorem aev:(Tryz.prog.info? 140).map (·.size)=some 2:=by kernel_rfl
theorem adx (S:Nat→Prop) (l:List Sk.wR) (A:Option Addr) (c:Nat) (w:World) (hp:Reads w S 2 A l.length c (WV l)) (hl:l.length≤1000):
 Calls Tryz.prog 32 #[.slice A l.length c] w fun e w'=>∃ A' c',e= .returned (.slice A' l.length c')∧Reads w' (fun b=>w.heap.size≤b) 2 A' l.length c' (WV l)∧Below w.heap.size w w':=by
 obtain ⟨b1,b2,b3⟩:=Reads.bd hp;obtain ⟨i0,hi0,hz0,hz1,hz2⟩:=info_parts ab9
 go_enter Tryz.func32,Tryz.ntmps32
 go_wp2
 go_loopw [3,4] (fun v i wr=>∃ (k:Nat) (A':Option Addr) (c':Nat),k≤l.length∧i= .int .i64 k∧v= .slice A' k c'∧wr.ownsRow w.heap.size 141 2 (.slice A' k c') k (WV (l.take k))∧Below w.heap.size w wr) (fun _ i=>fun _=>l.length - (intOf i).toNat)
 case atStart=>exact ⟨0,none,0,Nat.zero_le _,rfl,rfl,World.ownsRow_nil _ _ _ _,Below.refl _ _⟩
 case round=>
  obtain ⟨k,A',c',hk,rfl,rfl,hown,hbw⟩:=hrel;have aA8:=hbw.size
  by_cases hlt:k<l.length
  · obtain ⟨b,o,rfl,_,hbl,hcs⟩:=Reads.at_ (Reads.below hp hbw) (by omega)
    have h00:wr.rangeAt b (o+k*2) ([.int .i64 l[k].number,.int .i64 l[k].rule]):=fun j v hj=>by
     have h:=hcs (k*2+j) v (uJ (f:=fun x:Sk.wR=>[.int .i64 x.number,.int .i64 x.rule]) (n:=2) (fun _=>rfl) k hlt hj)
     rwa [← Nat.add_assoc] at h
    have i1:(0:Int)≤(k:Int):=by omega
    have i2:(k:Int)<(l.length:Int):=by omega
    have hes:WV (l.take (k+1))=WV (l.take k)++[.int .i64 l[k].number,.int .i64 l[k].rule]:=by rw [List.take_succ_eq_append_getElem hlt,J4];rfl
    have HES:=hide hes;clear hes hcs
    go_wp2_with (first | ((with_reducible (refine dw 140 (.tmp 14) ?lx ?_));(case lx=>rfl);refine fH (g:=b) (o:=o+k*2) h00 Tryz.underlying140 rfl aev rfl (.tmp 14) rfl rfl ?_) | (at_builtin;refine wpList_append_lies _ rfl _ _ _ rfl w.heap.size 141 i0 (.agg #[.int .i64 0,.int .i64 0]) 2 16 Tryz.underlying56 hi0 hz0 hz1 hz2 rfl (by omega) _ _ _ rfl (hown.alloc _) ⟨wr.heap.size,0,none⟩ 1 1 ([.int .i64 l[k].number,.int .i64 l[k].rule]) rfl rfl (jK _ _ _ _ (by simp)) (by simp [Value.oneCell']) (by omega) (by simp only [maxLen];omega) (by omega) (by simp;omega) (wr.heap.size+1) (by simp) ?_))
    intro g1 cap w4 hown4 hgrow hat _;have hb4:Below w.heap.size w w4:=(hbw.alloc (by omega) _).trans (Ls (hown.alloc _) hgrow (by omega) (by simp;omega));rw [← HES.out] at hown4;have HO:=hide hown4;clear hown4 hgrow;go_wp2
    go_roundw
    case rel=>exact ⟨k+1,_,_,by omega,by go_num,rfl,HO.out,hb4⟩
    case measure=>simp [intOf];omega
  · have hke:k=l.length:=by omega
    subst hke;rw [List.take_length] at hown;have HRD:=hide (Reads.Bz hown (S:=fun b=>w.heap.size≤b) (fun b h=>h) (by omega));clear hown;go_wp2;go_ret;exact ⟨_,_,rfl,HRD.out,hbw⟩
theorem acy (S S':Nat→Prop) (l:List Sk.wR) (A B:Option Addr) (c d:Nat) (w:World) (h1:Reads w S 2 A l.length c (WV l)) (h2:Reads w S' 2 B l.length d (WV l)):
 Calls Tryz.prog 31 #[.slice A l.length c,.slice B l.length d] w fun e w'=>e= .returned (.bool true)∧Below w.heap.size w w':=by
 obtain ⟨b1,b2,b3⟩:=Reads.bd h1;obtain ⟨b4,b5,b6⟩:=Reads.bd h2
 go_enter Tryz.func31,Tryz.ntmps31
 have q1:((l.length:Int) != (l.length:Int))=false:=by simp
 go_wp2
 go_loopw [5] (fun i wr=>∃ k:Nat,k≤l.length∧i= .int .i64 k∧Below w.heap.size w wr) (fun i _=>l.length - (intOf i).toNat)
 case atStart=>exact ⟨0,Nat.zero_le _,rfl,Below.refl _ _⟩
 case round=>
  obtain ⟨k,hk,rfl,hbw⟩:=hrel
  by_cases hlt:k<l.length
  · obtain ⟨a,o,rfl,_,hal,hca⟩:=Reads.at_ h1 (by omega)
    obtain ⟨b,p,rfl,_,hbl,hcb⟩:=Reads.at_ h2 (by omega);have e0:(WV l)[k*2+0]? =some (.int .i64 l[k].number):=uJ (f:=fun x:Sk.wR=>[.int .i64 x.number,.int .i64 x.rule]) (n:=2) (fun _=>rfl) k hlt (j:=0) rfl;have e1:(WV l)[k*2+1]? =some (.int .i64 l[k].rule):=uJ (f:=fun x:Sk.wR=>[.int .i64 x.number,.int .i64 x.rule]) (n:=2) (fun _=>rfl) k hlt (j:=1) rfl;have DV:=(hbw.cell (p:=⟨a,o+(k*2+0),none⟩) hal).trans (hca _ _ e0);have ka1:=(hbw.cell (p:=⟨a,o+(k*2+1),none⟩) hal).trans (hca _ _ e1);have Ii:=(hbw.cell (p:=⟨b,p+(k*2+0),none⟩) hbl).trans (hcb _ _ e0);have Me:=(hbw.cell (p:=⟨b,p+(k*2+1),none⟩) hbl).trans (hcb _ _ e1);rw [Nat.add_zero] at DV Ii;rw [← Nat.add_assoc] at ka1 Me
    have i1:(0:Int)≤(k:Int):=by omega
    have i2:(k:Int)<(l.length:Int):=by omega
    clear e0 e1 hca hcb
    go_upto_region 6 with (fail)
    go_cut [25] from 15 to 26 (fun v25 wx=>v25= .bool false∧Below w.heap.size w wx)
    case first=>
     go_wp2
     go_quiet (fail)
     go_wp2;go_meet;exact ⟨congrArg Value.bool (by simp),below_drewN hbw nq⟩
    case rest=>
     obtain ⟨rfl,hbw⟩:=hcut;clear DV ka1 Ii Me;go_wp2
     go_roundw
     case rel=>exact ⟨k+1,by omega,by go_num,hbw⟩
     case measure=>simp [intOf];omega
  · go_wp2
    go_ret;exact ⟨rfl,hbw⟩
end Go.Proofs.YtjbbfmofpjflmaaGreatDoor
