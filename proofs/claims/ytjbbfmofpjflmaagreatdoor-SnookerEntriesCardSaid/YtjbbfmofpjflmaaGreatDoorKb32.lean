/- Parts of a proof. -/
import Derived.Shelf.Strings.SlTrimAscii
import Derived.Test.YtjbbfmofpjflmaaGreatDoorKb31
set_option maxHeartbeats 800000
set_option maxRecDepth 100000
set_option linter.unusedVariables false
set_option linter.unusedSimpArgs false
namespace Go.Proofs.YtjbbfmofpjflmaaGreatDoor
open Go.RowKit
theorem L8 (b:Bool) (e:Int) (w:World):Calls Tryz.prog 187 #[.bool b,.int .i64 e] w fun r w'=>r= .returned (.int .i64 (wh b e))∧w=w':=by
 cases b
 all_goals
  go_enter Tryz.func187,Tryz.ntmps187
  go_wp2;go_ret;exact ⟨bf (by simp [wh]),rfl⟩
theorem Jo (S:Nat→Prop) (A:Option Addr) (c:Nat) (zs:List Int) (w:World) (h:jV w S A c zs):
 Calls Tryz.prog 186 #[.slice A zs.length c] w fun r w'=>r= .returned (.int .i64 (ou zs))∧w=w':=by
 obtain ⟨b1,b2,b3⟩:=h.bd
 go_enter Tryz.func186,Tryz.ntmps186
 go_wp2
 go_loop [7] (fun i=>∃ k:Nat,k≤zs.length∧i= .int .i64 k∧ou zs=ou (zs.drop k)) (fun i=>zs.length - (intOf i).toNat)
 case atStart=>exact ⟨0,Nat.zero_le _,rfl,by simp⟩
 case round=>
  obtain ⟨k,hk,rfl,hx⟩:=hrel
  by_cases hlt:k<zs.length
  · obtain ⟨b,o,rfl,_,_,hc⟩:=h.at_ k hlt
    have hck:=hc k hlt;rw [D5 hlt] at hx;clear hc
    by_cases he:zs[k]=0
    · have he':(zs[k] != 0)=false:=by simp [he]
      rw [if_neg (by simp [he])] at hx;have HX:=hide hx;clear hx he;go_wp2
      go_round
      case rel=>exact ⟨k+1,by omega,by go_num,HX.out⟩
      case measure=>simp [intOf];omega
    · have he':(zs[k] != 0)=true:=by simp [he]
      rw [if_pos he] at hx;have HX:=hide hx;clear hx he;go_wp2;go_ret;exact ⟨bf HX.out.symm,rfl⟩
  · have hz:ou zs=0:=by rw [hx,List.drop_of_length_le (by omega),ou]
    have HX:=hide hz;clear hx hz;go_wp2;go_ret;exact ⟨bf HX.out.symm,rfl⟩
theorem L9 (e:Int) (w:World):Calls Tryz.prog 187 #[.bool false,.int .i64 e] w fun r w'=>r= .returned (.int .i64 0)∧w'=w:=by
 refine (L8 false e w).mono ?_
 rintro r w' ⟨rfl,rfl⟩
 exact ⟨rfl,rfl⟩
theorem Jp (S:Nat→Prop) (A:Option Addr) (c:Nat) (w:World) (h:jV w S A c [0,0]):Calls Tryz.prog 186 #[.slice A 2 c] w fun r w'=>r= .returned (.int .i64 0)∧w'=w:=by
 refine (Jo S A c [0,0] w h).mono ?_
 rintro r w' ⟨rfl,rfl⟩
 exact ⟨rfl,rfl⟩
theorem qo (l:List UInt8) (c:UInt8) (r:List UInt8) (w:World) (hl:l=c::r) (hlen:l.length≤1000) (hc:c≠48) (ht:Lib.trimS l [48,49,50,51,52,53,54,55,56,57]=[]):
 Calls Tryz.prog 185 #[.string ⟨l.toArray⟩] w fun e w'=>e= .returned (.bool true)∧Below w.heap.size w w':=by
 have HT:∀ W,Calls Tryz.prog 220 #[.string ⟨l.toArray⟩,.string ⟨#[48,49,50,51,52,53,54,55,56,57]⟩] W fun e w'=>e= .returned (.string ⟨#[]⟩)∧Below W.heap.size W w':=fun W=>by
  have:=Any.strings_Trim_laid Tryz.lays160 (by kernel_rfl) ⟨l.toArray⟩ ⟨#[48,49,50,51,52,53,54,55,56,57]⟩ W (by rw [jC];omega) (by decide) (ascii_of_all (by decide))
  rwa [show Lib.trimS (ByteArray.mk l.toArray).data.toList (ByteArray.mk #[48,49,50,51,52,53,54,55,56,57]).data.toList=[] from ht] at this
 have hc':((c.toNat:Int) != 48)=true:=by
  rw [bne_iff_ne];intro e;exact hc (UInt8.toNat_inj.1 (by simp;omega))
 subst hl
 have hsz:(ByteArray.mk (c::r).toArray).size=r.length+1:=by rw [jC,List.length_cons]
 have h0:0<(ByteArray.mk (c::r).toArray).size:=by omega
 have hget:(ByteArray.mk (c::r).toArray)[0]=c:=rfl
 have hne:((ByteArray.mk (c::r).toArray).toList == [])=false:=by rw [M.toList_mk];rfl
 clear ht;have HT:=hide HT
 go_enter Tryz.func185,Tryz.ntmps185
 go_wp2_with (go_at_call 220;refine (HT.out _).mono ?_;rintro e w1 ⟨rfl,hb1⟩)
 go_ret;exact ⟨rfl,hb1⟩
end Go.Proofs.YtjbbfmofpjflmaaGreatDoor
