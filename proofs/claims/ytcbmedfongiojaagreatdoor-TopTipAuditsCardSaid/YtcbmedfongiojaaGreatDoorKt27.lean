/- Parts of a proof. -/
import Derived.Shelf.Strings.SlTrimAscii
import Derived.Test.YtcbmedfongiojaaGreatDoorKt26
set_option maxHeartbeats 2000000
set_option maxRecDepth 100000
set_option linter.unusedVariables false
set_option linter.unusedSimpArgs false
namespace Go.Proofs.YtcbmedfongiojaaGreatDoor
open Go.RowKit
theorem LK (b:Bool) (e:Int) (w:World):Calls Tryz.prog 159 #[.bool b,.int .i64 e] w fun r w'=>r= .returned (.int .i64 (wh b e))∧w=w':=by
 cases b
 all_goals
  go_enter Tryz.func159,Tryz.ntmps159
  go_wp2;go_ret;exact ⟨bG (by simp [wh]),rfl⟩
theorem Jb (S:Nat→Prop) (A:Option Addr) (c:Nat) (zs:List Int) (w:World) (h:kX w S A c zs):
 Calls Tryz.prog 158 #[.slice A zs.length c] w fun r w'=>r= .returned (.int .i64 (jK zs))∧w=w':=by
 obtain ⟨b1,b2,b3⟩:=h.bd
 go_enter Tryz.func158,Tryz.ntmps158
 go_wp2
 go_loop [7] (fun i=>∃ k:Nat,k≤zs.length∧i= .int .i64 k∧jK zs=jK (zs.drop k)) (fun i=>zs.length - (intOf i).toNat)
 case atStart=>exact ⟨0,Nat.zero_le _,rfl,by simp⟩
 case round=>
  obtain ⟨k,hk,rfl,hx⟩:=hrel
  by_cases hlt:k<zs.length
  · obtain ⟨b,o,rfl,_,_,hc⟩:=h.at_ k hlt
    have hck:=hc k hlt;rw [vg hlt] at hx;clear hc
    by_cases he:zs[k]=0
    · have he':(zs[k] != 0)=false:=by simp [he]
      rw [if_neg (by simp [he])] at hx;have HX:=hide hx;clear hx he;go_wp2
      go_round
      case rel=>exact ⟨k+1,by omega,by go_num,HX.out⟩
      case measure=>simp [intOf];omega
    · have he':(zs[k] != 0)=true:=by simp [he]
      rw [if_pos he] at hx;have HX:=hide hx;clear hx he;go_wp2;go_ret;exact ⟨bG HX.out.symm,rfl⟩
  · have hz:jK zs=0:=by rw [hx,List.drop_of_length_le (by omega),jK]
    have HX:=hide hz;clear hx hz;go_wp2;go_ret;exact ⟨bG HX.out.symm,rfl⟩
theorem CY (e:Int) (w:World):Calls Tryz.prog 159 #[.bool false,.int .i64 e] w fun r w'=>r= .returned (.int .i64 0)∧w'=w:=by
 refine (LK false e w).mono ?_
 rintro r w' ⟨rfl,rfl⟩
 exact ⟨rfl,rfl⟩
theorem zY (S:Nat→Prop) (A:Option Addr) (c:Nat) (w:World) (h:kX w S A c [0,0]):Calls Tryz.prog 158 #[.slice A 2 c] w fun r w'=>r= .returned (.int .i64 0)∧w'=w:=by
 refine (Jb S A c [0,0] w h).mono ?_
 rintro r w' ⟨rfl,rfl⟩
 exact ⟨rfl,rfl⟩
theorem pJ (l:List UInt8) (c:UInt8) (r:List UInt8) (w:World) (hl:l=c::r) (hlen:l.length≤1000) (hc:c≠48) (ht:Lib.trimS l [48,49,50,51,52,53,54,55,56,57]=[]):
 Calls Tryz.prog 157 #[.string ⟨l.toArray⟩] w fun e w'=>e= .returned (.bool true)∧Below w.heap.size w w':=by
 have HT:∀ W,Calls Tryz.prog 212 #[.string ⟨l.toArray⟩,.string ⟨#[48,49,50,51,52,53,54,55,56,57]⟩] W fun e w'=>e= .returned (.string ⟨#[]⟩)∧Below W.heap.size W w':=fun W=>by
  have:=Any.strings_Trim_laid Tryz.lays160 (by kernel_rfl) ⟨l.toArray⟩ ⟨#[48,49,50,51,52,53,54,55,56,57]⟩ W (by rw [lM];omega) (by decide) (ascii_of_all (by decide))
  rwa [show Lib.trimS (ByteArray.mk l.toArray).data.toList (ByteArray.mk #[48,49,50,51,52,53,54,55,56,57]).data.toList=[] from ht] at this
 have hc':((c.toNat:Int) != 48)=true:=by
  rw [bne_iff_ne];intro e;exact hc (UInt8.toNat_inj.1 (by simp;omega))
 subst hl
 have hsz:(ByteArray.mk (c::r).toArray).size=r.length+1:=by rw [lM,List.length_cons]
 have h0:0<(ByteArray.mk (c::r).toArray).size:=by omega
 have hget:(ByteArray.mk (c::r).toArray)[0]=c:=rfl
 have hne:((ByteArray.mk (c::r).toArray).toList == [])=false:=by rw [M.toList_mk];rfl
 clear ht;have HT:=hide HT
 go_enter Tryz.func157,Tryz.ntmps157
 go_wp2_with (go_at_call 212;refine (HT.out _).mono ?_;rintro e w1 ⟨rfl,hb1⟩)
 go_ret;exact ⟨rfl,hb1⟩
theorem vP (l:List UInt8) (c:UInt8) (r:List UInt8) (w:World) (hg:Glob w) (hl:l=c::r) (hlen:l.length≤18) (hc:c≠48) (ht:Lib.trimS l [48,49,50,51,52,53,54,55,56,57]=[]) (hp:Lib.hasPrefix l [45]=false) (hq:Lib.trimPrefix l [45]=l) (hcut:Lib.cut l [47]=(l,[],false)):
 Calls Tryz.prog 88 #[.string ⟨l.toArray⟩] w fun e w'=>e= .returned (.int .i64 0)∧Below w.heap.size w w':=by
 have HC:∀ W,Glob W→Calls Tryz.prog 89 #[.string ⟨l.toArray⟩,.string ⟨#[47]⟩] W fun e w'=>e= .returned (.tuple #[.string ⟨l.toArray⟩,.string ⟨#[]⟩,.bool false])∧∃ n,w'=W.drewN n:=fun W hG=>by
  obtain ⟨m,hm⟩:=hG.n
  have:=Tryz.strings_Cut ⟨l.toArray⟩ ⟨#[47]⟩ m W (by rw [lM];omega) hm
  rwa [show Lib.cut (ByteArray.mk l.toArray).data.toList (ByteArray.mk #[47]).data.toList=(l,[],false) from hcut] at this
 have HP:∀ W,Calls Tryz.prog 156 #[.string ⟨l.toArray⟩,.string ⟨#[45]⟩] W fun e w'=>e= .returned (.tuple #[.string ⟨l.toArray⟩,.bool false])∧w'=W:=fun W=>by
  have:=Tryz.strings_CutPrefix ⟨l.toArray⟩ ⟨#[45]⟩ W
  rwa [show Lib.trimPrefix (ByteArray.mk l.toArray).data.toList (ByteArray.mk #[45]).data.toList=l from hq,show Lib.hasPrefix (ByteArray.mk l.toArray).data.toList (ByteArray.mk #[45]).data.toList=false from hp] at this
 have HD:=fun W=>pJ l c r W hl (by omega) hc ht;have hsz:=lM l;obtain ⟨s,hs⟩:∃ s:ByteArray,⟨l.toArray⟩=s:=⟨_,rfl⟩
 simp only [hs] at HC HP HD hsz ⊢
 obtain ⟨n,hn⟩:∃ n,l.length=n:=⟨_,rfl⟩;rw [hn] at hsz hlen;have hgt:decide (600<(n:Int))=false:=decide_eq_false (by omega);clear hs hn ht hp hq hcut hl;have HC:=hide HC;have HP:=hide HP;have HD:=hide HD
 go_enter Tryz.func88,Tryz.ntmps88
 go_upto_region 6 with (first | (go_at_call 156;refine (HP.out _).mono ?_;rintro e w1 ⟨rfl,rfl⟩) | (go_at_call 89;refine (HC.out _ hg).mono ?_;rintro e w2 ⟨rfl,k,rfl⟩;have hb2:=below_drewN (Below.refl w1.heap.size w1) k) | (go_at_call 157;refine (HD.out _).mono ?_;rintro e w3 ⟨rfl,hb3⟩;have OU:=hb2.trans (hb3.mono (by exact hb2.size))))
 go_wp2_with (first | (go_at_call 159;refine (CY _ _).mono ?_;rintro e oh ⟨rfl,rfl⟩) | (go_at_call 158;refine (zY (fun _=>True) _ _ _ (kX.lit _ _ [0,0] (by simp) _ trivial)).mono ?_;rintro e oh ⟨rfl,rfl⟩))
 go_ret;exact ⟨rfl,OU.alloc (by exact OU.size) _⟩
end Go.Proofs.YtcbmedfongiojaaGreatDoor
