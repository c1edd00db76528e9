/- Parts of a proof. -/
import Derived.Test.YtelpepbpdojikaaGreatDoorKg7
import Derived.Test.YtelpepbpdojikaaGreatDoorKy2
set_option maxHeartbeats 800000
set_option maxRecDepth 100000
set_option linter.unusedVariables false
set_option linter.unusedSimpArgs false
namespace Go.Proofs.YtelpepbpdojikaaGreatDoor
open Go.RowKit
theorem aiu (r:M.Rules) (w:World):Calls Tryz.prog 37 #[jM r] w fun e w'=>e= .returned (.int .i64 (M.aH r))∧Below w.heap.size w w':=by
 obtain ⟨g,tg,fo⟩:=r
 rcases E8 g with rfl | rfl | rfl | ⟨h0,h1,h2,hk⟩
 all_goals
  go_enter Tryz.func37,Tryz.ntmps37
  go_wp2_with (go_at_call 78;refine (sF _ _ _ _).mono ?_;rintro e w1 ⟨rfl,rfl⟩)
  all_goals
   go_ret;refine ⟨dG ?_,(Below.refl _ _).alloc (Nat.le_refl _) _⟩
   first | (simp [M.aH,M.rP, *];done) | (simp_all [M.aH,M.rP];done)
theorem aev (r:M.Rules) (x:M.aI) (A:Option Addr) (c:Nat) (w:World):Calls Tryz.prog 98 #[jM r,iO x A c] w fun e w'=>e= .returned (.bool (M.calls r x))∧Below w.heap.size w w':=by
 obtain ⟨g,tg,fo⟩:=r;obtain ⟨pl,kd,ba,po,fi,cu,aA⟩:=x
 by_cases h1:kd=M.jO
 · subst h1
   by_cases h2:g=M.bM
   · subst h2
     go_enter Tryz.func98,Tryz.ntmps98
     go_wp2;go_ret;exact ⟨bZ (by simp [M.calls]),((Below.refl _ _).alloc (Nat.le_refl _) _).alloc (by simp) _⟩
   · have h2':=bQ h2
     go_enter Tryz.func98,Tryz.ntmps98
     go_wp2;go_ret;exact ⟨bZ (by simp [M.calls, *]),((Below.refl _ _).alloc (Nat.le_refl _) _).alloc (by simp) _⟩
 · have h1':=bQ h1
   go_enter Tryz.func98,Tryz.ntmps98
   go_wp2;go_ret;exact ⟨bZ (by simp [M.calls, *]),((Below.refl _ _).alloc (Nat.le_refl _) _).alloc (by simp) _⟩
theorem aiI (s:M.State) (A:Option Addr) (c:Nat) (w:World) (hg:0≤s.group∧s.group≤2):Calls Tryz.prog 104 #[wF s A c] w fun e w'=>e= .returned (.int .i64 (M.own s))∧Below w.heap.size w w':=by
 obtain ⟨a0,a1,a2,a3,a4,gr,bl,b0,b1,b2,b3,b4,b5,b6,b7⟩:=s;obtain ⟨hg1,hg2⟩:=hg
 simp only at hg1 hg2
 go_enter Tryz.func104,Tryz.ntmps104
 go_wp2
 all_goals
  go_ret;exact ⟨dG (by first | (simp [M.own, *];done) | (simp_all [M.own];done)),(Below.refl _ _).alloc (Nat.le_refl _) _⟩
theorem aeC (S:Nat→Prop) (l:List Sh) (A:Option Addr) (c:Nat) (w:World) (hp:wG w S A c l):
 Calls Tryz.prog 41 #[.slice A l.length c] w fun e w'=>e= .returned (.int .i64 (M.je (plain l)))∧Below w.heap.size w w':=by
 obtain ⟨b1,b2,b3⟩:=hp.bd
 by_cases hm:1000<l.length
 · have hck:M.je (plain l)=5:=by unfold M.je;rw [if_pos (by rw [eF];exact hm)]
   rw [hck]
   go_enter Tryz.func41,Tryz.ntmps41
   go_wp2;go_ret;exact ⟨rfl,Below.refl _ _⟩
 · have hck:M.je (plain l)=M.lD (plain l):=by unfold M.je;rw [if_neg (by rw [eF];exact hm)]
   rw [hck];clear hck
   go_enter Tryz.func41,Tryz.ntmps41
   go_wp2
   go_loopw [3,4] (fun i _ wr=>∃ k:Nat,k≤l.length∧i= .int .i64 k∧M.lD (plain l)=M.lD ((plain l).drop k)∧Below w.heap.size w wr) (fun i _ _=>l.length - (intOf i).toNat)
   case atStart=>exact ⟨0,Nat.zero_le _,rfl,by simp,Below.refl _ _⟩
   case round=>
    obtain ⟨k,hk,rfl,hx1,hb⟩:=hrel
    by_cases hlt:k<l.length
    · obtain ⟨b,o,rfl,_,hbl,hc⟩:=hp.at_ k hlt
      obtain ⟨e0,e1,e2,e3,e4,e5,e6⟩:=hc k hlt;clear hc;obtain ⟨hcb,hfb⟩:=Rq hb;have hst:=tN hlt;have HP:=hide ((hp.aA k hlt).below hb);have HX:=hide (hx1.trans hst);clear hx1 hst;have hcall:=fun W:World=>AL S l[k].x l[k].a l[k].c W;have HC:=hide hcall;clear hcall
      by_cases hz:M.cZ l[k].x=0
      · have hz':(M.cZ l[k].x != 0)=false:=by simp [hz]
        rw [if_neg (by simp [hz])] at HX;have HZ:=hide hz;clear hz
        go_wp2_with (go_at_call 30;refine (HC.out _ HP.out).mono ?_;rintro e w1 ⟨rfl,hb1⟩)
        go_roundw
        case rel=>exact ⟨k+1,by omega,by go_num,HX.out,hb.trans (hb1.mono hb.size)⟩
        case measure=>simp [intOf];omega
      · have hz':(M.cZ l[k].x != 0)=true:=by simp [hz]
        rw [if_pos hz] at HX
        go_wp2_with (go_at_call 30;refine (HC.out _ HP.out).mono ?_;rintro e w1 ⟨rfl,hb1⟩)
        go_ret;exact ⟨dG HX.out.symm,hb.trans (hb1.mono hb.size)⟩
    · have hkk:k=l.length:=by omega
      have hz:M.lD (plain l)=0:=by rw [hx1,hkk, ← eF l,List.drop_length,M.lD]
      clear hx1 hkk;go_wp2;go_ret;exact ⟨dG hz.symm,hb⟩
end Go.Proofs.YtelpepbpdojikaaGreatDoor
