/- Parts of the proofs about chapter 5 (pool), joined by program. -/
import Derived.ChangeKeysEq
import Derived.Test.YtelpepbpdojikaaGreatDoorKg3
import Derived.Test.YtelpepbpdojikaaGreatDoorKz3
import Derived.Test.YtelpepbpdojikaaGreatDoorKz7
set_option maxHeartbeats 4000000
set_option maxRecDepth 100000
set_option linter.unusedVariables false
set_option linter.unusedSimpArgs false
namespace Go.Proofs.YtelpepbpdojikaaGreatDoor
open Go.RowKit
theorem agC (a b c d:Int) (w:World):(Op.equalIn 10000 31 (.agg #[.int .i64 a,.int .i64 b]) (.agg #[.int .i64 c,.int .i64 d])).run Tryz.prog w= .ok ((a == c) && (b == d)) w:=by
 obtain ⟨i,hi,hz0,hz1,hz2⟩:=info_parts uN
 have hu:Tryz.prog.underlying 31=some (.array 2 3):=by kernel_rfl
 have hui:Tryz.prog.underlying 3=some (.int .i64):=by kernel_rfl
 have hc:Tryz.prog.cellsOf 3=1:=by kernel_rfl
 have h2:List.range 2=[0,1]:=rfl
 have p:∀ (x y:Value) (w:World),(part 3 #[x,y] (0*1)).run Tryz.prog w= .ok x w:=fun x y w=>by kernel_rfl
 have p':∀ (x y:Value) (w:World),(part 3 #[x,y] (1*1)).run Tryz.prog w= .ok y w:=fun x y w=>by kernel_rfl
 have p1:∀ (x y:Value) (w:World),(part 3 #[x,y] 1).run Tryz.prog w= .ok y w:=fun x y w=>by kernel_rfl
 have q:∀ (a b:Int) (w:World),(Op.equalIn 9999 3 (.int .i64 a) (.int .i64 b)).run Tryz.prog w= .ok (a == b) w:=fun a b w=>run_equalIn_int w 9998 _ _ _ a b hui
 rw [show (10000:Nat)=9999+1 from rfl,run_equalIn_array w 9999 _ _ hu hi,h2,hc]
 unfold Op.eqItems Op.eqItems Op.eqItems
 simp only [Sem.run_bind,p,p',q,Result.andThen_ok]
 cases h1:(a == c) <;> cases h2:(b == d) <;> simp [q,p1,h2]
theorem aeX:Tryz.prog.eqGuardType Tryz.prog.depth 31=false:=by kernel_rfl
theorem Zj {x y:M.State} (h:¬ x=y):x.eq y=false:=by
 cases he:x.eq y with
 | false=>rfl
 | true=>exact absurd (M.State.eq_iff.1 he) h
theorem alD (S S':Nat→Prop) (x y:M.State) (A B:Option Addr) (c d:Nat) (w:World) (hp:bD w S A c x.ay) (hq:bD w S' B d y.ay):
 Calls Tryz.prog 68 #[wF x A c,wF y B d] w fun e w'=>e= .returned (.bool (x.eq y))∧Below w.heap.size w w':=by
 obtain ⟨b1,b2,b3⟩:=hp.bd
 obtain ⟨c1,c2,c3⟩:=hq.bd
 have hsi:∀ W,Below w.heap.size w W→Calls Tryz.prog 53 #[.slice A x.ay.length c,.slice B y.ay.length d] W fun e w'=>e= .returned (.bool (decide (x.ay=y.ay)))∧∃ n,w'=W.drewN n:=
  fun W hW=>Dp (fun _=>True) A B c d x.ay y.ay W (Reads.more (Reads.below hp hW) (fun _ _ _=>trivial)) (Reads.more (Reads.below hq hW) (fun _ _ _=>trivial))
 have zC:=aeX
 obtain ⟨Zu,Zw,ZA,ZC,ZE,ZK,xbl,ZN,xs1,xf0,xf1,ZR,ZT,xov,xwi⟩:=x
 obtain ⟨ytu,ybr,yha,ypu,ypd,ygr,ybl,ys0,ys1,WM,yf1,yru,yra,yov,ywi⟩:=y
 simp only at hp hq b1 b3 c1 c3 hsi
 have hsc:=fun w=>agC ZN xs1 ys0 ys1 w
 have hsf:=fun w=>agC xf0 xf1 WM yf1 w
 by_cases he:xbl=ybl
 rotate_left
 · rw [decide_eq_false he] at hsi
   have Xe:=hide hsi
   have HN:=hide he
   clear hsi he
   have hr:M.State.eq ⟨Zu,Zw,ZA,ZC,ZE,ZK,xbl,ZN,xs1,xf0,xf1,ZR,ZT,xov,xwi⟩ ⟨ytu,ybr,yha,ypu,ypd,ygr,ybl,ys0,ys1,WM,yf1,yru,yra,yov,ywi⟩=false:=Zj (fun e=>HN.out (by injection e with e0 e1 e2 e3 e4 e5 e6 e7 e8 e9 e10 e11 e12 e13 e14 <;> first | assumption | (constructor <;> assumption) | (subst_vars;simp)))
   rw [hr]
   clear hr
   go_enter Tryz.func68,Tryz.ntmps68
   have hB:=((bU.nil w).new (by simp) (aW ⟨Zu,Zw,ZA,ZC,ZE,ZK,xbl,ZN,xs1,xf0,xf1,ZR,ZT,xov,xwi⟩ A c) 42).new (by simp) (aW ⟨ytu,ybr,yha,ypu,ypd,ygr,ybl,ys0,ys1,WM,yf1,yru,yra,yov,ywi⟩ B d) 42
   have k0:=(hB.bf rfl).cell (j:=0) rfl
   have m0:=(hB.get 1 rfl).cell (j:=0) rfl
   have k1:=(hB.bf rfl).cell (j:=1) rfl
   have m1:=(hB.get 1 rfl).cell (j:=1) rfl
   have k2:=(hB.bf rfl).cell (j:=2) rfl
   have m2:=(hB.get 1 rfl).cell (j:=2) rfl
   have k3:=(hB.bf rfl).cell (j:=3) rfl
   have m3:=(hB.get 1 rfl).cell (j:=3) rfl
   have k4:=(hB.bf rfl).cell (j:=4) rfl
   have m4:=(hB.get 1 rfl).cell (j:=4) rfl
   have k5:=(hB.bf rfl).cell (j:=5) rfl
   have m5:=(hB.get 1 rfl).cell (j:=5) rfl
   have k6:=(hB.bf rfl).cell (j:=6) rfl
   have m6:=(hB.get 1 rfl).cell (j:=6) rfl
   have k7:=(hB.bf rfl).cell (j:=7) rfl
   have m7:=(hB.get 1 rfl).cell (j:=7) rfl
   have k8:=(hB.bf rfl).cell (j:=8) rfl
   have m8:=(hB.get 1 rfl).cell (j:=8) rfl
   have k9:=(hB.bf rfl).cell (j:=9) rfl
   have m9:=(hB.get 1 rfl).cell (j:=9) rfl
   have k10:=(hB.bf rfl).cell (j:=10) rfl
   have m10:=(hB.get 1 rfl).cell (j:=10) rfl
   have k11:=(hB.bf rfl).cell (j:=11) rfl
   have m11:=(hB.get 1 rfl).cell (j:=11) rfl
   have k12:=(hB.bf rfl).cell (j:=12) rfl
   have m12:=(hB.get 1 rfl).cell (j:=12) rfl
   have k13:=(hB.bf rfl).cell (j:=13) rfl
   have m13:=(hB.get 1 rfl).cell (j:=13) rfl
   have k14:=(hB.bf rfl).cell (j:=14) rfl
   have m14:=(hB.get 1 rfl).cell (j:=14) rfl
   go_wp2_with (go_at_call 53;refine (Xe.out _ hB.bw).mono ?_;rintro e w9 ⟨rfl,n,rfl⟩)
   all_goals go_ret
   all_goals exact ⟨rfl,below_drewN hB.bw _⟩
 rw [decide_eq_true he] at hsi
 have Xe:=hide hsi
 have HE:=hide he
 clear hsi he
 by_cases h0:Zu=ytu
 rotate_left
 · have hb0:(Zu != ytu)=true:=by first | (simp [h0];done) | (rw [Bool.eq_iff_iff];simp [h0];done)
   have HN:=hide h0
   clear h0
   have hr:M.State.eq ⟨Zu,Zw,ZA,ZC,ZE,ZK,xbl,ZN,xs1,xf0,xf1,ZR,ZT,xov,xwi⟩ ⟨ytu,ybr,yha,ypu,ypd,ygr,ybl,ys0,ys1,WM,yf1,yru,yra,yov,ywi⟩=false:=Zj (fun e=>HN.out (by injection e with e0 e1 e2 e3 e4 e5 e6 e7 e8 e9 e10 e11 e12 e13 e14 <;> first | assumption | (constructor <;> assumption) | (subst_vars;simp)))
   rw [hr]
   clear hr
   go_enter Tryz.func68,Tryz.ntmps68
   have hB:=((bU.nil w).new (by simp) (aW ⟨Zu,Zw,ZA,ZC,ZE,ZK,xbl,ZN,xs1,xf0,xf1,ZR,ZT,xov,xwi⟩ A c) 42).new (by simp) (aW ⟨ytu,ybr,yha,ypu,ypd,ygr,ybl,ys0,ys1,WM,yf1,yru,yra,yov,ywi⟩ B d) 42
   have k0:=(hB.bf rfl).cell (j:=0) rfl
   have m0:=(hB.get 1 rfl).cell (j:=0) rfl
   have k1:=(hB.bf rfl).cell (j:=1) rfl
   have m1:=(hB.get 1 rfl).cell (j:=1) rfl
   have k2:=(hB.bf rfl).cell (j:=2) rfl
   have m2:=(hB.get 1 rfl).cell (j:=2) rfl
   have k3:=(hB.bf rfl).cell (j:=3) rfl
   have m3:=(hB.get 1 rfl).cell (j:=3) rfl
   have k4:=(hB.bf rfl).cell (j:=4) rfl
   have m4:=(hB.get 1 rfl).cell (j:=4) rfl
   have k5:=(hB.bf rfl).cell (j:=5) rfl
   have m5:=(hB.get 1 rfl).cell (j:=5) rfl
   have k6:=(hB.bf rfl).cell (j:=6) rfl
   have m6:=(hB.get 1 rfl).cell (j:=6) rfl
   have k7:=(hB.bf rfl).cell (j:=7) rfl
   have m7:=(hB.get 1 rfl).cell (j:=7) rfl
   have k8:=(hB.bf rfl).cell (j:=8) rfl
   have m8:=(hB.get 1 rfl).cell (j:=8) rfl
   have k9:=(hB.bf rfl).cell (j:=9) rfl
   have m9:=(hB.get 1 rfl).cell (j:=9) rfl
   have k10:=(hB.bf rfl).cell (j:=10) rfl
   have m10:=(hB.get 1 rfl).cell (j:=10) rfl
   have k11:=(hB.bf rfl).cell (j:=11) rfl
   have m11:=(hB.get 1 rfl).cell (j:=11) rfl
   have k12:=(hB.bf rfl).cell (j:=12) rfl
   have m12:=(hB.get 1 rfl).cell (j:=12) rfl
   have k13:=(hB.bf rfl).cell (j:=13) rfl
   have m13:=(hB.get 1 rfl).cell (j:=13) rfl
   have k14:=(hB.bf rfl).cell (j:=14) rfl
   have m14:=(hB.get 1 rfl).cell (j:=14) rfl
   go_wp2_with (go_at_call 53;refine (Xe.out _ hB.bw).mono ?_;rintro e w9 ⟨rfl,n,rfl⟩)
   all_goals go_ret
   all_goals exact ⟨rfl,below_drewN hB.bw _⟩
 subst h0
 by_cases h1:Zw=ybr
 rotate_left
 · obtain rfl:Zw=(!ybr):=by cases Zw <;> cases ybr <;> first | rfl | exact absurd rfl h1
   have HN:=hide h1
   clear h1
   have hr:M.State.eq ⟨Zu,(!ybr),ZA,ZC,ZE,ZK,xbl,ZN,xs1,xf0,xf1,ZR,ZT,xov,xwi⟩ ⟨Zu,ybr,yha,ypu,ypd,ygr,ybl,ys0,ys1,WM,yf1,yru,yra,yov,ywi⟩=false:=Zj (fun e=>HN.out (by injection e with e0 e1 e2 e3 e4 e5 e6 e7 e8 e9 e10 e11 e12 e13 e14 <;> first | assumption | (constructor <;> assumption) | (subst_vars;simp)))
   rw [hr]
   clear hr
   go_enter Tryz.func68,Tryz.ntmps68
   have hB:=((bU.nil w).new (by simp) (aW ⟨Zu,(!ybr),ZA,ZC,ZE,ZK,xbl,ZN,xs1,xf0,xf1,ZR,ZT,xov,xwi⟩ A c) 42).new (by simp) (aW ⟨Zu,ybr,yha,ypu,ypd,ygr,ybl,ys0,ys1,WM,yf1,yru,yra,yov,ywi⟩ B d) 42
   have k0:=(hB.bf rfl).cell (j:=0) rfl
   have m0:=(hB.get 1 rfl).cell (j:=0) rfl
   have k1:=(hB.bf rfl).cell (j:=1) rfl
   have m1:=(hB.get 1 rfl).cell (j:=1) rfl
   have k2:=(hB.bf rfl).cell (j:=2) rfl
   have m2:=(hB.get 1 rfl).cell (j:=2) rfl
   have k3:=(hB.bf rfl).cell (j:=3) rfl
   have m3:=(hB.get 1 rfl).cell (j:=3) rfl
   have k4:=(hB.bf rfl).cell (j:=4) rfl
   have m4:=(hB.get 1 rfl).cell (j:=4) rfl
   have k5:=(hB.bf rfl).cell (j:=5) rfl
   have m5:=(hB.get 1 rfl).cell (j:=5) rfl
   have k6:=(hB.bf rfl).cell (j:=6) rfl
   have m6:=(hB.get 1 rfl).cell (j:=6) rfl
   have k7:=(hB.bf rfl).cell (j:=7) rfl
   have m7:=(hB.get 1 rfl).cell (j:=7) rfl
   have k8:=(hB.bf rfl).cell (j:=8) rfl
   have m8:=(hB.get 1 rfl).cell (j:=8) rfl
   have k9:=(hB.bf rfl).cell (j:=9) rfl
   have m9:=(hB.get 1 rfl).cell (j:=9) rfl
   have k10:=(hB.bf rfl).cell (j:=10) rfl
   have m10:=(hB.get 1 rfl).cell (j:=10) rfl
   have k11:=(hB.bf rfl).cell (j:=11) rfl
   have m11:=(hB.get 1 rfl).cell (j:=11) rfl
   have k12:=(hB.bf rfl).cell (j:=12) rfl
   have m12:=(hB.get 1 rfl).cell (j:=12) rfl
   have k13:=(hB.bf rfl).cell (j:=13) rfl
   have m13:=(hB.get 1 rfl).cell (j:=13) rfl
   have k14:=(hB.bf rfl).cell (j:=14) rfl
   have m14:=(hB.get 1 rfl).cell (j:=14) rfl
   go_wp2_with (go_at_call 53;refine (Xe.out _ hB.bw).mono ?_;rintro e w9 ⟨rfl,n,rfl⟩)
   all_goals go_ret
   all_goals exact ⟨rfl,below_drewN hB.bw _⟩
 subst h1
 by_cases h2:ZA=yha
 rotate_left
 · obtain rfl:ZA=(!yha):=by cases ZA <;> cases yha <;> first | rfl | exact absurd rfl h2
   have HN:=hide h2
   clear h2
   have hr:M.State.eq ⟨Zu,Zw,(!yha),ZC,ZE,ZK,xbl,ZN,xs1,xf0,xf1,ZR,ZT,xov,xwi⟩ ⟨Zu,Zw,yha,ypu,ypd,ygr,ybl,ys0,ys1,WM,yf1,yru,yra,yov,ywi⟩=false:=Zj (fun e=>HN.out (by injection e with e0 e1 e2 e3 e4 e5 e6 e7 e8 e9 e10 e11 e12 e13 e14 <;> first | assumption | (constructor <;> assumption) | (subst_vars;simp)))
   rw [hr]
   clear hr
   go_enter Tryz.func68,Tryz.ntmps68
   have hB:=((bU.nil w).new (by simp) (aW ⟨Zu,Zw,(!yha),ZC,ZE,ZK,xbl,ZN,xs1,xf0,xf1,ZR,ZT,xov,xwi⟩ A c) 42).new (by simp) (aW ⟨Zu,Zw,yha,ypu,ypd,ygr,ybl,ys0,ys1,WM,yf1,yru,yra,yov,ywi⟩ B d) 42
   have k0:=(hB.bf rfl).cell (j:=0) rfl
   have m0:=(hB.get 1 rfl).cell (j:=0) rfl
   have k1:=(hB.bf rfl).cell (j:=1) rfl
   have m1:=(hB.get 1 rfl).cell (j:=1) rfl
   have k2:=(hB.bf rfl).cell (j:=2) rfl
   have m2:=(hB.get 1 rfl).cell (j:=2) rfl
   have k3:=(hB.bf rfl).cell (j:=3) rfl
   have m3:=(hB.get 1 rfl).cell (j:=3) rfl
   have k4:=(hB.bf rfl).cell (j:=4) rfl
   have m4:=(hB.get 1 rfl).cell (j:=4) rfl
   have k5:=(hB.bf rfl).cell (j:=5) rfl
   have m5:=(hB.get 1 rfl).cell (j:=5) rfl
   have k6:=(hB.bf rfl).cell (j:=6) rfl
   have m6:=(hB.get 1 rfl).cell (j:=6) rfl
   have k7:=(hB.bf rfl).cell (j:=7) rfl
   have m7:=(hB.get 1 rfl).cell (j:=7) rfl
   have k8:=(hB.bf rfl).cell (j:=8) rfl
   have m8:=(hB.get 1 rfl).cell (j:=8) rfl
   have k9:=(hB.bf rfl).cell (j:=9) rfl
   have m9:=(hB.get 1 rfl).cell (j:=9) rfl
   have k10:=(hB.bf rfl).cell (j:=10) rfl
   have m10:=(hB.get 1 rfl).cell (j:=10) rfl
   have k11:=(hB.bf rfl).cell (j:=11) rfl
   have m11:=(hB.get 1 rfl).cell (j:=11) rfl
   have k12:=(hB.bf rfl).cell (j:=12) rfl
   have m12:=(hB.get 1 rfl).cell (j:=12) rfl
   have k13:=(hB.bf rfl).cell (j:=13) rfl
   have m13:=(hB.get 1 rfl).cell (j:=13) rfl
   have k14:=(hB.bf rfl).cell (j:=14) rfl
   have m14:=(hB.get 1 rfl).cell (j:=14) rfl
   go_wp2_with (go_at_call 53;refine (Xe.out _ hB.bw).mono ?_;rintro e w9 ⟨rfl,n,rfl⟩)
   all_goals go_ret
   all_goals exact ⟨rfl,below_drewN hB.bw _⟩
 subst h2
 by_cases h3:ZC=ypu
 rotate_left
 · obtain rfl:ZC=(!ypu):=by cases ZC <;> cases ypu <;> first | rfl | exact absurd rfl h3
   have HN:=hide h3
   clear h3
   have hr:M.State.eq ⟨Zu,Zw,ZA,(!ypu),ZE,ZK,xbl,ZN,xs1,xf0,xf1,ZR,ZT,xov,xwi⟩ ⟨Zu,Zw,ZA,ypu,ypd,ygr,ybl,ys0,ys1,WM,yf1,yru,yra,yov,ywi⟩=false:=Zj (fun e=>HN.out (by injection e with e0 e1 e2 e3 e4 e5 e6 e7 e8 e9 e10 e11 e12 e13 e14 <;> first | assumption | (constructor <;> assumption) | (subst_vars;simp)))
   rw [hr]
   clear hr
   go_enter Tryz.func68,Tryz.ntmps68
   have hB:=((bU.nil w).new (by simp) (aW ⟨Zu,Zw,ZA,(!ypu),ZE,ZK,xbl,ZN,xs1,xf0,xf1,ZR,ZT,xov,xwi⟩ A c) 42).new (by simp) (aW ⟨Zu,Zw,ZA,ypu,ypd,ygr,ybl,ys0,ys1,WM,yf1,yru,yra,yov,ywi⟩ B d) 42
   have k0:=(hB.bf rfl).cell (j:=0) rfl
   have m0:=(hB.get 1 rfl).cell (j:=0) rfl
   have k1:=(hB.bf rfl).cell (j:=1) rfl
   have m1:=(hB.get 1 rfl).cell (j:=1) rfl
   have k2:=(hB.bf rfl).cell (j:=2) rfl
   have m2:=(hB.get 1 rfl).cell (j:=2) rfl
   have k3:=(hB.bf rfl).cell (j:=3) rfl
   have m3:=(hB.get 1 rfl).cell (j:=3) rfl
   have k4:=(hB.bf rfl).cell (j:=4) rfl
   have m4:=(hB.get 1 rfl).cell (j:=4) rfl
   have k5:=(hB.bf rfl).cell (j:=5) rfl
   have m5:=(hB.get 1 rfl).cell (j:=5) rfl
   have k6:=(hB.bf rfl).cell (j:=6) rfl
   have m6:=(hB.get 1 rfl).cell (j:=6) rfl
   have k7:=(hB.bf rfl).cell (j:=7) rfl
   have m7:=(hB.get 1 rfl).cell (j:=7) rfl
   have k8:=(hB.bf rfl).cell (j:=8) rfl
   have m8:=(hB.get 1 rfl).cell (j:=8) rfl
   have k9:=(hB.bf rfl).cell (j:=9) rfl
   have m9:=(hB.get 1 rfl).cell (j:=9) rfl
   have k10:=(hB.bf rfl).cell (j:=10) rfl
   have m10:=(hB.get 1 rfl).cell (j:=10) rfl
   have k11:=(hB.bf rfl).cell (j:=11) rfl
   have m11:=(hB.get 1 rfl).cell (j:=11) rfl
   have k12:=(hB.bf rfl).cell (j:=12) rfl
   have m12:=(hB.get 1 rfl).cell (j:=12) rfl
   have k13:=(hB.bf rfl).cell (j:=13) rfl
   have m13:=(hB.get 1 rfl).cell (j:=13) rfl
   have k14:=(hB.bf rfl).cell (j:=14) rfl
   have m14:=(hB.get 1 rfl).cell (j:=14) rfl
   go_wp2_with (go_at_call 53;refine (Xe.out _ hB.bw).mono ?_;rintro e w9 ⟨rfl,n,rfl⟩)
   all_goals go_ret
   all_goals exact ⟨rfl,below_drewN hB.bw _⟩
 subst h3
 by_cases h4:ZE=ypd
 rotate_left
 · obtain rfl:ZE=(!ypd):=by cases ZE <;> cases ypd <;> first | rfl | exact absurd rfl h4
   have HN:=hide h4
   clear h4
   have hr:M.State.eq ⟨Zu,Zw,ZA,ZC,(!ypd),ZK,xbl,ZN,xs1,xf0,xf1,ZR,ZT,xov,xwi⟩ ⟨Zu,Zw,ZA,ZC,ypd,ygr,ybl,ys0,ys1,WM,yf1,yru,yra,yov,ywi⟩=false:=Zj (fun e=>HN.out (by injection e with e0 e1 e2 e3 e4 e5 e6 e7 e8 e9 e10 e11 e12 e13 e14 <;> first | assumption | (constructor <;> assumption) | (subst_vars;simp)))
   rw [hr]
   clear hr
   go_enter Tryz.func68,Tryz.ntmps68
   have hB:=((bU.nil w).new (by simp) (aW ⟨Zu,Zw,ZA,ZC,(!ypd),ZK,xbl,ZN,xs1,xf0,xf1,ZR,ZT,xov,xwi⟩ A c) 42).new (by simp) (aW ⟨Zu,Zw,ZA,ZC,ypd,ygr,ybl,ys0,ys1,WM,yf1,yru,yra,yov,ywi⟩ B d) 42
   have k0:=(hB.bf rfl).cell (j:=0) rfl
   have m0:=(hB.get 1 rfl).cell (j:=0) rfl
   have k1:=(hB.bf rfl).cell (j:=1) rfl
   have m1:=(hB.get 1 rfl).cell (j:=1) rfl
   have k2:=(hB.bf rfl).cell (j:=2) rfl
   have m2:=(hB.get 1 rfl).cell (j:=2) rfl
   have k3:=(hB.bf rfl).cell (j:=3) rfl
   have m3:=(hB.get 1 rfl).cell (j:=3) rfl
   have k4:=(hB.bf rfl).cell (j:=4) rfl
   have m4:=(hB.get 1 rfl).cell (j:=4) rfl
   have k5:=(hB.bf rfl).cell (j:=5) rfl
   have m5:=(hB.get 1 rfl).cell (j:=5) rfl
   have k6:=(hB.bf rfl).cell (j:=6) rfl
   have m6:=(hB.get 1 rfl).cell (j:=6) rfl
   have k7:=(hB.bf rfl).cell (j:=7) rfl
   have m7:=(hB.get 1 rfl).cell (j:=7) rfl
   have k8:=(hB.bf rfl).cell (j:=8) rfl
   have m8:=(hB.get 1 rfl).cell (j:=8) rfl
   have k9:=(hB.bf rfl).cell (j:=9) rfl
   have m9:=(hB.get 1 rfl).cell (j:=9) rfl
   have k10:=(hB.bf rfl).cell (j:=10) rfl
   have m10:=(hB.get 1 rfl).cell (j:=10) rfl
   have k11:=(hB.bf rfl).cell (j:=11) rfl
   have m11:=(hB.get 1 rfl).cell (j:=11) rfl
   have k12:=(hB.bf rfl).cell (j:=12) rfl
   have m12:=(hB.get 1 rfl).cell (j:=12) rfl
   have k13:=(hB.bf rfl).cell (j:=13) rfl
   have m13:=(hB.get 1 rfl).cell (j:=13) rfl
   have k14:=(hB.bf rfl).cell (j:=14) rfl
   have m14:=(hB.get 1 rfl).cell (j:=14) rfl
   go_wp2_with (go_at_call 53;refine (Xe.out _ hB.bw).mono ?_;rintro e w9 ⟨rfl,n,rfl⟩)
   all_goals go_ret
   all_goals exact ⟨rfl,below_drewN hB.bw _⟩
 subst h4
 by_cases h5:ZK=ygr
 rotate_left
 · have hb5:(ZK == ygr)=false:=by first | (simp [h5];done) | (rw [Bool.eq_iff_iff];simp [h5];done)
   have HN:=hide h5
   clear h5
   have hr:M.State.eq ⟨Zu,Zw,ZA,ZC,ZE,ZK,xbl,ZN,xs1,xf0,xf1,ZR,ZT,xov,xwi⟩ ⟨Zu,Zw,ZA,ZC,ZE,ygr,ybl,ys0,ys1,WM,yf1,yru,yra,yov,ywi⟩=false:=Zj (fun e=>HN.out (by injection e with e0 e1 e2 e3 e4 e5 e6 e7 e8 e9 e10 e11 e12 e13 e14 <;> first | assumption | (constructor <;> assumption) | (subst_vars;simp)))
   rw [hr]
   clear hr
   go_enter Tryz.func68,Tryz.ntmps68
   have hB:=((bU.nil w).new (by simp) (aW ⟨Zu,Zw,ZA,ZC,ZE,ZK,xbl,ZN,xs1,xf0,xf1,ZR,ZT,xov,xwi⟩ A c) 42).new (by simp) (aW ⟨Zu,Zw,ZA,ZC,ZE,ygr,ybl,ys0,ys1,WM,yf1,yru,yra,yov,ywi⟩ B d) 42
   have k0:=(hB.bf rfl).cell (j:=0) rfl
   have m0:=(hB.get 1 rfl).cell (j:=0) rfl
   have k1:=(hB.bf rfl).cell (j:=1) rfl
   have m1:=(hB.get 1 rfl).cell (j:=1) rfl
   have k2:=(hB.bf rfl).cell (j:=2) rfl
   have m2:=(hB.get 1 rfl).cell (j:=2) rfl
   have k3:=(hB.bf rfl).cell (j:=3) rfl
   have m3:=(hB.get 1 rfl).cell (j:=3) rfl
   have k4:=(hB.bf rfl).cell (j:=4) rfl
   have m4:=(hB.get 1 rfl).cell (j:=4) rfl
   have k5:=(hB.bf rfl).cell (j:=5) rfl
   have m5:=(hB.get 1 rfl).cell (j:=5) rfl
   have k6:=(hB.bf rfl).cell (j:=6) rfl
   have m6:=(hB.get 1 rfl).cell (j:=6) rfl
   have k7:=(hB.bf rfl).cell (j:=7) rfl
   have m7:=(hB.get 1 rfl).cell (j:=7) rfl
   have k8:=(hB.bf rfl).cell (j:=8) rfl
   have m8:=(hB.get 1 rfl).cell (j:=8) rfl
   have k9:=(hB.bf rfl).cell (j:=9) rfl
   have m9:=(hB.get 1 rfl).cell (j:=9) rfl
   have k10:=(hB.bf rfl).cell (j:=10) rfl
   have m10:=(hB.get 1 rfl).cell (j:=10) rfl
   have k11:=(hB.bf rfl).cell (j:=11) rfl
   have m11:=(hB.get 1 rfl).cell (j:=11) rfl
   have k12:=(hB.bf rfl).cell (j:=12) rfl
   have m12:=(hB.get 1 rfl).cell (j:=12) rfl
   have k13:=(hB.bf rfl).cell (j:=13) rfl
   have m13:=(hB.get 1 rfl).cell (j:=13) rfl
   have k14:=(hB.bf rfl).cell (j:=14) rfl
   have m14:=(hB.get 1 rfl).cell (j:=14) rfl
   go_wp2_with (go_at_call 53;refine (Xe.out _ hB.bw).mono ?_;rintro e w9 ⟨rfl,n,rfl⟩)
   all_goals go_ret
   all_goals exact ⟨rfl,below_drewN hB.bw _⟩
 subst h5
 by_cases h6:ZN=ys0∧xs1=ys1
 rotate_left
 · have hb6:((ZN == ys0) && (xs1 == ys1))=false:=by rw [Bool.eq_false_iff];intro hb;simp at hb;exact h6 hb
   have HN:=hide h6
   clear h6
   have hr:M.State.eq ⟨Zu,Zw,ZA,ZC,ZE,ZK,xbl,ZN,xs1,xf0,xf1,ZR,ZT,xov,xwi⟩ ⟨Zu,Zw,ZA,ZC,ZE,ZK,ybl,ys0,ys1,WM,yf1,yru,yra,yov,ywi⟩=false:=Zj (fun e=>HN.out (by injection e with e0 e1 e2 e3 e4 e5 e6 e7 e8 e9 e10 e11 e12 e13 e14 <;> first | assumption | (constructor <;> assumption) | (subst_vars;simp)))
   rw [hr]
   clear hr
   go_enter Tryz.func68,Tryz.ntmps68
   have hB:=((bU.nil w).new (by simp) (aW ⟨Zu,Zw,ZA,ZC,ZE,ZK,xbl,ZN,xs1,xf0,xf1,ZR,ZT,xov,xwi⟩ A c) 42).new (by simp) (aW ⟨Zu,Zw,ZA,ZC,ZE,ZK,ybl,ys0,ys1,WM,yf1,yru,yra,yov,ywi⟩ B d) 42
   have k0:=(hB.bf rfl).cell (j:=0) rfl
   have m0:=(hB.get 1 rfl).cell (j:=0) rfl
   have k1:=(hB.bf rfl).cell (j:=1) rfl
   have m1:=(hB.get 1 rfl).cell (j:=1) rfl
   have k2:=(hB.bf rfl).cell (j:=2) rfl
   have m2:=(hB.get 1 rfl).cell (j:=2) rfl
   have k3:=(hB.bf rfl).cell (j:=3) rfl
   have m3:=(hB.get 1 rfl).cell (j:=3) rfl
   have k4:=(hB.bf rfl).cell (j:=4) rfl
   have m4:=(hB.get 1 rfl).cell (j:=4) rfl
   have k5:=(hB.bf rfl).cell (j:=5) rfl
   have m5:=(hB.get 1 rfl).cell (j:=5) rfl
   have k6:=(hB.bf rfl).cell (j:=6) rfl
   have m6:=(hB.get 1 rfl).cell (j:=6) rfl
   have k7:=(hB.bf rfl).cell (j:=7) rfl
   have m7:=(hB.get 1 rfl).cell (j:=7) rfl
   have k8:=(hB.bf rfl).cell (j:=8) rfl
   have m8:=(hB.get 1 rfl).cell (j:=8) rfl
   have k9:=(hB.bf rfl).cell (j:=9) rfl
   have m9:=(hB.get 1 rfl).cell (j:=9) rfl
   have k10:=(hB.bf rfl).cell (j:=10) rfl
   have m10:=(hB.get 1 rfl).cell (j:=10) rfl
   have k11:=(hB.bf rfl).cell (j:=11) rfl
   have m11:=(hB.get 1 rfl).cell (j:=11) rfl
   have k12:=(hB.bf rfl).cell (j:=12) rfl
   have m12:=(hB.get 1 rfl).cell (j:=12) rfl
   have k13:=(hB.bf rfl).cell (j:=13) rfl
   have m13:=(hB.get 1 rfl).cell (j:=13) rfl
   have k14:=(hB.bf rfl).cell (j:=14) rfl
   have m14:=(hB.get 1 rfl).cell (j:=14) rfl
   go_wp2_with (go_at_call 53;refine (Xe.out _ hB.bw).mono ?_;rintro e w9 ⟨rfl,n,rfl⟩)
   all_goals go_ret
   all_goals exact ⟨rfl,below_drewN hB.bw _⟩
 obtain ⟨rfl,rfl⟩:=h6
 by_cases h7:xf0=WM∧xf1=yf1
 rotate_left
 · have hb7:((xf0 == WM) && (xf1 == yf1))=false:=by rw [Bool.eq_false_iff];intro hb;simp at hb;exact h7 hb
   have HN:=hide h7
   clear h7
   have hr:M.State.eq ⟨Zu,Zw,ZA,ZC,ZE,ZK,xbl,ZN,xs1,xf0,xf1,ZR,ZT,xov,xwi⟩ ⟨Zu,Zw,ZA,ZC,ZE,ZK,ybl,ZN,xs1,WM,yf1,yru,yra,yov,ywi⟩=false:=Zj (fun e=>HN.out (by injection e with e0 e1 e2 e3 e4 e5 e6 e7 e8 e9 e10 e11 e12 e13 e14 <;> first | assumption | (constructor <;> assumption) | (subst_vars;simp)))
   rw [hr]
   clear hr
   go_enter Tryz.func68,Tryz.ntmps68
   have hB:=((bU.nil w).new (by simp) (aW ⟨Zu,Zw,ZA,ZC,ZE,ZK,xbl,ZN,xs1,xf0,xf1,ZR,ZT,xov,xwi⟩ A c) 42).new (by simp) (aW ⟨Zu,Zw,ZA,ZC,ZE,ZK,ybl,ZN,xs1,WM,yf1,yru,yra,yov,ywi⟩ B d) 42
   have k0:=(hB.bf rfl).cell (j:=0) rfl
   have m0:=(hB.get 1 rfl).cell (j:=0) rfl
   have k1:=(hB.bf rfl).cell (j:=1) rfl
   have m1:=(hB.get 1 rfl).cell (j:=1) rfl
   have k2:=(hB.bf rfl).cell (j:=2) rfl
   have m2:=(hB.get 1 rfl).cell (j:=2) rfl
   have k3:=(hB.bf rfl).cell (j:=3) rfl
   have m3:=(hB.get 1 rfl).cell (j:=3) rfl
   have k4:=(hB.bf rfl).cell (j:=4) rfl
   have m4:=(hB.get 1 rfl).cell (j:=4) rfl
   have k5:=(hB.bf rfl).cell (j:=5) rfl
   have m5:=(hB.get 1 rfl).cell (j:=5) rfl
   have k6:=(hB.bf rfl).cell (j:=6) rfl
   have m6:=(hB.get 1 rfl).cell (j:=6) rfl
   have k7:=(hB.bf rfl).cell (j:=7) rfl
   have m7:=(hB.get 1 rfl).cell (j:=7) rfl
   have k8:=(hB.bf rfl).cell (j:=8) rfl
   have m8:=(hB.get 1 rfl).cell (j:=8) rfl
   have k9:=(hB.bf rfl).cell (j:=9) rfl
   have m9:=(hB.get 1 rfl).cell (j:=9) rfl
   have k10:=(hB.bf rfl).cell (j:=10) rfl
   have m10:=(hB.get 1 rfl).cell (j:=10) rfl
   have k11:=(hB.bf rfl).cell (j:=11) rfl
   have m11:=(hB.get 1 rfl).cell (j:=11) rfl
   have k12:=(hB.bf rfl).cell (j:=12) rfl
   have m12:=(hB.get 1 rfl).cell (j:=12) rfl
   have k13:=(hB.bf rfl).cell (j:=13) rfl
   have m13:=(hB.get 1 rfl).cell (j:=13) rfl
   have k14:=(hB.bf rfl).cell (j:=14) rfl
   have m14:=(hB.get 1 rfl).cell (j:=14) rfl
   go_wp2_with (go_at_call 53;refine (Xe.out _ hB.bw).mono ?_;rintro e w9 ⟨rfl,n,rfl⟩)
   all_goals go_ret
   all_goals exact ⟨rfl,below_drewN hB.bw _⟩
 obtain ⟨rfl,rfl⟩:=h7
 by_cases h8:ZR=yru
 rotate_left
 · have hb8:(ZR == yru)=false:=by first | (simp [h8];done) | (rw [Bool.eq_iff_iff];simp [h8];done)
   have HN:=hide h8
   clear h8
   have hr:M.State.eq ⟨Zu,Zw,ZA,ZC,ZE,ZK,xbl,ZN,xs1,xf0,xf1,ZR,ZT,xov,xwi⟩ ⟨Zu,Zw,ZA,ZC,ZE,ZK,ybl,ZN,xs1,xf0,xf1,yru,yra,yov,ywi⟩=false:=Zj (fun e=>HN.out (by injection e with e0 e1 e2 e3 e4 e5 e6 e7 e8 e9 e10 e11 e12 e13 e14 <;> first | assumption | (constructor <;> assumption) | (subst_vars;simp)))
   rw [hr]
   clear hr
   go_enter Tryz.func68,Tryz.ntmps68
   have hB:=((bU.nil w).new (by simp) (aW ⟨Zu,Zw,ZA,ZC,ZE,ZK,xbl,ZN,xs1,xf0,xf1,ZR,ZT,xov,xwi⟩ A c) 42).new (by simp) (aW ⟨Zu,Zw,ZA,ZC,ZE,ZK,ybl,ZN,xs1,xf0,xf1,yru,yra,yov,ywi⟩ B d) 42
   have k0:=(hB.bf rfl).cell (j:=0) rfl
   have m0:=(hB.get 1 rfl).cell (j:=0) rfl
   have k1:=(hB.bf rfl).cell (j:=1) rfl
   have m1:=(hB.get 1 rfl).cell (j:=1) rfl
   have k2:=(hB.bf rfl).cell (j:=2) rfl
   have m2:=(hB.get 1 rfl).cell (j:=2) rfl
   have k3:=(hB.bf rfl).cell (j:=3) rfl
   have m3:=(hB.get 1 rfl).cell (j:=3) rfl
   have k4:=(hB.bf rfl).cell (j:=4) rfl
   have m4:=(hB.get 1 rfl).cell (j:=4) rfl
   have k5:=(hB.bf rfl).cell (j:=5) rfl
   have m5:=(hB.get 1 rfl).cell (j:=5) rfl
   have k6:=(hB.bf rfl).cell (j:=6) rfl
   have m6:=(hB.get 1 rfl).cell (j:=6) rfl
   have k7:=(hB.bf rfl).cell (j:=7) rfl
   have m7:=(hB.get 1 rfl).cell (j:=7) rfl
   have k8:=(hB.bf rfl).cell (j:=8) rfl
   have m8:=(hB.get 1 rfl).cell (j:=8) rfl
   have k9:=(hB.bf rfl).cell (j:=9) rfl
   have m9:=(hB.get 1 rfl).cell (j:=9) rfl
   have k10:=(hB.bf rfl).cell (j:=10) rfl
   have m10:=(hB.get 1 rfl).cell (j:=10) rfl
   have k11:=(hB.bf rfl).cell (j:=11) rfl
   have m11:=(hB.get 1 rfl).cell (j:=11) rfl
   have k12:=(hB.bf rfl).cell (j:=12) rfl
   have m12:=(hB.get 1 rfl).cell (j:=12) rfl
   have k13:=(hB.bf rfl).cell (j:=13) rfl
   have m13:=(hB.get 1 rfl).cell (j:=13) rfl
   have k14:=(hB.bf rfl).cell (j:=14) rfl
   have m14:=(hB.get 1 rfl).cell (j:=14) rfl
   go_wp2_with (go_at_call 53;refine (Xe.out _ hB.bw).mono ?_;rintro e w9 ⟨rfl,n,rfl⟩)
   all_goals go_ret
   all_goals exact ⟨rfl,below_drewN hB.bw _⟩
 subst h8
 by_cases h9:ZT=yra
 rotate_left
 · have U6:(ZT == yra)=false:=by first | (simp [h9];done) | (rw [Bool.eq_iff_iff];simp [h9];done)
   have HN:=hide h9
   clear h9
   have hr:M.State.eq ⟨Zu,Zw,ZA,ZC,ZE,ZK,xbl,ZN,xs1,xf0,xf1,ZR,ZT,xov,xwi⟩ ⟨Zu,Zw,ZA,ZC,ZE,ZK,ybl,ZN,xs1,xf0,xf1,ZR,yra,yov,ywi⟩=false:=Zj (fun e=>HN.out (by injection e with e0 e1 e2 e3 e4 e5 e6 e7 e8 e9 e10 e11 e12 e13 e14 <;> first | assumption | (constructor <;> assumption) | (subst_vars;simp)))
   rw [hr]
   clear hr
   go_enter Tryz.func68,Tryz.ntmps68
   have hB:=((bU.nil w).new (by simp) (aW ⟨Zu,Zw,ZA,ZC,ZE,ZK,xbl,ZN,xs1,xf0,xf1,ZR,ZT,xov,xwi⟩ A c) 42).new (by simp) (aW ⟨Zu,Zw,ZA,ZC,ZE,ZK,ybl,ZN,xs1,xf0,xf1,ZR,yra,yov,ywi⟩ B d) 42
   have k0:=(hB.bf rfl).cell (j:=0) rfl
   have m0:=(hB.get 1 rfl).cell (j:=0) rfl
   have k1:=(hB.bf rfl).cell (j:=1) rfl
   have m1:=(hB.get 1 rfl).cell (j:=1) rfl
   have k2:=(hB.bf rfl).cell (j:=2) rfl
   have m2:=(hB.get 1 rfl).cell (j:=2) rfl
   have k3:=(hB.bf rfl).cell (j:=3) rfl
   have m3:=(hB.get 1 rfl).cell (j:=3) rfl
   have k4:=(hB.bf rfl).cell (j:=4) rfl
   have m4:=(hB.get 1 rfl).cell (j:=4) rfl
   have k5:=(hB.bf rfl).cell (j:=5) rfl
   have m5:=(hB.get 1 rfl).cell (j:=5) rfl
   have k6:=(hB.bf rfl).cell (j:=6) rfl
   have m6:=(hB.get 1 rfl).cell (j:=6) rfl
   have k7:=(hB.bf rfl).cell (j:=7) rfl
   have m7:=(hB.get 1 rfl).cell (j:=7) rfl
   have k8:=(hB.bf rfl).cell (j:=8) rfl
   have m8:=(hB.get 1 rfl).cell (j:=8) rfl
   have k9:=(hB.bf rfl).cell (j:=9) rfl
   have m9:=(hB.get 1 rfl).cell (j:=9) rfl
   have k10:=(hB.bf rfl).cell (j:=10) rfl
   have m10:=(hB.get 1 rfl).cell (j:=10) rfl
   have k11:=(hB.bf rfl).cell (j:=11) rfl
   have m11:=(hB.get 1 rfl).cell (j:=11) rfl
   have k12:=(hB.bf rfl).cell (j:=12) rfl
   have m12:=(hB.get 1 rfl).cell (j:=12) rfl
   have k13:=(hB.bf rfl).cell (j:=13) rfl
   have m13:=(hB.get 1 rfl).cell (j:=13) rfl
   have k14:=(hB.bf rfl).cell (j:=14) rfl
   have m14:=(hB.get 1 rfl).cell (j:=14) rfl
   go_wp2_with (go_at_call 53;refine (Xe.out _ hB.bw).mono ?_;rintro e w9 ⟨rfl,n,rfl⟩)
   all_goals go_ret
   all_goals exact ⟨rfl,below_drewN hB.bw _⟩
 subst h9
 by_cases h10:xov=yov
 rotate_left
 · obtain rfl:xov=(!yov):=by cases xov <;> cases yov <;> first | rfl | exact absurd rfl h10
   have HN:=hide h10
   clear h10
   have hr:M.State.eq ⟨Zu,Zw,ZA,ZC,ZE,ZK,xbl,ZN,xs1,xf0,xf1,ZR,ZT,(!yov),xwi⟩ ⟨Zu,Zw,ZA,ZC,ZE,ZK,ybl,ZN,xs1,xf0,xf1,ZR,ZT,yov,ywi⟩=false:=Zj (fun e=>HN.out (by injection e with e0 e1 e2 e3 e4 e5 e6 e7 e8 e9 e10 e11 e12 e13 e14 <;> first | assumption | (constructor <;> assumption) | (subst_vars;simp)))
   rw [hr]
   clear hr
   go_enter Tryz.func68,Tryz.ntmps68
   have hB:=((bU.nil w).new (by simp) (aW ⟨Zu,Zw,ZA,ZC,ZE,ZK,xbl,ZN,xs1,xf0,xf1,ZR,ZT,(!yov),xwi⟩ A c) 42).new (by simp) (aW ⟨Zu,Zw,ZA,ZC,ZE,ZK,ybl,ZN,xs1,xf0,xf1,ZR,ZT,yov,ywi⟩ B d) 42
   have k0:=(hB.bf rfl).cell (j:=0) rfl
   have m0:=(hB.get 1 rfl).cell (j:=0) rfl
   have k1:=(hB.bf rfl).cell (j:=1) rfl
   have m1:=(hB.get 1 rfl).cell (j:=1) rfl
   have k2:=(hB.bf rfl).cell (j:=2) rfl
   have m2:=(hB.get 1 rfl).cell (j:=2) rfl
   have k3:=(hB.bf rfl).cell (j:=3) rfl
   have m3:=(hB.get 1 rfl).cell (j:=3) rfl
   have k4:=(hB.bf rfl).cell (j:=4) rfl
   have m4:=(hB.get 1 rfl).cell (j:=4) rfl
   have k5:=(hB.bf rfl).cell (j:=5) rfl
   have m5:=(hB.get 1 rfl).cell (j:=5) rfl
   have k6:=(hB.bf rfl).cell (j:=6) rfl
   have m6:=(hB.get 1 rfl).cell (j:=6) rfl
   have k7:=(hB.bf rfl).cell (j:=7) rfl
   have m7:=(hB.get 1 rfl).cell (j:=7) rfl
   have k8:=(hB.bf rfl).cell (j:=8) rfl
   have m8:=(hB.get 1 rfl).cell (j:=8) rfl
   have k9:=(hB.bf rfl).cell (j:=9) rfl
   have m9:=(hB.get 1 rfl).cell (j:=9) rfl
   have k10:=(hB.bf rfl).cell (j:=10) rfl
   have m10:=(hB.get 1 rfl).cell (j:=10) rfl
   have k11:=(hB.bf rfl).cell (j:=11) rfl
   have m11:=(hB.get 1 rfl).cell (j:=11) rfl
   have k12:=(hB.bf rfl).cell (j:=12) rfl
   have m12:=(hB.get 1 rfl).cell (j:=12) rfl
   have k13:=(hB.bf rfl).cell (j:=13) rfl
   have m13:=(hB.get 1 rfl).cell (j:=13) rfl
   have k14:=(hB.bf rfl).cell (j:=14) rfl
   have m14:=(hB.get 1 rfl).cell (j:=14) rfl
   go_wp2_with (go_at_call 53;refine (Xe.out _ hB.bw).mono ?_;rintro e w9 ⟨rfl,n,rfl⟩)
   all_goals go_ret
   all_goals exact ⟨rfl,below_drewN hB.bw _⟩
 subst h10
 by_cases h11:xwi=ywi
 rotate_left
 · have as3:(xwi == ywi)=false:=by first | (simp [h11];done) | (rw [Bool.eq_iff_iff];simp [h11];done)
   have HN:=hide h11
   clear h11
   have hr:M.State.eq ⟨Zu,Zw,ZA,ZC,ZE,ZK,xbl,ZN,xs1,xf0,xf1,ZR,ZT,xov,xwi⟩ ⟨Zu,Zw,ZA,ZC,ZE,ZK,ybl,ZN,xs1,xf0,xf1,ZR,ZT,xov,ywi⟩=false:=Zj (fun e=>HN.out (by injection e with e0 e1 e2 e3 e4 e5 e6 e7 e8 e9 e10 e11 e12 e13 e14 <;> first | assumption | (constructor <;> assumption) | (subst_vars;simp)))
   rw [hr]
   clear hr
   go_enter Tryz.func68,Tryz.ntmps68
   have hB:=((bU.nil w).new (by simp) (aW ⟨Zu,Zw,ZA,ZC,ZE,ZK,xbl,ZN,xs1,xf0,xf1,ZR,ZT,xov,xwi⟩ A c) 42).new (by simp) (aW ⟨Zu,Zw,ZA,ZC,ZE,ZK,ybl,ZN,xs1,xf0,xf1,ZR,ZT,xov,ywi⟩ B d) 42
   have k0:=(hB.bf rfl).cell (j:=0) rfl
   have m0:=(hB.get 1 rfl).cell (j:=0) rfl
   have k1:=(hB.bf rfl).cell (j:=1) rfl
   have m1:=(hB.get 1 rfl).cell (j:=1) rfl
   have k2:=(hB.bf rfl).cell (j:=2) rfl
   have m2:=(hB.get 1 rfl).cell (j:=2) rfl
   have k3:=(hB.bf rfl).cell (j:=3) rfl
   have m3:=(hB.get 1 rfl).cell (j:=3) rfl
   have k4:=(hB.bf rfl).cell (j:=4) rfl
   have m4:=(hB.get 1 rfl).cell (j:=4) rfl
   have k5:=(hB.bf rfl).cell (j:=5) rfl
   have m5:=(hB.get 1 rfl).cell (j:=5) rfl
   have k6:=(hB.bf rfl).cell (j:=6) rfl
   have m6:=(hB.get 1 rfl).cell (j:=6) rfl
   have k7:=(hB.bf rfl).cell (j:=7) rfl
   have m7:=(hB.get 1 rfl).cell (j:=7) rfl
   have k8:=(hB.bf rfl).cell (j:=8) rfl
   have m8:=(hB.get 1 rfl).cell (j:=8) rfl
   have k9:=(hB.bf rfl).cell (j:=9) rfl
   have m9:=(hB.get 1 rfl).cell (j:=9) rfl
   have k10:=(hB.bf rfl).cell (j:=10) rfl
   have m10:=(hB.get 1 rfl).cell (j:=10) rfl
   have k11:=(hB.bf rfl).cell (j:=11) rfl
   have m11:=(hB.get 1 rfl).cell (j:=11) rfl
   have k12:=(hB.bf rfl).cell (j:=12) rfl
   have m12:=(hB.get 1 rfl).cell (j:=12) rfl
   have k13:=(hB.bf rfl).cell (j:=13) rfl
   have m13:=(hB.get 1 rfl).cell (j:=13) rfl
   have k14:=(hB.bf rfl).cell (j:=14) rfl
   have m14:=(hB.get 1 rfl).cell (j:=14) rfl
   go_wp2_with (go_at_call 53;refine (Xe.out _ hB.bw).mono ?_;rintro e w9 ⟨rfl,n,rfl⟩)
   all_goals go_ret
   all_goals exact ⟨rfl,below_drewN hB.bw _⟩
 subst h11
 have hr:M.State.eq ⟨Zu,Zw,ZA,ZC,ZE,ZK,xbl,ZN,xs1,xf0,xf1,ZR,ZT,xov,xwi⟩ ⟨Zu,Zw,ZA,ZC,ZE,ZK,ybl,ZN,xs1,xf0,xf1,ZR,ZT,xov,xwi⟩=true:=M.State.eq_iff.2 (by rw [HE.out])
 rw [hr]
 clear hr
 go_enter Tryz.func68,Tryz.ntmps68
 have hB:=((bU.nil w).new (by simp) (aW ⟨Zu,Zw,ZA,ZC,ZE,ZK,xbl,ZN,xs1,xf0,xf1,ZR,ZT,xov,xwi⟩ A c) 42).new (by simp) (aW ⟨Zu,Zw,ZA,ZC,ZE,ZK,ybl,ZN,xs1,xf0,xf1,ZR,ZT,xov,xwi⟩ B d) 42
 have k0:=(hB.bf rfl).cell (j:=0) rfl
 have m0:=(hB.get 1 rfl).cell (j:=0) rfl
 have k1:=(hB.bf rfl).cell (j:=1) rfl
 have m1:=(hB.get 1 rfl).cell (j:=1) rfl
 have k2:=(hB.bf rfl).cell (j:=2) rfl
 have m2:=(hB.get 1 rfl).cell (j:=2) rfl
 have k3:=(hB.bf rfl).cell (j:=3) rfl
 have m3:=(hB.get 1 rfl).cell (j:=3) rfl
 have k4:=(hB.bf rfl).cell (j:=4) rfl
 have m4:=(hB.get 1 rfl).cell (j:=4) rfl
 have k5:=(hB.bf rfl).cell (j:=5) rfl
 have m5:=(hB.get 1 rfl).cell (j:=5) rfl
 have k6:=(hB.bf rfl).cell (j:=6) rfl
 have m6:=(hB.get 1 rfl).cell (j:=6) rfl
 have k7:=(hB.bf rfl).cell (j:=7) rfl
 have m7:=(hB.get 1 rfl).cell (j:=7) rfl
 have k8:=(hB.bf rfl).cell (j:=8) rfl
 have m8:=(hB.get 1 rfl).cell (j:=8) rfl
 have k9:=(hB.bf rfl).cell (j:=9) rfl
 have m9:=(hB.get 1 rfl).cell (j:=9) rfl
 have k10:=(hB.bf rfl).cell (j:=10) rfl
 have m10:=(hB.get 1 rfl).cell (j:=10) rfl
 have k11:=(hB.bf rfl).cell (j:=11) rfl
 have m11:=(hB.get 1 rfl).cell (j:=11) rfl
 have k12:=(hB.bf rfl).cell (j:=12) rfl
 have m12:=(hB.get 1 rfl).cell (j:=12) rfl
 have k13:=(hB.bf rfl).cell (j:=13) rfl
 have m13:=(hB.get 1 rfl).cell (j:=13) rfl
 have k14:=(hB.bf rfl).cell (j:=14) rfl
 have m14:=(hB.get 1 rfl).cell (j:=14) rfl
 go_wp2_with (go_at_call 53;refine (Xe.out _ hB.bw).mono ?_;rintro e w9 ⟨rfl,n,rfl⟩)
 all_goals go_ret
 all_goals exact ⟨rfl,below_drewN hB.bw _⟩
theorem aac (x:M.aI) (P:Option Addr) (d:Nat) (w:World) (h:x.aA.length≤17592186044416):
 Calls Tryz.prog 27 #[iO x P d] w fun e w'=>e= .returned (.bool (decide (x.kind.size≤60∧x.aA.length≤18)))∧Below w.heap.size w w':=by
 by_cases h1:x.kind.size≤60 <;> by_cases h2:x.aA.length≤18
 all_goals
  go_enter Tryz.func27,Tryz.ntmps27
  have hB:=(bU.nil w).new (by simp) (au ⟨x,P,d⟩) 69
  go_wp2
  go_ret
  exact ⟨by first | (simp [h1,h2];done) | (simp [h1,h2];omega),hB.bw⟩
end Go.Proofs.YtelpepbpdojikaaGreatDoor
