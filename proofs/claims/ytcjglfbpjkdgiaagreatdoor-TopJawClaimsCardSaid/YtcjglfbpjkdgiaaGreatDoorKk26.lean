/- Parts of a proof. -/
import Derived.ChangeKeysEq
import Derived.Test.YtcjglfbpjkdgiaaGreatDoorKk23
import Derived.Test.YtcjglfbpjkdgiaaGreatDoorKk4
set_option maxHeartbeats 4000000
set_option maxRecDepth 100000
set_option linter.unusedVariables false
set_option linter.unusedSimpArgs false
namespace Go.Proofs.YtcjglfbpjkdgiaaGreatDoor
open Go.RowKit
theorem oZ (a b c d:Int) (w:World):(Op.equalIn 10000 51 (.agg #[.int .i64 a,.int .i64 b]) (.agg #[.int .i64 c,.int .i64 d])).run Tryz.prog w= .ok ((a == c) && (b == d)) w:=by
 obtain ⟨i,hi,hz0,hz1,hz2⟩:=info_parts sF
 have hu:Tryz.prog.underlying 51=some (.array 2 3):=by kernel_rfl
 have hui:Tryz.prog.underlying 3=some (.int .i64):=by kernel_rfl
 have hc:Tryz.prog.cellsOf 3=1:=by kernel_rfl
 have h2:List.range 2=[0,1]:=rfl
 have p:∀ (x y:Value) (w:World),(part 3 #[x,y] (0*1)).run Tryz.prog w= .ok x w:=fun x y w=>by kernel_rfl
 have p':∀ (x y:Value) (w:World),(part 3 #[x,y] (1*1)).run Tryz.prog w= .ok y w:=fun x y w=>by kernel_rfl
 have p1:∀ (x y:Value) (w:World),(part 3 #[x,y] 1).run Tryz.prog w= .ok y w:=fun x y w=>by kernel_rfl
 have q:∀ (a b:Int) (w:World),(Op.equalIn 9999 3 (.int .i64 a) (.int .i64 b)).run Tryz.prog w= .ok (a == b) w:=fun a b w=>run_equalIn_int w 9998 _ _ _ a b hui;rw [show (10000:Nat)=9999+1 from rfl,run_equalIn_array w 9999 _ _ hu hi,h2,hc]
 unfold Op.eqItems Op.eqItems Op.eqItems
 simp only [Sem.run_bind,p,p',q,Result.andThen_ok]
 cases h1:(a == c) <;> cases h2:(b == d) <;> simp [q,p1,h2]
theorem sU:Tryz.prog.eqGuardType Tryz.prog.depth 51=false:=by kernel_rfl
theorem fC {x y:M.State} (h:¬ x=y):x.eq y=false:=by
 cases he:x.eq y with
 | false=>rfl
 | true=>exact absurd (M.State.eq_iff.1 he) h
theorem KE {W:World} {g:Nat} {s:M.State} {A:Option Addr} {c:Nat} {t:TypeId} (h:Held W g (aJ s A c) t):W.cell? ⟨g,0,none⟩=some (.int .i64 s.turn)∧W.cell? ⟨g,1,none⟩=some (.bool s.brk)∧W.cell? ⟨g,2,none⟩=some (.bool s.hand)∧W.cell? ⟨g,3,none⟩=some (.bool s.push)∧W.cell? ⟨g,4,none⟩=some (.bool s.pushed)∧W.cell? ⟨g,5,none⟩=some (.int .i64 s.group)∧W.cell? ⟨g,6,none⟩=some (.slice A s.au.length c)∧W.cell? ⟨g,7,none⟩=some (.int .i64 s.s0)∧W.cell? ⟨g,8,none⟩=some (.int .i64 s.s1)∧W.cell? ⟨g,9,none⟩=some (.int .i64 s.f0)∧W.cell? ⟨g,10,none⟩=some (.int .i64 s.f1)∧W.cell? ⟨g,11,none⟩=some (.int .i64 s.run)∧W.cell? ⟨g,12,none⟩=some (.int .i64 s.bI)∧W.cell? ⟨g,13,none⟩=some (.bool s.over)∧W.cell? ⟨g,14,none⟩=some (.int .i64 s.bP):=
 ⟨h.cell (j:=0) rfl,h.cell (j:=1) rfl,h.cell (j:=2) rfl,h.cell (j:=3) rfl,h.cell (j:=4) rfl,h.cell (j:=5) rfl,h.cell (j:=6) rfl,h.cell (j:=7) rfl,h.cell (j:=8) rfl,h.cell (j:=9) rfl,h.cell (j:=10) rfl,h.cell (j:=11) rfl,h.cell (j:=12) rfl,h.cell (j:=13) rfl,h.cell (j:=14) rfl⟩
theorem WO (S S':Nat→Prop) (x y:M.State) (A B:Option Addr) (c d:Nat) (w:World) (hp:bQ w S A c x.au) (hq:bQ w S' B d y.au):
 Calls Tryz.prog 15 #[oK x A c,oK y B d] w fun e w'=>e= .returned (.bool (x.eq y))∧Below w.heap.size w w':=by
 obtain ⟨b1,b2,b3⟩:=hp.bd;obtain ⟨c1,c2,c3⟩:=hq.bd
 have hsi:∀ W,Below w.heap.size w W→Calls Tryz.prog 41 #[.slice A x.au.length c,.slice B y.au.length d] W fun e w'=>e= .returned (.bool (decide (x.au=y.au)))∧∃ n,w'=W.drewN n:=
  fun W hW=>G8 (fun _=>True) A B c d x.au y.au W (Reads.more (Reads.below hp hW) (fun _ _ _=>trivial)) (Reads.more (Reads.below hq hW) (fun _ _ _=>trivial))
 have zK:=sU;obtain ⟨R,hR⟩:∃ R,x.eq y=R:=⟨_,rfl⟩;rw [hR];obtain ⟨xtu,xbr,xha,xpu,xpd,xgr,xbl,xs0,xs1,xf0,xf1,xru,xra,xov,xwi⟩:=x;obtain ⟨ytu,ybr,yha,ypu,ypd,ygr,ybl,ys0,ys1,yf0,yf1,yru,yra,yov,ywi⟩:=y
 simp only at hp hq b1 b3 c1 c3 hsi
 have hsc:=fun w=>oZ xs0 xs1 ys0 ys1 w;have hsf:=fun w=>oZ xf0 xf1 yf0 yf1 w;have HR:=hide hR;clear hR
 go_enter Tryz.func15,Tryz.ntmps15
 have hB:=((aX.nil w).new (by simp) (aJ ⟨xtu,xbr,xha,xpu,xpd,xgr,xbl,xs0,xs1,xf0,xf1,xru,xra,xov,xwi⟩ A c) 58).new (by simp) (aJ ⟨ytu,ybr,yha,ypu,ypd,ygr,ybl,ys0,ys1,yf0,yf1,yru,yra,yov,ywi⟩ B d) 58;obtain ⟨k0,k1,k2,k3,k4,k5,k6,k7,k8,k9,k10,k11,k12,k13,k14⟩:=KE (hB.ah rfl);obtain ⟨m0,m1,m2,m3,m4,m5,m6,m7,m8,m9,m10,m11,m12,m13,m14⟩:=KE (hB.get 1 rfl)
 by_cases h:xbl=ybl
 rotate_left
 · have hbl:=decide_eq_false h
   rw [hbl] at hsi;have LD:=hide hsi;have HN:=hide h;clear h;obtain rfl:R=false:=HR.out.symm.trans (fC (fun e=>HN.out (by injection e with e0 e1 e2 e3 e4 e5 e6 e7 e8 e9 e10 e11 e12 e13 e14 <;> first | assumption | (constructor <;> assumption) | (subst_vars;simp))))
   go_wp2_with (go_at_call 41;refine (LD.out _ hB.bw).mono ?_;rintro e w9 ⟨rfl,n,rfl⟩)
   all_goals go_ret
   all_goals exact ⟨rfl,below_drewN hB.bw _⟩
 have hbl:=decide_eq_true h;rw [hbl] at hsi;have LD:=hide hsi;have HE:=hide h;clear hsi h hbl
 by_cases h:xtu=ytu
 rotate_left
 · have hb:(xtu != ytu)=true:=by first | (simp [h];done) | (rw [Bool.eq_iff_iff];simp [h];done)
   have HN:=hide h;clear h;obtain rfl:R=false:=HR.out.symm.trans (fC (fun e=>HN.out (by injection e with e0 e1 e2 e3 e4 e5 e6 e7 e8 e9 e10 e11 e12 e13 e14 <;> first | assumption | (constructor <;> assumption) | (subst_vars;simp))))
   go_wp2_with (go_at_call 41;refine (LD.out _ hB.bw).mono ?_;rintro e w9 ⟨rfl,n,rfl⟩)
   all_goals go_ret
   all_goals exact ⟨rfl,below_drewN hB.bw _⟩
 subst h
 by_cases h:xbr=ybr
 rotate_left
 · obtain rfl:xbr=(!ybr):=by cases xbr <;> cases ybr <;> first | rfl | exact absurd rfl h
   have HN:=hide h;clear h;obtain rfl:R=false:=HR.out.symm.trans (fC (fun e=>HN.out (by injection e with e0 e1 e2 e3 e4 e5 e6 e7 e8 e9 e10 e11 e12 e13 e14 <;> first | assumption | (constructor <;> assumption) | (subst_vars;simp))))
   go_wp2_with (go_at_call 41;refine (LD.out _ hB.bw).mono ?_;rintro e w9 ⟨rfl,n,rfl⟩)
   all_goals go_ret
   all_goals exact ⟨rfl,below_drewN hB.bw _⟩
 subst h
 by_cases h:xha=yha
 rotate_left
 · obtain rfl:xha=(!yha):=by cases xha <;> cases yha <;> first | rfl | exact absurd rfl h
   have HN:=hide h;clear h;obtain rfl:R=false:=HR.out.symm.trans (fC (fun e=>HN.out (by injection e with e0 e1 e2 e3 e4 e5 e6 e7 e8 e9 e10 e11 e12 e13 e14 <;> first | assumption | (constructor <;> assumption) | (subst_vars;simp))))
   go_wp2_with (go_at_call 41;refine (LD.out _ hB.bw).mono ?_;rintro e w9 ⟨rfl,n,rfl⟩)
   all_goals go_ret
   all_goals exact ⟨rfl,below_drewN hB.bw _⟩
 subst h
 by_cases h:xpu=ypu
 rotate_left
 · obtain rfl:xpu=(!ypu):=by cases xpu <;> cases ypu <;> first | rfl | exact absurd rfl h
   have HN:=hide h;clear h;obtain rfl:R=false:=HR.out.symm.trans (fC (fun e=>HN.out (by injection e with e0 e1 e2 e3 e4 e5 e6 e7 e8 e9 e10 e11 e12 e13 e14 <;> first | assumption | (constructor <;> assumption) | (subst_vars;simp))))
   go_wp2_with (go_at_call 41;refine (LD.out _ hB.bw).mono ?_;rintro e w9 ⟨rfl,n,rfl⟩)
   all_goals go_ret
   all_goals exact ⟨rfl,below_drewN hB.bw _⟩
 subst h
 by_cases h:xpd=ypd
 rotate_left
 · obtain rfl:xpd=(!ypd):=by cases xpd <;> cases ypd <;> first | rfl | exact absurd rfl h
   have HN:=hide h;clear h;obtain rfl:R=false:=HR.out.symm.trans (fC (fun e=>HN.out (by injection e with e0 e1 e2 e3 e4 e5 e6 e7 e8 e9 e10 e11 e12 e13 e14 <;> first | assumption | (constructor <;> assumption) | (subst_vars;simp))))
   go_wp2_with (go_at_call 41;refine (LD.out _ hB.bw).mono ?_;rintro e w9 ⟨rfl,n,rfl⟩)
   all_goals go_ret
   all_goals exact ⟨rfl,below_drewN hB.bw _⟩
 subst h
 by_cases h:xgr=ygr
 rotate_left
 · have hb:(xgr == ygr)=false:=by first | (simp [h];done) | (rw [Bool.eq_iff_iff];simp [h];done)
   have HN:=hide h;clear h;obtain rfl:R=false:=HR.out.symm.trans (fC (fun e=>HN.out (by injection e with e0 e1 e2 e3 e4 e5 e6 e7 e8 e9 e10 e11 e12 e13 e14 <;> first | assumption | (constructor <;> assumption) | (subst_vars;simp))))
   go_wp2_with (go_at_call 41;refine (LD.out _ hB.bw).mono ?_;rintro e w9 ⟨rfl,n,rfl⟩)
   all_goals go_ret
   all_goals exact ⟨rfl,below_drewN hB.bw _⟩
 subst h
 by_cases h:xs0=ys0∧xs1=ys1
 rotate_left
 · have hb:((xs0 == ys0) && (xs1 == ys1))=false:=by rw [Bool.eq_false_iff];intro hb;simp at hb;exact h hb
   have HN:=hide h;clear h;obtain rfl:R=false:=HR.out.symm.trans (fC (fun e=>HN.out (by injection e with e0 e1 e2 e3 e4 e5 e6 e7 e8 e9 e10 e11 e12 e13 e14 <;> first | assumption | (constructor <;> assumption) | (subst_vars;simp))))
   go_wp2_with (go_at_call 41;refine (LD.out _ hB.bw).mono ?_;rintro e w9 ⟨rfl,n,rfl⟩)
   all_goals go_ret
   all_goals exact ⟨rfl,below_drewN hB.bw _⟩
 obtain ⟨rfl,rfl⟩:=h
 by_cases h:xf0=yf0∧xf1=yf1
 rotate_left
 · have hb:((xf0 == yf0) && (xf1 == yf1))=false:=by rw [Bool.eq_false_iff];intro hb;simp at hb;exact h hb
   have HN:=hide h;clear h;obtain rfl:R=false:=HR.out.symm.trans (fC (fun e=>HN.out (by injection e with e0 e1 e2 e3 e4 e5 e6 e7 e8 e9 e10 e11 e12 e13 e14 <;> first | assumption | (constructor <;> assumption) | (subst_vars;simp))))
   go_wp2_with (go_at_call 41;refine (LD.out _ hB.bw).mono ?_;rintro e w9 ⟨rfl,n,rfl⟩)
   all_goals go_ret
   all_goals exact ⟨rfl,below_drewN hB.bw _⟩
 obtain ⟨rfl,rfl⟩:=h
 by_cases h:xru=yru
 rotate_left
 · have hb:(xru == yru)=false:=by first | (simp [h];done) | (rw [Bool.eq_iff_iff];simp [h];done)
   have HN:=hide h;clear h;obtain rfl:R=false:=HR.out.symm.trans (fC (fun e=>HN.out (by injection e with e0 e1 e2 e3 e4 e5 e6 e7 e8 e9 e10 e11 e12 e13 e14 <;> first | assumption | (constructor <;> assumption) | (subst_vars;simp))))
   go_wp2_with (go_at_call 41;refine (LD.out _ hB.bw).mono ?_;rintro e w9 ⟨rfl,n,rfl⟩)
   all_goals go_ret
   all_goals exact ⟨rfl,below_drewN hB.bw _⟩
 subst h
 by_cases h:xra=yra
 rotate_left
 · have hb:(xra == yra)=false:=by first | (simp [h];done) | (rw [Bool.eq_iff_iff];simp [h];done)
   have HN:=hide h;clear h;obtain rfl:R=false:=HR.out.symm.trans (fC (fun e=>HN.out (by injection e with e0 e1 e2 e3 e4 e5 e6 e7 e8 e9 e10 e11 e12 e13 e14 <;> first | assumption | (constructor <;> assumption) | (subst_vars;simp))))
   go_wp2_with (go_at_call 41;refine (LD.out _ hB.bw).mono ?_;rintro e w9 ⟨rfl,n,rfl⟩)
   all_goals go_ret
   all_goals exact ⟨rfl,below_drewN hB.bw _⟩
 subst h
 by_cases h:xov=yov
 rotate_left
 · obtain rfl:xov=(!yov):=by cases xov <;> cases yov <;> first | rfl | exact absurd rfl h
   have HN:=hide h;clear h;obtain rfl:R=false:=HR.out.symm.trans (fC (fun e=>HN.out (by injection e with e0 e1 e2 e3 e4 e5 e6 e7 e8 e9 e10 e11 e12 e13 e14 <;> first | assumption | (constructor <;> assumption) | (subst_vars;simp))))
   go_wp2_with (go_at_call 41;refine (LD.out _ hB.bw).mono ?_;rintro e w9 ⟨rfl,n,rfl⟩)
   all_goals go_ret
   all_goals exact ⟨rfl,below_drewN hB.bw _⟩
 subst h
 by_cases h:xwi=ywi
 rotate_left
 · have hb:(xwi == ywi)=false:=by first | (simp [h];done) | (rw [Bool.eq_iff_iff];simp [h];done)
   have HN:=hide h;clear h;obtain rfl:R=false:=HR.out.symm.trans (fC (fun e=>HN.out (by injection e with e0 e1 e2 e3 e4 e5 e6 e7 e8 e9 e10 e11 e12 e13 e14 <;> first | assumption | (constructor <;> assumption) | (subst_vars;simp))))
   go_wp2_with (go_at_call 41;refine (LD.out _ hB.bw).mono ?_;rintro e w9 ⟨rfl,n,rfl⟩)
   all_goals go_ret
   all_goals exact ⟨rfl,below_drewN hB.bw _⟩
 subst h;obtain rfl:R=true:=HR.out.symm.trans (M.State.eq_iff.2 (by rw [HE.out]))
 go_wp2_with (go_at_call 41;refine (LD.out _ hB.bw).mono ?_;rintro e w9 ⟨rfl,n,rfl⟩)
 all_goals go_ret
 all_goals exact ⟨rfl,below_drewN hB.bw _⟩
theorem vU (x:M.aV) (P:Option Addr) (d:Nat) (w:World) (h:x.aC.length≤17592186044416):
 Calls Tryz.prog 7 #[iy x P d] w fun e w'=>e= .returned (.bool (decide (x.kind.size≤60∧x.aC.length≤18)))∧Below w.heap.size w w':=by
 by_cases h1:x.kind.size≤60 <;> by_cases h2:x.aC.length≤18
 all_goals
  go_enter Tryz.func7,Tryz.ntmps7
  have hB:=(aX.nil w).new (by simp) (aA ⟨x,P,d⟩) 36;go_wp2;go_ret;exact ⟨by first | (simp [h1,h2];done) | (simp [h1,h2];omega),hB.bw⟩
end Go.Proofs.YtcjglfbpjkdgiaaGreatDoor
