/- Parts of a proof. -/
import Derived.Test.YtelpepbpdojikaaGreatDoorKg10
import Derived.Test.YtelpepbpdojikaaGreatDoorKg3
import Derived.Test.YtelpepbpdojikaaGreatDoorKx5
set_option maxHeartbeats 1600000
set_option maxRecDepth 100000
set_option linter.unusedVariables false
set_option linter.unusedSimpArgs false
namespace Go.Proofs.YtelpepbpdojikaaGreatDoor
open Go.RowKit
def adF (x y:M.aI):Bool:=x.aC=y.aC∧x.kind=y.kind∧x.aJ=y.aJ∧x.aP=y.aP∧x.first=y.first∧x.dA=y.dA∧x.aA=y.aA
theorem aiW {x y:M.aI}:adF x y=true↔x=y:=by
 unfold adF
 rw [decide_eq_true_eq]
 constructor
 · rintro ⟨h1,h2,h3,h4,h5,h6,h7⟩
   cases x;cases y
   simp only at h1 h2 h3 h4 h5 h6 h7
   subst h1 h2 h3 h4 h5 h6 h7
   rfl
 · rintro rfl;simp
theorem ZM {x y:M.aI} (h:¬ x=y):adF x y=false:=by
 cases he:adF x y with
 | false=>rfl
 | true=>exact absurd (aiW.1 he) h
theorem ath {xs ys:List M.rD} {k:Nat} (hx:k<xs.length) (hy:k<ys.length) (h:xs.take k=ys.take k) (e:xs[k]=ys[k]):xs.take (k+1)=ys.take (k+1):=by
 rw [List.take_succ_eq_append_getElem hx,List.take_succ_eq_append_getElem hy,h,e]
theorem azt {xs ys:List M.rD} {k:Nat} (hx:k<xs.length) (hy:k<ys.length) (e:xs[k]≠ys[k]):xs≠ys:=by
 rintro rfl;exact e rfl
theorem an0 {W:World} {g:Nat} {s:Sh} {t:TypeId} (h:Held W g (au s) t):W.cell? ⟨g,0,none⟩=some (.int .i64 s.x.aC)∧W.cell? ⟨g,1,none⟩=some (.string s.x.kind)∧W.cell? ⟨g,2,none⟩=some (.int .i64 s.x.aJ)∧W.cell? ⟨g,3,none⟩=some (.int .i64 s.x.aP)∧W.cell? ⟨g,4,none⟩=some (.int .i64 s.x.first)∧W.cell? ⟨g,5,none⟩=some (.bool s.x.dA)∧W.cell? ⟨g,6,none⟩=some (.slice s.a s.x.aA.length s.c):=
 ⟨h.cell (j:=0) rfl,h.cell (j:=1) rfl,h.cell (j:=2) rfl,h.cell (j:=3) rfl,h.cell (j:=4) rfl,h.cell (j:=5) rfl,h.cell (j:=6) rfl⟩
theorem al5 (S S':Nat→Prop) (x y:M.aI) (P Q:Option Addr) (d e:Nat) (w:World) (hp:jl w S P d x.aA) (hq:jl w S' Q e y.aA):
 Calls Tryz.prog 33 #[iO x P d,iO y Q e] w fun e w'=>e= .returned (.bool (adF x y))∧Below w.heap.size w w':=by
 obtain ⟨b1,b2,b3⟩:=hp.bd;obtain ⟨c1,c2,c3⟩:=hq.bd;obtain ⟨R,hR⟩:∃ R,adF x y=R:=⟨_,rfl⟩;rw [hR];obtain ⟨xp,xk,xb,xo,xf,xc,xl⟩:=x;obtain ⟨yp,yk,yb,yo,yf,yc,yl⟩:=y
 simp only at hp hq b1 b3 c1 c3
 have HR:=hide hR;clear hR
 go_enter Tryz.func33,Tryz.ntmps33
 have hB:=((bU.nil w).new (by simp) (au ⟨⟨xp,xk,xb,xo,xf,xc,xl⟩,P,d⟩) 69).new (by simp) (au ⟨⟨yp,yk,yb,yo,yf,yc,yl⟩,Q,e⟩) 69;obtain ⟨k0,k1,k2,k3,k4,k5,k6⟩:=an0 (hB.bf rfl);obtain ⟨m0,m1,m2,m3,m4,m5,m6⟩:=an0 (hB.get 1 rfl)
 by_cases h0:xp=yp
 rotate_left
 · have hb0:(xp != yp)=true:=by first | (simp [h0];done) | (rw [Bool.eq_iff_iff];simp [h0];done) | (rw [← beq_toListBytes];exact sS h0) | (simp;omega)
   have HN:=hide h0;clear h0;obtain rfl:R=false:=HR.out.symm.trans (ZM (fun e=>HN.out (by injection e with e0 e1 e2 e3 e4 e5 e6 <;> first | assumption | (rw [e6]))));go_wp2;go_ret;exact ⟨rfl,hB.bw⟩
 subst h0
 by_cases h1:xk=yk
 rotate_left
 · have hb1:(xk.toList == yk.toList)=false:=by first | (simp [h1];done) | (rw [Bool.eq_iff_iff];simp [h1];done) | (rw [← beq_toListBytes];exact sS h1) | (simp;omega)
   have HN:=hide h1;clear h1;obtain rfl:R=false:=HR.out.symm.trans (ZM (fun e=>HN.out (by injection e with e0 e1 e2 e3 e4 e5 e6 <;> first | assumption | (rw [e6]))));go_wp2;go_ret;exact ⟨rfl,hB.bw⟩
 subst h1
 by_cases h2:xb=yb
 rotate_left
 · have hb2:(xb != yb)=true:=by first | (simp [h2];done) | (rw [Bool.eq_iff_iff];simp [h2];done) | (rw [← beq_toListBytes];exact sS h2) | (simp;omega)
   have HN:=hide h2;clear h2;obtain rfl:R=false:=HR.out.symm.trans (ZM (fun e=>HN.out (by injection e with e0 e1 e2 e3 e4 e5 e6 <;> first | assumption | (rw [e6]))));go_wp2;go_ret;exact ⟨rfl,hB.bw⟩
 subst h2
 by_cases h3:xo=yo
 rotate_left
 · have hb3:(xo != yo)=true:=by first | (simp [h3];done) | (rw [Bool.eq_iff_iff];simp [h3];done) | (rw [← beq_toListBytes];exact sS h3) | (simp;omega)
   have HN:=hide h3;clear h3;obtain rfl:R=false:=HR.out.symm.trans (ZM (fun e=>HN.out (by injection e with e0 e1 e2 e3 e4 e5 e6 <;> first | assumption | (rw [e6]))));go_wp2;go_ret;exact ⟨rfl,hB.bw⟩
 subst h3
 by_cases h4:xf=yf
 rotate_left
 · have hb4:(xf != yf)=true:=by first | (simp [h4];done) | (rw [Bool.eq_iff_iff];simp [h4];done) | (rw [← beq_toListBytes];exact sS h4) | (simp;omega)
   have HN:=hide h4;clear h4;obtain rfl:R=false:=HR.out.symm.trans (ZM (fun e=>HN.out (by injection e with e0 e1 e2 e3 e4 e5 e6 <;> first | assumption | (rw [e6]))));go_wp2;go_ret;exact ⟨rfl,hB.bw⟩
 subst h4
 by_cases h5:xc=yc
 rotate_left
 · have hb5:(xc != yc)=true:=by first | (simp [h5];done) | (rw [Bool.eq_iff_iff];simp [h5];done) | (rw [← beq_toListBytes];exact sS h5) | (simp;omega)
   have HN:=hide h5;clear h5;obtain rfl:R=false:=HR.out.symm.trans (ZM (fun e=>HN.out (by injection e with e0 e1 e2 e3 e4 e5 e6 <;> first | assumption | (rw [e6]))));go_wp2;go_ret;exact ⟨rfl,hB.bw⟩
 subst h5
 by_cases h6:xl.length=yl.length
 rotate_left
 · have hb6:((xl.length:Int) != (yl.length:Int))=true:=by first | (simp [h6];done) | (rw [Bool.eq_iff_iff];simp [h6];done) | (rw [← beq_toListBytes];exact sS h6) | (simp;omega)
   have HN:=hide h6;clear h6;obtain rfl:R=false:=HR.out.symm.trans (ZM (fun e=>HN.out (by injection e with e0 e1 e2 e3 e4 e5 e6 <;> first | assumption | (rw [e6]))));go_wp2;go_ret;exact ⟨rfl,hB.bw⟩
 have hb6:((xl.length:Int) != (yl.length:Int))=false:=by simp [h6]
 have H6:=hide h6;clear h6;go_wp2
 go_loopw [5] (fun i wr=>∃ k:Nat,k≤xl.length∧i= .int .i64 k∧xl.take k=yl.take k∧bU w wr [(au ⟨⟨xp,xk,xb,xo,xf,xc,xl⟩,P,d⟩,69),(au ⟨⟨xp,xk,xb,xo,xf,xc,yl⟩,Q,e⟩,69)]) (fun i _=>xl.length - (intOf i).toNat)
 case atStart=>exact ⟨0,Nat.zero_le _,rfl,by simp,hB⟩
 case round=>
  obtain ⟨k,hk,rfl,hx1,hB⟩:=hrel;have k6:=(hB.bf rfl).cell (j:=6) rfl;have m6:=(hB.get 1 rfl).cell (j:=6) rfl
  by_cases hlt:k<xl.length
  · have hlt2:k<yl.length:=by have:=H6.out;omega
    obtain ⟨b,o,rfl,hS,hb,hc⟩:=(hp.below hB.bw).at_ k hlt;obtain ⟨r1,r2⟩:=hc k hlt;obtain ⟨b',o',rfl,hS',hb',hc'⟩:=(hq.below hB.bw).at_ k hlt2;obtain ⟨r3,r4⟩:=hc' k hlt2;clear hc hc'
    have i1:(0:Int)≤(k:Int):=by omega
    have i2:(k:Int)<(xl.length:Int):=by omega
    have i3:(k:Int)<(yl.length:Int):=by omega
    by_cases he:xl[k]=yl[k]
    · have he1:(xl[k].aJ == yl[k].aJ)=true:=by simp [he]
      have he2:(xl[k].aP == yl[k].aP)=true:=by simp [he]
      have HX:=hide (ath hlt hlt2 hx1 he);clear he hx1;go_wp2
      go_quiet (fail)
      go_wp2
      go_roundw
      case rel=>exact ⟨k+1,by omega,by go_num,HX.out,hB.drewN _⟩
      case measure=>simp [intOf];omega
    · have he':((xl[k].aJ == yl[k].aJ) && (xl[k].aP == yl[k].aP))=false:=by
       rw [Bool.eq_false_iff];intro hb;simp at hb;exact he (by cases h1:xl[k];cases h2:yl[k];rw [h1,h2] at hb;simp only at hb;rw [hb.1,hb.2])
      have hr:R=false:=by
       rw [← HR.out];exact ZM (fun e=>by injection e with e0 e1 e2 e3 e4 e5 e6;exact azt hlt hlt2 he e6)
      subst hr;clear he
      rcases hb1:(xl[k].aJ == yl[k].aJ) with _ | _ <;> rcases hb2:(xl[k].aP == yl[k].aP) with _ | _ <;> rw [hb1,hb2] at he'
      all_goals first | (cases he';done) | skip
      all_goals
       clear he';go_wp2
       go_quiet (fail)
       go_wp2;go_ret;exact ⟨rfl,below_drewN hB.bw _⟩
  · have hke:k=xl.length:=by omega
    subst hke
    have he:xl=yl:=by
     have h6:=H6.out
     rwa [List.take_of_length_le (Nat.le_refl _),List.take_of_length_le (by omega)] at hx1
    have hr:R=true:=by
     rw [← HR.out]
     unfold adF
     rw [decide_eq_true_eq];exact ⟨rfl,rfl,rfl,rfl,rfl,rfl,he⟩
    subst hr;clear he;go_wp2;go_ret;exact ⟨rfl,hB.bw⟩
end Go.Proofs.YtelpepbpdojikaaGreatDoor
