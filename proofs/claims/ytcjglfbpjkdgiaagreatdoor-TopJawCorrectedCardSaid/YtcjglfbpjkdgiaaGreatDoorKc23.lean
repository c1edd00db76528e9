/- Parts of a proof. -/
import Derived.Test.YtcjglfbpjkdgiaaGreatDoorKc11
import Derived.Test.YtcjglfbpjkdgiaaGreatDoorKc4
set_option maxHeartbeats 1600000
set_option maxRecDepth 100000
set_option linter.unusedVariables false
set_option linter.unusedSimpArgs false
namespace Go.Proofs.YtcjglfbpjkdgiaaGreatDoor
open Go.RowKit
def um (x y:M.aV):Bool:=x.aN=y.aN∧x.kind=y.kind∧x.aT=y.aT∧x.aX=y.aX∧x.first=y.first∧x.dK=y.dK∧x.aF=y.aF
theorem Af {x y:M.aV}:um x y=true↔x=y:=by
 unfold um
 rw [decide_eq_true_eq]
 constructor
 · rintro ⟨h1,h2,h3,h4,h5,h6,h7⟩
   cases x;cases y
   simp only at h1 h2 h3 h4 h5 h6 h7
   subst h1 h2 h3 h4 h5 h6 h7
   rfl
 · rintro rfl;simp
theorem jV {x y:M.aV} (h:¬ x=y):um x y=false:=by
 cases he:um x y with
 | false=>rfl
 | true=>exact absurd (Af.1 he) h
theorem MK {xs ys:List M.ny} {k:Nat} (hx:k<xs.length) (hy:k<ys.length) (h:xs.take k=ys.take k) (e:xs[k]=ys[k]):xs.take (k+1)=ys.take (k+1):=by
 rw [List.take_succ_eq_append_getElem hx,List.take_succ_eq_append_getElem hy,h,e]
theorem UQ {xs ys:List M.ny} {k:Nat} (hx:k<xs.length) (hy:k<ys.length) (e:xs[k]≠ys[k]):xs≠ys:=by
 rintro rfl;exact e rfl
theorem GY {W:World} {g:Nat} {s:Sh} {t:TypeId} (h:Held W g (aB s) t):W.cell? ⟨g,0,none⟩=some (.int .i64 s.x.aN)∧W.cell? ⟨g,1,none⟩=some (.string s.x.kind)∧W.cell? ⟨g,2,none⟩=some (.int .i64 s.x.aT)∧W.cell? ⟨g,3,none⟩=some (.int .i64 s.x.aX)∧W.cell? ⟨g,4,none⟩=some (.int .i64 s.x.first)∧W.cell? ⟨g,5,none⟩=some (.bool s.x.dK)∧W.cell? ⟨g,6,none⟩=some (.slice s.a s.x.aF.length s.c):=
 ⟨h.cell (j:=0) rfl,h.cell (j:=1) rfl,h.cell (j:=2) rfl,h.cell (j:=3) rfl,h.cell (j:=4) rfl,h.cell (j:=5) rfl,h.cell (j:=6) rfl⟩
theorem Ee (S S':Nat→Prop) (x y:M.aV) (P Q:Option Addr) (d e:Nat) (w:World) (hp:fA w S P d x.aF) (hq:fA w S' Q e y.aF):
 Calls Tryz.prog 40 #[iG x P d,iG y Q e] w fun e w'=>e= .returned (.bool (um x y))∧Below w.heap.size w w':=by
 obtain ⟨b1,b2,b3⟩:=hp.bd;obtain ⟨c1,c2,c3⟩:=hq.bd;obtain ⟨R,hR⟩:∃ R,um x y=R:=⟨_,rfl⟩;rw [hR];obtain ⟨xp,xk,xb,xo,xf,xc,xl⟩:=x;obtain ⟨yp,yk,yb,yo,yf,yc,yl⟩:=y
 simp only at hp hq b1 b3 c1 c3
 have HR:=hide hR;clear hR
 go_enter Tryz.func40,Tryz.ntmps40
 have hB:=((aS.nil w).new (by simp) (aB ⟨⟨xp,xk,xb,xo,xf,xc,xl⟩,P,d⟩) 36).new (by simp) (aB ⟨⟨yp,yk,yb,yo,yf,yc,yl⟩,Q,e⟩) 36;obtain ⟨k0,k1,k2,k3,k4,k5,k6⟩:=GY (hB.ah rfl);obtain ⟨m0,m1,m2,m3,m4,m5,m6⟩:=GY (hB.get 1 rfl)
 by_cases h0:xp=yp
 rotate_left
 · have hb0:(xp != yp)=true:=by first | (simp [h0];done) | (rw [Bool.eq_iff_iff];simp [h0];done) | (rw [← beq_toListBytes];exact iI h0) | (simp;omega)
   have HN:=hide h0;clear h0;obtain rfl:R=false:=HR.out.symm.trans (jV (fun e=>HN.out (by injection e with e0 e1 e2 e3 e4 e5 e6 <;> first | assumption | (rw [e6]))));go_wp2;go_ret;exact ⟨rfl,hB.bw⟩
 subst h0
 by_cases h1:xk=yk
 rotate_left
 · have hb1:(xk.toList == yk.toList)=false:=by first | (simp [h1];done) | (rw [Bool.eq_iff_iff];simp [h1];done) | (rw [← beq_toListBytes];exact iI h1) | (simp;omega)
   have HN:=hide h1;clear h1;obtain rfl:R=false:=HR.out.symm.trans (jV (fun e=>HN.out (by injection e with e0 e1 e2 e3 e4 e5 e6 <;> first | assumption | (rw [e6]))));go_wp2;go_ret;exact ⟨rfl,hB.bw⟩
 subst h1
 by_cases h2:xb=yb
 rotate_left
 · have hb2:(xb != yb)=true:=by first | (simp [h2];done) | (rw [Bool.eq_iff_iff];simp [h2];done) | (rw [← beq_toListBytes];exact iI h2) | (simp;omega)
   have HN:=hide h2;clear h2;obtain rfl:R=false:=HR.out.symm.trans (jV (fun e=>HN.out (by injection e with e0 e1 e2 e3 e4 e5 e6 <;> first | assumption | (rw [e6]))));go_wp2;go_ret;exact ⟨rfl,hB.bw⟩
 subst h2
 by_cases h3:xo=yo
 rotate_left
 · have hb3:(xo != yo)=true:=by first | (simp [h3];done) | (rw [Bool.eq_iff_iff];simp [h3];done) | (rw [← beq_toListBytes];exact iI h3) | (simp;omega)
   have HN:=hide h3;clear h3;obtain rfl:R=false:=HR.out.symm.trans (jV (fun e=>HN.out (by injection e with e0 e1 e2 e3 e4 e5 e6 <;> first | assumption | (rw [e6]))));go_wp2;go_ret;exact ⟨rfl,hB.bw⟩
 subst h3
 by_cases h4:xf=yf
 rotate_left
 · have hb4:(xf != yf)=true:=by first | (simp [h4];done) | (rw [Bool.eq_iff_iff];simp [h4];done) | (rw [← beq_toListBytes];exact iI h4) | (simp;omega)
   have HN:=hide h4;clear h4;obtain rfl:R=false:=HR.out.symm.trans (jV (fun e=>HN.out (by injection e with e0 e1 e2 e3 e4 e5 e6 <;> first | assumption | (rw [e6]))));go_wp2;go_ret;exact ⟨rfl,hB.bw⟩
 subst h4
 by_cases h5:xc=yc
 rotate_left
 · have hb5:(xc != yc)=true:=by first | (simp [h5];done) | (rw [Bool.eq_iff_iff];simp [h5];done) | (rw [← beq_toListBytes];exact iI h5) | (simp;omega)
   have HN:=hide h5;clear h5;obtain rfl:R=false:=HR.out.symm.trans (jV (fun e=>HN.out (by injection e with e0 e1 e2 e3 e4 e5 e6 <;> first | assumption | (rw [e6]))));go_wp2;go_ret;exact ⟨rfl,hB.bw⟩
 subst h5
 by_cases h6:xl.length=yl.length
 rotate_left
 · have hb6:((xl.length:Int) != (yl.length:Int))=true:=by first | (simp [h6];done) | (rw [Bool.eq_iff_iff];simp [h6];done) | (rw [← beq_toListBytes];exact iI h6) | (simp;omega)
   have HN:=hide h6;clear h6;obtain rfl:R=false:=HR.out.symm.trans (jV (fun e=>HN.out (by injection e with e0 e1 e2 e3 e4 e5 e6 <;> first | assumption | (rw [e6]))));go_wp2;go_ret;exact ⟨rfl,hB.bw⟩
 have hb6:((xl.length:Int) != (yl.length:Int))=false:=by simp [h6]
 have H6:=hide h6;clear h6;go_wp2
 go_loopw [5] (fun i wr=>∃ k:Nat,k≤xl.length∧i= .int .i64 k∧xl.take k=yl.take k∧aS w wr [(aB ⟨⟨xp,xk,xb,xo,xf,xc,xl⟩,P,d⟩,36),(aB ⟨⟨xp,xk,xb,xo,xf,xc,yl⟩,Q,e⟩,36)]) (fun i _=>xl.length - (intOf i).toNat)
 case atStart=>exact ⟨0,Nat.zero_le _,rfl,by simp,hB⟩
 case round=>
  obtain ⟨k,hk,rfl,hx1,hB⟩:=hrel;have k6:=(hB.ah rfl).cell (j:=6) rfl;have m6:=(hB.get 1 rfl).cell (j:=6) rfl
  by_cases hlt:k<xl.length
  · have hlt2:k<yl.length:=by have:=H6.out;omega
    obtain ⟨b,o,rfl,hS,hb,hc⟩:=(hp.below hB.bw).at_ k hlt;obtain ⟨r1,r2⟩:=hc k hlt;obtain ⟨b',o',rfl,hS',hb',hc'⟩:=(hq.below hB.bw).at_ k hlt2;obtain ⟨r3,r4⟩:=hc' k hlt2;clear hc hc'
    have i1:(0:Int)≤(k:Int):=by omega
    have i2:(k:Int)<(xl.length:Int):=by omega
    have i3:(k:Int)<(yl.length:Int):=by omega
    by_cases he:xl[k]=yl[k]
    · have he1:(xl[k].aT == yl[k].aT)=true:=by simp [he]
      have he2:(xl[k].aX == yl[k].aX)=true:=by simp [he]
      have HX:=hide (MK hlt hlt2 hx1 he);clear he hx1;go_wp2
      go_quiet (fail)
      go_wp2
      go_roundw
      case rel=>exact ⟨k+1,by omega,by go_num,HX.out,hB.drewN _⟩
      case measure=>simp [intOf];omega
    · have he':((xl[k].aT == yl[k].aT) && (xl[k].aX == yl[k].aX))=false:=by
       rw [Bool.eq_false_iff];intro hb;simp at hb;exact he (by cases h1:xl[k];cases h2:yl[k];rw [h1,h2] at hb;simp only at hb;rw [hb.1,hb.2])
      have hr:R=false:=by
       rw [← HR.out];exact jV (fun e=>by injection e with e0 e1 e2 e3 e4 e5 e6;exact UQ hlt hlt2 he e6)
      subst hr;clear he
      rcases hb1:(xl[k].aT == yl[k].aT) with _ | _ <;> rcases hb2:(xl[k].aX == yl[k].aX) with _ | _ <;> rw [hb1,hb2] at he'
      all_goals first | (cases he';done) | skip
      all_goals
       clear he';go_wp2
       go_quiet (fail)
       go_wp2;go_ret;exact ⟨rfl,below_drewN hB.bw _⟩
  · have hke:k=xl.length:=by omega
    subst hke
    have he:xl=yl:=by
     have h6:=H6.out
     rwa [List.take_of_length_le (Nat.le_refl _),List.take_of_length_le (by omega)] at hx1
    have hr:R=true:=by
     rw [← HR.out]
     unfold um
     rw [decide_eq_true_eq];exact ⟨rfl,rfl,rfl,rfl,rfl,rfl,he⟩
    subst hr;clear he;go_wp2;go_ret;exact ⟨rfl,hB.bw⟩
end Go.Proofs.YtcjglfbpjkdgiaaGreatDoor
