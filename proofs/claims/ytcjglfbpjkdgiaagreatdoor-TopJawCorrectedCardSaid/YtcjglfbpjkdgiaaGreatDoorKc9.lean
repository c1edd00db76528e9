/- Parts of a proof. -/
import Derived.Test.YtcjglfbpjkdgiaaGreatDoorKc10
import Derived.Test.YtcjglfbpjkdgiaaGreatDoorKc6
import Derived.Test.YtcjglfbpjkdgiaaGreatDoorKc7
set_option maxHeartbeats 4000000
set_option maxRecDepth 100000
set_option linter.unusedVariables false
set_option linter.unusedSimpArgs false
namespace Go.Proofs.YtcjglfbpjkdgiaaGreatDoor
open Go.RowKit
theorem tu {P:Program} {md:Region.Mode} {ops:Array Oper} {Q:Exit→Act→World→Prop} {S:World→Prop} {oi:Oper} {fuel:Nat} {listed l':Array Bool} {a a':Act} {w:World} (i:Nat) (h:wpAnyH P md ops Q S fuel l' a' w) (hi:ops[i]? =some oi:=by exact ga rfl) (h3:(Region.noSelect ops && (Region.free md ops listed i && (Region.ready md ops listed).contains i))=true:=by kernel_rfl) (hw:Region.wanted oi (yielded ops a.tmps)=false:=by rfl) (hS:S w:=by assumption) (hQ:∀ c a w,Q (.panic c) (a.put oi.dst undef) w→Q (.panic c) a w:=by exact fun _ _ _ h=>h) (hl:listed.setIfInBounds i true=l':=by (try simp only [la,lz,ls]);exact rfl) (ha:a.put oi.dst undef=a':=by (try simp only [Act.put,la,lz,ls]);exact rfl):wpAnyH P md ops Q S (fuel+1) listed a w:=by
 subst hl ha;rw [Bool.and_eq_true,Bool.and_eq_true] at h3;exact wpAnyH_take hi h3.1 h3.2.1 h3.2.2 hQ (Or.inr ⟨hw,rfl⟩) hS h
theorem tr {P:Program} {md:Region.Mode} {ops:Array Oper} {Q:Exit→Act→World→Prop} {S:World→Prop} {oi:Oper} {fuel:Nat} {listed l':Array Bool} {a:Act} {w:World} (i:Nat) (h:∀ K:Act→World→Prop,Shut (∀ a w,S w→(S w→wpAnyH P md ops Q S fuel l' a w)→K a w)→if Region.wanted oi (yielded ops a.tmps)=true then Oper.wp P oi a w K Q else K (a.put oi.dst undef) w) (hi:ops[i]? =some oi:=by exact ga rfl) (hr:Region.ready md ops listed=[i]:=by kernel_rfl) (hl:listed.setIfInBounds i true=l':=by (try simp only [la,lz,ls]);exact rfl):wpAnyH P md ops Q S (fuel+1) listed a w:=by
 subst hl;exact wpAnyH_ready hr (by simp) (AllReadyH.cons hi h AllReadyH.nil)
theorem AO (r:M.Rules):M.bP r=if r.game=M.aH then bK [wi r.target 1 200,wh (!decide (r.bG=0) && M.out r.bG 2 9) 3] else if r.game=M.bC∨r.game=M.dJ then bK [wi r.target 0 0,wh (!decide (r.bG=0) && M.out r.bG 2 9) 3] else 13:=by
 have h0:M.out r.target 0 0=decide (r.target≠0):=by unfold M.out;rw [Bool.eq_iff_iff];simp only [decide_eq_true_eq];omega
 unfold M.bP M.mY
 simp only [wi,wh,bK,h0]
 by_cases h1:r.game=M.aH
 · simp only [h1,true_or,decide_true,Bool.true_eq_false,if_false,if_true,true_and,not_true,ne_eq,false_and,false_or]
   by_cases h2:M.out r.target 1 200=true
   · simp [h2]
   · by_cases h3:r.bG=0 <;> by_cases h4:M.out r.bG 2 9=true <;> simp [h2,h3,h4]
 · by_cases h2:r.game=M.bC∨r.game=M.dJ
   · simp only [h1,h2,false_or,decide_true,Bool.true_eq_false,if_false,if_true,false_and,ne_eq,not_false_eq_true,true_and]
     by_cases h3:r.target=0 <;> by_cases h4:r.bG=0 <;> by_cases h5:M.out r.bG 2 9=true <;> simp [h3,h4,h5]
   · simp only [h1,h2,or_self,decide_false,if_false,if_true]
theorem oh (r:M.Rules) (w:World):Calls Tryz.prog 138 #[iY r] w fun e w'=>e= .returned (.int .i64 (wh (!decide (r.bG=0) && M.out r.bG 2 9) 3))∧Below w.heap.size w w':=by
 obtain ⟨g,tg,fo⟩:=r
 go_enter Tryz.func138,Tryz.ntmps138
 go_wp2_with (go_at_call 30;refine (jM _ _ _).mono ?_;rintro e nH ⟨rfl,rfl⟩)
 all_goals
  go_ret;exact ⟨dN (by congr 1;simp [M.out, *]),(Below.refl _ _).alloc (Nat.le_refl _) _⟩
theorem EI (r:M.Rules) (w:World):Calls Tryz.prog 67 #[iY r] w fun e w'=>e= .returned (.int .i64 (M.bP r))∧Below w.heap.size w w':=by
 rw [AO];obtain ⟨g,tg,fo⟩:=r
 rcases zy g with rfl | rfl | rfl | ⟨h0,h1,h2,hk⟩
 · go_enter Tryz.func67,Tryz.ntmps67
   go_wp2;have K0:Keeps w (w.alloc (.cells #[.string M.aH,.int .i64 tg,.int .i64 fo] 23)) 1 (w.alloc (.cells #[.string M.aH,.int .i64 tg,.int .i64 fo] 23)):=Keeps.IZ w _
   go_region_held3 (fun w'=>∀ p q,p<w.heap.size+1→w'.cell? ⟨p,q,none⟩=(w.alloc (.cells #[.string M.aH,.int .i64 tg,.int .i64 fo] 23)).cell? ⟨p,q,none⟩) (first | exact K0.cell | exact K1.cell | exact (K1.alloc _).cell) (first | (go_at_call 64;refine (jR _ _ _ _).mono ?_;rintro e nH ⟨rfl,rfl⟩) | (go_at_call 138;refine (oh ⟨M.aH,tg,fo⟩ _).mono ?_;rintro e w1 ⟨rfl,hb1⟩;have K1:=K0.drew.call hb1) | (go_at_call 28;refine (first_any (fun _=>True) _ _ [wi tg 1 200,wh (!decide (fo=0) && M.out fo 2 9) 3] _ (bT.lit _ _ [wi tg 1 200,wh (!decide (fo=0) && M.out fo 2 9) 3] (by simp) _ trivial)).mono ?_;rintro e nH ⟨rfl,rfl⟩))
   go_wp2;go_ret;exact ⟨rfl,(K1.alloc _).bw⟩
 · go_enter Tryz.func67,Tryz.ntmps67
   go_wp2;have K0:Keeps w (w.alloc (.cells #[.string M.bC,.int .i64 tg,.int .i64 fo] 23)) 1 (w.alloc (.cells #[.string M.bC,.int .i64 tg,.int .i64 fo] 23)):=Keeps.IZ w _
   go_region_held3 (fun w'=>∀ p q,p<w.heap.size+1→w'.cell? ⟨p,q,none⟩=(w.alloc (.cells #[.string M.bC,.int .i64 tg,.int .i64 fo] 23)).cell? ⟨p,q,none⟩) (first | exact K0.cell | exact K1.cell | exact (K1.alloc _).cell) (first | (go_at_call 64;refine (jR _ _ _ _).mono ?_;rintro e nH ⟨rfl,rfl⟩) | (go_at_call 138;refine (oh ⟨M.bC,tg,fo⟩ _).mono ?_;rintro e w1 ⟨rfl,hb1⟩;have K1:=K0.drew.call hb1) | (go_at_call 28;refine (first_any (fun _=>True) _ _ [wi tg 0 0,wh (!decide (fo=0) && M.out fo 2 9) 3] _ (bT.lit _ _ [wi tg 0 0,wh (!decide (fo=0) && M.out fo 2 9) 3] (by simp) _ trivial)).mono ?_;rintro e nH ⟨rfl,rfl⟩))
   go_wp2;go_ret;exact ⟨rfl,(K1.alloc _).bw⟩
 · go_enter Tryz.func67,Tryz.ntmps67
   go_wp2;have K0:Keeps w (w.alloc (.cells #[.string M.dJ,.int .i64 tg,.int .i64 fo] 23)) 1 (w.alloc (.cells #[.string M.dJ,.int .i64 tg,.int .i64 fo] 23)):=Keeps.IZ w _
   go_region_held3 (fun w'=>∀ p q,p<w.heap.size+1→w'.cell? ⟨p,q,none⟩=(w.alloc (.cells #[.string M.dJ,.int .i64 tg,.int .i64 fo] 23)).cell? ⟨p,q,none⟩) (first | exact K0.cell | exact K1.cell | exact (K1.alloc _).cell) (first | (go_at_call 64;refine (jR _ _ _ _).mono ?_;rintro e nH ⟨rfl,rfl⟩) | (go_at_call 138;refine (oh ⟨M.dJ,tg,fo⟩ _).mono ?_;rintro e w1 ⟨rfl,hb1⟩;have K1:=K0.drew.call hb1) | (go_at_call 28;refine (first_any (fun _=>True) _ _ [wi tg 0 0,wh (!decide (fo=0) && M.out fo 2 9) 3] _ (bT.lit _ _ [wi tg 0 0,wh (!decide (fo=0) && M.out fo 2 9) 3] (by simp) _ trivial)).mono ?_;rintro e nH ⟨rfl,rfl⟩))
   go_wp2;go_ret;exact ⟨rfl,(K1.alloc _).bw⟩
 · have hn:¬ (g=M.aH)∧¬ (g=M.bC∨g=M.dJ):=by refine ⟨fun e=>?_,fun e=>?_⟩ <;> (have:M.mY g=true:=by (unfold M.mY;simp [e])) <;> rw [hk] at this <;> cases this
   rw [if_neg hn.1,if_neg hn.2];clear hn;have h0':(g.toList == [115,116,114,97,105,103,104,116])=false:=beq_eq_false_iff_ne.2 h0;have h1':(g.toList == [101,105,103,104,116])=false:=beq_eq_false_iff_ne.2 h1;have h2':(g.toList == [110,105,110,101])=false:=beq_eq_false_iff_ne.2 h2
   go_enter Tryz.func67,Tryz.ntmps67
   go_wp2;go_ret;exact ⟨rfl,(Below.refl _ _).alloc (Nat.le_refl _) _⟩
theorem wV (x:M.aV):M.cZ x=if M.fO x≠0 then M.fO x else if M.fE [] x.aF≠0 then M.fE [] x.aF else M.oZ x:=rfl
theorem tK (a b:Int):(a == b)=decide (a=b):=by by_cases h:a=b <;> simp [h]
theorem uD (pl ba po fi:Int) (kd:ByteArray) (cu:Bool) (aF:List M.ny) (b1 b2 b3:Bool) (h1:b1= !M.isKind kd) (h2:b2=decide (decide (ba=0)≠decide (po=0))) (h3:b3=decide (16<aF.length)):
 bK [wi pl 0 1,wh b1 13,wi ba 0 15,wi po 0 6,wi fi 0 15,wh b2 2,wh b3 5]=M.fO ⟨pl,kd,ba,po,fi,cu,aF⟩:=by
 subst h1 h2 h3
 unfold M.fO
 simp only [wi,wh,bK]
 by_cases h1:M.out pl 0 1=true
 · simp [h1]
 by_cases h2:M.isKind kd=true
 · by_cases h3:M.out ba 0 15=true
   · simp [h1,h2,h3]
   by_cases h4:M.out po 0 6=true
   · simp [h1,h2,h3,h4]
   by_cases h4':M.out fi 0 15=true
   · simp [h1,h2,h3,h4,h4']
   by_cases h5:(ba=0↔po=0) <;> by_cases h7:16<aF.length <;> simp [h1,h2,h3,h4,h4',h5,h7]
 · simp [h1,h2]
theorem Dj {l:List M.ny} {k:Nat} (hk:k<l.length):M.fE (l.take k) (l.drop k)=
 if bK [wi l[k].aT 0 15,wi l[k].aX 1 6,wh ((l.take k).any fun o=>decide (o.aT=l[k].aT)) 9]≠0 then bK [wi l[k].aT 0 15,wi l[k].aX 1 6,wh ((l.take k).any fun o=>decide (o.aT=l[k].aT)) 9] else M.fE (l.take (k+1)) (l.drop (k+1)):=by
 rw [wU hk]
 have hm:(l[k].aT∈(l.take k).map (·.aT))↔((l.take k).any fun o=>decide (o.aT=l[k].aT))=true:=by
  rw [List.mem_map,List.any_eq_true];simp only [decide_eq_true_eq]
 simp only [wi,wh,bK,hm]
 by_cases h1:M.out l[k].aT 0 15=true
 · simp [h1]
 by_cases h2:M.out l[k].aX 1 6=true
 · simp [h1,h2]
 by_cases h3:((l.take k).any fun o=>decide (o.aT=l[k].aT))=true
 · simp [h1,h2,h3]
 · simp [h1,h2,h3]
theorem Hf (B:Nat) (b:Int) (w:World) (hB:B<w.heap.size) (hc:w.cell? ⟨B,0,none⟩=some (.int .i64 b)):sN 66 #[.pointer (some ⟨B,0,none⟩)] FY (fun o=>decide (o.aT=b)) w:=by
 refine ⟨enters_of Tryz.func66 (by kernel_rfl) rfl,fun W x hb=>?_⟩;have hc1:=(hb.cell (p:=⟨B,0,none⟩) hB).trans hc;have hlt:B<W.heap.size:=Nat.lt_of_lt_of_le hB hb.size;obtain ⟨xb,xp⟩:=x;clear hc
 go_enter Tryz.func66,Tryz.ntmps66
 go_wp2;go_ret;exact ⟨cO (by by_cases h:xb=b <;> simp [h]),hb.alloc hb.size _⟩
theorem yR (x:M.aV) (h:M.isKind x.kind=false):M.fO x≠0:=by
 intro h0
 have:=(Ir h0).kind
 rw [h] at this;cases this
theorem Jb {k:ByteArray} (h:M.jr k=true):¬ (k=M.gU∨k=M.bf):=by
 unfold M.jr at h
 rw [decide_eq_true_eq] at h;exact not_or.2 h
theorem MI {k:ByteArray} (h:M.jr k=false):k=M.gU∨k=M.bf:=by
 unfold M.jr at h
 rw [decide_eq_false_iff_not] at h
 by_cases h1:k=M.gU
 · exact .inl h1
 · by_cases h2:k=M.bf
   · exact .inr h2
   · exact absurd ⟨h1,h2⟩ h
theorem Vf {x:M.aV} {b:Bool} (h:x.kind=M.gU∨x.kind=M.bf) (hb:b=decide (x.aT≠0∨x.first≠0∨x.dK∨x.aF≠[])):wh b 1=M.oZ x:=by
 subst hb
 unfold M.oZ wh
 simp only [h,true_and,decide_eq_true_eq]
theorem sZ (S:Nat→Prop) (x:M.aV) (A:Option Addr) (c:Nat) (w:World) (hp:fA w S A c x.aF):
 Calls Tryz.prog 31 #[iG x A c] w fun e w'=>e= .returned (.int .i64 (M.cZ x))∧Below w.heap.size w w':=by
 obtain ⟨b1,b2,b3⟩:=hp.bd;obtain ⟨pl,kd,ba,po,fi,cu,aF⟩:=x
 simp only at hp b1 b3
 have K0:Keeps w (w.alloc (.cells #[.int .i64 pl,.string kd,.int .i64 ba,.int .i64 po,.int .i64 fi,.bool cu,.slice A aF.length c] 27)) 1 (w.alloc (.cells #[.int .i64 pl,.string kd,.int .i64 ba,.int .i64 po,.int .i64 fi,.bool cu,.slice A aF.length c] 27)):=Keeps.IZ w _
 by_cases hk:M.isKind kd=true
 · have hl0:=iT hk (w:=((w.alloc (.cells #[.int .i64 pl,.string kd,.int .i64 ba,.int .i64 po,.int .i64 fi,.bool cu,.slice A aF.length c] 27)).alloc (.map (kE 6) 6)).drew) (wC w _ _) true
   have hl1:=iT hk (w:=(((w.alloc (.cells #[.int .i64 pl,.string kd,.int .i64 ba,.int .i64 po,.int .i64 fi,.bool cu,.slice A aF.length c] 27)).alloc (.map (kE 6) 6)).alloc (.cells #[.bool false,.bool false,.nilFunc] 157)).drew) (zD w _ _ _) true;have hl2:=iT hk (w:=(((w.alloc (.cells #[.int .i64 pl,.string kd,.int .i64 ba,.int .i64 po,.int .i64 fi,.bool cu,.slice A aF.length c] 27)).alloc (.cells #[.bool false,.bool false,.nilFunc] 157)).alloc (.map (kE 6) 6)).drew) (BO w _ _ _) true
   go_enter Tryz.func31,Tryz.ntmps31
   go_upto_region 1 with (fail)
   go_cut [3,4] (fun v3 v4 wx=>∃ D,v3= .pointer (some ⟨D,0,none⟩)∧v4= .bool true∧w.heap.size+1≤D∧D<wx.heap.size∧wx.cell? ⟨D,0,none⟩=some (.bool (M.jr kd))∧Keeps w (w.alloc (.cells #[.int .i64 pl,.string kd,.int .i64 ba,.int .i64 po,.int .i64 fi,.bool cu,.slice A aF.length c] 27)) 1 wx)
   case first=>
    go_region_held3 (fun w'=>∀ p q,p<w.heap.size+1→w'.cell? ⟨p,q,none⟩=(w.alloc (.cells #[.int .i64 pl,.string kd,.int .i64 ba,.int .i64 po,.int .i64 fi,.bool cu,.slice A aF.length c] 27)).cell? ⟨p,q,none⟩) (first | exact K0.cell | exact (K0.alloc _).cell | exact ((K0.alloc _).alloc _).cell) (first | (go_at_call 63;refine (sF _).mono ?_;rintro e w1 ⟨rfl,rfl⟩))
    all_goals go_wp2
    all_goals go_meet
    all_goals exact ⟨_,rfl,rfl,by omega,by simp,by first | exact fC _ [_,_,_] _ _ (by simp) 0 _ rfl | exact Ia _ [_,_,_] _ _ _ (by simp) 0 _ rfl,((K0.alloc _).alloc _).drew⟩
   case rest=>
    obtain ⟨D,rfl,rfl,hD,hD1,hDc,K1⟩:=hcut;clear hl0 hl1 hl2
    go_upto_region 2 with (fail)
    go_cut [5] (fun v5 wy=>v5= .int .i64 (M.fO ⟨pl,kd,ba,po,fi,cu,aF⟩)∧Below wc.heap.size wc wy)
    case first=>
     go_region_held3 (fun w'=>∀ p q,p<w.heap.size+1→w'.cell? ⟨p,q,none⟩=(w.alloc (.cells #[.int .i64 pl,.string kd,.int .i64 ba,.int .i64 po,.int .i64 fi,.bool cu,.slice A aF.length c] 27)).cell? ⟨p,q,none⟩) (first | exact K1.cell | exact (K1.alloc _).cell) (first | (go_at_call 64;refine (jR _ _ _ _).mono ?_;rintro e nH ⟨rfl,rfl⟩) | (go_at_call 30;refine (jM _ _ _).mono ?_;rintro e nH ⟨rfl,rfl⟩) | (go_at_call 28;refine (first_any (fun _=>True) _ _ [wi pl 0 1,wh false 13,wi ba 0 15,wi po 0 6,wi fi 0 15,wh _ 2,wh _ 5] _ (bT.drewN (bT.lit _ _ [wi pl 0 1,wh false 13,wi ba 0 15,wi po 0 6,wi fi 0 15,wh _ 2,wh _ 5] (by simp) _ trivial) 1)).mono ?_;rintro e nH ⟨rfl,rfl⟩))
     all_goals go_wp2
     all_goals go_meet
     all_goals exact ⟨congrArg _ (uD pl ba po fi kd cu aF _ _ _ (by rw [hk];rfl) (by by_cases h5:ba=0 <;> by_cases h6:po=0 <;> simp [tK,h5,h6]) (decide_eq_decide.2 (by omega))),((Below.refl _ _).alloc (Nat.le_refl _) _).drew⟩
    case rest=>
     obtain ⟨rfl,hb2⟩:=hcut;have K2:=K1.call hb2;have hc2:=K2.cell;have hD2:=(hb2.cell (p:=⟨D,0,none⟩) hD1).trans hDc;have hD3:D<wc.heap.size:=Nat.lt_of_lt_of_le hD1 hb2.size;have Ap:=hide (wV ⟨pl,kd,ba,po,fi,cu,aF⟩)
     by_cases hz:M.fO ⟨pl,kd,ba,po,fi,cu,aF⟩=0
     · have hz':(M.fO ⟨pl,kd,ba,po,fi,cu,aF⟩ != 0)=false:=by simp [hz]
       have HZ:=hide hz;clear hz;clear hDc hD1 hb2 K1;go_wp2
       go_loopw [53] (fun i wr=>∃ k:Nat,k≤aF.length∧i= .int .i64 k∧M.fE [] aF=M.fE (aF.take k) (aF.drop k)∧Keeps w (w.alloc (.cells #[.int .i64 pl,.string kd,.int .i64 ba,.int .i64 po,.int .i64 fi,.bool cu,.slice A aF.length c] 27)) 1 wr∧D<wr.heap.size∧wr.cell? ⟨D,0,none⟩=some (.bool (M.jr kd))) (fun i _=>aF.length - (intOf i).toNat)
       case atStart=>exact ⟨0,Nat.zero_le _,rfl,by simp,K2,hD3,hD2⟩
       case round=>
        clear hc2 hD2 hD3 K2;obtain ⟨k,hkl,rfl,hx1,KR,hDr,hDc⟩:=hrel;have hcR:=KR.cell
        have EU:w.heap.size<wr.heap.size:=by have:=KR.sz;omega
        by_cases hlt:k<aF.length
        · obtain ⟨b,o,rfl,_,hbl,hc⟩:=hp.at_ k hlt
          obtain ⟨hck1,zC⟩:=hc k hlt
          have Uj:b<w.heap.size+1:=by omega
          have hlen:(aF.take k).length=k:=by rw [List.length_take];omega
          have hcf:=BH S _ c (aF.take k) _ _ _ (wr.alloc (.cells #[.int .i64 aF[k].aT,.int .i64 aF[k].aX] 71)) ((fA.take (hp.below KR.bw) k (by omega)).alloc _) (Hf wr.heap.size aF[k].aT _ (by simp) (fC _ [_,_] _ _ rfl 0 _ rfl));have hst:=hx1.trans (Dj hlt);rw [hlen] at hcf;obtain ⟨tw,htw⟩:∃ t,((aF.take k).any fun o=>decide (o.aT=aF[k].aT))=t:=⟨_,rfl⟩;rw [htw] at hcf hst;clear hc hx1 hlen htw
          by_cases he:bK [wi aF[k].aT 0 15,wi aF[k].aX 1 6,wh tw 9]=0
          · have he':(bK [wi aF[k].aT 0 15,wi aF[k].aX 1 6,wh tw 9] != 0)=false:=by simp [he]
            rw [if_neg (by simp [he])] at hst;have HX:=hide hst;clear hst he
            go_wp2_with (go_at_call 65;refine hcf.mono ?_;rintro e w2 ⟨rfl,hb2⟩;have KP:Keeps wr (wr.alloc (.cells #[.int .i64 aF[k].aT,.int .i64 aF[k].aX] 71)) 1 w2:=(Keeps.IZ wr _).call hb2;have hcP:=KP.cell)
            go_wp2
            go_region_held3 (fun w'=>∀ p q,p<wr.heap.size+1→w'.cell? ⟨p,q,none⟩=(wr.alloc (.cells #[.int .i64 aF[k].aT,.int .i64 aF[k].aX] 71)).cell? ⟨p,q,none⟩) (first | exact KP.cell | exact (KP.alloc _).cell) (first | (go_at_call 64;refine (jR _ _ _ _).mono ?_;rintro e nH ⟨rfl,rfl⟩) | (go_at_call 30;refine (jM _ _ _).mono ?_;rintro e nH ⟨rfl,rfl⟩) | (go_at_call 28;refine (first_any (fun _=>True) _ _ [wi aF[k].aT 0 15,wi aF[k].aX 1 6,wh tw 9] _ (bT.drewN (bT.lit _ _ [wi aF[k].aT 0 15,wi aF[k].aX 1 6,wh tw 9] (by simp) _ trivial) 1)).mono ?_;rintro e nH ⟨rfl,rfl⟩))
            clear hcP;go_wp2
            go_roundw
            case rel=>exact ⟨k+1,by omega,by go_num,HX.out,KR.call (KP.alloc _).drew.bw,Nat.lt_of_lt_of_le hDr (KP.alloc _).drew.bw.size,((KP.alloc _).drew.bw.cell (p:=⟨D,0,none⟩) hDr).trans hDc⟩
            case measure=>simp [intOf];omega
          · have he':(bK [wi aF[k].aT 0 15,wi aF[k].aX 1 6,wh tw 9] != 0)=true:=by simp [he]
            rw [if_pos he] at hst;have HX:=hide hst;have HE:=hide he;clear hst he
            go_wp2_with (go_at_call 65;refine hcf.mono ?_;rintro e w2 ⟨rfl,hb2⟩;have KP:Keeps wr (wr.alloc (.cells #[.int .i64 aF[k].aT,.int .i64 aF[k].aX] 71)) 1 w2:=(Keeps.IZ wr _).call hb2;have hcP:=KP.cell)
            go_wp2
            go_region_held3 (fun w'=>∀ p q,p<wr.heap.size+1→w'.cell? ⟨p,q,none⟩=(wr.alloc (.cells #[.int .i64 aF[k].aT,.int .i64 aF[k].aX] 71)).cell? ⟨p,q,none⟩) (first | exact KP.cell | exact (KP.alloc _).cell) (first | (go_at_call 64;refine (jR _ _ _ _).mono ?_;rintro e nH ⟨rfl,rfl⟩) | (go_at_call 30;refine (jM _ _ _).mono ?_;rintro e nH ⟨rfl,rfl⟩) | (go_at_call 28;refine (first_any (fun _=>True) _ _ [wi aF[k].aT 0 15,wi aF[k].aX 1 6,wh tw 9] _ (bT.drewN (bT.lit _ _ [wi aF[k].aT 0 15,wi aF[k].aX 1 6,wh tw 9] (by simp) _ trivial) 1)).mono ?_;rintro e nH ⟨rfl,rfl⟩))
            clear hcP;go_wp2;go_ret;exact ⟨dN (by rw [Ap.out,if_neg (by simp [HZ.out]),if_pos (by rw [HX.out];exact HE.out)];exact HX.out.symm),(KR.call (KP.alloc _).drew.bw).bw⟩
        · have hz0:M.fE [] aF=0:=by rw [hx1,List.drop_of_length_le (by omega),M.fE]
          have HF:=hide (show M.cZ ⟨pl,kd,ba,po,fi,cu,aF⟩=M.oZ ⟨pl,kd,ba,po,fi,cu,aF⟩ by rw [Ap.out,if_neg (by simp [HZ.out]),if_neg (by simp [hz0])]);clear hx1 hz0
          cases hpl:M.jr kd with
          | true=>
            rw [hpl] at hDc;have HP:=hide (Jb hpl);clear hpl
            go_wp2_with (go_at_call 30;refine (jM _ _ _).mono ?_;rintro e nH ⟨rfl,rfl⟩)
            all_goals
             go_ret;exact ⟨dN (by rw [HF.out];unfold M.oZ;rw [if_neg (fun h=>HP.out h.1)];rfl),KR.bw⟩
          | false=>
            rw [hpl] at hDc;have HP:=hide (MI hpl);clear hpl
            go_wp2_with (go_at_call 30;refine (jM _ _ _).mono ?_;rintro e nH ⟨rfl,rfl⟩)
            all_goals
             go_ret;exact ⟨dN (by rw [HF.out];exact Vf HP.out (by first | (simp [*,List.length_pos_iff];done) | (simp_all [List.length_pos_iff];done))),KR.bw⟩
     · have hz':(M.fO ⟨pl,kd,ba,po,fi,cu,aF⟩ != 0)=true:=by simp [hz]
       have HZ:=hide hz;clear hz;go_wp2;go_ret;exact ⟨dN (by rw [Ap.out,if_pos HZ.out]),K2.bw⟩
 · have hk:M.isKind kd=false:=by simpa using hk
   have hl0:=oC hk (w:=((w.alloc (.cells #[.int .i64 pl,.string kd,.int .i64 ba,.int .i64 po,.int .i64 fi,.bool cu,.slice A aF.length c] 27)).alloc (.map (kE 6) 6)).drew) (wC w _ _) true;have hl1:=oC hk (w:=(((w.alloc (.cells #[.int .i64 pl,.string kd,.int .i64 ba,.int .i64 po,.int .i64 fi,.bool cu,.slice A aF.length c] 27)).alloc (.map (kE 6) 6)).alloc (.cells #[.bool false,.bool false,.nilFunc] 157)).drew) (zD w _ _ _) true;have hl2:=oC hk (w:=(((w.alloc (.cells #[.int .i64 pl,.string kd,.int .i64 ba,.int .i64 po,.int .i64 fi,.bool cu,.slice A aF.length c] 27)).alloc (.cells #[.bool false,.bool false,.nilFunc] 157)).alloc (.map (kE 6) 6)).drew) (BO w _ _ _) true
   go_enter Tryz.func31,Tryz.ntmps31
   go_upto_region 1 with (fail)
   go_cut [3,4] (fun v3 v4 wx=>∃ D,v3= .pointer (some ⟨D,0,none⟩)∧v4= .bool false∧w.heap.size+1≤D∧D<wx.heap.size∧True∧Keeps w (w.alloc (.cells #[.int .i64 pl,.string kd,.int .i64 ba,.int .i64 po,.int .i64 fi,.bool cu,.slice A aF.length c] 27)) 1 wx)
   case first=>
    go_region_held3 (fun w'=>∀ p q,p<w.heap.size+1→w'.cell? ⟨p,q,none⟩=(w.alloc (.cells #[.int .i64 pl,.string kd,.int .i64 ba,.int .i64 po,.int .i64 fi,.bool cu,.slice A aF.length c] 27)).cell? ⟨p,q,none⟩) (first | exact K0.cell | exact (K0.alloc _).cell | exact ((K0.alloc _).alloc _).cell) (first | (go_at_call 63;refine (sF _).mono ?_;rintro e w1 ⟨rfl,rfl⟩))
    all_goals go_wp2
    all_goals go_meet
    all_goals exact ⟨_,rfl,rfl,by omega,by simp,trivial,((K0.alloc _).alloc _).drew⟩
   case rest=>
    obtain ⟨D,rfl,rfl,hD,hD1,_,K1⟩:=hcut;clear hl0 hl1 hl2
    go_upto_region 2 with (fail)
    go_cut [5] (fun v5 wy=>v5= .int .i64 (M.fO ⟨pl,kd,ba,po,fi,cu,aF⟩)∧Below wc.heap.size wc wy)
    case first=>
     go_region_held3 (fun w'=>∀ p q,p<w.heap.size+1→w'.cell? ⟨p,q,none⟩=(w.alloc (.cells #[.int .i64 pl,.string kd,.int .i64 ba,.int .i64 po,.int .i64 fi,.bool cu,.slice A aF.length c] 27)).cell? ⟨p,q,none⟩) (first | exact K1.cell | exact (K1.alloc _).cell) (first | (go_at_call 64;refine (jR _ _ _ _).mono ?_;rintro e nH ⟨rfl,rfl⟩) | (go_at_call 30;refine (jM _ _ _).mono ?_;rintro e nH ⟨rfl,rfl⟩) | (go_at_call 28;refine (first_any (fun _=>True) _ _ [wi pl 0 1,wh true 13,wi ba 0 15,wi po 0 6,wi fi 0 15,wh _ 2,wh _ 5] _ (bT.drewN (bT.lit _ _ [wi pl 0 1,wh true 13,wi ba 0 15,wi po 0 6,wi fi 0 15,wh _ 2,wh _ 5] (by simp) _ trivial) 1)).mono ?_;rintro e nH ⟨rfl,rfl⟩))
     all_goals go_wp2
     all_goals go_meet
     all_goals exact ⟨congrArg _ (uD pl ba po fi kd cu aF _ _ _ (by rw [hk];rfl) (by by_cases h5:ba=0 <;> by_cases h6:po=0 <;> simp [tK,h5,h6]) (decide_eq_decide.2 (by omega))),((Below.refl _ _).alloc (Nat.le_refl _) _).drew⟩
    case rest=>
     obtain ⟨rfl,hb2⟩:=hcut;have K2:=K1.call hb2;have HZ:=hide (yR ⟨pl,kd,ba,po,fi,cu,aF⟩ hk)
     have hz':(M.fO ⟨pl,kd,ba,po,fi,cu,aF⟩ != 0)=true:=by simp [HZ.out]
     have Ap:=hide (wV ⟨pl,kd,ba,po,fi,cu,aF⟩);go_wp2;go_ret;exact ⟨dN (by rw [Ap.out,if_pos HZ.out]),K2.bw⟩
theorem sD (S:Nat→Prop) (l:List Sh) (A:Option Addr) (c:Nat) (w:World) (hp:jF w S A c l):
 Calls Tryz.prog 29 #[.slice A l.length c] w fun e w'=>e= .returned (.int .i64 (M.dB (plain l)))∧Below w.heap.size w w':=by
 obtain ⟨b1,b2,b3⟩:=hp.bd
 by_cases hm:1000<l.length
 · have hck:M.dB (plain l)=5:=by unfold M.dB;rw [if_pos (by rw [aU];exact hm)]
   rw [hck]
   go_enter Tryz.func29,Tryz.ntmps29
   go_wp2;go_ret;exact ⟨rfl,Below.refl _ _⟩
 · have hck:M.dB (plain l)=M.gy (plain l):=by unfold M.dB;rw [if_neg (by rw [aU];exact hm)]
   rw [hck];clear hck
   go_enter Tryz.func29,Tryz.ntmps29
   go_wp2
   go_loopw [11] (fun i wr=>∃ k:Nat,k≤l.length∧i= .int .i64 k∧M.gy (plain l)=M.gy ((plain l).drop k)∧Below w.heap.size w wr) (fun i _=>l.length - (intOf i).toNat)
   case atStart=>exact ⟨0,Nat.zero_le _,rfl,by simp,Below.refl _ _⟩
   case round=>
    obtain ⟨k,hk,rfl,hx1,hb⟩:=hrel
    by_cases hlt:k<l.length
    · obtain ⟨b,o,rfl,_,hbl,hc⟩:=hp.at_ k hlt
      obtain ⟨e0,e1,e2,e3,e4,e5,e6⟩:=hc k hlt;clear hc;obtain ⟨hcb,hfb⟩:=Vl hb;have hst:=nU hlt;have HP:=hide ((hp.aF k hlt).below hb);have HX:=hide (hx1.trans hst);clear hx1 hst;have hcall:=fun W:World=>sZ S l[k].x l[k].a l[k].c W;have HC:=hide hcall;clear hcall
      by_cases hz:M.cZ l[k].x=0
      · have hz':(M.cZ l[k].x != 0)=false:=by simp [hz]
        rw [if_neg (by simp [hz])] at HX;have HZ:=hide hz;clear hz
        go_wp2_with (go_at_call 31;refine (HC.out _ (HP.out.alloc _)).mono ?_;rintro e w1 ⟨rfl,hb1⟩)
        go_roundw
        case rel=>exact ⟨k+1,by omega,by go_num,HX.out,(hb.alloc hb.size _).trans (hb1.mono (hb.alloc hb.size _).size)⟩
        case measure=>simp [intOf];omega
      · have hz':(M.cZ l[k].x != 0)=true:=by simp [hz]
        rw [if_pos hz] at HX
        go_wp2_with (go_at_call 31;refine (HC.out _ (HP.out.alloc _)).mono ?_;rintro e w1 ⟨rfl,hb1⟩)
        go_ret;exact ⟨dN HX.out.symm,(hb.alloc hb.size _).trans (hb1.mono (hb.alloc hb.size _).size)⟩
    · have hkk:k=l.length:=by omega
      have hz:M.gy (plain l)=0:=by rw [hx1,hkk, ← aU l,List.drop_length,M.gy]
      clear hx1 hkk;go_wp2;go_ret;exact ⟨dN hz.symm,hb⟩
theorem check_any (S:Nat→Prop) (r:M.Rules) (l:List Sh) (A:Option Addr) (c:Nat) (w:World) (hp:jF w S A c l):
 Calls Tryz.prog 34 #[iY r,.slice A l.length c] w fun e w'=>e= .returned (.int .i64 (bK [M.bP r,M.dB (plain l)]))∧Below w.heap.size w w':=by
 obtain ⟨b1,b2,b3⟩:=hp.bd;obtain ⟨g,tg,fo⟩:=r;have K0:=Keeps.IZ w (.cells #[.string g,.int .i64 tg,.int .i64 fo] 23)
 go_enter Tryz.func34,Tryz.ntmps34
 go_wp2_with (first | (go_at_call 67;refine (EI ⟨g,tg,fo⟩ _).mono ?_;rintro e w1 ⟨rfl,hb1⟩;have K1:=K0.call hb1) | (go_at_call 29;refine (sD S l A c _ (hp.below K1.bw)).mono ?_;rintro e w2 ⟨rfl,hb2⟩;have K2:=K1.call hb2) | (go_at_call 28;refine (first_any (fun _=>True) _ _ [M.bP ⟨g,tg,fo⟩,M.dB (plain l)] _ (bT.lit _ _ [M.bP ⟨g,tg,fo⟩,M.dB (plain l)] (by simp) _ trivial)).mono ?_;rintro e nH ⟨rfl,rfl⟩))
 go_ret;exact ⟨rfl,(K2.alloc _).bw⟩
theorem GL (r:M.Rules) (w:World):Calls Tryz.prog 68 #[iY r] w fun e w'=>
 ∃ A c,e= .returned (.slice A (M.iV r).length c)∧bT w' (fun b=>w.heap.size≤b) A c (M.iV r)∧Below w.heap.size w w':=by
 obtain ⟨i0,hi,hz0,hz1,hz2⟩:=info_parts pO;obtain ⟨g,tg,fo⟩:=r
 by_cases hg:g=M.dJ
 · subst hg
   go_enter Tryz.func68,Tryz.ntmps68
   go_wp2
   go_loopw [4,10] (fun v i wr=>∃ k:Nat,k≤9∧i= .int .i64 k∧(∃ A c,v= .slice A k c)∧wr.ownsRow (w.heap.size+1) 3 1 v k ((M.jG k).map (Value.int .i64))∧Below (w.heap.size+1) (w.alloc (.cells #[.string M.dJ,.int .i64 tg,.int .i64 fo] 23)) wr)
    (fun _ i _=>9 - (intOf i).toNat)
   case atStart=>exact ⟨0,by omega,rfl,⟨_,_,rfl⟩,World.ownsRow_nil _ _ _ _,Below.refl _ _⟩
   case round=>
    obtain ⟨k,hk,rfl,⟨A,c,rfl⟩,hown,hb⟩:=hrel;have WB:=hb.size;rw [World.size_alloc] at WB
    by_cases hlt:k<9
    · go_wp2_with (at_builtin;refine wpList_append_lies _ rfl _ _ _ rfl (w.heap.size+1) 3 i0 (.int .i64 0) 1 8 Tryz.underlying50 hi hz0 hz1 hz2 rfl (by omega) _ _ _ rfl (hown.alloc _) ⟨wr.heap.size,0,none⟩ 1 1 [.int .i64 ((k:Int)+1)] rfl rfl (dV _ _ _ _ (by simp)) ?c1 (by omega) ?c2 ?c3 ?c4 (wr.heap.size+1) (by simp) ?_)
      case c1=>simp [Value.oneCell']
      case c2=>simp only [maxLen];omega
      case c3=>omega
      case c4=>first | omega | (simp;omega)
      intro g1 cap w1 hown1 hgrow _ _;have hbd:=dZ (B:=w.heap.size+1) (hown.alloc _) hgrow (by omega) (by simp;omega);have hb1:=(hb.alloc (by omega) _).trans hbd
      have hown2:w1.ownsRow (w.heap.size+1) 3 1 (.slice (some ⟨g1,0,none⟩) (k+1) cap) (k+1) ((M.jG (k+1)).map (Value.int .i64)):=by rw [xJ];simpa using hown1
      clear hown hgrow hown1 hbd hb;go_wp2
      go_roundw
      case rel=>exact ⟨k+1,by omega,by go_num,⟨_,_,rfl⟩,hown2,hb1⟩
      case measure=>simp [intOf];omega
    · obtain rfl:k=9:=by omega
      go_wp2;go_ret
      have hr:M.iV ⟨M.dJ,tg,fo⟩=M.jG 9:=by simp [M.iV,M.zY]
      rw [hr,nD];refine ⟨A,c,rfl,?_,((Below.refl _ _).alloc (Nat.le_refl _) _).trans (hb.mono (by omega))⟩
      unfold bT
      rw [nD];exact Reads.jh hown (fun b h=>by omega) (by omega)
 · have hg':(g.toList == [110,105,110,101])=false:=beq_eq_false_iff_ne.2 (dI hg)
   go_enter Tryz.func68,Tryz.ntmps68
   go_wp2
   go_loopw [4,10] (fun v i wr=>∃ k:Nat,k≤15∧i= .int .i64 k∧(∃ A c,v= .slice A k c)∧wr.ownsRow (w.heap.size+1) 3 1 v k ((M.jG k).map (Value.int .i64))∧Below (w.heap.size+1) (w.alloc (.cells #[.string g,.int .i64 tg,.int .i64 fo] 23)) wr)
    (fun _ i _=>15 - (intOf i).toNat)
   case atStart=>exact ⟨0,by omega,rfl,⟨_,_,rfl⟩,World.ownsRow_nil _ _ _ _,Below.refl _ _⟩
   case round=>
    obtain ⟨k,hk,rfl,⟨A,c,rfl⟩,hown,hb⟩:=hrel;have WB:=hb.size;rw [World.size_alloc] at WB
    by_cases hlt:k<15
    · go_wp2_with (at_builtin;refine wpList_append_lies _ rfl _ _ _ rfl (w.heap.size+1) 3 i0 (.int .i64 0) 1 8 Tryz.underlying50 hi hz0 hz1 hz2 rfl (by omega) _ _ _ rfl (hown.alloc _) ⟨wr.heap.size,0,none⟩ 1 1 [.int .i64 ((k:Int)+1)] rfl rfl (dV _ _ _ _ (by simp)) ?c1 (by omega) ?c2 ?c3 ?c4 (wr.heap.size+1) (by simp) ?_)
      case c1=>simp [Value.oneCell']
      case c2=>simp only [maxLen];omega
      case c3=>omega
      case c4=>first | omega | (simp;omega)
      intro g1 cap w1 hown1 hgrow _ _;have hbd:=dZ (B:=w.heap.size+1) (hown.alloc _) hgrow (by omega) (by simp;omega);have hb1:=(hb.alloc (by omega) _).trans hbd
      have hown2:w1.ownsRow (w.heap.size+1) 3 1 (.slice (some ⟨g1,0,none⟩) (k+1) cap) (k+1) ((M.jG (k+1)).map (Value.int .i64)):=by rw [xJ];simpa using hown1
      clear hown hgrow hown1 hbd hb;go_wp2
      go_roundw
      case rel=>exact ⟨k+1,by omega,by go_num,⟨_,_,rfl⟩,hown2,hb1⟩
      case measure=>simp [intOf];omega
    · obtain rfl:k=15:=by omega
      go_wp2;go_ret
      have hr:M.iV ⟨g,tg,fo⟩=M.jG 15:=by simp [M.iV,M.zY,hg]
      rw [hr,nD];refine ⟨A,c,rfl,?_,((Below.refl _ _).alloc (Nat.le_refl _) _).trans (hb.mono (by omega))⟩
      unfold bT
      rw [nD];exact Reads.jh hown (fun b h=>by omega) (by omega)
theorem jd (S:Nat→Prop) (A:Option Addr) (c:Nat) (zs:List Int) (w:World) (h:bT w S A c zs):
 Calls Tryz.prog 101 #[.slice A zs.length c] w fun e w'=>∃ A' c',e= .returned (.slice A' zs.length c')∧bT w' (fun b=>w.heap.size≤b) A' c' zs∧Below w.heap.size w w':=by
 obtain ⟨i0,hi,hz0,hz1,hz2⟩:=info_parts pO;obtain ⟨b1,b2,b3⟩:=h.bd
 rcases Nat.eq_zero_or_pos zs.length with h0 | h0
 · obtain rfl:=List.eq_nil_of_length_eq_zero h0
   cases A with
   | none=>
     go_enter Tryz.func101,Tryz.ntmps101
     go_wp2;go_ret;exact ⟨none,0,rfl,Reads.none_ _ _ _,Below.refl _ _⟩
   | some a=>
     have hf:=run_firstCells_some (P:=Tryz.prog) w 1 0 a 0 c [] (by simp) (by intro j v h;simp at h)
     go_enter Tryz.func101,Tryz.ntmps101
     go_wp2;go_ret;exact ⟨none,0,rfl,Reads.none_ _ _ _,Below.refl _ _⟩
 · obtain ⟨b,o,rfl,_,hbl,hc⟩:=h.at_ 0 h0
   have hnews:∀ j u,(zs.map (Value.int .i64))[j]? =some u→w.cell? ((⟨b,o,none⟩:Addr).add j)=some u:=by
    intro j u hu;rw [List.getElem?_map] at hu
    rcases hj:zs[j]? with _ | z
    · rw [hj] at hu;cases hu
    · rw [hj] at hu
      obtain ⟨hj1,hj2⟩:=List.getElem?_eq_some_iff.1 hj;rw [jP,hc j hj1, ← hu,hj2];rfl
   have HC:=hide hc;clear hc
   go_enter Tryz.func101,Tryz.ntmps101
   go_wp2_with (at_builtin;go_loud (refine wpList_append_lies _ rfl _ _ _ rfl w.heap.size 3 i0 (.int .i64 0) 1 8 Tryz.underlying50 hi hz0 hz1 hz2 rfl (by omega) (.slice none 0 0) 0 [] rfl (World.ownsRow_nil _ _ _ _) ⟨b,o,none⟩ zs.length c (zs.map (Value.int .i64)) rfl (by simp) hnews ?c1 h0 ?c2 ?c3 (Nat.le_refl _) w.heap.size rfl ?_))
   case c1=>intro u hu;simp at hu;obtain ⟨z,_,rfl⟩:=hu;rfl
   case c2=>simp only [maxLen];omega
   case c3=>omega
   intro g1 cap w1 hown1 hgrow _ _;have hb1:Below w.heap.size w w1:=dZ (World.ownsRow_nil _ w.heap.size 3 1) hgrow (Nat.le_refl _) (Nat.le_refl _);have HO:=hide hown1;clear hown1 hgrow;go_wp2;go_ret;have hown2:=HO.out;exact ⟨_,_,by simp,Reads.jh hown2 (fun b h=>h) (by omega),hb1⟩
theorem jq (S:Nat→Prop) (x:M.aV) (A:Option Addr) (c:Nat) (w:World) (hp:fA w S A c x.aF) (hpos:∀ p∈x.aF,0≤p.aT):
 Calls Tryz.prog 81 #[iG x A c] w fun e w'=>∃ A' c',e= .returned (.slice A' (M.objects x).length c')∧bT w' (fun b=>w.heap.size≤b) A' c' (M.objects x)∧Below w.heap.size w w':=by
 obtain ⟨i0,hi,hz0,hz1,hz2⟩:=info_parts pO;obtain ⟨b1,b2,b3⟩:=hp.bd;obtain ⟨pl,kd,ba,po,fi,cu,aF⟩:=x
 simp only at hp hpos b1 b3
 have K0:Keeps w (w.alloc (.cells #[.int .i64 pl,.string kd,.int .i64 ba,.int .i64 po,.int .i64 fi,.bool cu,.slice A aF.length c] 27)) 1 (w.alloc (.cells #[.int .i64 pl,.string kd,.int .i64 ba,.int .i64 po,.int .i64 fi,.bool cu,.slice A aF.length c] 27)):=Keeps.IZ w _
 go_enter Tryz.func81,Tryz.ntmps81
 go_wp2
 go_loopw [3,9] (fun v i wr=>∃ k:Nat,k≤aF.length∧i= .int .i64 k∧(∃ A c,v= .slice A (mQ (aF.take k)).length c)∧wr.ownsRow (w.heap.size+1) 3 1 v (mQ (aF.take k)).length ((mQ (aF.take k)).map (Value.int .i64))∧Keeps w (w.alloc (.cells #[.int .i64 pl,.string kd,.int .i64 ba,.int .i64 po,.int .i64 fi,.bool cu,.slice A aF.length c] 27)) 1 wr)
  (fun _ i _=>aF.length - (intOf i).toNat)
 case atStart=>exact ⟨0,by omega,rfl,⟨_,_,rfl⟩,World.ownsRow_nil _ _ _ _,K0⟩
 case round=>
  obtain ⟨k,hk,rfl,⟨A1,c1,rfl⟩,hown,KR⟩:=hrel;have hcR:=KR.cell;have EU:=KR.sz
  by_cases hlt:k<aF.length
  · obtain ⟨b,o,rfl,_,hbl,hc⟩:=hp.at_ k hlt
    obtain ⟨hck1,zC⟩:=hc k hlt
    have Uj:b<w.heap.size+1:=by omega
    have hge:=hpos _ (List.getElem_mem hlt);clear hc
    by_cases hz:aF[k].aT=0
    · have hz':decide (0<aF[k].aT)=false:=by simp [hz]
      have hs:mQ (aF.take (k+1))=mQ (aF.take k):=by rw [zS hlt,if_pos hz];simp
      have HS:=hide hs;clear hs hz hge;go_wp2
      go_roundw
      case rel=>exact ⟨k+1,by omega,by go_num,by rw [HS.out];exact ⟨⟨_,_,rfl⟩,hown.alloc _,KR.alloc _⟩⟩
      case measure=>simp [intOf];omega
    · have hz':0<aF[k].aT:=by omega
      have hs:mQ (aF.take (k+1))=mQ (aF.take k)++[aF[k].aT]:=by rw [zS hlt,if_neg hz]
      have hle:=zQ (aF.take k);rw [List.length_take] at hle;have HS:=hide hs;clear hs hz hge
      go_wp2_with (at_builtin;refine wpList_append_lies _ rfl _ _ _ rfl (w.heap.size+1) 3 i0 (.int .i64 0) 1 8 Tryz.underlying50 hi hz0 hz1 hz2 rfl (by omega) _ _ _ rfl ((hown.alloc _).alloc _) ⟨(wr.heap.size+1),0,none⟩ 1 1 [.int .i64 aF[k].aT] rfl rfl (dV _ _ _ _ (by simp)) ?c1 (by omega) ?c2 ?c3 ?c4 (wr.heap.size+1+1) (by simp) ?_)
      case c1=>simp [Value.oneCell']
      case c2=>simp only [maxLen];omega
      case c3=>omega
      case c4=>simp;omega
      intro g1 cap w1 hown1 hgrow _ _;have hbd:=dZ (B:=w.heap.size+1) ((hown.alloc _).alloc _) hgrow (by omega) (by simp;omega);have K1:=((KR.alloc _).alloc _).upto hbd (by omega)
      have hown2:w1.ownsRow (w.heap.size+1) 3 1 (.slice (some ⟨g1,0,none⟩) (mQ (aF.take (k+1))).length cap) (mQ (aF.take (k+1))).length ((mQ (aF.take (k+1))).map (Value.int .i64)):=by rw [HS.out];simpa using hown1
      have hv:(mQ (aF.take k)).length+1=(mQ (aF.take (k+1))).length:=by rw [HS.out];simp
      rw [hv];clear hown hgrow hown1 hbd hle hv HS hck1 zC hcR;go_wp2
      go_roundw
      case rel=>exact ⟨k+1,by omega,by go_num,⟨_,_,rfl⟩,hown2,K1⟩
      case measure=>simp [intOf];omega
  · obtain rfl:k=aF.length:=by omega
    go_wp2;go_ret;have hr:M.objects ⟨pl,kd,ba,po,fi,cu,aF⟩=mQ aF:=rfl;have hle:=zQ aF;rw [List.take_length] at hown ⊢;rw [hr];exact ⟨A1,c1,rfl,Reads.jh hown (fun b h=>by omega) (by omega),KR.bw⟩
theorem Nq (w:World):sN 139 #[] FY (fun o=>decide (o.aT=0)) w:=by
 refine ⟨enters_of Tryz.func139 (by kernel_rfl) rfl,fun W x hb=>?_⟩;obtain ⟨xb,xp⟩:=x
 go_enter Tryz.func139,Tryz.ntmps139
 go_wp2;go_ret;exact ⟨cO (by by_cases h:xb=0 <;> simp [h]),hb.alloc hb.size _⟩
theorem BD (S:Nat→Prop) (x:M.aV) (A:Option Addr) (c:Nat) (w:World) (hp:fA w S A c x.aF):
 Calls Tryz.prog 75 #[iG x A c] w fun e w'=>e= .returned (.bool (M.jU x))∧Below w.heap.size w w':=by
 obtain ⟨b1,b2,b3⟩:=hp.bd;obtain ⟨pl,kd,ba,po,fi,cu,aF⟩:=x
 simp only at hp b1 b3
 have K0:Keeps w (w.alloc (.cells #[.int .i64 pl,.string kd,.int .i64 ba,.int .i64 po,.int .i64 fi,.bool cu,.slice A aF.length c] 27)) 1 (w.alloc (.cells #[.int .i64 pl,.string kd,.int .i64 ba,.int .i64 po,.int .i64 fi,.bool cu,.slice A aF.length c] 27)):=Keeps.IZ w _
 go_enter Tryz.func75,Tryz.ntmps75
 go_wp2_with (go_at_call 65;refine (BH S A c aF _ _ _ _ (hp.below K0.bw) (Nq _)).mono ?_;rintro e w1 ⟨rfl,hb1⟩;have K1:=K0.call hb1)
 go_ret;exact ⟨rfl,K1.bw⟩
theorem kK (n:Int) (w:World):Calls Tryz.prog 142 #[.int .i64 n] w fun r w'=>r= .returned (.int .i64 (M.side n))∧w=w':=by
 go_enter Tryz.func142,Tryz.ntmps142
 go_wp2
 all_goals
  go_ret;exact ⟨dN (by simp [M.side, *];try omega),rfl⟩
theorem jk (r:M.Rules) (s:M.State) (A:Option Addr) (c:Nat) (w:World) (hg:0≤s.group∧s.group≤2):Calls Tryz.prog 141 #[dP r s A c] w fun e w'=>e= .returned (.int .i64 (M.own s))∧Below w.heap.size w w':=by
 obtain ⟨g,tg,fo⟩:=r;obtain ⟨a0,a1,a2,a3,a4,gr,bl,b0,b1,b2,b3,b4,b5,b6,b7⟩:=s;obtain ⟨hg1,hg2⟩:=hg
 simp only at hg1 hg2
 go_enter Tryz.func141,Tryz.ntmps141
 go_wp2
 all_goals
  go_ret;exact ⟨dN (by first | (simp [M.own, *];done) | (simp_all [M.own];done)),(Below.refl _ _).alloc (Nat.le_refl _) _⟩
def Box (w:World) (b:Nat) (cs:List Value):Prop:=b<w.heap.size∧∀ j v,cs[j]? =some v→w.cell? ⟨b,j,none⟩=some v
theorem Box.below {w W:World} {b:Nat} {cs:List Value} (h:Box w b cs) (hb:Below w.heap.size w W):Box W b cs:=
 ⟨Nat.lt_of_lt_of_le h.1 hb.size,fun j v hj=>(hb.cell (p:=⟨b,j,none⟩) h.1).trans (h.2 j v hj)⟩
theorem Box.alloc {w:World} {b:Nat} {cs:List Value} (h:Box w b cs) (o:Obj):Box (w.alloc o) b cs:=h.below ((Below.refl _ _).alloc (Nat.le_refl _) o)
theorem Box.new (w:World) (us:List Value) (t:TypeId):Box (w.alloc (.cells us.toArray t)) w.heap.size us:=⟨by simp,fun j v h=>fC w us t _ rfl j v h⟩
theorem Box.newAt (w:World) (us:List Value) (t:TypeId) (g:Nat) (hg:w.heap.size=g):Box (w.alloc (.cells us.toArray t)) g us:=by subst hg;exact Box.new w us t
def aj (r:M.Rules) (s:M.State) (A:Option Addr) (c:Nat):List Value:=[.string r.game,.int .i64 r.target,.int .i64 r.bG,.int .i64 s.turn,.bool s.brk,.bool s.hand,.bool s.push,.bool s.pushed,.int .i64 s.group,.slice A s.aA.length c,.int .i64 s.s0,.int .i64 s.s1,.int .i64 s.f0,.int .i64 s.f1,.int .i64 s.run,.int .i64 s.bI,.bool s.over,.int .i64 s.bQ]
@[reducible] def ptr (b:Nat):Value:= .pointer (some ⟨b,0,none⟩)
section
variable {w:World} {Bf Bx Bc Bo Bk Bl:Nat} {r:M.Rules} {s:M.State} {x:M.aV} {A P:Option Addr} {c d:Nat} {S:Nat→Prop}
theorem Oz (hf:Box w Bf (aj r s A c)):Asks 92 #[ptr Bf] (!s.over) w:=by
 refine ⟨enters_of Tryz.func92 (by kernel_rfl) rfl,fun W hb=>?_⟩;have kf:=hf.below hb;have Y7:=kf.2 16 _ rfl
 go_enter Tryz.func92,Tryz.ntmps92
 go_wp2;go_ret;exact ⟨rfl,hb⟩
theorem OA (hc:Box w Bc [.bool (decide (x.kind=M.bf))]) (hx:Box w Bx (aB ⟨x,P,d⟩)) (hf:Box w Bf (aj r s A c)):Asks 93 #[ptr Bc,ptr Bx,ptr Bf] (M.q2 s x) w:=by
 refine ⟨enters_of Tryz.func93 (by kernel_rfl) rfl,fun W hb=>?_⟩;have kf:=hf.below hb;have kf3:=kf.2 3 _ rfl;have kc:=hc.below hb;have JZ:=kc.2 0 _ rfl;have kx:=hx.below hb;have NR:=kx.2 0 _ rfl
 have hq:M.q2 s x=(decide (x.kind=M.bf) || decide (x.aN=s.turn)):=by unfold M.q2;rw [Bool.eq_iff_iff];simp
 rw [hq];obtain ⟨b1,h1⟩:∃ b,decide (x.kind=M.bf)=b:=⟨_,rfl⟩;obtain ⟨p1,h2⟩:∃ b,x.aN=b:=⟨_,rfl⟩;obtain ⟨p2,h3⟩:∃ b,s.turn=b:=⟨_,rfl⟩;rw [h1] at JZ
 simp only [h1,h2,h3] at kf3 NR ⊢
 obtain ⟨b2,h4⟩:∃ b,(p1 == p2)=b:=⟨_,rfl⟩
 have h5:decide (p1=p2)=b2:=by rw [← h4,tK]
 rw [h5];clear h1 h2 h3 h5 hq
 cases b1 <;> cases b2
 all_goals
  go_enter Tryz.func93,Tryz.ntmps93
  go_wp2;go_ret;exact ⟨rfl,hb⟩
theorem KF (hc:Box w Bc [.bool (decide (x.kind=M.bf))]) (hf:Box w Bf (aj r s A c)) (hx:Box w Bx (aB ⟨x,P,d⟩)):Asks 94 #[ptr Bc,ptr Bf,ptr Bx] (M.q3 s x) w:=by
 refine ⟨enters_of Tryz.func94 (by kernel_rfl) rfl,fun W hb=>?_⟩;have kf:=hf.below hb;have kf4:=kf.2 4 _ rfl;have kc:=hc.below hb;have JZ:=kc.2 0 _ rfl;have kx:=hx.below hb;have NS:=kx.2 1 _ rfl
 have hq:M.q3 s x=(decide (x.kind=M.bf) || (s.brk == decide (x.kind=M.dR))):=by unfold M.q3;rw [Bool.eq_iff_iff];simp
 rw [hq];obtain ⟨b1,h1⟩:∃ b,decide (x.kind=M.bf)=b:=⟨_,rfl⟩;obtain ⟨b3,h3⟩:∃ b,s.brk=b:=⟨_,rfl⟩;obtain ⟨k,h2⟩:∃ b,x.kind=b:=⟨_,rfl⟩;rw [h1] at JZ ⊢;rw [h2,h3]
 simp only [h2,h3] at kf4 NS
 obtain ⟨b2,h4⟩:∃ b,(k.toList == [98,114,101,97,107])=b:=⟨_,rfl⟩
 have h5:decide (k=M.dR)=b2:=by rw [← h4,Bool.eq_iff_iff,beq_iff_eq,decide_eq_true_eq];exact ⟨fun e=>by subst e;rw [ByteArray.toList_eq],fun e=>mV (by rw [e,ByteArray.toList_eq])⟩
 rw [h5];clear h1 h2 h3 h5 hq
 cases b1 <;> cases b2 <;> cases b3
 all_goals
  go_enter Tryz.func94,Tryz.ntmps94
  go_wp2;go_ret
  first | exact ⟨rfl,hb⟩ | exact ⟨cO (by simp),hb⟩ | exact ⟨cO (by simp_all),hb⟩
theorem on_any (hf:Box w Bf (aj r s A c)) (hp:bT w S A c s.aA) (b:Int) (W:World) (hb:Below w.heap.size w W):
 Calls Tryz.prog 91 #[.int .i64 b,ptr Bf] W fun e w'=>e= .returned (.bool (decide (b∈s.aA)))∧W=w':=by
 have kf:=hf.below hb;have kf9:=kf.2 9 _ rfl
 go_enter Tryz.func91,Tryz.ntmps91
 go_wp2_with (go_at_call 78;refine (jS S A c s.aA _ _ (hp.below hb)).mono ?_;rintro e nH ⟨rfl,rfl⟩)
 go_ret;exact ⟨rfl,rfl⟩
theorem Oy (hl:Box w Bl [.bool (M.calls r x)]) (ho:Box w Bo [.func (.func 91) #[] #[ptr Bf]]) (hx:Box w Bx (aB ⟨x,P,d⟩)) (hf:Box w Bf (aj r s A c)) (hp:bT w S A c s.aA):Asks 96 #[ptr Bl,ptr Bo,ptr Bx] (M.q5 r s x) w:=by
 refine ⟨enters_of Tryz.func96 (by kernel_rfl) rfl,fun W hb=>?_⟩;have kl:=hl.below hb;have kl0:=kl.2 0 _ rfl;have ko:=ho.below hb;have Fv:=ko.2 0 _ rfl;have kx:=hx.below hb;have WM:=kx.2 2 _ rfl
 have hq:M.q5 r s x=if M.calls r x then decide (x.aT∈s.aA) else (x.aT == 0):=by unfold M.q5;rw [Bool.eq_iff_iff];cases M.calls r x <;> simp
 rw [hq];clear hq
 cases hcl:M.calls r x with
 | true=>
   rw [hcl] at kl0;have Ky:=hide hcl;clear hcl
   cases hm:decide (x.aT∈s.aA)
   all_goals
    go_enter Tryz.func96,Tryz.ntmps96
    go_wp2_with (go_at_call 91;refine (on_any hf hp _ _ hb).mono ?_;rintro e nH ⟨rfl,rfl⟩)
    go_ret;exact ⟨cO (by simp_all),hb⟩
 | false=>
   rw [hcl] at kl0;have Ky:=hide hcl;clear hcl
   go_enter Tryz.func96,Tryz.ntmps96
   go_wp2_with (go_at_call 91;refine (on_any hf hp _ _ hb).mono ?_;rintro e nH ⟨rfl,rfl⟩)
   go_ret;exact ⟨cO (by simp),hb⟩
theorem KG (hx:Box w Bx (aB ⟨x,P,d⟩)) (ho:Box w Bo [.func (.func 91) #[] #[ptr Bf]]) (hf:Box w Bf (aj r s A c)) (hp:bT w S A c s.aA):Asks 97 #[ptr Bx,ptr Bo] (M.q6 s x) w:=by
 refine ⟨enters_of Tryz.func97 (by kernel_rfl) rfl,fun W hb=>?_⟩;have ko:=ho.below hb;have Fv:=ko.2 0 _ rfl;have kx:=hx.below hb;have XQ:=kx.2 4 _ rfl
 have hq:M.q6 s x=((x.first == 0) || decide (x.first∈s.aA)):=by unfold M.q6;rw [Bool.eq_iff_iff];simp
 rw [hq];clear hq
 rcases Bool.eq_false_or_eq_true (x.first == 0) with h0 | h0
 all_goals
  rw [h0]
  go_enter Tryz.func97,Tryz.ntmps97
  go_wp2_with (go_at_call 91;refine (on_any hf hp _ _ hb).mono ?_;rintro e nH ⟨rfl,rfl⟩)
  go_ret;exact ⟨cO (by simp),hb⟩
end
def many (fo:Int) (over:Bool) (n:Int):Bool:=decide (0<fo) && (decide (fo<n) || (decide (n=fo) && !over))
theorem tk {P:Program} {md:Region.Mode} {ops:Array Oper} {Q:Exit→Act→World→Prop} {S:World→Prop} {oi:Oper} {v:Value} {fuel:Nat} {listed l':Array Bool} {a a':Act} {w:World} (i:Nat) (h:wpAnyH P md ops Q S fuel l' a' w) (hi:ops[i]? =some oi:=by exact ga rfl) (h3:(Region.noSelect ops && (Region.free md ops listed i && (Region.ready md ops listed).contains i))=true:=by kernel_rfl) (hw:Region.wanted oi (yielded ops a.tmps)=true:=by rfl) (hS:S w:=by assumption) (hQ:∀ c a w,Q (.panic c) (a.put oi.dst v) w→Q (.panic c) a w:=by exact fun _ _ _ h=>h) (hy:∀ w,S w→(execOp a.eval oi).run P w= .ok (.value v) w:=by (intro w hSw;(try dsimp only at hSw);go_simp;try with_reducible rfl)) (hl:listed.setIfInBounds i true=l':=by (try simp only [la,lz,ls]);exact rfl) (ha:a.put oi.dst v=a':=by (try simp only [Act.put,la,lz,ls]);exact rfl):wpAnyH P md ops Q S (fuel+1) listed a w:=by
 subst hl ha;rw [Bool.and_eq_true,Bool.and_eq_true] at h3;exact wpAnyH_take hi h3.1 h3.2.1 h3.2.2 hQ (Or.inl ⟨hw,hy⟩) hS h
theorem KH (k:ByteArray):(k.toList == [110,105,110,101])=decide (k=M.dJ):=by
 rw [Bool.eq_iff_iff,beq_iff_eq,decide_eq_true_eq];exact ⟨fun e=>mV (by rw [e,ByteArray.toList_eq]),fun e=>by subst e;rw [ByteArray.toList_eq]⟩
theorem yJ (w:World) (us:List Value) (t:TypeId):∀ W:World,(∀ p q,p<w.heap.size+1→W.cell? ⟨p,q,none⟩=(w.alloc (.cells us.toArray t)).cell? ⟨p,q,none⟩)→W.rangeAt w.heap.size 0 us:=by
 intro W h j v hj;rw [h _ _ (by omega),Nat.zero_add]
 have:=dV w t us w.heap.size rfl j v hj
 rwa [jP,Nat.zero_add] at this
theorem PV (s:M.State) (hg:0≤s.group∧s.group≤2):M.own s=0↔s.group=0:=by
 unfold M.own
 split
 · exact Iff.rfl
 · next h=>rw [not_or] at h;constructor <;> intro h1 <;> omega
theorem qN (S:Nat→Prop) (r:M.Rules) (s:M.State) (A:Option Addr) (c:Nat) (w:World) (hp:bT w S A c s.aA) (h:r.game=M.aH∨r.game=M.dJ∨(r.game=M.bC∧s.brk=true)):
 Calls Tryz.prog 79 #[dP r s A c] w fun e w'=>∃ A' c',e= .returned (.slice A' (M.targets r s).length c')∧bT w' (fun b=>w.heap.size≤b) A' c' (M.targets r s)∧Below w.heap.size w w':=by
 obtain ⟨c1,c2,c3⟩:=hp.bd;obtain ⟨g,tg,fo⟩:=r;obtain ⟨a0,a1,a2,a3,a4,gr,bl,b0,b1,b2,b3,b4,b5,b6,b7⟩:=s
 simp only at h c1 c3 hp
 rcases h with rfl | rfl | ⟨rfl,rfl⟩
 · have ht:M.targets ⟨M.aH,tg,fo⟩ ⟨a0,a1,a2,a3,a4,gr,bl,b0,b1,b2,b3,b4,b5,b6,b7⟩=bl:=by simp [M.targets]
   rw [ht];have K0:Keeps w (w.alloc (.cells #[.string M.aH,.int .i64 tg,.int .i64 fo,.int .i64 a0,.bool a1,.bool a2,.bool a3,.bool a4,.int .i64 gr,.slice A bl.length c,.int .i64 b0,.int .i64 b1,.int .i64 b2,.int .i64 b3,.int .i64 b4,.int .i64 b5,.bool b6,.int .i64 b7] 99)) 1 (w.alloc (.cells #[.string M.aH,.int .i64 tg,.int .i64 fo,.int .i64 a0,.bool a1,.bool a2,.bool a3,.bool a4,.int .i64 gr,.slice A bl.length c,.int .i64 b0,.int .i64 b1,.int .i64 b2,.int .i64 b3,.int .i64 b4,.int .i64 b5,.bool b6,.int .i64 b7] 99)):=Keeps.IZ w _
   go_enter Tryz.func79,Tryz.ntmps79
   go_wp2_with (go_at_call 101;refine (jd S A c bl _ (hp.below K0.bw)).mono ?_;rintro e w1 ⟨A1,c1',rfl,hr1,hb1⟩;have K1:=K0.call hb1)
   go_ret;exact ⟨A1,c1',rfl,hr1.more (fun b _ h=>Nat.le_trans (Nat.le_trans (by omega) K0.sz) h),K1.bw⟩
 · have ht:M.targets ⟨M.dJ,tg,fo⟩ ⟨a0,a1,a2,a3,a4,gr,bl,b0,b1,b2,b3,b4,b5,b6,b7⟩=bl.take 1:=by simp [M.targets]
   rw [ht];have K0:Keeps w (w.alloc (.cells #[.string M.dJ,.int .i64 tg,.int .i64 fo,.int .i64 a0,.bool a1,.bool a2,.bool a3,.bool a4,.int .i64 gr,.slice A bl.length c,.int .i64 b0,.int .i64 b1,.int .i64 b2,.int .i64 b3,.int .i64 b4,.int .i64 b5,.bool b6,.int .i64 b7] 99)) 1 (w.alloc (.cells #[.string M.dJ,.int .i64 tg,.int .i64 fo,.int .i64 a0,.bool a1,.bool a2,.bool a3,.bool a4,.int .i64 gr,.slice A bl.length c,.int .i64 b0,.int .i64 b1,.int .i64 b2,.int .i64 b3,.int .i64 b4,.int .i64 b5,.bool b6,.int .i64 b7] 99)):=Keeps.IZ w _
   by_cases hl:bl=[]
   · subst hl
     go_enter Tryz.func79,Tryz.ntmps79
     go_wp2_with (go_at_call 101;refine (jd S A c [] _ (hp.below K0.bw)).mono ?_;rintro e w1 ⟨A1,c1',rfl,hr1,hb1⟩;have K1:=K0.call hb1)
     go_ret;exact ⟨A1,c1',rfl,hr1.more (fun b _ h=>Nat.le_trans (Nat.le_trans (by omega) K0.sz) h),K1.bw⟩
   · have hl2:1≤bl.length:=by cases bl with | nil=>exact absurd rfl hl | cons a l=>simp
     have hc1:1≤c:=by omega
     have hlen:(bl.take 1).length=1:=by rw [List.length_take];omega
     have hcl:=jd S A c (bl.take 1) (w.alloc (.cells #[.string M.dJ,.int .i64 tg,.int .i64 fo,.int .i64 a0,.bool a1,.bool a2,.bool a3,.bool a4,.int .i64 gr,.slice A bl.length c,.int .i64 b0,.int .i64 b1,.int .i64 b2,.int .i64 b3,.int .i64 b4,.int .i64 b5,.bool b6,.int .i64 b7] 99)) (by unfold bT;rw [hlen,List.map_take];exact (Reads.take (k:=1) (hp.below K0.bw) hl2));rw [hlen] at hcl;clear hl
     go_enter Tryz.func79,Tryz.ntmps79
     go_wp2_with (go_at_call 101;refine (hcl).mono ?_;rintro e w1 ⟨A1,c1',rfl,hr1,hb1⟩;have K1:=K0.call hb1)
     go_ret;exact ⟨A1,c1',by rw [hlen];rfl,hr1.more (fun b _ h=>Nat.le_trans (Nat.le_trans (by omega) K0.sz) h),K1.bw⟩
 · have ht:M.targets ⟨M.bC,tg,fo⟩ ⟨a0,true,a2,a3,a4,gr,bl,b0,b1,b2,b3,b4,b5,b6,b7⟩=bl:=by simp [M.targets]
   rw [ht];have K0:Keeps w (w.alloc (.cells #[.string M.bC,.int .i64 tg,.int .i64 fo,.int .i64 a0,.bool true,.bool a2,.bool a3,.bool a4,.int .i64 gr,.slice A bl.length c,.int .i64 b0,.int .i64 b1,.int .i64 b2,.int .i64 b3,.int .i64 b4,.int .i64 b5,.bool b6,.int .i64 b7] 99)) 1 (w.alloc (.cells #[.string M.bC,.int .i64 tg,.int .i64 fo,.int .i64 a0,.bool true,.bool a2,.bool a3,.bool a4,.int .i64 gr,.slice A bl.length c,.int .i64 b0,.int .i64 b1,.int .i64 b2,.int .i64 b3,.int .i64 b4,.int .i64 b5,.bool b6,.int .i64 b7] 99)):=Keeps.IZ w _
   go_enter Tryz.func79,Tryz.ntmps79
   go_wp2_with (go_at_call 101;refine (jd S A c bl _ (hp.below K0.bw)).mono ?_;rintro e w1 ⟨A1,c1',rfl,hr1,hb1⟩;have K1:=K0.call hb1)
   go_ret;exact ⟨A1,c1',rfl,hr1.more (fun b _ h=>Nat.le_trans (Nat.le_trans (by omega) K0.sz) h),K1.bw⟩
theorem yA (S:Nat→Prop) (tg fo:Int) (s:M.State) (A:Option Addr) (c:Nat) (w:World) (hp:bT w S A c s.aA) (hk:s.brk=false) (hg:0≤s.group∧s.group≤2):
 Calls Tryz.prog 79 #[dP ⟨M.bC,tg,fo⟩ s A c] w fun e w'=>∃ A' c',e= .returned (.slice A' (M.targets ⟨M.bC,tg,fo⟩ s).length c')∧bT w' (fun b=>w.heap.size≤b) A' c' (M.targets ⟨M.bC,tg,fo⟩ s)∧Below w.heap.size w w':=by
 obtain ⟨i0,hi,hz0,hz1,hz2⟩:=info_parts pO;obtain ⟨c1,c2,c3⟩:=hp.bd;obtain ⟨a0,a1,a2,a3,a4,gr,bl,b0,b1,b2,b3,b4,b5,b6,b7⟩:=s
 simp only at hk c1 c3 hp hg
 subst hk
 have ht:M.targets ⟨M.bC,tg,fo⟩ ⟨a0,false,a2,a3,a4,gr,bl,b0,b1,b2,b3,b4,b5,b6,b7⟩=if bl.filter (colour ⟨a0,false,a2,a3,a4,gr,bl,b0,b1,b2,b3,b4,b5,b6,b7⟩)=[]∧(8:Int)∈bl then [8] else bl.filter (colour ⟨a0,false,a2,a3,a4,gr,bl,b0,b1,b2,b3,b4,b5,b6,b7⟩):=by
  simp [M.targets,Ie]
 have HT:=hide ht;clear ht;have K0:Keeps w (w.alloc (.cells #[.string M.bC,.int .i64 tg,.int .i64 fo,.int .i64 a0,.bool false,.bool a2,.bool a3,.bool a4,.int .i64 gr,.slice A bl.length c,.int .i64 b0,.int .i64 b1,.int .i64 b2,.int .i64 b3,.int .i64 b4,.int .i64 b5,.bool b6,.int .i64 b7] 99)) 1 (w.alloc (.cells #[.string M.bC,.int .i64 tg,.int .i64 fo,.int .i64 a0,.bool false,.bool a2,.bool a3,.bool a4,.int .i64 gr,.slice A bl.length c,.int .i64 b0,.int .i64 b1,.int .i64 b2,.int .i64 b3,.int .i64 b4,.int .i64 b5,.bool b6,.int .i64 b7] 99)):=Keeps.IZ w _;have hown0:=PV ⟨a0,false,a2,a3,a4,gr,bl,b0,b1,b2,b3,b4,b5,b6,b7⟩ hg;have HO:=hide hown0;clear hown0
 go_enter Tryz.func79,Tryz.ntmps79
 go_wp2
 go_loopw [3,39] (fun v i wr=>∃ k:Nat,k≤bl.length∧i= .int .i64 k∧(∃ A c,v= .slice A ((bl.take k).filter (colour ⟨a0,false,a2,a3,a4,gr,bl,b0,b1,b2,b3,b4,b5,b6,b7⟩)).length c)∧wr.ownsRow (w.heap.size+1) 3 1 v ((bl.take k).filter (colour ⟨a0,false,a2,a3,a4,gr,bl,b0,b1,b2,b3,b4,b5,b6,b7⟩)).length (((bl.take k).filter (colour ⟨a0,false,a2,a3,a4,gr,bl,b0,b1,b2,b3,b4,b5,b6,b7⟩)).map (Value.int .i64))∧Keeps w (w.alloc (.cells #[.string M.bC,.int .i64 tg,.int .i64 fo,.int .i64 a0,.bool false,.bool a2,.bool a3,.bool a4,.int .i64 gr,.slice A bl.length c,.int .i64 b0,.int .i64 b1,.int .i64 b2,.int .i64 b3,.int .i64 b4,.int .i64 b5,.bool b6,.int .i64 b7] 99)) 1 wr)
  (fun _ i _=>bl.length - (intOf i).toNat)
 case atStart=>exact ⟨0,by omega,rfl,⟨_,_,rfl⟩,World.ownsRow_nil _ _ _ _,K0⟩
 case round=>
  obtain ⟨k,hk,rfl,⟨A1,c1',rfl⟩,hown,KR⟩:=hrel;have hcR:=KR.cell;have EU:=KR.sz;have hfl:=filter_le (colour ⟨a0,false,a2,a3,a4,gr,bl,b0,b1,b2,b3,b4,b5,b6,b7⟩) bl k
  by_cases hlt:k<bl.length
  · obtain ⟨b,o,rfl,_,hbl,hc⟩:=hp.at_ k hlt
    have hck:=hc k hlt;clear hc
    have Uj:b<w.heap.size+1:=by omega
    by_cases h8:bl[k]=8
    · have h8':(bl[k] != 8)=false:=by simp [h8]
      have HS:=hide (BL (p:=(colour ⟨a0,false,a2,a3,a4,gr,bl,b0,b1,b2,b3,b4,b5,b6,b7⟩)) hlt (by simp [colour,h8]));clear h8;go_wp2;have AY:∀ W:World,(fun w':World=>∀ p q,p<w.heap.size+1→w'.cell? ⟨p,q,none⟩=(w.alloc (.cells #[.string M.bC,.int .i64 tg,.int .i64 fo,.int .i64 a0,.bool false,.bool a2,.bool a3,.bool a4,.int .i64 gr,.slice (some ⟨b,o,none⟩) bl.length c,.int .i64 b0,.int .i64 b1,.int .i64 b2,.int .i64 b3,.int .i64 b4,.int .i64 b5,.bool b6,.int .i64 b7] 99)).cell? ⟨p,q,none⟩) W→W.rangeAt w.heap.size 0 [.string M.bC,.int .i64 tg,.int .i64 fo,.int .i64 a0,.bool false,.bool a2,.bool a3,.bool a4,.int .i64 gr,.slice (some ⟨b,o,none⟩) bl.length c,.int .i64 b0,.int .i64 b1,.int .i64 b2,.int .i64 b3,.int .i64 b4,.int .i64 b5,.bool b6,.int .i64 b7]:=yJ w _ _;have hun:=Tryz.underlying99;refine wp_region_held_drew (S:=(fun w'=>∀ p q,p<w.heap.size+1→w'.cell? ⟨p,q,none⟩=(w.alloc (.cells #[.string M.bC,.int .i64 tg,.int .i64 fo,.int .i64 a0,.bool false,.bool a2,.bool a3,.bool a4,.int .i64 gr,.slice (some ⟨b,o,none⟩) bl.length c,.int .i64 b0,.int .i64 b1,.int .i64 b2,.int .i64 b3,.int .i64 b4,.int .i64 b5,.bool b6,.int .i64 b7] 99)).cell? ⟨p,q,none⟩)) (by kernel_rfl) ?kG (fun hHeld=>?_)
      case kG=>first | exact K2.cell | exact K1.cell | exact KR.cell
      refine tk 0 ?_;refine tk 1 ?_;refine tk 2 ?_;refine tu 3 ?_;refine tu 4 ?_;refine tu 5 ?_;refine tu 6 ?_;refine tu 7 ?_;refine tu 8 ?_;refine tu 9 ?_;refine tu 10 ?_;refine tu 11 ?_;refine tu 12 ?_;refine tk 13 ?_;refine wpAnyH_done (by kernel_rfl) ?_ _;go_wp2
      go_roundw
      case rel=>exact ⟨k+1,by omega,by go_num,by rw [HS.out];exact ⟨⟨_,_,rfl⟩,own_drewN hown 1,KR.drew⟩⟩
      case measure=>simp [intOf];omega
    · have h8':(bl[k] != 8)=true:=by simp [h8]
      by_cases hgr:gr=0
      · have abn:(M.own ⟨a0,false,a2,a3,a4,gr,bl,b0,b1,b2,b3,b4,b5,b6,b7⟩ == 0)=true:=by simp [HO.out.2 hgr]
        have HS:=hide (zh (p:=(colour ⟨a0,false,a2,a3,a4,gr,bl,b0,b1,b2,b3,b4,b5,b6,b7⟩)) hlt (by simp [colour,h8,hgr]));clear hgr h8;go_wp2;have AY:∀ W:World,(fun w':World=>∀ p q,p<w.heap.size+1→w'.cell? ⟨p,q,none⟩=(w.alloc (.cells #[.string M.bC,.int .i64 tg,.int .i64 fo,.int .i64 a0,.bool false,.bool a2,.bool a3,.bool a4,.int .i64 gr,.slice (some ⟨b,o,none⟩) bl.length c,.int .i64 b0,.int .i64 b1,.int .i64 b2,.int .i64 b3,.int .i64 b4,.int .i64 b5,.bool b6,.int .i64 b7] 99)).cell? ⟨p,q,none⟩) W→W.rangeAt w.heap.size 0 [.string M.bC,.int .i64 tg,.int .i64 fo,.int .i64 a0,.bool false,.bool a2,.bool a3,.bool a4,.int .i64 gr,.slice (some ⟨b,o,none⟩) bl.length c,.int .i64 b0,.int .i64 b1,.int .i64 b2,.int .i64 b3,.int .i64 b4,.int .i64 b5,.bool b6,.int .i64 b7]:=yJ w _ _;have hun:=Tryz.underlying99;refine wp_region_held_drew (S:=(fun w'=>∀ p q,p<w.heap.size+1→w'.cell? ⟨p,q,none⟩=(w.alloc (.cells #[.string M.bC,.int .i64 tg,.int .i64 fo,.int .i64 a0,.bool false,.bool a2,.bool a3,.bool a4,.int .i64 gr,.slice (some ⟨b,o,none⟩) bl.length c,.int .i64 b0,.int .i64 b1,.int .i64 b2,.int .i64 b3,.int .i64 b4,.int .i64 b5,.bool b6,.int .i64 b7] 99)).cell? ⟨p,q,none⟩)) (by kernel_rfl) ?oH (fun hHeld=>?_)
        case oH=>first | exact K2.cell | exact K1.cell | exact KR.cell
        refine tk 0 ?_;refine tk 1 ?_;refine tk 2 ?_;refine wpAnyH_take (i:=3) (oi:=_) (v:=_) (ga rfl) (by kernel_rfl) (by kernel_rfl) (by kernel_rfl) (fun _ _ _ h=>h) (yieldsIf_load_mid (by rfl) _ _ (by rfl) _ _ (by rfl) _ _ AY hun rfl (by kernel_rfl)) (by assumption) ?_
        try simp only [Act.put,la,lz,ls]
        refine tr 4 fun K hK=>?_;go_simp
        (first | (go_at_call 141;refine (jk ⟨M.bC,tg,fo⟩ ⟨a0,false,a2,a3,a4,gr,bl,b0,b1,b2,b3,b4,b5,b6,b7⟩ _ _ _ hg).mono ?_;rintro e w2 ⟨rfl,hb2⟩;have K2:=K1.call hb2) | (go_at_call 141;refine (jk ⟨M.bC,tg,fo⟩ ⟨a0,false,a2,a3,a4,gr,bl,b0,b1,b2,b3,b4,b5,b6,b7⟩ _ _ _ hg).mono ?_;rintro e w1 ⟨rfl,hb1⟩;have K1:=KR.drew.call hb1) | (go_at_call 142;refine (kK _ _).mono ?_;rintro e nH ⟨rfl,rfl⟩))
        refine hK.out _ _ ?QV (fun hHeld=>?_)
        case QV=>(first | (first | exact K2.cell | exact K1.cell | exact KR.cell) | (dsimp only;first | exact K2.cell | exact K1.cell | exact KR.cell))
        clear hK K
        try simp only [Act.put,la,lz,ls]
        refine tk 5 ?_;refine tk 6 ?_;refine tu 7 ?_;refine tu 8 ?_;refine tu 9 ?_;refine tu 10 ?_;refine tu 11 ?_;refine tk 12 ?_;refine tk 13 ?_;refine wpAnyH_done (by kernel_rfl) ?_ _;have qP:=(zV hown hb1 EU);have KZ:=K1;have acg:=KZ.sz
        go_wp2_with (at_builtin;refine wpList_append_lies _ rfl _ _ _ rfl (w.heap.size+1) 3 i0 (.int .i64 0) 1 8 Tryz.underlying50 hi hz0 hz1 hz2 rfl (by omega) _ _ _ rfl (qP.alloc _) ⟨w1.heap.size,0,none⟩ 1 1 [.int .i64 bl[k]] rfl rfl (dV _ _ _ _ (by simp)) ?c1 (by omega) ?c2 ?c3 ?c4 (w1.heap.size+1) (by simp) ?_)
        case c1=>simp [Value.oneCell']
        case c2=>simp only [maxLen];omega
        case c3=>omega
        case c4=>first | omega | (simp;omega)
        intro g1 cap w9 hown1 hgrow _ _;have hbd:=dZ (B:=w.heap.size+1) (qP.alloc _) hgrow (by omega) (by simp;omega);have Au:=((Below.refl (w.heap.size+1) w1).alloc (by omega) _).trans hbd
        have hown2:w9.ownsRow (w.heap.size+1) 3 1 (.slice (some ⟨g1,0,none⟩) ((bl.take (k+1)).filter (colour ⟨a0,false,a2,a3,a4,gr,bl,b0,b1,b2,b3,b4,b5,b6,b7⟩)).length cap) ((bl.take (k+1)).filter (colour ⟨a0,false,a2,a3,a4,gr,bl,b0,b1,b2,b3,b4,b5,b6,b7⟩)).length (((bl.take (k+1)).filter (colour ⟨a0,false,a2,a3,a4,gr,bl,b0,b1,b2,b3,b4,b5,b6,b7⟩)).map (Value.int .i64)):=by rw [HS.out];simpa using hown1
        have hv:((bl.take k).filter (colour ⟨a0,false,a2,a3,a4,gr,bl,b0,b1,b2,b3,b4,b5,b6,b7⟩)).length+1=((bl.take (k+1)).filter (colour ⟨a0,false,a2,a3,a4,gr,bl,b0,b1,b2,b3,b4,b5,b6,b7⟩)).length:=by rw [HS.out];simp
        have KY:=(KZ.alloc _).upto hbd (by omega);rw [hv];clear qP hgrow hown1 hbd Au hv HS;go_wp2
        go_roundw
        case rel=>exact ⟨k+1,by omega,by go_num,⟨_,_,rfl⟩,hown2,KY⟩
        case measure=>simp [intOf];omega
      · have abn:(M.own ⟨a0,false,a2,a3,a4,gr,bl,b0,b1,b2,b3,b4,b5,b6,b7⟩ == 0)=false:=by simp;exact fun h=>hgr (HO.out.1 h)
        by_cases hsd:M.side bl[k]=M.own ⟨a0,false,a2,a3,a4,gr,bl,b0,b1,b2,b3,b4,b5,b6,b7⟩
        · have abY:(M.side bl[k] == M.own ⟨a0,false,a2,a3,a4,gr,bl,b0,b1,b2,b3,b4,b5,b6,b7⟩)=true:=by simp [hsd]
          have HS:=hide (zh (p:=(colour ⟨a0,false,a2,a3,a4,gr,bl,b0,b1,b2,b3,b4,b5,b6,b7⟩)) hlt (by simp [colour,h8,hsd]));clear hgr h8 hsd;go_wp2;have AY:∀ W:World,(fun w':World=>∀ p q,p<w.heap.size+1→w'.cell? ⟨p,q,none⟩=(w.alloc (.cells #[.string M.bC,.int .i64 tg,.int .i64 fo,.int .i64 a0,.bool false,.bool a2,.bool a3,.bool a4,.int .i64 gr,.slice (some ⟨b,o,none⟩) bl.length c,.int .i64 b0,.int .i64 b1,.int .i64 b2,.int .i64 b3,.int .i64 b4,.int .i64 b5,.bool b6,.int .i64 b7] 99)).cell? ⟨p,q,none⟩) W→W.rangeAt w.heap.size 0 [.string M.bC,.int .i64 tg,.int .i64 fo,.int .i64 a0,.bool false,.bool a2,.bool a3,.bool a4,.int .i64 gr,.slice (some ⟨b,o,none⟩) bl.length c,.int .i64 b0,.int .i64 b1,.int .i64 b2,.int .i64 b3,.int .i64 b4,.int .i64 b5,.bool b6,.int .i64 b7]:=yJ w _ _;have hun:=Tryz.underlying99;refine wp_region_held_drew (S:=(fun w'=>∀ p q,p<w.heap.size+1→w'.cell? ⟨p,q,none⟩=(w.alloc (.cells #[.string M.bC,.int .i64 tg,.int .i64 fo,.int .i64 a0,.bool false,.bool a2,.bool a3,.bool a4,.int .i64 gr,.slice (some ⟨b,o,none⟩) bl.length c,.int .i64 b0,.int .i64 b1,.int .i64 b2,.int .i64 b3,.int .i64 b4,.int .i64 b5,.bool b6,.int .i64 b7] 99)).cell? ⟨p,q,none⟩)) (by kernel_rfl) ?jv (fun hHeld=>?_)
          case jv=>first | exact K2.cell | exact K1.cell | exact KR.cell
          refine tk 0 ?_;refine tk 1 ?_;refine tk 2 ?_;refine wpAnyH_take (i:=3) (oi:=_) (v:=_) (ga rfl) (by kernel_rfl) (by kernel_rfl) (by kernel_rfl) (fun _ _ _ h=>h) (yieldsIf_load_mid (by rfl) _ _ (by rfl) _ _ (by rfl) _ _ AY hun rfl (by kernel_rfl)) (by assumption) ?_
          try simp only [Act.put,la,lz,ls]
          refine tr 4 fun K hK=>?_;go_simp
          (first | (go_at_call 141;refine (jk ⟨M.bC,tg,fo⟩ ⟨a0,false,a2,a3,a4,gr,bl,b0,b1,b2,b3,b4,b5,b6,b7⟩ _ _ _ hg).mono ?_;rintro e w2 ⟨rfl,hb2⟩;have K2:=K1.call hb2) | (go_at_call 141;refine (jk ⟨M.bC,tg,fo⟩ ⟨a0,false,a2,a3,a4,gr,bl,b0,b1,b2,b3,b4,b5,b6,b7⟩ _ _ _ hg).mono ?_;rintro e w1 ⟨rfl,hb1⟩;have K1:=KR.drew.call hb1) | (go_at_call 142;refine (kK _ _).mono ?_;rintro e nH ⟨rfl,rfl⟩))
          refine hK.out _ _ ?GK (fun hHeld=>?_)
          case GK=>(first | (first | exact K2.cell | exact K1.cell | exact KR.cell) | (dsimp only;first | exact K2.cell | exact K1.cell | exact KR.cell))
          clear hK K
          try simp only [Act.put,la,lz,ls]
          refine tk 5 ?_;refine tk 6 ?_;refine tk 7 ?_;refine wpAnyH_take (i:=9) (oi:=_) (v:=_) (ga rfl) (by kernel_rfl) (by kernel_rfl) (by kernel_rfl) (fun _ _ _ h=>h) (yieldsIf_load_mid (by rfl) _ _ (by rfl) _ _ (by rfl) _ _ AY hun rfl (by kernel_rfl)) (by assumption) ?_
          try simp only [Act.put,la,lz,ls]
          refine tr 8 fun K hK=>?_;go_simp
          (first | (go_at_call 141;refine (jk ⟨M.bC,tg,fo⟩ ⟨a0,false,a2,a3,a4,gr,bl,b0,b1,b2,b3,b4,b5,b6,b7⟩ _ _ _ hg).mono ?_;rintro e w2 ⟨rfl,hb2⟩;have K2:=K1.call hb2) | (go_at_call 141;refine (jk ⟨M.bC,tg,fo⟩ ⟨a0,false,a2,a3,a4,gr,bl,b0,b1,b2,b3,b4,b5,b6,b7⟩ _ _ _ hg).mono ?_;rintro e w1 ⟨rfl,hb1⟩;have K1:=KR.drew.call hb1) | (go_at_call 142;refine (kK _ _).mono ?_;rintro e nH ⟨rfl,rfl⟩))
          refine hK.out _ _ ?Rf (fun hHeld=>?_)
          case Rf=>(first | (first | exact K2.cell | exact K1.cell | exact KR.cell) | (dsimp only;first | exact K2.cell | exact K1.cell | exact KR.cell))
          clear hK K
          try simp only [Act.put,la,lz,ls]
          refine tr 10 fun K hK=>?_;go_simp
          (first | (go_at_call 141;refine (jk ⟨M.bC,tg,fo⟩ ⟨a0,false,a2,a3,a4,gr,bl,b0,b1,b2,b3,b4,b5,b6,b7⟩ _ _ _ hg).mono ?_;rintro e w2 ⟨rfl,hb2⟩;have K2:=K1.call hb2) | (go_at_call 141;refine (jk ⟨M.bC,tg,fo⟩ ⟨a0,false,a2,a3,a4,gr,bl,b0,b1,b2,b3,b4,b5,b6,b7⟩ _ _ _ hg).mono ?_;rintro e w1 ⟨rfl,hb1⟩;have K1:=KR.drew.call hb1) | (go_at_call 142;refine (kK _ _).mono ?_;rintro e nH ⟨rfl,rfl⟩))
          refine hK.out _ _ ?Xu (fun hHeld=>?_)
          case Xu=>(first | (first | exact K2.cell | exact K1.cell | exact KR.cell) | (dsimp only;first | exact K2.cell | exact K1.cell | exact KR.cell))
          clear hK K
          try simp only [Act.put,la,lz,ls]
          refine tk 11 ?_;refine tk 12 ?_;refine tk 13 ?_;refine wpAnyH_done (by kernel_rfl) ?_ _;have qP:=(vk (zV hown hb1 EU) hb2);have KZ:=K2;have acg:=KZ.sz
          go_wp2_with (at_builtin;refine wpList_append_lies _ rfl _ _ _ rfl (w.heap.size+1) 3 i0 (.int .i64 0) 1 8 Tryz.underlying50 hi hz0 hz1 hz2 rfl (by omega) _ _ _ rfl (qP.alloc _) ⟨w2.heap.size,0,none⟩ 1 1 [.int .i64 bl[k]] rfl rfl (dV _ _ _ _ (by simp)) ?c1 (by omega) ?c2 ?c3 ?c4 (w2.heap.size+1) (by simp) ?_)
          case c1=>simp [Value.oneCell']
          case c2=>simp only [maxLen];omega
          case c3=>omega
          case c4=>first | omega | (simp;omega)
          intro g1 cap w9 hown1 hgrow _ _;have hbd:=dZ (B:=w.heap.size+1) (qP.alloc _) hgrow (by omega) (by simp;omega);have Au:=((Below.refl (w.heap.size+1) w2).alloc (by omega) _).trans hbd
          have hown2:w9.ownsRow (w.heap.size+1) 3 1 (.slice (some ⟨g1,0,none⟩) ((bl.take (k+1)).filter (colour ⟨a0,false,a2,a3,a4,gr,bl,b0,b1,b2,b3,b4,b5,b6,b7⟩)).length cap) ((bl.take (k+1)).filter (colour ⟨a0,false,a2,a3,a4,gr,bl,b0,b1,b2,b3,b4,b5,b6,b7⟩)).length (((bl.take (k+1)).filter (colour ⟨a0,false,a2,a3,a4,gr,bl,b0,b1,b2,b3,b4,b5,b6,b7⟩)).map (Value.int .i64)):=by rw [HS.out];simpa using hown1
          have hv:((bl.take k).filter (colour ⟨a0,false,a2,a3,a4,gr,bl,b0,b1,b2,b3,b4,b5,b6,b7⟩)).length+1=((bl.take (k+1)).filter (colour ⟨a0,false,a2,a3,a4,gr,bl,b0,b1,b2,b3,b4,b5,b6,b7⟩)).length:=by rw [HS.out];simp
          have KY:=(KZ.alloc _).upto hbd (by omega);rw [hv];clear qP hgrow hown1 hbd Au hv HS;go_wp2
          go_roundw
          case rel=>exact ⟨k+1,by omega,by go_num,⟨_,_,rfl⟩,hown2,KY⟩
          case measure=>simp [intOf];omega
        · have abY:(M.side bl[k] == M.own ⟨a0,false,a2,a3,a4,gr,bl,b0,b1,b2,b3,b4,b5,b6,b7⟩)=false:=by simp [hsd]
          have HS:=hide (BL (p:=(colour ⟨a0,false,a2,a3,a4,gr,bl,b0,b1,b2,b3,b4,b5,b6,b7⟩)) hlt (by simp [colour,h8,hgr,hsd]));clear hgr h8 hsd;go_wp2;have AY:∀ W:World,(fun w':World=>∀ p q,p<w.heap.size+1→w'.cell? ⟨p,q,none⟩=(w.alloc (.cells #[.string M.bC,.int .i64 tg,.int .i64 fo,.int .i64 a0,.bool false,.bool a2,.bool a3,.bool a4,.int .i64 gr,.slice (some ⟨b,o,none⟩) bl.length c,.int .i64 b0,.int .i64 b1,.int .i64 b2,.int .i64 b3,.int .i64 b4,.int .i64 b5,.bool b6,.int .i64 b7] 99)).cell? ⟨p,q,none⟩) W→W.rangeAt w.heap.size 0 [.string M.bC,.int .i64 tg,.int .i64 fo,.int .i64 a0,.bool false,.bool a2,.bool a3,.bool a4,.int .i64 gr,.slice (some ⟨b,o,none⟩) bl.length c,.int .i64 b0,.int .i64 b1,.int .i64 b2,.int .i64 b3,.int .i64 b4,.int .i64 b5,.bool b6,.int .i64 b7]:=yJ w _ _;have hun:=Tryz.underlying99;refine wp_region_held_drew (S:=(fun w'=>∀ p q,p<w.heap.size+1→w'.cell? ⟨p,q,none⟩=(w.alloc (.cells #[.string M.bC,.int .i64 tg,.int .i64 fo,.int .i64 a0,.bool false,.bool a2,.bool a3,.bool a4,.int .i64 gr,.slice (some ⟨b,o,none⟩) bl.length c,.int .i64 b0,.int .i64 b1,.int .i64 b2,.int .i64 b3,.int .i64 b4,.int .i64 b5,.bool b6,.int .i64 b7] 99)).cell? ⟨p,q,none⟩)) (by kernel_rfl) ?iM (fun hHeld=>?_)
          case iM=>first | exact K2.cell | exact K1.cell | exact KR.cell
          refine tk 0 ?_;refine tk 1 ?_;refine tk 2 ?_;refine wpAnyH_take (i:=3) (oi:=_) (v:=_) (ga rfl) (by kernel_rfl) (by kernel_rfl) (by kernel_rfl) (fun _ _ _ h=>h) (yieldsIf_load_mid (by rfl) _ _ (by rfl) _ _ (by rfl) _ _ AY hun rfl (by kernel_rfl)) (by assumption) ?_
          try simp only [Act.put,la,lz,ls]
          refine tr 4 fun K hK=>?_;go_simp
          (first | (go_at_call 141;refine (jk ⟨M.bC,tg,fo⟩ ⟨a0,false,a2,a3,a4,gr,bl,b0,b1,b2,b3,b4,b5,b6,b7⟩ _ _ _ hg).mono ?_;rintro e w2 ⟨rfl,hb2⟩;have K2:=K1.call hb2) | (go_at_call 141;refine (jk ⟨M.bC,tg,fo⟩ ⟨a0,false,a2,a3,a4,gr,bl,b0,b1,b2,b3,b4,b5,b6,b7⟩ _ _ _ hg).mono ?_;rintro e w1 ⟨rfl,hb1⟩;have K1:=KR.drew.call hb1) | (go_at_call 142;refine (kK _ _).mono ?_;rintro e nH ⟨rfl,rfl⟩))
          refine hK.out _ _ ?Ry (fun hHeld=>?_)
          case Ry=>(first | (first | exact K2.cell | exact K1.cell | exact KR.cell) | (dsimp only;first | exact K2.cell | exact K1.cell | exact KR.cell))
          clear hK K
          try simp only [Act.put,la,lz,ls]
          refine tk 5 ?_;refine tk 6 ?_;refine tk 7 ?_;refine wpAnyH_take (i:=9) (oi:=_) (v:=_) (ga rfl) (by kernel_rfl) (by kernel_rfl) (by kernel_rfl) (fun _ _ _ h=>h) (yieldsIf_load_mid (by rfl) _ _ (by rfl) _ _ (by rfl) _ _ AY hun rfl (by kernel_rfl)) (by assumption) ?_
          try simp only [Act.put,la,lz,ls]
          refine tr 8 fun K hK=>?_;go_simp
          (first | (go_at_call 141;refine (jk ⟨M.bC,tg,fo⟩ ⟨a0,false,a2,a3,a4,gr,bl,b0,b1,b2,b3,b4,b5,b6,b7⟩ _ _ _ hg).mono ?_;rintro e w2 ⟨rfl,hb2⟩;have K2:=K1.call hb2) | (go_at_call 141;refine (jk ⟨M.bC,tg,fo⟩ ⟨a0,false,a2,a3,a4,gr,bl,b0,b1,b2,b3,b4,b5,b6,b7⟩ _ _ _ hg).mono ?_;rintro e w1 ⟨rfl,hb1⟩;have K1:=KR.drew.call hb1) | (go_at_call 142;refine (kK _ _).mono ?_;rintro e nH ⟨rfl,rfl⟩))
          refine hK.out _ _ ?RX (fun hHeld=>?_)
          case RX=>(first | (first | exact K2.cell | exact K1.cell | exact KR.cell) | (dsimp only;first | exact K2.cell | exact K1.cell | exact KR.cell))
          clear hK K
          try simp only [Act.put,la,lz,ls]
          refine tr 10 fun K hK=>?_;go_simp
          (first | (go_at_call 141;refine (jk ⟨M.bC,tg,fo⟩ ⟨a0,false,a2,a3,a4,gr,bl,b0,b1,b2,b3,b4,b5,b6,b7⟩ _ _ _ hg).mono ?_;rintro e w2 ⟨rfl,hb2⟩;have K2:=K1.call hb2) | (go_at_call 141;refine (jk ⟨M.bC,tg,fo⟩ ⟨a0,false,a2,a3,a4,gr,bl,b0,b1,b2,b3,b4,b5,b6,b7⟩ _ _ _ hg).mono ?_;rintro e w1 ⟨rfl,hb1⟩;have K1:=KR.drew.call hb1) | (go_at_call 142;refine (kK _ _).mono ?_;rintro e nH ⟨rfl,rfl⟩))
          refine hK.out _ _ ?Jo (fun hHeld=>?_)
          case Jo=>(first | (first | exact K2.cell | exact K1.cell | exact KR.cell) | (dsimp only;first | exact K2.cell | exact K1.cell | exact KR.cell))
          clear hK K
          try simp only [Act.put,la,lz,ls]
          refine tk 11 ?_;refine tk 12 ?_;refine tk 13 ?_;refine wpAnyH_done (by kernel_rfl) ?_ _;go_wp2
          go_roundw
          case rel=>exact ⟨k+1,by omega,by go_num,by rw [HS.out];exact ⟨⟨_,_,rfl⟩,(vk (zV hown hb1 EU) hb2),K2⟩⟩
          case measure=>simp [intOf];omega
  · obtain rfl:k=bl.length:=by omega
    rw [List.take_length] at hown ⊢;have hfl:=List.length_filter_le (colour ⟨a0,false,a2,a3,a4,gr,bl,b0,b1,b2,b3,b4,b5,b6,b7⟩) bl
    by_cases hz:bl.filter (colour ⟨a0,false,a2,a3,a4,gr,bl,b0,b1,b2,b3,b4,b5,b6,b7⟩)=[]
    · have hz':(((bl.filter (colour ⟨a0,false,a2,a3,a4,gr,bl,b0,b1,b2,b3,b4,b5,b6,b7⟩)).length:Int) == 0)=true:=by rw [hz];rfl
      by_cases h8:(8:Int)∈bl
      · have HR:=hide (HT.out.trans (if_pos ⟨hz,h8⟩))
        have h8':decide ((8:Int)∈bl)=true:=decide_eq_true h8;have hl8:=(bT.lit wr 3 [8] (by simp) (fun b=>w.heap.size≤b) (by omega));clear HT hz h8
        go_wp2_with (go_at_call 78;refine (jS S A c bl _ _ (hp.below KR.bw)).mono ?_;rintro e nH ⟨rfl,rfl⟩)
        go_ret;rw [HR.out];exact ⟨_,_,rfl,hl8,(KR.alloc _).bw⟩
      · have HR:=hide (HT.out.trans (if_neg (fun h=>h8 h.2)))
        have h8':decide ((8:Int)∈bl)=false:=decide_eq_false h8;clear HT hz h8
        go_wp2_with (go_at_call 78;refine (jS S A c bl _ _ (hp.below KR.bw)).mono ?_;rintro e nH ⟨rfl,rfl⟩)
        go_ret;rw [HR.out];exact ⟨A1,c1',rfl,Reads.jh hown (fun b h=>by omega) (by omega),KR.bw⟩
    · have HR:=hide (HT.out.trans (if_neg (fun h=>hz h.1)))
      have hz':(((bl.filter (colour ⟨a0,false,a2,a3,a4,gr,bl,b0,b1,b2,b3,b4,b5,b6,b7⟩)).length:Int) == 0)=false:=by simpa using hz
      clear HT hz;go_wp2;go_ret;rw [HR.out];exact ⟨A1,c1',rfl,Reads.jh hown (fun b h=>by omega) (by omega),KR.bw⟩
theorem xR (S:Nat→Prop) (r:M.Rules) (s:M.State) (A:Option Addr) (c:Nat) (w:World) (hp:bT w S A c s.aA) (hr:M.bP r=0) (hg:0≤s.group∧s.group≤2):
 Calls Tryz.prog 79 #[dP r s A c] w fun e w'=>∃ A' c',e= .returned (.slice A' (M.targets r s).length c')∧bT w' (fun b=>w.heap.size≤b) A' c' (M.targets r s)∧Below w.heap.size w w':=by
 rcases TV hr with h | h | h
 · exact qN S r s A c w hp (.inl h)
 · rcases Bool.eq_false_or_eq_true s.brk with hb | hb
   · exact qN S r s A c w hp (.inr (.inr ⟨h,hb⟩))
   · obtain ⟨g,tg,fo⟩:=r
     simp only at h
     subst h;exact yA S tg fo s A c w hp hb hg
 · exact qN S r s A c w hp (.inr (.inl h))
theorem DZ {n a b:Int} (h:M.out n a b=false):a≤n∧n≤b:=by
 unfold M.out at h
 rw [decide_eq_false_iff_not] at h
 omega
end Go.Proofs.YtcjglfbpjkdgiaaGreatDoor
namespace Go.Proofs.YtcjglfbpjkdgiaaGreatDoor
theorem BK:∀ (l seen:List M.ny),M.fE seen l=0→∀ p∈l,(0≤p.aT∧p.aT≤15)∧(1≤p.aX∧p.aX≤6)
 | [],_,_,p,hp=>by cases hp
 | q::l,seen,h,p,hp=>by
   rw [M.fE] at h
   split at h
   · cases h
   · next h1=>
     split at h
     · cases h
     · rw [not_or] at h1
       rcases List.mem_cons.1 hp with rfl | hp
       · exact ⟨DZ (by simpa using h1.1),DZ (by simpa using h1.2)⟩
       · exact BK l _ h p hp
theorem yF {x:M.aV} (h:M.cZ x=0):sV x∧(∀ p∈x.aF,(0≤p.aT∧p.aT≤15)∧(1≤p.aX∧p.aX≤6))∧M.oZ x=0:=by
 unfold M.cZ at h
 by_cases h1:M.fO x=0
 · rw [if_neg (by simp [h1])] at h
   by_cases h2:M.fE [] x.aF=0
   · rw [if_neg (by simp [h2])] at h
     exact ⟨Ir h1,BK _ _ h2,h⟩
   · rw [if_pos h2] at h;exact absurd h h2
 · rw [if_pos h1] at h;exact absurd h h1
end Go.Proofs.YtcjglfbpjkdgiaaGreatDoor
namespace Go.Proofs.YtcjglfbpjkdgiaaGreatDoor
open Go.RowKit
theorem Fj (r:M.Rules) (s:M.State) (A:Option Addr) (c:Nat) (w:World):Calls Tryz.prog 134 #[dP r s A c] w fun e w'=>e= .returned (.bool (true))∧Below w.heap.size w w':=by
 go_enter Tryz.func134,Tryz.ntmps134
 go_wp2;go_ret;exact ⟨rfl,(Below.refl _ _).alloc (Nat.le_refl _) _⟩
theorem Fp (r:M.Rules) (s:M.State) (A:Option Addr) (c:Nat) (w:World):Calls Tryz.prog 135 #[dP r s A c] w fun e w'=>e= .returned (.bool (s.push))∧Below w.heap.size w w':=by
 go_enter Tryz.func135,Tryz.ntmps135
 go_wp2;go_ret;exact ⟨rfl,(Below.refl _ _).alloc (Nat.le_refl _) _⟩
theorem Fq (r:M.Rules) (s:M.State) (A:Option Addr) (c:Nat) (w:World):Calls Tryz.prog 136 #[dP r s A c] w fun e w'=>e= .returned (.bool (s.pushed))∧Below w.heap.size w w':=by
 go_enter Tryz.func136,Tryz.ntmps136
 go_wp2;go_ret;exact ⟨rfl,(Below.refl _ _).alloc (Nat.le_refl _) _⟩
theorem IJ (k:ByteArray):∀ args w,(callFunc (PK k) args).run Tryz.prog w= .ok (.enter (PK k) args) w:=by
 unfold PK
 split
 · exact enters_of Tryz.func135 (by kernel_rfl) rfl
 split
 · exact enters_of Tryz.func136 (by kernel_rfl) rfl
 · exact enters_of Tryz.func134 (by kernel_rfl) rfl
theorem Uz (k:ByteArray) (r:M.Rules) (s:M.State) (A:Option Addr) (c:Nat) (w:World):Calls Tryz.prog (PK k) #[dP r s A c] w fun e w'=>e= .returned (.bool (M.permitted s k))∧Below w.heap.size w w':=by
 unfold PK M.permitted
 split
 · exact Fp r s A c w
 split
 · exact Fq r s A c w
 · exact Fj r s A c w
section
variable {w:World} {Bf Bx Bc Bo Bk Bl:Nat} {r:M.Rules} {s:M.State} {x:M.aV} {A P:Option Addr} {c d:Nat} {S:Nat→Prop}
theorem AA (k:ByteArray) (b1 b2:Bool) (hk:Box w Bk [.bool b1,.bool b2,.func (.func (PK k)) #[] #[]]) (hf:Box w Bf (aj r s A c)):Asks 95 #[ptr Bk,ptr Bf] (M.permitted s k) w:=by
 refine ⟨enters_of Tryz.func95 (by kernel_rfl) rfl,fun W hb=>?_⟩;have kk:=hk.below hb;have kk2:=kk.2 2 _ rfl;have kf:=hf.below hb
 have hrg:W.rangeAt Bf 0 [.string r.game,.int .i64 r.target,.int .i64 r.bG,.int .i64 s.turn,.bool s.brk,.bool s.hand,.bool s.push,.bool s.pushed,.int .i64 s.group,.slice A s.aA.length c,.int .i64 s.s0,.int .i64 s.s1,.int .i64 s.f0,.int .i64 s.f1,.int .i64 s.run,.int .i64 s.bI,.bool s.over,.int .i64 s.bQ]:=fun j v hj=>by rw [Nat.zero_add];exact kf.2 j v hj
 have hun:=Tryz.underlying99;have HR:=hide hrg;clear hrg kf;have eg:=IJ k;have hcall:=fun W'=>Uz k r s A c W';obtain ⟨n,hn⟩:∃ n,PK k=n:=⟨_,rfl⟩;rw [hn] at kk2 eg
 simp only [hn] at hcall
 have HC:=hide hcall;clear hn hcall
 go_enter Tryz.func95,Tryz.ntmps95
 go_wp2_with (first | (go_at_fn n;refine (HC.out W).mono ?_;rintro e w2 ⟨rfl,hb2⟩) | (refine wpList_load_mid rfl 99 (.tmp 1) rfl Bf 0 rfl _ _ HR.out hun rfl (by kernel_rfl) ?_))
 go_ret;exact ⟨rfl,hb.trans (hb2.mono hb.size)⟩
theorem Md (ho:Box w Bo [.func (.func 91) #[] #[ptr Bf]]) (hf:Box w Bf (aj r s A c)) (hp:bT w S A c s.aA):sN 100 #[ptr Bo] WC (fun b=>decide (b ∉ s.aA)) w:=by
 refine ⟨enters_of Tryz.func100 (by kernel_rfl) rfl,fun W b hb=>?_⟩;have ko:=ho.below hb;have Fv:=ko.2 0 _ rfl
 go_enter Tryz.func100,Tryz.ntmps100
 go_wp2_with (go_at_call 91;refine (on_any hf hp _ _ hb).mono ?_;rintro e nH ⟨rfl,rfl⟩)
 go_ret;exact ⟨cO (by simp),hb⟩
theorem Ez (hx:Box w Bx (aB ⟨x,P,d⟩)) (ho:Box w Bo [.func (.func 91) #[] #[ptr Bf]]) (hf:Box w Bf (aj r s A c)) (hp:bT w S A c s.aA) (hpp:fA w S P d x.aF) (hpos:∀ p∈x.aF,0≤p.aT):
 Asks 98 #[ptr Bx,ptr Bo] (M.q7 s x) w:=by
 refine ⟨enters_of Tryz.func98 (by kernel_rfl) rfl,fun W hb=>?_⟩;have kx:=hx.below hb;have NR:=kx.2 0 _ rfl;have NS:=kx.2 1 _ rfl;have WM:=kx.2 2 _ rfl;have XP:=kx.2 3 _ rfl;have XQ:=kx.2 4 _ rfl;have Zd:=kx.2 5 _ rfl;have kx6:=kx.2 6 _ rfl;have Dz:=jq S x P d W (hpp.below hb) hpos
 have hq:M.q7 s x=(!((M.objects x).any fun b=>decide (b ∉ s.aA)) && (decide (0<x.first) || decide (M.objects x=[]))):=by
  unfold M.q7;rw [Bool.eq_iff_iff];simp only [Bool.and_eq_true,Bool.not_eq_true',Bool.or_eq_true,decide_eq_true_eq]
 rw [hq];obtain ⟨zs,hzs⟩:∃ z,M.objects x=z:=⟨_,rfl⟩
 simp only [hzs] at Dz ⊢
 clear hq hzs;obtain ⟨b1,h1⟩:∃ b,(zs.any fun b=>decide (b ∉ s.aA))=b:=⟨_,rfl⟩;rw [h1];have H1:=hide h1;clear h1;have HO:=hide Dz;clear Dz
 have hz0:decide (zs=[])=((zs.length:Int) == 0):=by cases zs with | nil=>rfl | cons a l=>simp;omega
 rw [hz0];clear hz0;obtain ⟨b3,h3⟩:∃ b,((zs.length:Int) == 0)=b:=⟨_,rfl⟩;rw [h3];obtain ⟨b2,h2⟩:∃ b,decide (0<x.first)=b:=⟨_,rfl⟩;rw [h2]
 have CF:∀ A1 c1 W1,bT W1 (fun b=>W.heap.size≤b) A1 c1 zs→Below w.heap.size w W1→Calls Tryz.prog 99 #[.slice A1 zs.length c1,.func (.func 100) #[] #[ptr Bo]] W1 fun e w'=>e= .returned (.bool b1)∧Below W1.heap.size W1 w':=fun A1 c1 W1 h hb1=>by
  have:=KJ _ A1 c1 zs _ _ _ W1 h (Md (ho.below hb1) (hf.below hb1) (hp.below hb1))
  rwa [H1.out] at this
 have HCF:=hide CF;clear CF
 cases b1 with
 | true=>
   go_enter Tryz.func98,Tryz.ntmps98
   go_wp2_with (first | (go_at_call 81;refine HO.out.mono ?_;rintro e w1 ⟨A1,c1,rfl,hr1,hb1⟩;have hb1':=hb.trans (hb1.mono hb.size);have Zc:=(hb1'.cell (p:=⟨Bx,4,none⟩) hx.1).trans (hx.2 4 _ rfl)) | (go_at_call 99;refine (HCF.out _ _ _ hr1 hb1').mono ?_;rintro e w2 ⟨rfl,hb2⟩;have hb2':=hb1'.trans (hb2.mono hb1'.size);have Vy:=(hb2'.cell (p:=⟨Bx,4,none⟩) hx.1).trans (hx.2 4 _ rfl)))
   go_ret;exact ⟨cO (by simp),hb2'⟩
 | false=>
   cases b2 with
   | true=>
     go_enter Tryz.func98,Tryz.ntmps98
     go_wp2_with (first | (go_at_call 81;refine HO.out.mono ?_;rintro e w1 ⟨A1,c1,rfl,hr1,hb1⟩;have hb1':=hb.trans (hb1.mono hb.size);have Zc:=(hb1'.cell (p:=⟨Bx,4,none⟩) hx.1).trans (hx.2 4 _ rfl)) | (go_at_call 99;refine (HCF.out _ _ _ hr1 hb1').mono ?_;rintro e w2 ⟨rfl,hb2⟩;have hb2':=hb1'.trans (hb2.mono hb1'.size);have Vy:=(hb2'.cell (p:=⟨Bx,4,none⟩) hx.1).trans (hx.2 4 _ rfl)))
     go_ret;exact ⟨cO (by simp),hb2'⟩
   | false=>
     cases b3
     all_goals
      go_enter Tryz.func98,Tryz.ntmps98
      go_wp2_with (first | (go_at_call 81;refine HO.out.mono ?_;rintro e w1 ⟨A1,c1,rfl,hr1,hb1⟩;have hb1':=hb.trans (hb1.mono hb.size);have Zc:=(hb1'.cell (p:=⟨Bx,4,none⟩) hx.1).trans (hx.2 4 _ rfl)) | (go_at_call 99;refine (HCF.out _ _ _ hr1 hb1').mono ?_;rintro e w2 ⟨rfl,hb2⟩;have hb2':=hb1'.trans (hb2.mono hb1'.size);have Vy:=(hb2'.cell (p:=⟨Bx,4,none⟩) hx.1).trans (hx.2 4 _ rfl)))
      go_ret;exact ⟨cO (by simp),hb2'⟩
end
theorem Keeps.box {w B W:World} {nb b:Nat} {cs:List Value} (h:Keeps w B nb W) (hb:Box B b cs) (hl:b<w.heap.size+nb):Box W b cs:=
 ⟨Nat.lt_of_lt_of_le hl h.sz,fun j v hj=>(h.cell b j hl).trans (hb.2 j v hj)⟩
def lgG:Nat→Nat:=fun j=>[92,93,94,95,96,97,98].getD j 0
def lgL (N D L:Nat):Nat→Array Value:=fun j=>[#[ptr N], #[ptr (N+3),ptr (N+1),ptr N], #[ptr (N+3),ptr N,ptr (N+1)], #[ptr D,ptr N], #[ptr L,ptr (N+2),ptr (N+1)], #[ptr (N+1),ptr (N+2)], #[ptr (N+1),ptr (N+2)]].getD j #[]
theorem LJ (S:Nat→Prop) (r:M.Rules) (s:M.State) (x:M.aV) (A P:Option Addr) (c d:Nat) (w:World) (hp:bT w S A c s.aA) (hpp:fA w S P d x.aF) (hx:sV x) (hpos:∀ p∈x.aF,0≤p.aT):
 Calls Tryz.prog 48 #[dP r s A c,iG x P d] w fun e w'=>e= .returned (.int .i64 (M.legal r s x))∧Below w.heap.size w w':=by
 obtain ⟨e1,e2,e3⟩:=hpp.bd;obtain ⟨e4,e5,e6⟩:=hp.bd;rw [M.LK r s x (DZ hx.first).1];have hk:=hx.kind;obtain ⟨g,tg,fo⟩:=r;obtain ⟨a0,a1,a2,a3,a4,gr,bl,b0,b1,b2,b3,b4,b5,b6,b7⟩:=s;obtain ⟨pl,kd,ba,po,fi,cu,aF⟩:=x
 simp only at hp hpp e1 e3 e4 e6 hk hpos
 have K0:Keeps w ((((w.alloc (.cells #[.string g,.int .i64 tg,.int .i64 fo,.int .i64 a0,.bool a1,.bool a2,.bool a3,.bool a4,.int .i64 gr,.slice A bl.length c,.int .i64 b0,.int .i64 b1,.int .i64 b2,.int .i64 b3,.int .i64 b4,.int .i64 b5,.bool b6,.int .i64 b7] 99)).alloc (.cells #[.int .i64 pl,.string kd,.int .i64 ba,.int .i64 po,.int .i64 fi,.bool cu,.slice P aF.length d] 27)).alloc (.cells #[.func (.func 91) #[] #[ptr w.heap.size]] 134)).alloc (.cells #[.bool (decide (kd=M.bf))] 4)) 4 ((((w.alloc (.cells #[.string g,.int .i64 tg,.int .i64 fo,.int .i64 a0,.bool a1,.bool a2,.bool a3,.bool a4,.int .i64 gr,.slice A bl.length c,.int .i64 b0,.int .i64 b1,.int .i64 b2,.int .i64 b3,.int .i64 b4,.int .i64 b5,.bool b6,.int .i64 b7] 99)).alloc (.cells #[.int .i64 pl,.string kd,.int .i64 ba,.int .i64 po,.int .i64 fi,.bool cu,.slice P aF.length d] 27)).alloc (.cells #[.func (.func 91) #[] #[ptr w.heap.size]] 134)).alloc (.cells #[.bool (decide (kd=M.bf))] 4)):=Keeps.of ((((Below.refl _ _).alloc (Nat.le_refl _) _).alloc (by simp) _).alloc (by simp;omega) _ |>.alloc (by simp;omega) _) (by simp)
 have hsz:((((w.alloc (.cells #[.string g,.int .i64 tg,.int .i64 fo,.int .i64 a0,.bool a1,.bool a2,.bool a3,.bool a4,.int .i64 gr,.slice A bl.length c,.int .i64 b0,.int .i64 b1,.int .i64 b2,.int .i64 b3,.int .i64 b4,.int .i64 b5,.bool b6,.int .i64 b7] 99)).alloc (.cells #[.int .i64 pl,.string kd,.int .i64 ba,.int .i64 po,.int .i64 fi,.bool cu,.slice P aF.length d] 27)).alloc (.cells #[.func (.func 91) #[] #[ptr w.heap.size]] 134)).alloc (.cells #[.bool (decide (kd=M.bf))] 4)).heap.size=w.heap.size+4:=by simp
 have hl0:=iT hk (w:=(((((w.alloc (.cells #[.string g,.int .i64 tg,.int .i64 fo,.int .i64 a0,.bool a1,.bool a2,.bool a3,.bool a4,.int .i64 gr,.slice A bl.length c,.int .i64 b0,.int .i64 b1,.int .i64 b2,.int .i64 b3,.int .i64 b4,.int .i64 b5,.bool b6,.int .i64 b7] 99)).alloc (.cells #[.int .i64 pl,.string kd,.int .i64 ba,.int .i64 po,.int .i64 fi,.bool cu,.slice P aF.length d] 27)).alloc (.cells #[.func (.func 91) #[] #[ptr w.heap.size]] 134)).alloc (.cells #[.bool (decide (kd=M.bf))] 4)).alloc (.map (kE 6) 6)).drew) (g:=w.heap.size+4) (by have h:=heap_alloc_new ((((w.alloc (.cells #[.string g,.int .i64 tg,.int .i64 fo,.int .i64 a0,.bool a1,.bool a2,.bool a3,.bool a4,.int .i64 gr,.slice A bl.length c,.int .i64 b0,.int .i64 b1,.int .i64 b2,.int .i64 b3,.int .i64 b4,.int .i64 b5,.bool b6,.int .i64 b7] 99)).alloc (.cells #[.int .i64 pl,.string kd,.int .i64 ba,.int .i64 po,.int .i64 fi,.bool cu,.slice P aF.length d] 27)).alloc (.cells #[.func (.func 91) #[] #[ptr w.heap.size]] 134)).alloc (.cells #[.bool (decide (kd=M.bf))] 4)) (.map (kE 6) 6);rwa [hsz] at h) false;have hl1:=iT hk (w:=((((((w.alloc (.cells #[.string g,.int .i64 tg,.int .i64 fo,.int .i64 a0,.bool a1,.bool a2,.bool a3,.bool a4,.int .i64 gr,.slice A bl.length c,.int .i64 b0,.int .i64 b1,.int .i64 b2,.int .i64 b3,.int .i64 b4,.int .i64 b5,.bool b6,.int .i64 b7] 99)).alloc (.cells #[.int .i64 pl,.string kd,.int .i64 ba,.int .i64 po,.int .i64 fi,.bool cu,.slice P aF.length d] 27)).alloc (.cells #[.func (.func 91) #[] #[ptr w.heap.size]] 134)).alloc (.cells #[.bool (decide (kd=M.bf))] 4)).alloc (.map (kE 6) 6)).alloc (.cells #[.bool false,.bool false,.nilFunc] 157)).drew) (g:=w.heap.size+4) (by have h:=heap_alloc_new ((((w.alloc (.cells #[.string g,.int .i64 tg,.int .i64 fo,.int .i64 a0,.bool a1,.bool a2,.bool a3,.bool a4,.int .i64 gr,.slice A bl.length c,.int .i64 b0,.int .i64 b1,.int .i64 b2,.int .i64 b3,.int .i64 b4,.int .i64 b5,.bool b6,.int .i64 b7] 99)).alloc (.cells #[.int .i64 pl,.string kd,.int .i64 ba,.int .i64 po,.int .i64 fi,.bool cu,.slice P aF.length d] 27)).alloc (.cells #[.func (.func 91) #[] #[ptr w.heap.size]] 134)).alloc (.cells #[.bool (decide (kd=M.bf))] 4)) (.map (kE 6) 6);rw [hsz] at h;exact (heap_alloc_old _ _ (by simp)).trans h) false;have hl2:=iT hk (w:=((((((w.alloc (.cells #[.string g,.int .i64 tg,.int .i64 fo,.int .i64 a0,.bool a1,.bool a2,.bool a3,.bool a4,.int .i64 gr,.slice A bl.length c,.int .i64 b0,.int .i64 b1,.int .i64 b2,.int .i64 b3,.int .i64 b4,.int .i64 b5,.bool b6,.int .i64 b7] 99)).alloc (.cells #[.int .i64 pl,.string kd,.int .i64 ba,.int .i64 po,.int .i64 fi,.bool cu,.slice P aF.length d] 27)).alloc (.cells #[.func (.func 91) #[] #[ptr w.heap.size]] 134)).alloc (.cells #[.bool (decide (kd=M.bf))] 4)).alloc (.cells #[.bool false,.bool false,.nilFunc] 157)).alloc (.map (kE 6) 6)).drew) (g:=w.heap.size+5) (by have h:=heap_alloc_new (((((w.alloc (.cells #[.string g,.int .i64 tg,.int .i64 fo,.int .i64 a0,.bool a1,.bool a2,.bool a3,.bool a4,.int .i64 gr,.slice A bl.length c,.int .i64 b0,.int .i64 b1,.int .i64 b2,.int .i64 b3,.int .i64 b4,.int .i64 b5,.bool b6,.int .i64 b7] 99)).alloc (.cells #[.int .i64 pl,.string kd,.int .i64 ba,.int .i64 po,.int .i64 fi,.bool cu,.slice P aF.length d] 27)).alloc (.cells #[.func (.func 91) #[] #[ptr w.heap.size]] 134)).alloc (.cells #[.bool (decide (kd=M.bf))] 4)).alloc (.cells #[.bool false,.bool false,.nilFunc] 157)) (.map (kE 6) 6);rwa [show (((((w.alloc (.cells #[.string g,.int .i64 tg,.int .i64 fo,.int .i64 a0,.bool a1,.bool a2,.bool a3,.bool a4,.int .i64 gr,.slice A bl.length c,.int .i64 b0,.int .i64 b1,.int .i64 b2,.int .i64 b3,.int .i64 b4,.int .i64 b5,.bool b6,.int .i64 b7] 99)).alloc (.cells #[.int .i64 pl,.string kd,.int .i64 ba,.int .i64 po,.int .i64 fi,.bool cu,.slice P aF.length d] 27)).alloc (.cells #[.func (.func 91) #[] #[ptr w.heap.size]] 134)).alloc (.cells #[.bool (decide (kd=M.bf))] 4)).alloc (.cells #[.bool false,.bool false,.nilFunc] 157)).heap.size=w.heap.size+5 by simp] at h) false
 have hcc:(kd.toList == [99,111,110,99,101,100,101])=decide (kd=M.bf):=by
  rw [Bool.eq_iff_iff,beq_iff_eq,decide_eq_true_eq];exact ⟨fun e=>mV (by rw [e,ByteArray.toList_eq]),fun e=>by subst e;rw [ByteArray.toList_eq]⟩
 clear hsz
 go_enter Tryz.func48,Tryz.ntmps48
 go_upto_region 3 with (fail)
 go_cut [7] (fun v7 wx=>∃ D,v7=ptr D∧Box wx D [.bool (M.jr kd),.bool (XO kd),.func (.func (PK kd)) #[] #[]]∧Keeps w ((((w.alloc (.cells #[.string g,.int .i64 tg,.int .i64 fo,.int .i64 a0,.bool a1,.bool a2,.bool a3,.bool a4,.int .i64 gr,.slice A bl.length c,.int .i64 b0,.int .i64 b1,.int .i64 b2,.int .i64 b3,.int .i64 b4,.int .i64 b5,.bool b6,.int .i64 b7] 99)).alloc (.cells #[.int .i64 pl,.string kd,.int .i64 ba,.int .i64 po,.int .i64 fi,.bool cu,.slice P aF.length d] 27)).alloc (.cells #[.func (.func 91) #[] #[ptr w.heap.size]] 134)).alloc (.cells #[.bool (decide (kd=M.bf))] 4)) 4 wx)
 case first=>
  go_region_held3 (fun w'=>∀ p q,p<w.heap.size+4→w'.cell? ⟨p,q,none⟩=((((w.alloc (.cells #[.string g,.int .i64 tg,.int .i64 fo,.int .i64 a0,.bool a1,.bool a2,.bool a3,.bool a4,.int .i64 gr,.slice A bl.length c,.int .i64 b0,.int .i64 b1,.int .i64 b2,.int .i64 b3,.int .i64 b4,.int .i64 b5,.bool b6,.int .i64 b7] 99)).alloc (.cells #[.int .i64 pl,.string kd,.int .i64 ba,.int .i64 po,.int .i64 fi,.bool cu,.slice P aF.length d] 27)).alloc (.cells #[.func (.func 91) #[] #[ptr w.heap.size]] 134)).alloc (.cells #[.bool (decide (kd=M.bf))] 4)).cell? ⟨p,q,none⟩) (first | exact K0.cell | exact (K0.alloc _).cell | exact ((K0.alloc _).alloc _).cell) (first | (go_at_call 63;refine (sF _).mono ?_;rintro e w1 ⟨rfl,rfl⟩))
  all_goals go_wp2
  all_goals go_meet
  all_goals exact ⟨_,rfl,by first | exact (Box.newAt _ [_,_,_] _ _ (by simp)) | exact (Box.newAt _ [_,_,_] _ _ (by simp)).alloc _,((K0.alloc _).alloc _).drew⟩
 case rest=>
  obtain ⟨D,rfl,hkb,K1⟩:=hcut;clear hl0 hl1 hl2;have hbf:Box wc w.heap.size (aj ⟨g,tg,fo⟩ ⟨a0,a1,a2,a3,a4,gr,bl,b0,b1,b2,b3,b4,b5,b6,b7⟩ A c):=K1.box ((((Box.new w (aj ⟨g,tg,fo⟩ ⟨a0,a1,a2,a3,a4,gr,bl,b0,b1,b2,b3,b4,b5,b6,b7⟩ A c) _).alloc _).alloc _).alloc _) (by omega);have hbx:Box wc (w.heap.size+1) (aB ⟨⟨pl,kd,ba,po,fi,cu,aF⟩,P,d⟩):=K1.box (((Box.newAt _ (aB ⟨⟨pl,kd,ba,po,fi,cu,aF⟩,P,d⟩) _ _ (by simp)).alloc _).alloc _) (by omega);have hbo:Box wc (w.heap.size+2) [.func (.func 91) #[] #[ptr w.heap.size]]:=K1.box ((Box.newAt _ [_] _ _ (by simp)).alloc _) (by omega);have hbc:Box wc (w.heap.size+3) [.bool (decide (kd=M.bf))]:=K1.box (Box.newAt _ [_] _ _ (by simp)) (by omega);have hp1:=hp.below K1.bw;have Lr:=hpp.below K1.bw
  have hask:∀ v:Bool,v=M.calls ⟨g,tg,fo⟩ ⟨pl,kd,ba,po,fi,cu,aF⟩→Calls Tryz.prog 73 #[.slice (some ⟨wc.heap.size+1,0,none⟩) 7 7] ((wc.alloc (.cells #[.bool v] 4)).alloc (.cells #[.func (.func 92) #[] #[ptr w.heap.size],.func (.func 93) #[] #[ptr (w.heap.size+3),ptr (w.heap.size+1),ptr w.heap.size],.func (.func 94) #[] #[ptr (w.heap.size+3),ptr w.heap.size,ptr (w.heap.size+1)],.func (.func 95) #[] #[ptr D,ptr w.heap.size],.func (.func 96) #[] #[ptr wc.heap.size,ptr (w.heap.size+2),ptr (w.heap.size+1)],.func (.func 97) #[] #[ptr (w.heap.size+1),ptr (w.heap.size+2)],.func (.func 98) #[] #[ptr (w.heap.size+1),ptr (w.heap.size+2)]] 38)) fun e w'=>e= .returned (.int .i64 (M.fB 1 (M.DU ⟨g,tg,fo⟩ ⟨a0,a1,a2,a3,a4,gr,bl,b0,b1,b2,b3,b4,b5,b6,b7⟩ ⟨pl,kd,ba,po,fi,cu,aF⟩)))∧Below wc.heap.size wc w':=by
   intro v hv;subst hv;refine (JE (wc.heap.size+1) 0 7 7 lgG (lgL w.heap.size D wc.heap.size) (M.DU ⟨g,tg,fo⟩ ⟨a0,a1,a2,a3,a4,gr,bl,b0,b1,b2,b3,b4,b5,b6,b7⟩ ⟨pl,kd,ba,po,fi,cu,aF⟩) _ rfl (by omega) (by simp) ?_ ?_).mono ?_
   · intro j hj
     rw [Nat.zero_add]
     match j,hj with
     | 0,_=>exact fC _ [_,_,_,_,_,_,_] _ _ (by simp) 0 _ rfl
     | 1,_=>exact fC _ [_,_,_,_,_,_,_] _ _ (by simp) 1 _ rfl
     | 2,_=>exact fC _ [_,_,_,_,_,_,_] _ _ (by simp) 2 _ rfl
     | 3,_=>exact fC _ [_,_,_,_,_,_,_] _ _ (by simp) 3 _ rfl
     | 4,_=>exact fC _ [_,_,_,_,_,_,_] _ _ (by simp) 4 _ rfl
     | 5,_=>exact fC _ [_,_,_,_,_,_,_] _ _ (by simp) 5 _ rfl
     | 6,_=>exact fC _ [_,_,_,_,_,_,_] _ _ (by simp) 6 _ rfl
   · intro j hj _
     match j,hj with
     | 0,_=>exact Oz ((hbf.alloc _).alloc _)
     | 1,_=>exact OA (x:=⟨pl,kd,ba,po,fi,cu,aF⟩) ((hbc.alloc _).alloc _) ((hbx.alloc _).alloc _) ((hbf.alloc _).alloc _)
     | 2,_=>exact KF (x:=⟨pl,kd,ba,po,fi,cu,aF⟩) ((hbc.alloc _).alloc _) ((hbf.alloc _).alloc _) ((hbx.alloc _).alloc _)
     | 3,_=>exact AA kd _ _ ((hkb.alloc _).alloc _) ((hbf.alloc _).alloc _)
     | 4,_=>exact Oy (x:=⟨pl,kd,ba,po,fi,cu,aF⟩) ((Box.new wc [_] _).alloc _) ((hbo.alloc _).alloc _) ((hbx.alloc _).alloc _) ((hbf.alloc _).alloc _) ((hp1.alloc _).alloc _)
     | 5,_=>exact KG (x:=⟨pl,kd,ba,po,fi,cu,aF⟩) ((hbx.alloc _).alloc _) ((hbo.alloc _).alloc _) ((hbf.alloc _).alloc _) ((hp1.alloc _).alloc _)
     | 6,_=>exact Ez (x:=⟨pl,kd,ba,po,fi,cu,aF⟩) ((hbx.alloc _).alloc _) ((hbo.alloc _).alloc _) ((hbf.alloc _).alloc _) ((hp1.alloc _).alloc _) ((Lr.alloc _).alloc _) hpos
   · rintro e w' ⟨rfl,hb'⟩
     exact ⟨rfl,(((Below.refl _ _).alloc (Nat.le_refl _) _).alloc (by simp) _).trans (hb'.mono (by simp;omega))⟩
  have HA:=hide hask;have hk1:=hkb.2 1 _ rfl;have hc1:=K1.cell;obtain ⟨y1,hy1⟩:∃ y,XO kd=y:=⟨_,rfl⟩;obtain ⟨y2,hy2⟩:∃ y,(g.toList == [110,105,110,101])=y:=⟨_,rfl⟩
  have hcl:M.calls ⟨g,tg,fo⟩ ⟨pl,kd,ba,po,fi,cu,aF⟩=(y1 && !y2):=by
   rw [← hy1, ← hy2,KH];unfold M.calls XO;rw [Bool.eq_iff_iff];simp
  have HC:=hide hcl;rw [hy1] at hk1;clear hask hcl hy1 hbf hbx hbo hbc hkb hp1 Lr hcc
  cases y1 <;> cases y2
  all_goals
   go_wp2_with (go_at_call 73;refine (HA.out _ (by rw [HC.out];rfl)).mono ?_;rintro e w2 ⟨rfl,hb2⟩)
   go_ret;exact ⟨rfl,(K1.call hb2).bw⟩
section
variable {w:World} {Bf Bx Bp:Nat} {r:M.Rules} {s:M.State} {x:M.aV} {A P:Option Addr} {c d:Nat} {S:Nat→Prop}
theorem Dt (hx:Box w Bx (aB ⟨x,P,d⟩)) (hpp:fA w S P d x.aF):Asks 74 #[ptr Bx] (!M.jU x) w:=by
 refine ⟨enters_of Tryz.func74 (by kernel_rfl) rfl,fun W hb=>?_⟩;have kx:=hx.below hb;have NR:=kx.2 0 _ rfl;have NS:=kx.2 1 _ rfl;have WM:=kx.2 2 _ rfl;have XP:=kx.2 3 _ rfl;have XQ:=kx.2 4 _ rfl;have Zd:=kx.2 5 _ rfl;have kx6:=kx.2 6 _ rfl
 go_enter Tryz.func74,Tryz.ntmps74
 go_wp2_with (go_at_call 75;refine (BD S x P d _ (hpp.below hb)).mono ?_;rintro e w1 ⟨rfl,hb1⟩)
 go_ret;exact ⟨rfl,hb.trans (hb1.mono hb.size)⟩
theorem Io (hx:Box w Bx (aB ⟨x,P,d⟩)):Asks 76 #[ptr Bx] (decide (0<x.first)) w:=by
 refine ⟨enters_of Tryz.func76 (by kernel_rfl) rfl,fun W hb=>?_⟩;have kx:=hx.below hb;have XQ:=kx.2 4 _ rfl
 go_enter Tryz.func76,Tryz.ntmps76
 go_wp2;go_ret;exact ⟨rfl,hb⟩
theorem EM (hq:Box w Bp [.bool (decide (x.kind=M.fJ))]) (hf:Box w Bf (aj r s A c)) (hx:Box w Bx (aB ⟨x,P,d⟩)) (hp:bT w S A c s.aA) (hr:M.bP r=0) (hg:0≤s.group∧s.group≤2):
 Asks 77 #[ptr Bp,ptr Bf,ptr Bx] (decide (x.kind=M.fJ∨x.first∈M.targets r s)) w:=by
 refine ⟨enters_of Tryz.func77 (by kernel_rfl) rfl,fun W hb=>?_⟩;have kq:=hq.below hb;have Zb:=kq.2 0 _ rfl;have kx:=hx.below hb;have XQ:=kx.2 4 _ rfl;have kf:=hf.below hb;have hT:=fun W h=>xR S r s A c W h hr hg;have HT:=hide hT
 have AY:∀ w':World,(fun w':World=>∀ p q,p<W.heap.size→w'.cell? ⟨p,q,none⟩=W.cell? ⟨p,q,none⟩) w'→w'.rangeAt Bf 0 [.string r.game,.int .i64 r.target,.int .i64 r.bG,.int .i64 s.turn,.bool s.brk,.bool s.hand,.bool s.push,.bool s.pushed,.int .i64 s.group,.slice A s.aA.length c,.int .i64 s.s0,.int .i64 s.s1,.int .i64 s.f0,.int .i64 s.f1,.int .i64 s.run,.int .i64 s.bI,.bool s.over,.int .i64 s.bQ]:=fun w' h j v hj=>by rw [Nat.zero_add,h _ _ kf.1];exact kf.2 j v hj
 have hun:=Tryz.underlying99;have hbx:=kx.1;have hbq:=kq.1;rw [show decide (x.kind=M.fJ∨x.first∈M.targets r s)=(decide (x.kind=M.fJ) || decide (x.first∈M.targets r s)) by rw [Bool.eq_iff_iff];simp];clear hT
 cases hy:decide (x.kind=M.fJ) with
 | true=>
   rw [hy] at Zb;have HY:=hide hy;clear hy
   go_enter Tryz.func77,Tryz.ntmps77
   go_wp2
   go_quiet (fail)
   go_wp2;go_ret;exact ⟨cO (by simp),below_drewN hb _⟩
 | false=>
   rw [hy] at Zb;have HY:=hide hy;clear hy
   go_enter Tryz.func77,Tryz.ntmps77
   go_wp2;refine wp_region_held_drew (S:=(fun w':World=>∀ p q,p<W.heap.size→w'.cell? ⟨p,q,none⟩=W.cell? ⟨p,q,none⟩)) (by kernel_rfl) ?dS (fun hHeld=>?_)
   case dS=>first | exact fun p q h=>K1.cell p q (by omega) | exact fun p q h=>rfl
   refine tk 0 ?_;refine tk 1 ?_;refine wpAnyH_take (i:=2) (oi:=_) (v:=_) (ga rfl) (by kernel_rfl) (by kernel_rfl) (by kernel_rfl) (fun _ _ _ h=>h) (yieldsIf_load_mid (by rfl) _ _ (by rfl) _ _ (by rfl) _ _ AY hun rfl (by kernel_rfl)) (by assumption) ?_
   try simp only [Act.put,la,lz,ls]
   refine tk 4 ?_;refine tk 5 ?_;refine tr 3 fun K hK=>?_;go_simp
   (first | (go_at_call 79;refine (HT.out W.drew (bT.drewN (hp.below hb) 1)).mono ?_;rintro e w1 ⟨A1,c1,rfl,hr1,hb1⟩;have K1:Keeps W W 0 w1:=(Keeps.of0 W).drew.call hb1) | (go_at_call 78;refine (jS _ A1 c1 _ _ _ hr1).mono ?_;rintro e nH ⟨rfl,rfl⟩))
   refine hK.out _ _ ?GI (fun hHeld=>?_)
   case GI=>(first | (first | exact fun p q h=>K1.cell p q (by omega) | exact fun p q h=>rfl) | (dsimp only;first | exact fun p q h=>K1.cell p q (by omega) | exact fun p q h=>rfl))
   clear hK K
   try simp only [Act.put,la,lz,ls]
   refine tr 6 fun K hK=>?_;go_simp
   (first | (go_at_call 79;refine (HT.out W.drew (bT.drewN (hp.below hb) 1)).mono ?_;rintro e w1 ⟨A1,c1,rfl,hr1,hb1⟩;have K1:Keeps W W 0 w1:=(Keeps.of0 W).drew.call hb1) | (go_at_call 78;refine (jS _ A1 c1 _ _ _ hr1).mono ?_;rintro e nH ⟨rfl,rfl⟩))
   refine hK.out _ _ ?Zn (fun hHeld=>?_)
   case Zn=>(first | (first | exact fun p q h=>K1.cell p q (by omega) | exact fun p q h=>rfl) | (dsimp only;first | exact fun p q h=>K1.cell p q (by omega) | exact fun p q h=>rfl))
   clear hK K
   try simp only [Act.put,la,lz,ls]
   refine tk 7 ?_;refine tk 8 ?_;refine wpAnyH_done (by kernel_rfl) ?_ _;go_wp2;go_ret;exact ⟨cO (by simp),hb.trans (K1.bw.mono hb.size)⟩
theorem Ld (hq:Box w Bp [.bool (decide (x.kind=M.fJ))]) (hx:Box w Bx (aB ⟨x,P,d⟩)) (hpp:fA w S P d x.aF) (hpos:∀ p∈x.aF,0≤p.aT):
 Asks 80 #[ptr Bp,ptr Bx] (decide (x.kind=M.fJ∨x.dK=true∨0<(M.objects x).length)) w:=by
 refine ⟨enters_of Tryz.func80 (by kernel_rfl) rfl,fun W hb=>?_⟩;have kq:=hq.below hb;have Zb:=kq.2 0 _ rfl;have kx:=hx.below hb;have NR:=kx.2 0 _ rfl;have NS:=kx.2 1 _ rfl;have WM:=kx.2 2 _ rfl;have XP:=kx.2 3 _ rfl;have XQ:=kx.2 4 _ rfl;have Zd:=kx.2 5 _ rfl;have kx6:=kx.2 6 _ rfl;have Dz:=jq S {x with dK:=false } P d W (hpp.below hb) hpos;rw [show M.objects {x with dK:=false }=M.objects x from rfl] at Dz;have HO:=hide Dz;rw [show decide (x.kind=M.fJ∨x.dK=true∨0<(M.objects x).length)=(decide (x.kind=M.fJ) || (x.dK || decide (0<(M.objects x).length))) by rw [Bool.eq_iff_iff];simp];clear Dz
 cases hy:decide (x.kind=M.fJ) with
 | true=>
   rw [hy] at Zb;have HY:=hide hy;clear hy
   go_enter Tryz.func80,Tryz.ntmps80
   go_wp2;go_ret;exact ⟨cO (by simp),hb⟩
 | false=>
   rw [hy] at Zb;have HY:=hide hy;clear hy
   cases hc:x.dK with
   | true=>
     rw [hc] at Zd
     go_enter Tryz.func80,Tryz.ntmps80
     go_wp2;go_ret;exact ⟨cO (by simp),hb⟩
   | false=>
     rw [hc] at Zd
     go_enter Tryz.func80,Tryz.ntmps80
     go_wp2_with (go_at_call 81;refine HO.out.mono ?_;rintro e w1 ⟨A1,c1,rfl,hr1,hb1⟩)
     go_ret;exact ⟨cO (by simp),hb.trans (hb1.mono hb.size)⟩
end
def flG:Nat→Nat:=fun j=>[74,76,77,80].getD j 0
def flL (N L:Nat):Nat→Array Value:=fun j=>[#[ptr (N+1)], #[ptr (N+1)], #[ptr L,ptr N,ptr (N+1)], #[ptr L,ptr (N+1)]].getD j #[]
theorem uJ (S:Nat→Prop) (r:M.Rules) (s:M.State) (x:M.aV) (A P:Option Addr) (c d:Nat) (w:World) (hp:bT w S A c s.aA) (hpp:fA w S P d x.aF) (hx:sV x) (hpos:∀ p∈x.aF,0≤p.aT) (hr:M.bP r=0) (hg:0≤s.group∧s.group≤2):
 Calls Tryz.prog 39 #[dP r s A c,iG x P d] w fun e w'=>e= .returned (.int .i64 (M.fU r s x))∧Below w.heap.size w w':=by
 obtain ⟨e1,e2,e3⟩:=hpp.bd;obtain ⟨e4,e5,e6⟩:=hp.bd;rw [M.OY r s x (DZ hx.first).1];have hk:=hx.kind;obtain ⟨g,tg,fo⟩:=r;obtain ⟨a0,a1,a2,a3,a4,gr,bl,b0,b1,b2,b3,b4,b5,b6,b7⟩:=s;obtain ⟨pl,kd,ba,po,fi,cu,aF⟩:=x
 simp only at hp hpp e1 e3 e4 e6 hk hpos hg
 have K0:Keeps w ((w.alloc (.cells #[.string g,.int .i64 tg,.int .i64 fo,.int .i64 a0,.bool a1,.bool a2,.bool a3,.bool a4,.int .i64 gr,.slice A bl.length c,.int .i64 b0,.int .i64 b1,.int .i64 b2,.int .i64 b3,.int .i64 b4,.int .i64 b5,.bool b6,.int .i64 b7] 99)).alloc (.cells #[.int .i64 pl,.string kd,.int .i64 ba,.int .i64 po,.int .i64 fi,.bool cu,.slice P aF.length d] 27)) 2 ((w.alloc (.cells #[.string g,.int .i64 tg,.int .i64 fo,.int .i64 a0,.bool a1,.bool a2,.bool a3,.bool a4,.int .i64 gr,.slice A bl.length c,.int .i64 b0,.int .i64 b1,.int .i64 b2,.int .i64 b3,.int .i64 b4,.int .i64 b5,.bool b6,.int .i64 b7] 99)).alloc (.cells #[.int .i64 pl,.string kd,.int .i64 ba,.int .i64 po,.int .i64 fi,.bool cu,.slice P aF.length d] 27)):=Keeps.of2 w _ _
 have hsz:((w.alloc (.cells #[.string g,.int .i64 tg,.int .i64 fo,.int .i64 a0,.bool a1,.bool a2,.bool a3,.bool a4,.int .i64 gr,.slice A bl.length c,.int .i64 b0,.int .i64 b1,.int .i64 b2,.int .i64 b3,.int .i64 b4,.int .i64 b5,.bool b6,.int .i64 b7] 99)).alloc (.cells #[.int .i64 pl,.string kd,.int .i64 ba,.int .i64 po,.int .i64 fi,.bool cu,.slice P aF.length d] 27)).heap.size=w.heap.size+2:=by simp
 have hl0:=iT hk (w:=(((w.alloc (.cells #[.string g,.int .i64 tg,.int .i64 fo,.int .i64 a0,.bool a1,.bool a2,.bool a3,.bool a4,.int .i64 gr,.slice A bl.length c,.int .i64 b0,.int .i64 b1,.int .i64 b2,.int .i64 b3,.int .i64 b4,.int .i64 b5,.bool b6,.int .i64 b7] 99)).alloc (.cells #[.int .i64 pl,.string kd,.int .i64 ba,.int .i64 po,.int .i64 fi,.bool cu,.slice P aF.length d] 27)).alloc (.map (kE 6) 6)).drew) (g:=w.heap.size+2) (by have h:=heap_alloc_new ((w.alloc (.cells #[.string g,.int .i64 tg,.int .i64 fo,.int .i64 a0,.bool a1,.bool a2,.bool a3,.bool a4,.int .i64 gr,.slice A bl.length c,.int .i64 b0,.int .i64 b1,.int .i64 b2,.int .i64 b3,.int .i64 b4,.int .i64 b5,.bool b6,.int .i64 b7] 99)).alloc (.cells #[.int .i64 pl,.string kd,.int .i64 ba,.int .i64 po,.int .i64 fi,.bool cu,.slice P aF.length d] 27)) (.map (kE 6) 6);rwa [hsz] at h) false
 have hpu:(kd.toList == [112,117,115,104])=decide (kd=M.fJ):=by
  rw [Bool.eq_iff_iff,beq_iff_eq,decide_eq_true_eq];exact ⟨fun e=>mV (by rw [e,ByteArray.toList_eq]),fun e=>by subst e;rw [ByteArray.toList_eq]⟩
 clear hsz
 have hfd:∀ (a b:Bool) (f:Value) (w:World),(Instr.field 157 (.agg #[.bool a,.bool b,f]) 0).run Tryz.prog w= .ok (.bool a) w:=fun _ _ _ _=>by kernel_rfl
 go_enter Tryz.func39,Tryz.ntmps39
 go_upto_region 1 with (fail)
 go_cut [11] (fun v wx=>v= .bool (!M.jr kd)∧Keeps w ((w.alloc (.cells #[.string g,.int .i64 tg,.int .i64 fo,.int .i64 a0,.bool a1,.bool a2,.bool a3,.bool a4,.int .i64 gr,.slice A bl.length c,.int .i64 b0,.int .i64 b1,.int .i64 b2,.int .i64 b3,.int .i64 b4,.int .i64 b5,.bool b6,.int .i64 b7] 99)).alloc (.cells #[.int .i64 pl,.string kd,.int .i64 ba,.int .i64 po,.int .i64 fi,.bool cu,.slice P aF.length d] 27)) 2 wx)
 case first=>
  refine wp_region_held_drew (S:=(fun w'=>∀ p q,p<w.heap.size+2→w'.cell? ⟨p,q,none⟩=((w.alloc (.cells #[.string g,.int .i64 tg,.int .i64 fo,.int .i64 a0,.bool a1,.bool a2,.bool a3,.bool a4,.int .i64 gr,.slice A bl.length c,.int .i64 b0,.int .i64 b1,.int .i64 b2,.int .i64 b3,.int .i64 b4,.int .i64 b5,.bool b6,.int .i64 b7] 99)).alloc (.cells #[.int .i64 pl,.string kd,.int .i64 ba,.int .i64 po,.int .i64 fi,.bool cu,.slice P aF.length d] 27)).cell? ⟨p,q,none⟩)) (by kernel_rfl) ?dS (fun hHeld=>?_)
  case dS=>first | exact K0.cell | exact (K0.alloc _).cell
  refine tk 1 ?_;refine tk 2 ?_;refine tr 0 fun K hK=>?_;go_simp
  (go_at_call 63;refine (sF _).mono ?_;rintro e w1 ⟨rfl,rfl⟩)
  refine hK.out _ _ ?Zk (fun hHeld=>?_)
  case Zk=>(first | (first | exact K0.cell | exact (K0.alloc _).cell) | (dsimp only;first | exact K0.cell | exact (K0.alloc _).cell))
  clear hK K
  try simp only [Act.put,la,lz,ls]
  refine tr 3 fun K hK=>?_;go_simp;refine hK.out _ _ ?GI (fun hHeld=>?_)
  case GI=>(first | (first | exact K0.cell | exact (K0.alloc _).cell) | (dsimp only;first | exact K0.cell | exact (K0.alloc _).cell))
  clear hK K
  try simp only [Act.put,la,lz,ls]
  refine tk 4 ?_;refine tk 5 ?_;refine wpAnyH_done (by kernel_rfl) ?_ _;go_wp2;go_meet;exact ⟨rfl,(K0.alloc _).drew⟩
 case rest=>
  obtain ⟨rfl,K1⟩:=hcut;clear hl0;have hbf:Box wc w.heap.size (aj ⟨g,tg,fo⟩ ⟨a0,a1,a2,a3,a4,gr,bl,b0,b1,b2,b3,b4,b5,b6,b7⟩ A c):=K1.box ((Box.new w (aj ⟨g,tg,fo⟩ ⟨a0,a1,a2,a3,a4,gr,bl,b0,b1,b2,b3,b4,b5,b6,b7⟩ A c) _).alloc _) (by omega);have hbx:Box wc (w.heap.size+1) (aB ⟨⟨pl,kd,ba,po,fi,cu,aF⟩,P,d⟩):=K1.box (Box.newAt _ (aB ⟨⟨pl,kd,ba,po,fi,cu,aF⟩,P,d⟩) _ _ (by simp)) (by omega);have hp1:=hp.below K1.bw;have Lr:=hpp.below K1.bw
  have hask:Calls Tryz.prog 73 #[.slice (some ⟨wc.heap.size+1,0,none⟩) 4 4] ((wc.alloc (.cells #[.bool (decide (kd=M.fJ))] 4)).alloc (.cells #[.func (.func 74) #[] #[ptr (w.heap.size+1)],.func (.func 76) #[] #[ptr (w.heap.size+1)],.func (.func 77) #[] #[ptr wc.heap.size,ptr w.heap.size,ptr (w.heap.size+1)],.func (.func 80) #[] #[ptr wc.heap.size,ptr (w.heap.size+1)]] 38)) fun e w'=>e= .returned (.int .i64 (M.fB 1 (M.JK ⟨g,tg,fo⟩ ⟨a0,a1,a2,a3,a4,gr,bl,b0,b1,b2,b3,b4,b5,b6,b7⟩ ⟨pl,kd,ba,po,fi,cu,aF⟩)))∧Below wc.heap.size wc w':=by
   refine (JE (wc.heap.size+1) 0 4 4 flG (flL w.heap.size wc.heap.size) (M.JK ⟨g,tg,fo⟩ ⟨a0,a1,a2,a3,a4,gr,bl,b0,b1,b2,b3,b4,b5,b6,b7⟩ ⟨pl,kd,ba,po,fi,cu,aF⟩) _ rfl (by omega) (by simp) ?_ ?_).mono ?_
   · intro j hj
     rw [Nat.zero_add]
     match j,hj with
     | 0,_=>exact fC _ [_,_,_,_] _ _ (by simp) 0 _ rfl
     | 1,_=>exact fC _ [_,_,_,_] _ _ (by simp) 1 _ rfl
     | 2,_=>exact fC _ [_,_,_,_] _ _ (by simp) 2 _ rfl
     | 3,_=>exact fC _ [_,_,_,_] _ _ (by simp) 3 _ rfl
   · intro j hj _
     match j,hj with
     | 0,_=>exact Dt (x:=⟨pl,kd,ba,po,fi,cu,aF⟩) ((hbx.alloc _).alloc _) ((Lr.alloc _).alloc _)
     | 1,_=>exact Io (x:=⟨pl,kd,ba,po,fi,cu,aF⟩) ((hbx.alloc _).alloc _)
     | 2,_=>exact EM (x:=⟨pl,kd,ba,po,fi,cu,aF⟩) ((Box.new wc [_] _).alloc _) ((hbf.alloc _).alloc _) ((hbx.alloc _).alloc _) ((hp1.alloc _).alloc _) hr hg
     | 3,_=>exact Ld (x:=⟨pl,kd,ba,po,fi,cu,aF⟩) ((Box.new wc [_] _).alloc _) ((hbx.alloc _).alloc _) ((Lr.alloc _).alloc _) hpos
   · rintro e w' ⟨rfl,hb'⟩
     exact ⟨rfl,(((Below.refl _ _).alloc (Nat.le_refl _) _).alloc (by simp) _).trans (hb'.mono (by simp;omega))⟩
  have HA:=hide hask;have hc1:=K1.cell;clear hask hbf hbx hp1 Lr
  cases hpl:M.jr kd with
  | true=>
    have HP:=hide hpl;clear hpl
    go_wp2_with (go_at_call 73;refine HA.out.mono ?_;rintro e w2 ⟨rfl,hb2⟩)
    go_ret;exact ⟨rfl,(K1.call hb2).bw⟩
  | false=>
    have HP:=hide hpl;clear hpl;have hpn:(!false)=true:=rfl;go_wp2
    all_goals first | (go_ret;exact ⟨rfl,K1.bw⟩) | (exfalso;have:=HP.out;simp_all;done)
theorem kL {P:Program} {md:Region.Mode} {ops:Array Oper} {Q:Exit→Act→World→Prop} {S:World→Prop} {oi:Oper} {fuel:Nat} {listed l':Array Bool} {a a':Act} {w:World} {ty:TypeId} {x:Operand} {b o:Nat} {cs:List Value} {d:TypeDesc} (i:Nat) (hr:∀ w,S w→w.rangeAt b o cs) (hu:P.underlying ty=some d) (h:wpAnyH P md ops Q S fuel l' a' w) (hi:ops[i]? =some oi:=by exact ga rfl) (h3:(Region.noSelect ops && (Region.free md ops listed i && (Region.ready md ops listed).contains i))=true:=by kernel_rfl) (hw:Region.wanted oi (yielded ops a.tmps)=true:=by rfl) (ho:oi.op= .load ty x:=by rfl) (hx:a.eval x= .pointer (some ⟨b,o,none⟩):=by rfl) (hd:d.isRow=true:=by rfl) (hz:(P.info? ty).map (·.size)=some cs.length:=by kernel_rfl) (hS:S w:=by assumption) (hQ:∀ c a w,Q (.panic c) (a.put oi.dst (.agg cs.toArray)) w→Q (.panic c) a w:=by exact fun _ _ _ h=>h) (hl:listed.setIfInBounds i true=l':=by (try simp only [la,lz,ls]);exact rfl) (ha:a.put oi.dst (.agg cs.toArray)=a':=by (try simp only [Act.put,la,lz,ls]);exact rfl):wpAnyH P md ops Q S (fuel+1) listed a w:=by
 subst hl ha;rw [Bool.and_eq_true,Bool.and_eq_true] at h3;exact wpAnyH_take hi h3.1 h3.2.1 h3.2.2 hQ (yieldsIf_load_mid hw ty x ho b o hx cs d hr hu hd hz) hS h
theorem bZ {P:Program} {md:Region.Mode} {ops:Array Oper} {Q:Exit→Act→World→Prop} {S:World→Prop} {fuel:Nat} {l l':Array Bool} {a a':Act} {w:World} {K:Act→World→Prop} (hK:Shut (∀ a w,S w→(S w→wpAnyH P md ops Q S fuel l a w)→K a w)) (hs:S w) (h:S w→wpAnyH P md ops Q S fuel l' a' w) (hl:l=l':=by (try simp only [la,lz,ls]);exact rfl) (ha:a=a':=by (try simp only [Act.put,la,lz,ls]);exact rfl):K a w:=by
 subst hl ha;exact hK.out _ _ hs h
theorem Am {P:Program} {md:Region.Mode} {ops:Array Oper} {Q:Exit→Act→World→Prop} {S:World→Prop} {oi oj:Oper} {fuel:Nat} {listed l1 l2:Array Bool} {a:Act} {w:World} (i j:Nat) (h1:∀ K:Act→World→Prop,Shut (∀ a w,S w→(S w→wpAnyH P md ops Q S fuel l1 a w)→K a w)→if Region.wanted oi (yielded ops a.tmps)=true then Oper.wp P oi a w K Q else K (a.put oi.dst undef) w) (h2:∀ K:Act→World→Prop,Shut (∀ a w,S w→(S w→wpAnyH P md ops Q S fuel l2 a w)→K a w)→if Region.wanted oj (yielded ops a.tmps)=true then Oper.wp P oj a w K Q else K (a.put oj.dst undef) w)
 (hi:ops[i]? =some oi:=by exact ga rfl) (hj:ops[j]? =some oj:=by exact ga rfl) (hr:Region.ready md ops listed=[i,j]:=by kernel_rfl) (hl1:listed.setIfInBounds i true=l1:=by (try simp only [la,lz,ls]);exact rfl) (hl2:listed.setIfInBounds j true=l2:=by (try simp only [la,lz,ls]);exact rfl):wpAnyH P md ops Q S (fuel+1) listed a w:=by
 subst hl1 hl2;exact wpAnyH_ready hr (by simp) (AllReadyH.cons hi h1 (AllReadyH.cons hj h2 AllReadyH.nil))
theorem Kw {P:Program} {md:Region.Mode} {ops:Array Oper} {Q:Exit→Act→World→Prop} {S:World→Prop} {oi oj ok:Oper} {fuel:Nat} {listed l1 l2 l3:Array Bool} {a:Act} {w:World} (i j k:Nat) (h1:∀ K:Act→World→Prop,Shut (∀ a w,S w→(S w→wpAnyH P md ops Q S fuel l1 a w)→K a w)→if Region.wanted oi (yielded ops a.tmps)=true then Oper.wp P oi a w K Q else K (a.put oi.dst undef) w) (h2:∀ K:Act→World→Prop,Shut (∀ a w,S w→(S w→wpAnyH P md ops Q S fuel l2 a w)→K a w)→if Region.wanted oj (yielded ops a.tmps)=true then Oper.wp P oj a w K Q else K (a.put oj.dst undef) w)
 (h3:∀ K:Act→World→Prop,Shut (∀ a w,S w→(S w→wpAnyH P md ops Q S fuel l3 a w)→K a w)→if Region.wanted ok (yielded ops a.tmps)=true then Oper.wp P ok a w K Q else K (a.put ok.dst undef) w) (hi:ops[i]? =some oi:=by exact ga rfl) (hj:ops[j]? =some oj:=by exact ga rfl) (hk:ops[k]? =some ok:=by exact ga rfl) (hr:Region.ready md ops listed=[i,j,k]:=by kernel_rfl)
 (hl1:listed.setIfInBounds i true=l1:=by (try simp only [la,lz,ls]);exact rfl) (hl2:listed.setIfInBounds j true=l2:=by (try simp only [la,lz,ls]);exact rfl) (hl3:listed.setIfInBounds k true=l3:=by (try simp only [la,lz,ls]);exact rfl):wpAnyH P md ops Q S (fuel+1) listed a w:=by
 subst hl1 hl2 hl3;exact wpAnyH_ready hr (by simp) (AllReadyH.cons hi h1 (AllReadyH.cons hj h2 (AllReadyH.cons hk h3 AllReadyH.nil)))
end Go.Proofs.YtcjglfbpjkdgiaaGreatDoor
