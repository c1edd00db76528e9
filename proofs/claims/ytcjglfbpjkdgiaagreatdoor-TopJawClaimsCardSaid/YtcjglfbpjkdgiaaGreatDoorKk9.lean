/- Parts of a proof. -/
import Derived.Test.YtcjglfbpjkdgiaaGreatDoorKk10
import Derived.Test.YtcjglfbpjkdgiaaGreatDoorKk6
import Derived.Test.YtcjglfbpjkdgiaaGreatDoorKk7
set_option maxHeartbeats 1600000
set_option maxRecDepth 100000
set_option linter.unusedVariables false
set_option linter.unusedSimpArgs false
namespace Go.Proofs.YtcjglfbpjkdgiaaGreatDoor
open Go.RowKit
theorem tu {P:Program} {md:Region.Mode} {ops:Array Oper} {Q:Exit→Act→World→Prop} {S:World→Prop} {oi:Oper} {fuel:Nat} {listed l':Array Bool} {a a':Act} {w:World} (i:Nat) (h:wpAnyH P md ops Q S fuel l' a' w) (hi:ops[i]? =some oi:=by exact ga rfl) (h3:(Region.noSelect ops && (Region.free md ops listed i && (Region.ready md ops listed).contains i))=true:=by kernel_rfl) (hw:Region.wanted oi (yielded ops a.tmps)=false:=by rfl) (hS:S w:=by assumption) (hQ:∀ c a w,Q (.panic c) (a.put oi.dst undef) w→Q (.panic c) a w:=by exact fun _ _ _ h=>h) (hl:listed.setIfInBounds i true=l':=by (try simp only [la,lz,ls]);exact rfl) (ha:a.put oi.dst undef=a':=by (try simp only [Act.put,la,lz,ls]);exact rfl):wpAnyH P md ops Q S (fuel+1) listed a w:=by
 subst hl ha;rw [Bool.and_eq_true,Bool.and_eq_true] at h3;exact wpAnyH_take hi h3.1 h3.2.1 h3.2.2 hQ (Or.inr ⟨hw,rfl⟩) hS h
theorem tr {P:Program} {md:Region.Mode} {ops:Array Oper} {Q:Exit→Act→World→Prop} {S:World→Prop} {oi:Oper} {fuel:Nat} {listed l':Array Bool} {a:Act} {w:World} (i:Nat) (h:∀ K:Act→World→Prop,Shut (∀ a w,S w→(S w→wpAnyH P md ops Q S fuel l' a w)→K a w)→if Region.wanted oi (yielded ops a.tmps)=true then Oper.wp P oi a w K Q else K (a.put oi.dst undef) w) (hi:ops[i]? =some oi:=by exact ga rfl) (hr:Region.ready md ops listed=[i]:=by kernel_rfl) (hl:listed.setIfInBounds i true=l':=by (try simp only [la,lz,ls]);exact rfl):wpAnyH P md ops Q S (fuel+1) listed a w:=by
 subst hl;exact wpAnyH_ready hr (by simp) (AllReadyH.cons hi h AllReadyH.nil)
theorem DZ (r:M.Rules):M.aQ r=if r.game=M.aH then aS [wi r.target 1 200,wh (!decide (r.bD=0) && M.out r.bD 2 9) 3] else if r.game=M.bF∨r.game=M.dA then aS [wi r.target 0 0,wh (!decide (r.bD=0) && M.out r.bD 2 9) 3] else 13:=by
 have h0:M.out r.target 0 0=decide (r.target≠0):=by unfold M.out;rw [Bool.eq_iff_iff];simp only [decide_eq_true_eq];omega
 unfold M.aQ M.oH
 simp only [wi,wh,aS,h0]
 by_cases h1:r.game=M.aH
 · simp only [h1,true_or,decide_true,Bool.true_eq_false,if_false,if_true,true_and,not_true,ne_eq,false_and,false_or]
   by_cases h2:M.out r.target 1 200=true
   · simp [h2]
   · by_cases h3:r.bD=0 <;> by_cases h4:M.out r.bD 2 9=true <;> simp [h2,h3,h4]
 · by_cases h2:r.game=M.bF∨r.game=M.dA
   · simp only [h1,h2,false_or,decide_true,Bool.true_eq_false,if_false,if_true,false_and,ne_eq,not_false_eq_true,true_and]
     by_cases h3:r.target=0 <;> by_cases h4:r.bD=0 <;> by_cases h5:M.out r.bD 2 9=true <;> simp [h3,h4,h5]
   · simp only [h1,h2,or_self,decide_false,if_false,if_true]
theorem qx (r:M.Rules) (w:World):Calls Tryz.prog 138 #[iJ r] w fun e w'=>e= .returned (.int .i64 (wh (!decide (r.bD=0) && M.out r.bD 2 9) 3))∧Below w.heap.size w w':=by
 obtain ⟨g,tg,fo⟩:=r
 go_enter Tryz.func138,Tryz.ntmps138
 go_wp2_with (go_at_call 30;refine (dF _ _ _).mono ?_;rintro e eY ⟨rfl,rfl⟩)
 all_goals
  go_ret;exact ⟨dw (by congr 1;simp [M.out, *]),(Below.refl _ _).alloc (Nat.le_refl _) _⟩
theorem fK (r:M.Rules) (w:World):Calls Tryz.prog 67 #[iJ r] w fun e w'=>e= .returned (.int .i64 (M.aQ r))∧Below w.heap.size w w':=by
 rw [DZ];obtain ⟨g,tg,fo⟩:=r
 rcases Cm g with rfl | rfl | rfl | ⟨h0,h1,h2,hk⟩
 · go_enter Tryz.func67,Tryz.ntmps67
   go_wp2;have K0:Keeps w (w.alloc (.cells #[.string M.aH,.int .i64 tg,.int .i64 fo] 23)) 1 (w.alloc (.cells #[.string M.aH,.int .i64 tg,.int .i64 fo] 23)):=Keeps.Nr w _
   go_region_held3 (fun w'=>∀ p q,p<w.heap.size+1→w'.cell? ⟨p,q,none⟩=(w.alloc (.cells #[.string M.aH,.int .i64 tg,.int .i64 fo] 23)).cell? ⟨p,q,none⟩) (first | exact K0.cell | exact K1.cell | exact (K1.alloc _).cell) (first | (go_at_call 64;refine (bU _ _ _ _).mono ?_;rintro e eY ⟨rfl,rfl⟩) | (go_at_call 138;refine (qx ⟨M.aH,tg,fo⟩ _).mono ?_;rintro e w1 ⟨rfl,hb1⟩;have K1:=K0.drew.call hb1) | (go_at_call 28;refine (first_any (fun _=>True) _ _ [wi tg 1 200,wh (!decide (fo=0) && M.out fo 2 9) 3] _ (bQ.lit _ _ [wi tg 1 200,wh (!decide (fo=0) && M.out fo 2 9) 3] (by simp) _ trivial)).mono ?_;rintro e eY ⟨rfl,rfl⟩))
   go_wp2;go_ret;exact ⟨rfl,(K1.alloc _).bw⟩
 · go_enter Tryz.func67,Tryz.ntmps67
   go_wp2;have K0:Keeps w (w.alloc (.cells #[.string M.bF,.int .i64 tg,.int .i64 fo] 23)) 1 (w.alloc (.cells #[.string M.bF,.int .i64 tg,.int .i64 fo] 23)):=Keeps.Nr w _
   go_region_held3 (fun w'=>∀ p q,p<w.heap.size+1→w'.cell? ⟨p,q,none⟩=(w.alloc (.cells #[.string M.bF,.int .i64 tg,.int .i64 fo] 23)).cell? ⟨p,q,none⟩) (first | exact K0.cell | exact K1.cell | exact (K1.alloc _).cell) (first | (go_at_call 64;refine (bU _ _ _ _).mono ?_;rintro e eY ⟨rfl,rfl⟩) | (go_at_call 138;refine (qx ⟨M.bF,tg,fo⟩ _).mono ?_;rintro e w1 ⟨rfl,hb1⟩;have K1:=K0.drew.call hb1) | (go_at_call 28;refine (first_any (fun _=>True) _ _ [wi tg 0 0,wh (!decide (fo=0) && M.out fo 2 9) 3] _ (bQ.lit _ _ [wi tg 0 0,wh (!decide (fo=0) && M.out fo 2 9) 3] (by simp) _ trivial)).mono ?_;rintro e eY ⟨rfl,rfl⟩))
   go_wp2;go_ret;exact ⟨rfl,(K1.alloc _).bw⟩
 · go_enter Tryz.func67,Tryz.ntmps67
   go_wp2;have K0:Keeps w (w.alloc (.cells #[.string M.dA,.int .i64 tg,.int .i64 fo] 23)) 1 (w.alloc (.cells #[.string M.dA,.int .i64 tg,.int .i64 fo] 23)):=Keeps.Nr w _
   go_region_held3 (fun w'=>∀ p q,p<w.heap.size+1→w'.cell? ⟨p,q,none⟩=(w.alloc (.cells #[.string M.dA,.int .i64 tg,.int .i64 fo] 23)).cell? ⟨p,q,none⟩) (first | exact K0.cell | exact K1.cell | exact (K1.alloc _).cell) (first | (go_at_call 64;refine (bU _ _ _ _).mono ?_;rintro e eY ⟨rfl,rfl⟩) | (go_at_call 138;refine (qx ⟨M.dA,tg,fo⟩ _).mono ?_;rintro e w1 ⟨rfl,hb1⟩;have K1:=K0.drew.call hb1) | (go_at_call 28;refine (first_any (fun _=>True) _ _ [wi tg 0 0,wh (!decide (fo=0) && M.out fo 2 9) 3] _ (bQ.lit _ _ [wi tg 0 0,wh (!decide (fo=0) && M.out fo 2 9) 3] (by simp) _ trivial)).mono ?_;rintro e eY ⟨rfl,rfl⟩))
   go_wp2;go_ret;exact ⟨rfl,(K1.alloc _).bw⟩
 · have hn:¬ (g=M.aH)∧¬ (g=M.bF∨g=M.dA):=by refine ⟨fun e=>?_,fun e=>?_⟩ <;> (have:M.oH g=true:=by (unfold M.oH;simp [e])) <;> rw [hk] at this <;> cases this
   rw [if_neg hn.1,if_neg hn.2];clear hn;have h0':(g.toList == [115,116,114,97,105,103,104,116])=false:=beq_eq_false_iff_ne.2 h0;have h1':(g.toList == [101,105,103,104,116])=false:=beq_eq_false_iff_ne.2 h1;have h2':(g.toList == [110,105,110,101])=false:=beq_eq_false_iff_ne.2 h2
   go_enter Tryz.func67,Tryz.ntmps67
   go_wp2;go_ret;exact ⟨rfl,(Below.refl _ _).alloc (Nat.le_refl _) _⟩
theorem zF (x:M.aV):M.bT x=if M.gZ x≠0 then M.gZ x else if M.gJ [] x.aC≠0 then M.gJ [] x.aC else M.rU x:=rfl
theorem qC (a b:Int):(a == b)=decide (a=b):=by by_cases h:a=b <;> simp [h]
theorem xg (pl ba po fi:Int) (kd:ByteArray) (cu:Bool) (aC:List M.kL) (b1 b2 b3:Bool) (h1:b1= !M.isKind kd) (h2:b2=decide (decide (ba=0)≠decide (po=0))) (h3:b3=decide (16<aC.length)):
 aS [wi pl 0 1,wh b1 13,wi ba 0 15,wi po 0 6,wi fi 0 15,wh b2 2,wh b3 5]=M.gZ ⟨pl,kd,ba,po,fi,cu,aC⟩:=by
 subst h1 h2 h3
 unfold M.gZ
 simp only [wi,wh,aS]
 by_cases h1:M.out pl 0 1=true
 · simp [h1]
 by_cases h2:M.isKind kd=true
 · by_cases h3:M.out ba 0 15=true
   · simp [h1,h2,h3]
   by_cases h4:M.out po 0 6=true
   · simp [h1,h2,h3,h4]
   by_cases h4':M.out fi 0 15=true
   · simp [h1,h2,h3,h4,h4']
   by_cases h5:(ba=0↔po=0) <;> by_cases h7:16<aC.length <;> simp [h1,h2,h3,h4,h4',h5,h7]
 · simp [h1,h2]
theorem FM {l:List M.kL} {k:Nat} (hk:k<l.length):M.gJ (l.take k) (l.drop k)=
 if aS [wi l[k].aT 0 15,wi l[k].aP 1 6,wh ((l.take k).any fun o=>decide (o.aT=l[k].aT)) 9]≠0 then aS [wi l[k].aT 0 15,wi l[k].aP 1 6,wh ((l.take k).any fun o=>decide (o.aT=l[k].aT)) 9] else M.gJ (l.take (k+1)) (l.drop (k+1)):=by
 rw [zD hk]
 have hm:(l[k].aT∈(l.take k).map (·.aT))↔((l.take k).any fun o=>decide (o.aT=l[k].aT))=true:=by
  rw [List.mem_map,List.any_eq_true];simp only [decide_eq_true_eq]
 simp only [wi,wh,aS,hm]
 by_cases h1:M.out l[k].aT 0 15=true
 · simp [h1]
 by_cases h2:M.out l[k].aP 1 6=true
 · simp [h1,h2]
 by_cases h3:((l.take k).any fun o=>decide (o.aT=l[k].aT))=true
 · simp [h1,h2,h3]
 · simp [h1,h2,h3]
theorem KU (B:Nat) (b:Int) (w:World) (hB:B<w.heap.size) (hc:w.cell? ⟨B,0,none⟩=some (.int .i64 b)):vJ 66 #[.pointer (some ⟨B,0,none⟩)] Jt (fun o=>decide (o.aT=b)) w:=by
 refine ⟨enters_of Tryz.func66 (by kernel_rfl) rfl,fun W x hb=>?_⟩;have hc1:=(hb.cell (p:=⟨B,0,none⟩) hB).trans hc;have hlt:B<W.heap.size:=Nat.lt_of_lt_of_le hB hb.size;obtain ⟨xb,xp⟩:=x;clear hc
 go_enter Tryz.func66,Tryz.ntmps66
 go_wp2;go_ret;exact ⟨dD (by by_cases h:xb=b <;> simp [h]),hb.alloc hb.size _⟩
theorem BI (x:M.aV) (h:M.isKind x.kind=false):M.gZ x≠0:=by
 intro h0
 have:=(MH h0).kind
 rw [h] at this;cases this
theorem NC {k:ByteArray} (h:M.jC k=true):¬ (k=M.iW∨k=M.bC):=by
 unfold M.jC at h
 rw [decide_eq_true_eq] at h;exact not_or.2 h
theorem QC {k:ByteArray} (h:M.jC k=false):k=M.iW∨k=M.bC:=by
 unfold M.jC at h
 rw [decide_eq_false_iff_not] at h
 by_cases h1:k=M.iW
 · exact .inl h1
 · by_cases h2:k=M.bC
   · exact .inr h2
   · exact absurd ⟨h1,h2⟩ h
theorem YS {x:M.aV} {b:Bool} (h:x.kind=M.iW∨x.kind=M.bC) (hb:b=decide (x.aT≠0∨x.first≠0∨x.cO∨x.aC≠[])):wh b 1=M.rU x:=by
 subst hb
 unfold M.rU wh
 simp only [h,true_and,decide_eq_true_eq]
theorem jS (S:Nat→Prop) (x:M.aV) (A:Option Addr) (c:Nat) (w:World) (hp:fP w S A c x.aC):
 Calls Tryz.prog 31 #[iy x A c] w fun e w'=>e= .returned (.int .i64 (M.bT x))∧Below w.heap.size w w':=by
 obtain ⟨b1,b2,b3⟩:=hp.bd;obtain ⟨pl,kd,ba,po,fi,cu,aC⟩:=x
 simp only at hp b1 b3
 have K0:Keeps w (w.alloc (.cells #[.int .i64 pl,.string kd,.int .i64 ba,.int .i64 po,.int .i64 fi,.bool cu,.slice A aC.length c] 27)) 1 (w.alloc (.cells #[.int .i64 pl,.string kd,.int .i64 ba,.int .i64 po,.int .i64 fi,.bool cu,.slice A aC.length c] 27)):=Keeps.Nr w _
 by_cases hk:M.isKind kd=true
 · have hl0:=iY hk (w:=((w.alloc (.cells #[.int .i64 pl,.string kd,.int .i64 ba,.int .i64 po,.int .i64 fi,.bool cu,.slice A aC.length c] 27)).alloc (.map (kE 6) 6)).drew) (yX w _ _) true
   have hl1:=iY hk (w:=(((w.alloc (.cells #[.int .i64 pl,.string kd,.int .i64 ba,.int .i64 po,.int .i64 fi,.bool cu,.slice A aC.length c] 27)).alloc (.map (kE 6) 6)).alloc (.cells #[.bool false,.bool false,.nilFunc] 157)).drew) (CO w _ _ _) true;have hl2:=iY hk (w:=(((w.alloc (.cells #[.int .i64 pl,.string kd,.int .i64 ba,.int .i64 po,.int .i64 fi,.bool cu,.slice A aC.length c] 27)).alloc (.cells #[.bool false,.bool false,.nilFunc] 157)).alloc (.map (kE 6) 6)).drew) (EF w _ _ _) true
   go_enter Tryz.func31,Tryz.ntmps31
   go_upto_region 1 with (fail)
   go_cut [3,4] (fun v3 v4 wx=>∃ D,v3= .pointer (some ⟨D,0,none⟩)∧v4= .bool true∧w.heap.size+1≤D∧D<wx.heap.size∧wx.cell? ⟨D,0,none⟩=some (.bool (M.jC kd))∧Keeps w (w.alloc (.cells #[.int .i64 pl,.string kd,.int .i64 ba,.int .i64 po,.int .i64 fi,.bool cu,.slice A aC.length c] 27)) 1 wx)
   case first=>
    go_region_held3 (fun w'=>∀ p q,p<w.heap.size+1→w'.cell? ⟨p,q,none⟩=(w.alloc (.cells #[.int .i64 pl,.string kd,.int .i64 ba,.int .i64 po,.int .i64 fi,.bool cu,.slice A aC.length c] 27)).cell? ⟨p,q,none⟩) (first | exact K0.cell | exact (K0.alloc _).cell | exact ((K0.alloc _).alloc _).cell) (first | (go_at_call 63;refine (ql _).mono ?_;rintro e w1 ⟨rfl,rfl⟩))
    all_goals go_wp2
    all_goals go_meet
    all_goals exact ⟨_,rfl,rfl,by omega,by simp,by first | exact gG _ [_,_,_] _ _ (by simp) 0 _ rfl | exact LU _ [_,_,_] _ _ _ (by simp) 0 _ rfl,((K0.alloc _).alloc _).drew⟩
   case rest=>
    obtain ⟨D,rfl,rfl,hD,hD1,hDc,K1⟩:=hcut;clear hl0 hl1 hl2
    go_upto_region 2 with (fail)
    go_cut [5] (fun v5 wy=>v5= .int .i64 (M.gZ ⟨pl,kd,ba,po,fi,cu,aC⟩)∧Below wc.heap.size wc wy)
    case first=>
     go_region_held3 (fun w'=>∀ p q,p<w.heap.size+1→w'.cell? ⟨p,q,none⟩=(w.alloc (.cells #[.int .i64 pl,.string kd,.int .i64 ba,.int .i64 po,.int .i64 fi,.bool cu,.slice A aC.length c] 27)).cell? ⟨p,q,none⟩) (first | exact K1.cell | exact (K1.alloc _).cell) (first | (go_at_call 64;refine (bU _ _ _ _).mono ?_;rintro e eY ⟨rfl,rfl⟩) | (go_at_call 30;refine (dF _ _ _).mono ?_;rintro e eY ⟨rfl,rfl⟩) | (go_at_call 28;refine (first_any (fun _=>True) _ _ [wi pl 0 1,wh false 13,wi ba 0 15,wi po 0 6,wi fi 0 15,wh _ 2,wh _ 5] _ (bQ.drewN (bQ.lit _ _ [wi pl 0 1,wh false 13,wi ba 0 15,wi po 0 6,wi fi 0 15,wh _ 2,wh _ 5] (by simp) _ trivial) 1)).mono ?_;rintro e eY ⟨rfl,rfl⟩))
     all_goals go_wp2
     all_goals go_meet
     all_goals exact ⟨congrArg _ (xg pl ba po fi kd cu aC _ _ _ (by rw [hk];rfl) (by by_cases h5:ba=0 <;> by_cases h6:po=0 <;> simp [qC,h5,h6]) (decide_eq_decide.2 (by omega))),((Below.refl _ _).alloc (Nat.le_refl _) _).drew⟩
    case rest=>
     obtain ⟨rfl,hb2⟩:=hcut;have K2:=K1.call hb2;have hc2:=K2.cell;have hD2:=(hb2.cell (p:=⟨D,0,none⟩) hD1).trans hDc;have hD3:D<wc.heap.size:=Nat.lt_of_lt_of_le hD1 hb2.size;have vV:=hide (zF ⟨pl,kd,ba,po,fi,cu,aC⟩)
     by_cases hz:M.gZ ⟨pl,kd,ba,po,fi,cu,aC⟩=0
     · have hz':(M.gZ ⟨pl,kd,ba,po,fi,cu,aC⟩ != 0)=false:=by simp [hz]
       have HZ:=hide hz;clear hz;clear hDc hD1 hb2 K1;go_wp2
       go_loopw [53] (fun i wr=>∃ k:Nat,k≤aC.length∧i= .int .i64 k∧M.gJ [] aC=M.gJ (aC.take k) (aC.drop k)∧Keeps w (w.alloc (.cells #[.int .i64 pl,.string kd,.int .i64 ba,.int .i64 po,.int .i64 fi,.bool cu,.slice A aC.length c] 27)) 1 wr∧D<wr.heap.size∧wr.cell? ⟨D,0,none⟩=some (.bool (M.jC kd))) (fun i _=>aC.length - (intOf i).toNat)
       case atStart=>exact ⟨0,Nat.zero_le _,rfl,by simp,K2,hD3,hD2⟩
       case round=>
        clear hc2 hD2 hD3 K2;obtain ⟨k,hkl,rfl,hx1,KR,hDr,hDc⟩:=hrel;have hcR:=KR.cell
        have Gh:w.heap.size<wr.heap.size:=by have:=KR.sz;omega
        by_cases hlt:k<aC.length
        · obtain ⟨b,o,rfl,_,hbl,hc⟩:=hp.at_ k hlt
          obtain ⟨hck1,sZ⟩:=hc k hlt
          have Z7:b<w.heap.size+1:=by omega
          have hlen:(aC.take k).length=k:=by rw [List.length_take];omega
          have hcf:=Et S _ c (aC.take k) _ _ _ (wr.alloc (.cells #[.int .i64 aC[k].aT,.int .i64 aC[k].aP] 71)) ((fP.take (hp.below KR.bw) k (by omega)).alloc _) (KU wr.heap.size aC[k].aT _ (by simp) (gG _ [_,_] _ _ rfl 0 _ rfl));have hst:=hx1.trans (FM hlt);rw [hlen] at hcf;obtain ⟨tw,htw⟩:∃ t,((aC.take k).any fun o=>decide (o.aT=aC[k].aT))=t:=⟨_,rfl⟩;rw [htw] at hcf hst;clear hc hx1 hlen htw
          by_cases he:aS [wi aC[k].aT 0 15,wi aC[k].aP 1 6,wh tw 9]=0
          · have he':(aS [wi aC[k].aT 0 15,wi aC[k].aP 1 6,wh tw 9] != 0)=false:=by simp [he]
            rw [if_neg (by simp [he])] at hst;have HX:=hide hst;clear hst he
            go_wp2_with (go_at_call 65;refine hcf.mono ?_;rintro e w2 ⟨rfl,hb2⟩;have KP:Keeps wr (wr.alloc (.cells #[.int .i64 aC[k].aT,.int .i64 aC[k].aP] 71)) 1 w2:=(Keeps.Nr wr _).call hb2;have hcP:=KP.cell)
            go_wp2
            go_region_held3 (fun w'=>∀ p q,p<wr.heap.size+1→w'.cell? ⟨p,q,none⟩=(wr.alloc (.cells #[.int .i64 aC[k].aT,.int .i64 aC[k].aP] 71)).cell? ⟨p,q,none⟩) (first | exact KP.cell | exact (KP.alloc _).cell) (first | (go_at_call 64;refine (bU _ _ _ _).mono ?_;rintro e eY ⟨rfl,rfl⟩) | (go_at_call 30;refine (dF _ _ _).mono ?_;rintro e eY ⟨rfl,rfl⟩) | (go_at_call 28;refine (first_any (fun _=>True) _ _ [wi aC[k].aT 0 15,wi aC[k].aP 1 6,wh tw 9] _ (bQ.drewN (bQ.lit _ _ [wi aC[k].aT 0 15,wi aC[k].aP 1 6,wh tw 9] (by simp) _ trivial) 1)).mono ?_;rintro e eY ⟨rfl,rfl⟩))
            clear hcP;go_wp2
            go_roundw
            case rel=>exact ⟨k+1,by omega,by go_num,HX.out,KR.call (KP.alloc _).drew.bw,Nat.lt_of_lt_of_le hDr (KP.alloc _).drew.bw.size,((KP.alloc _).drew.bw.cell (p:=⟨D,0,none⟩) hDr).trans hDc⟩
            case measure=>simp [intOf];omega
          · have he':(aS [wi aC[k].aT 0 15,wi aC[k].aP 1 6,wh tw 9] != 0)=true:=by simp [he]
            rw [if_pos he] at hst;have HX:=hide hst;have HE:=hide he;clear hst he
            go_wp2_with (go_at_call 65;refine hcf.mono ?_;rintro e w2 ⟨rfl,hb2⟩;have KP:Keeps wr (wr.alloc (.cells #[.int .i64 aC[k].aT,.int .i64 aC[k].aP] 71)) 1 w2:=(Keeps.Nr wr _).call hb2;have hcP:=KP.cell)
            go_wp2
            go_region_held3 (fun w'=>∀ p q,p<wr.heap.size+1→w'.cell? ⟨p,q,none⟩=(wr.alloc (.cells #[.int .i64 aC[k].aT,.int .i64 aC[k].aP] 71)).cell? ⟨p,q,none⟩) (first | exact KP.cell | exact (KP.alloc _).cell) (first | (go_at_call 64;refine (bU _ _ _ _).mono ?_;rintro e eY ⟨rfl,rfl⟩) | (go_at_call 30;refine (dF _ _ _).mono ?_;rintro e eY ⟨rfl,rfl⟩) | (go_at_call 28;refine (first_any (fun _=>True) _ _ [wi aC[k].aT 0 15,wi aC[k].aP 1 6,wh tw 9] _ (bQ.drewN (bQ.lit _ _ [wi aC[k].aT 0 15,wi aC[k].aP 1 6,wh tw 9] (by simp) _ trivial) 1)).mono ?_;rintro e eY ⟨rfl,rfl⟩))
            clear hcP;go_wp2;go_ret;exact ⟨dw (by rw [vV.out,if_neg (by simp [HZ.out]),if_pos (by rw [HX.out];exact HE.out)];exact HX.out.symm),(KR.call (KP.alloc _).drew.bw).bw⟩
        · have hz0:M.gJ [] aC=0:=by rw [hx1,List.drop_of_length_le (by omega),M.gJ]
          have HF:=hide (show M.bT ⟨pl,kd,ba,po,fi,cu,aC⟩=M.rU ⟨pl,kd,ba,po,fi,cu,aC⟩ by rw [vV.out,if_neg (by simp [HZ.out]),if_neg (by simp [hz0])]);clear hx1 hz0
          cases hpl:M.jC kd with
          | true=>
            rw [hpl] at hDc;have HP:=hide (NC hpl);clear hpl
            go_wp2_with (go_at_call 30;refine (dF _ _ _).mono ?_;rintro e eY ⟨rfl,rfl⟩)
            all_goals
             go_ret;exact ⟨dw (by rw [HF.out];unfold M.rU;rw [if_neg (fun h=>HP.out h.1)];rfl),KR.bw⟩
          | false=>
            rw [hpl] at hDc;have HP:=hide (QC hpl);clear hpl
            go_wp2_with (go_at_call 30;refine (dF _ _ _).mono ?_;rintro e eY ⟨rfl,rfl⟩)
            all_goals
             go_ret;exact ⟨dw (by rw [HF.out];exact YS HP.out (by first | (simp [*,List.length_pos_iff];done) | (simp_all [List.length_pos_iff];done))),KR.bw⟩
     · have hz':(M.gZ ⟨pl,kd,ba,po,fi,cu,aC⟩ != 0)=true:=by simp [hz]
       have HZ:=hide hz;clear hz;go_wp2;go_ret;exact ⟨dw (by rw [vV.out,if_pos HZ.out]),K2.bw⟩
 · have hk:M.isKind kd=false:=by simpa using hk
   have hl0:=lM hk (w:=((w.alloc (.cells #[.int .i64 pl,.string kd,.int .i64 ba,.int .i64 po,.int .i64 fi,.bool cu,.slice A aC.length c] 27)).alloc (.map (kE 6) 6)).drew) (yX w _ _) true;have hl1:=lM hk (w:=(((w.alloc (.cells #[.int .i64 pl,.string kd,.int .i64 ba,.int .i64 po,.int .i64 fi,.bool cu,.slice A aC.length c] 27)).alloc (.map (kE 6) 6)).alloc (.cells #[.bool false,.bool false,.nilFunc] 157)).drew) (CO w _ _ _) true;have hl2:=lM hk (w:=(((w.alloc (.cells #[.int .i64 pl,.string kd,.int .i64 ba,.int .i64 po,.int .i64 fi,.bool cu,.slice A aC.length c] 27)).alloc (.cells #[.bool false,.bool false,.nilFunc] 157)).alloc (.map (kE 6) 6)).drew) (EF w _ _ _) true
   go_enter Tryz.func31,Tryz.ntmps31
   go_upto_region 1 with (fail)
   go_cut [3,4] (fun v3 v4 wx=>∃ D,v3= .pointer (some ⟨D,0,none⟩)∧v4= .bool false∧w.heap.size+1≤D∧D<wx.heap.size∧True∧Keeps w (w.alloc (.cells #[.int .i64 pl,.string kd,.int .i64 ba,.int .i64 po,.int .i64 fi,.bool cu,.slice A aC.length c] 27)) 1 wx)
   case first=>
    go_region_held3 (fun w'=>∀ p q,p<w.heap.size+1→w'.cell? ⟨p,q,none⟩=(w.alloc (.cells #[.int .i64 pl,.string kd,.int .i64 ba,.int .i64 po,.int .i64 fi,.bool cu,.slice A aC.length c] 27)).cell? ⟨p,q,none⟩) (first | exact K0.cell | exact (K0.alloc _).cell | exact ((K0.alloc _).alloc _).cell) (first | (go_at_call 63;refine (ql _).mono ?_;rintro e w1 ⟨rfl,rfl⟩))
    all_goals go_wp2
    all_goals go_meet
    all_goals exact ⟨_,rfl,rfl,by omega,by simp,trivial,((K0.alloc _).alloc _).drew⟩
   case rest=>
    obtain ⟨D,rfl,rfl,hD,hD1,_,K1⟩:=hcut;clear hl0 hl1 hl2
    go_upto_region 2 with (fail)
    go_cut [5] (fun v5 wy=>v5= .int .i64 (M.gZ ⟨pl,kd,ba,po,fi,cu,aC⟩)∧Below wc.heap.size wc wy)
    case first=>
     go_region_held3 (fun w'=>∀ p q,p<w.heap.size+1→w'.cell? ⟨p,q,none⟩=(w.alloc (.cells #[.int .i64 pl,.string kd,.int .i64 ba,.int .i64 po,.int .i64 fi,.bool cu,.slice A aC.length c] 27)).cell? ⟨p,q,none⟩) (first | exact K1.cell | exact (K1.alloc _).cell) (first | (go_at_call 64;refine (bU _ _ _ _).mono ?_;rintro e eY ⟨rfl,rfl⟩) | (go_at_call 30;refine (dF _ _ _).mono ?_;rintro e eY ⟨rfl,rfl⟩) | (go_at_call 28;refine (first_any (fun _=>True) _ _ [wi pl 0 1,wh true 13,wi ba 0 15,wi po 0 6,wi fi 0 15,wh _ 2,wh _ 5] _ (bQ.drewN (bQ.lit _ _ [wi pl 0 1,wh true 13,wi ba 0 15,wi po 0 6,wi fi 0 15,wh _ 2,wh _ 5] (by simp) _ trivial) 1)).mono ?_;rintro e eY ⟨rfl,rfl⟩))
     all_goals go_wp2
     all_goals go_meet
     all_goals exact ⟨congrArg _ (xg pl ba po fi kd cu aC _ _ _ (by rw [hk];rfl) (by by_cases h5:ba=0 <;> by_cases h6:po=0 <;> simp [qC,h5,h6]) (decide_eq_decide.2 (by omega))),((Below.refl _ _).alloc (Nat.le_refl _) _).drew⟩
    case rest=>
     obtain ⟨rfl,hb2⟩:=hcut;have K2:=K1.call hb2;have HZ:=hide (BI ⟨pl,kd,ba,po,fi,cu,aC⟩ hk)
     have hz':(M.gZ ⟨pl,kd,ba,po,fi,cu,aC⟩ != 0)=true:=by simp [HZ.out]
     have vV:=hide (zF ⟨pl,kd,ba,po,fi,cu,aC⟩);go_wp2;go_ret;exact ⟨dw (by rw [vV.out,if_pos HZ.out]),K2.bw⟩
theorem uY (S:Nat→Prop) (l:List Sh) (A:Option Addr) (c:Nat) (w:World) (hp:jQ w S A c l):
 Calls Tryz.prog 29 #[.slice A l.length c] w fun e w'=>e= .returned (.int .i64 (M.dO (plain l)))∧Below w.heap.size w w':=by
 obtain ⟨b1,b2,b3⟩:=hp.bd
 by_cases hm:1000<l.length
 · have hck:M.dO (plain l)=5:=by unfold M.dO;rw [if_pos (by rw [aW];exact hm)]
   rw [hck]
   go_enter Tryz.func29,Tryz.ntmps29
   go_wp2;go_ret;exact ⟨rfl,Below.refl _ _⟩
 · have hck:M.dO (plain l)=M.iD (plain l):=by unfold M.dO;rw [if_neg (by rw [aW];exact hm)]
   rw [hck];clear hck
   go_enter Tryz.func29,Tryz.ntmps29
   go_wp2
   go_loopw [11] (fun i wr=>∃ k:Nat,k≤l.length∧i= .int .i64 k∧M.iD (plain l)=M.iD ((plain l).drop k)∧Below w.heap.size w wr) (fun i _=>l.length - (intOf i).toNat)
   case atStart=>exact ⟨0,Nat.zero_le _,rfl,by simp,Below.refl _ _⟩
   case round=>
    obtain ⟨k,hk,rfl,hx1,hb⟩:=hrel
    by_cases hlt:k<l.length
    · obtain ⟨b,o,rfl,_,hbl,hc⟩:=hp.at_ k hlt
      obtain ⟨e0,e1,e2,e3,e4,e5,e6⟩:=hc k hlt;clear hc;obtain ⟨hcb,hfb⟩:=Y2 hb;have hst:=pW hlt;have HP:=hide ((hp.aC k hlt).below hb);have HX:=hide (hx1.trans hst);clear hx1 hst;have hcall:=fun W:World=>jS S l[k].x l[k].a l[k].c W;have HC:=hide hcall;clear hcall
      by_cases hz:M.bT l[k].x=0
      · have hz':(M.bT l[k].x != 0)=false:=by simp [hz]
        rw [if_neg (by simp [hz])] at HX;have HZ:=hide hz;clear hz
        go_wp2_with (go_at_call 31;refine (HC.out _ (HP.out.alloc _)).mono ?_;rintro e w1 ⟨rfl,hb1⟩)
        go_roundw
        case rel=>exact ⟨k+1,by omega,by go_num,HX.out,(hb.alloc hb.size _).trans (hb1.mono (hb.alloc hb.size _).size)⟩
        case measure=>simp [intOf];omega
      · have hz':(M.bT l[k].x != 0)=true:=by simp [hz]
        rw [if_pos hz] at HX
        go_wp2_with (go_at_call 31;refine (HC.out _ (HP.out.alloc _)).mono ?_;rintro e w1 ⟨rfl,hb1⟩)
        go_ret;exact ⟨dw HX.out.symm,(hb.alloc hb.size _).trans (hb1.mono (hb.alloc hb.size _).size)⟩
    · have hkk:k=l.length:=by omega
      have hz:M.iD (plain l)=0:=by rw [hx1,hkk, ← aW l,List.drop_length,M.iD]
      clear hx1 hkk;go_wp2;go_ret;exact ⟨dw hz.symm,hb⟩
theorem check_any (S:Nat→Prop) (r:M.Rules) (l:List Sh) (A:Option Addr) (c:Nat) (w:World) (hp:jQ w S A c l):
 Calls Tryz.prog 34 #[iJ r,.slice A l.length c] w fun e w'=>e= .returned (.int .i64 (aS [M.aQ r,M.dO (plain l)]))∧Below w.heap.size w w':=by
 obtain ⟨b1,b2,b3⟩:=hp.bd;obtain ⟨g,tg,fo⟩:=r;have K0:=Keeps.Nr w (.cells #[.string g,.int .i64 tg,.int .i64 fo] 23)
 go_enter Tryz.func34,Tryz.ntmps34
 go_wp2_with (first | (go_at_call 67;refine (fK ⟨g,tg,fo⟩ _).mono ?_;rintro e w1 ⟨rfl,hb1⟩;have K1:=K0.call hb1) | (go_at_call 29;refine (uY S l A c _ (hp.below K1.bw)).mono ?_;rintro e w2 ⟨rfl,hb2⟩;have K2:=K1.call hb2) | (go_at_call 28;refine (first_any (fun _=>True) _ _ [M.aQ ⟨g,tg,fo⟩,M.dO (plain l)] _ (bQ.lit _ _ [M.aQ ⟨g,tg,fo⟩,M.dO (plain l)] (by simp) _ trivial)).mono ?_;rintro e eY ⟨rfl,rfl⟩))
 go_ret;exact ⟨rfl,(K2.alloc _).bw⟩
theorem Dw (r:M.Rules) (w:World):Calls Tryz.prog 68 #[iJ r] w fun e w'=>
 ∃ A c,e= .returned (.slice A (M.jr r).length c)∧bQ w' (fun b=>w.heap.size≤b) A c (M.jr r)∧Below w.heap.size w w':=by
 obtain ⟨i0,hi,hz0,hz1,hz2⟩:=info_parts sF;obtain ⟨g,tg,fo⟩:=r
 by_cases hg:g=M.dA
 · subst hg
   go_enter Tryz.func68,Tryz.ntmps68
   go_wp2
   go_loopw [4,10] (fun v i wr=>∃ k:Nat,k≤9∧i= .int .i64 k∧(∃ A c,v= .slice A k c)∧wr.ownsRow (w.heap.size+1) 3 1 v k ((M.kJ k).map (Value.int .i64))∧Below (w.heap.size+1) (w.alloc (.cells #[.string M.dA,.int .i64 tg,.int .i64 fo] 23)) wr)
    (fun _ i _=>9 - (intOf i).toNat)
   case atStart=>exact ⟨0,by omega,rfl,⟨_,_,rfl⟩,World.ownsRow_nil _ _ _ _,Below.refl _ _⟩
   case round=>
    obtain ⟨k,hk,rfl,⟨A,c,rfl⟩,hown,hb⟩:=hrel;have aax:=hb.size;rw [World.size_alloc] at aax
    by_cases hlt:k<9
    · go_wp2_with (at_builtin;refine wpList_append_lies _ rfl _ _ _ rfl (w.heap.size+1) 3 i0 (.int .i64 0) 1 8 Tryz.underlying50 hi hz0 hz1 hz2 rfl (by omega) _ _ _ rfl (hown.alloc _) ⟨wr.heap.size,0,none⟩ 1 1 [.int .i64 ((k:Int)+1)] rfl rfl (dJ _ _ _ _ (by simp)) ?c1 (by omega) ?c2 ?c3 ?c4 (wr.heap.size+1) (by simp) ?_)
      case c1=>simp [Value.oneCell']
      case c2=>simp only [maxLen];omega
      case c3=>omega
      case c4=>first | omega | (simp;omega)
      intro g1 cap w1 hown1 hgrow _ _;have hbd:=eX (B:=w.heap.size+1) (hown.alloc _) hgrow (by omega) (by simp;omega);have hb1:=(hb.alloc (by omega) _).trans hbd
      have hown2:w1.ownsRow (w.heap.size+1) 3 1 (.slice (some ⟨g1,0,none⟩) (k+1) cap) (k+1) ((M.kJ (k+1)).map (Value.int .i64)):=by rw [Ac];simpa using hown1
      clear hown hgrow hown1 hbd hb;go_wp2
      go_roundw
      case rel=>exact ⟨k+1,by omega,by go_num,⟨_,_,rfl⟩,hown2,hb1⟩
      case measure=>simp [intOf];omega
    · obtain rfl:k=9:=by omega
      go_wp2;go_ret
      have hr:M.jr ⟨M.dA,tg,fo⟩=M.kJ 9:=by simp [M.jr,M.fH]
      rw [hr,kQ];refine ⟨A,c,rfl,?_,((Below.refl _ _).alloc (Nat.le_refl _) _).trans (hb.mono (by omega))⟩
      unfold bQ
      rw [kQ];exact Reads.je hown (fun b h=>by omega) (by omega)
 · have hg':(g.toList == [110,105,110,101])=false:=beq_eq_false_iff_ne.2 (dG hg)
   go_enter Tryz.func68,Tryz.ntmps68
   go_wp2
   go_loopw [4,10] (fun v i wr=>∃ k:Nat,k≤15∧i= .int .i64 k∧(∃ A c,v= .slice A k c)∧wr.ownsRow (w.heap.size+1) 3 1 v k ((M.kJ k).map (Value.int .i64))∧Below (w.heap.size+1) (w.alloc (.cells #[.string g,.int .i64 tg,.int .i64 fo] 23)) wr)
    (fun _ i _=>15 - (intOf i).toNat)
   case atStart=>exact ⟨0,by omega,rfl,⟨_,_,rfl⟩,World.ownsRow_nil _ _ _ _,Below.refl _ _⟩
   case round=>
    obtain ⟨k,hk,rfl,⟨A,c,rfl⟩,hown,hb⟩:=hrel;have aax:=hb.size;rw [World.size_alloc] at aax
    by_cases hlt:k<15
    · go_wp2_with (at_builtin;refine wpList_append_lies _ rfl _ _ _ rfl (w.heap.size+1) 3 i0 (.int .i64 0) 1 8 Tryz.underlying50 hi hz0 hz1 hz2 rfl (by omega) _ _ _ rfl (hown.alloc _) ⟨wr.heap.size,0,none⟩ 1 1 [.int .i64 ((k:Int)+1)] rfl rfl (dJ _ _ _ _ (by simp)) ?c1 (by omega) ?c2 ?c3 ?c4 (wr.heap.size+1) (by simp) ?_)
      case c1=>simp [Value.oneCell']
      case c2=>simp only [maxLen];omega
      case c3=>omega
      case c4=>first | omega | (simp;omega)
      intro g1 cap w1 hown1 hgrow _ _;have hbd:=eX (B:=w.heap.size+1) (hown.alloc _) hgrow (by omega) (by simp;omega);have hb1:=(hb.alloc (by omega) _).trans hbd
      have hown2:w1.ownsRow (w.heap.size+1) 3 1 (.slice (some ⟨g1,0,none⟩) (k+1) cap) (k+1) ((M.kJ (k+1)).map (Value.int .i64)):=by rw [Ac];simpa using hown1
      clear hown hgrow hown1 hbd hb;go_wp2
      go_roundw
      case rel=>exact ⟨k+1,by omega,by go_num,⟨_,_,rfl⟩,hown2,hb1⟩
      case measure=>simp [intOf];omega
    · obtain rfl:k=15:=by omega
      go_wp2;go_ret
      have hr:M.jr ⟨g,tg,fo⟩=M.kJ 15:=by simp [M.jr,M.fH,hg]
      rw [hr,kQ];refine ⟨A,c,rfl,?_,((Below.refl _ _).alloc (Nat.le_refl _) _).trans (hb.mono (by omega))⟩
      unfold bQ
      rw [kQ];exact Reads.je hown (fun b h=>by omega) (by omega)
def need (g:ByteArray):Int:=if g=M.bF then 8 else if g=M.dA then 9 else 0
theorem jV (r:M.Rules) (w:World):Calls Tryz.prog 90 #[iJ r] w fun e w'=>e= .returned (.int .i64 (need r.game))∧Below w.heap.size w w':=by
 obtain ⟨g,tg,fo⟩:=r
 by_cases h1:g=M.bF
 · subst h1
   go_enter Tryz.func90,Tryz.ntmps90
   go_wp2;go_ret;exact ⟨rfl,(Below.refl _ _).alloc (Nat.le_refl _) _⟩
 · have h1':(g.toList == [101,105,103,104,116])=false:=beq_eq_false_iff_ne.2 (dG h1)
   by_cases h2:g=M.dA
   · subst h2
     go_enter Tryz.func90,Tryz.ntmps90
     go_wp2;go_ret;exact ⟨rfl,(Below.refl _ _).alloc (Nat.le_refl _) _⟩
   · have h2':(g.toList == [110,105,110,101])=false:=beq_eq_false_iff_ne.2 (dG h2)
     have hn:need g=0:=by simp [need,h1,h2]
     simp only [hn]
     clear h1 h2 hn
     go_enter Tryz.func90,Tryz.ntmps90
     go_wp2;go_ret;exact ⟨rfl,(Below.refl _ _).alloc (Nat.le_refl _) _⟩
theorem jK (S:Nat→Prop) (A:Option Addr) (c:Nat) (zs:List Int) (w:World) (h:bQ w S A c zs):
 Calls Tryz.prog 101 #[.slice A zs.length c] w fun e w'=>∃ A' c',e= .returned (.slice A' zs.length c')∧bQ w' (fun b=>w.heap.size≤b) A' c' zs∧Below w.heap.size w w':=by
 obtain ⟨i0,hi,hz0,hz1,hz2⟩:=info_parts sF;obtain ⟨b1,b2,b3⟩:=h.bd
 rcases Nat.eq_zero_or_pos zs.length with h0 | h0
 · obtain rfl:=List.eq_nil_of_length_eq_zero h0
   cases A with
   | none=>
     go_enter Tryz.func101,Tryz.ntmps101
     go_wp2;go_ret;exact ⟨none,0,rfl,Reads.none_ _ _ _,Below.refl _ _⟩
   | some a=>
     have hf:=run_firstCells_some (P:=Tryz.prog) w 1 0 a 0 c [] (by simp) (by intro j v h;simp at h)
     go_enter Tryz.func101,Tryz.ntmps101
     go_wp2;go_ret;exact ⟨none,0,rfl,Reads.none_ _ _ _,Below.refl _ _⟩
 · obtain ⟨b,o,rfl,_,hbl,hc⟩:=h.at_ 0 h0
   have hnews:∀ j u,(zs.map (Value.int .i64))[j]? =some u→w.cell? ((⟨b,o,none⟩:Addr).add j)=some u:=by
    intro j u hu;rw [List.getElem?_map] at hu
    rcases hj:zs[j]? with _ | z
    · rw [hj] at hu;cases hu
    · rw [hj] at hu
      obtain ⟨hj1,hj2⟩:=List.getElem?_eq_some_iff.1 hj;rw [oC,hc j hj1, ← hu,hj2];rfl
   have HC:=hide hc;clear hc
   go_enter Tryz.func101,Tryz.ntmps101
   go_wp2_with (at_builtin;go_loud (refine wpList_append_lies _ rfl _ _ _ rfl w.heap.size 3 i0 (.int .i64 0) 1 8 Tryz.underlying50 hi hz0 hz1 hz2 rfl (by omega) (.slice none 0 0) 0 [] rfl (World.ownsRow_nil _ _ _ _) ⟨b,o,none⟩ zs.length c (zs.map (Value.int .i64)) rfl (by simp) hnews ?c1 h0 ?c2 ?c3 (Nat.le_refl _) w.heap.size rfl ?_))
   case c1=>intro u hu;simp at hu;obtain ⟨z,_,rfl⟩:=hu;rfl
   case c2=>simp only [maxLen];omega
   case c3=>omega
   intro g1 cap w1 hown1 hgrow _ _;have hb1:Below w.heap.size w w1:=eX (World.ownsRow_nil _ w.heap.size 3 1) hgrow (Nat.le_refl _) (Nat.le_refl _);have HO:=hide hown1;clear hown1 hgrow;go_wp2;go_ret;have hown2:=HO.out;exact ⟨_,_,by simp,Reads.je hown2 (fun b h=>h) (by omega),hb1⟩
theorem jW (S:Nat→Prop) (x:M.aV) (A:Option Addr) (c:Nat) (w:World) (hp:fP w S A c x.aC) (hpos:∀ p∈x.aC,0≤p.aT):
 Calls Tryz.prog 81 #[iy x A c] w fun e w'=>∃ A' c',e= .returned (.slice A' (M.objects x).length c')∧bQ w' (fun b=>w.heap.size≤b) A' c' (M.objects x)∧Below w.heap.size w w':=by
 obtain ⟨i0,hi,hz0,hz1,hz2⟩:=info_parts sF;obtain ⟨b1,b2,b3⟩:=hp.bd;obtain ⟨pl,kd,ba,po,fi,cu,aC⟩:=x
 simp only at hp hpos b1 b3
 have K0:Keeps w (w.alloc (.cells #[.int .i64 pl,.string kd,.int .i64 ba,.int .i64 po,.int .i64 fi,.bool cu,.slice A aC.length c] 27)) 1 (w.alloc (.cells #[.int .i64 pl,.string kd,.int .i64 ba,.int .i64 po,.int .i64 fi,.bool cu,.slice A aC.length c] 27)):=Keeps.Nr w _
 go_enter Tryz.func81,Tryz.ntmps81
 go_wp2
 go_loopw [3,9] (fun v i wr=>∃ k:Nat,k≤aC.length∧i= .int .i64 k∧(∃ A c,v= .slice A (oz (aC.take k)).length c)∧wr.ownsRow (w.heap.size+1) 3 1 v (oz (aC.take k)).length ((oz (aC.take k)).map (Value.int .i64))∧Keeps w (w.alloc (.cells #[.int .i64 pl,.string kd,.int .i64 ba,.int .i64 po,.int .i64 fi,.bool cu,.slice A aC.length c] 27)) 1 wr)
  (fun _ i _=>aC.length - (intOf i).toNat)
 case atStart=>exact ⟨0,by omega,rfl,⟨_,_,rfl⟩,World.ownsRow_nil _ _ _ _,K0⟩
 case round=>
  obtain ⟨k,hk,rfl,⟨A1,c1,rfl⟩,hown,KR⟩:=hrel;have hcR:=KR.cell;have Gh:=KR.sz
  by_cases hlt:k<aC.length
  · obtain ⟨b,o,rfl,_,hbl,hc⟩:=hp.at_ k hlt
    obtain ⟨hck1,sZ⟩:=hc k hlt
    have Z7:b<w.heap.size+1:=by omega
    have hge:=hpos _ (List.getElem_mem hlt);clear hc
    by_cases hz:aC[k].aT=0
    · have hz':decide (0<aC[k].aT)=false:=by simp [hz]
      have hs:oz (aC.take (k+1))=oz (aC.take k):=by rw [Dh hlt,if_pos hz];simp
      have HS:=hide hs;clear hs hz hge;go_wp2
      go_roundw
      case rel=>exact ⟨k+1,by omega,by go_num,by rw [HS.out];exact ⟨⟨_,_,rfl⟩,hown.alloc _,KR.alloc _⟩⟩
      case measure=>simp [intOf];omega
    · have hz':0<aC[k].aT:=by omega
      have hs:oz (aC.take (k+1))=oz (aC.take k)++[aC[k].aT]:=by rw [Dh hlt,if_neg hz]
      have hle:=Df (aC.take k);rw [List.length_take] at hle;have HS:=hide hs;clear hs hz hge
      go_wp2_with (at_builtin;refine wpList_append_lies _ rfl _ _ _ rfl (w.heap.size+1) 3 i0 (.int .i64 0) 1 8 Tryz.underlying50 hi hz0 hz1 hz2 rfl (by omega) _ _ _ rfl ((hown.alloc _).alloc _) ⟨(wr.heap.size+1),0,none⟩ 1 1 [.int .i64 aC[k].aT] rfl rfl (dJ _ _ _ _ (by simp)) ?c1 (by omega) ?c2 ?c3 ?c4 (wr.heap.size+1+1) (by simp) ?_)
      case c1=>simp [Value.oneCell']
      case c2=>simp only [maxLen];omega
      case c3=>omega
      case c4=>simp;omega
      intro g1 cap w1 hown1 hgrow _ _;have hbd:=eX (B:=w.heap.size+1) ((hown.alloc _).alloc _) hgrow (by omega) (by simp;omega);have K1:=((KR.alloc _).alloc _).upto hbd (by omega)
      have hown2:w1.ownsRow (w.heap.size+1) 3 1 (.slice (some ⟨g1,0,none⟩) (oz (aC.take (k+1))).length cap) (oz (aC.take (k+1))).length ((oz (aC.take (k+1))).map (Value.int .i64)):=by rw [HS.out];simpa using hown1
      have hv:(oz (aC.take k)).length+1=(oz (aC.take (k+1))).length:=by rw [HS.out];simp
      rw [hv];clear hown hgrow hown1 hbd hle hv HS hck1 sZ hcR;go_wp2
      go_roundw
      case rel=>exact ⟨k+1,by omega,by go_num,⟨_,_,rfl⟩,hown2,K1⟩
      case measure=>simp [intOf];omega
  · obtain rfl:k=aC.length:=by omega
    go_wp2;go_ret;have hr:M.objects ⟨pl,kd,ba,po,fi,cu,aC⟩=oz aC:=rfl;have hle:=Df aC;rw [List.take_length] at hown ⊢;rw [hr];exact ⟨A1,c1,rfl,Reads.je hown (fun b h=>by omega) (by omega),KR.bw⟩
theorem Q9 (w:World):vJ 139 #[] Jt (fun o=>decide (o.aT=0)) w:=by
 refine ⟨enters_of Tryz.func139 (by kernel_rfl) rfl,fun W x hb=>?_⟩;obtain ⟨xb,xp⟩:=x
 go_enter Tryz.func139,Tryz.ntmps139
 go_wp2;go_ret;exact ⟨dD (by by_cases h:xb=0 <;> simp [h]),hb.alloc hb.size _⟩
theorem Ep (S:Nat→Prop) (x:M.aV) (A:Option Addr) (c:Nat) (w:World) (hp:fP w S A c x.aC):
 Calls Tryz.prog 75 #[iy x A c] w fun e w'=>e= .returned (.bool (M.kX x))∧Below w.heap.size w w':=by
 obtain ⟨b1,b2,b3⟩:=hp.bd;obtain ⟨pl,kd,ba,po,fi,cu,aC⟩:=x
 simp only at hp b1 b3
 have K0:Keeps w (w.alloc (.cells #[.int .i64 pl,.string kd,.int .i64 ba,.int .i64 po,.int .i64 fi,.bool cu,.slice A aC.length c] 27)) 1 (w.alloc (.cells #[.int .i64 pl,.string kd,.int .i64 ba,.int .i64 po,.int .i64 fi,.bool cu,.slice A aC.length c] 27)):=Keeps.Nr w _
 go_enter Tryz.func75,Tryz.ntmps75
 go_wp2_with (go_at_call 65;refine (Et S A c aC _ _ _ _ (hp.below K0.bw) (Q9 _)).mono ?_;rintro e w1 ⟨rfl,hb1⟩;have K1:=K0.call hb1)
 go_ret;exact ⟨rfl,K1.bw⟩
theorem lW (n:Int) (w:World):Calls Tryz.prog 142 #[.int .i64 n] w fun r w'=>r= .returned (.int .i64 (M.side n))∧w=w':=by
 go_enter Tryz.func142,Tryz.ntmps142
 go_wp2
 all_goals
  go_ret;exact ⟨dw (by simp [M.side, *];try omega),rfl⟩
theorem jO (r:M.Rules) (s:M.State) (A:Option Addr) (c:Nat) (w:World) (hg:0≤s.group∧s.group≤2):Calls Tryz.prog 141 #[dX r s A c] w fun e w'=>e= .returned (.int .i64 (M.own s))∧Below w.heap.size w w':=by
 obtain ⟨g,tg,fo⟩:=r;obtain ⟨a0,a1,a2,a3,a4,gr,bl,b0,b1,b2,b3,b4,b5,b6,b7⟩:=s;obtain ⟨hg1,hg2⟩:=hg
 simp only at hg1 hg2
 go_enter Tryz.func141,Tryz.ntmps141
 go_wp2
 all_goals
  go_ret;exact ⟨dw (by first | (simp [M.own, *];done) | (simp_all [M.own];done)),(Below.refl _ _).alloc (Nat.le_refl _) _⟩
def Box (w:World) (b:Nat) (cs:List Value):Prop:=b<w.heap.size∧∀ j v,cs[j]? =some v→w.cell? ⟨b,j,none⟩=some v
theorem Box.below {w W:World} {b:Nat} {cs:List Value} (h:Box w b cs) (hb:Below w.heap.size w W):Box W b cs:=
 ⟨Nat.lt_of_lt_of_le h.1 hb.size,fun j v hj=>(hb.cell (p:=⟨b,j,none⟩) h.1).trans (h.2 j v hj)⟩
theorem Box.alloc {w:World} {b:Nat} {cs:List Value} (h:Box w b cs) (o:Obj):Box (w.alloc o) b cs:=h.below ((Below.refl _ _).alloc (Nat.le_refl _) o)
theorem Box.new (w:World) (us:List Value) (t:TypeId):Box (w.alloc (.cells us.toArray t)) w.heap.size us:=⟨by simp,fun j v h=>gG w us t _ rfl j v h⟩
theorem Box.newAt (w:World) (us:List Value) (t:TypeId) (g:Nat) (hg:w.heap.size=g):Box (w.alloc (.cells us.toArray t)) g us:=by subst hg;exact Box.new w us t
def aj (r:M.Rules) (s:M.State) (A:Option Addr) (c:Nat):List Value:=[.string r.game,.int .i64 r.target,.int .i64 r.bD,.int .i64 s.turn,.bool s.brk,.bool s.hand,.bool s.push,.bool s.pushed,.int .i64 s.group,.slice A s.au.length c,.int .i64 s.s0,.int .i64 s.s1,.int .i64 s.f0,.int .i64 s.f1,.int .i64 s.run,.int .i64 s.bI,.bool s.over,.int .i64 s.bP]
@[reducible] def ptr (b:Nat):Value:= .pointer (some ⟨b,0,none⟩)
section
variable {w:World} {Bf Bx Bc Bo Bk Bl:Nat} {r:M.Rules} {s:M.State} {x:M.aV} {A P:Option Addr} {c d:Nat} {S:Nat→Prop}
theorem SK (hf:Box w Bf (aj r s A c)):Asks 92 #[ptr Bf] (!s.over) w:=by
 refine ⟨enters_of Tryz.func92 (by kernel_rfl) rfl,fun W hb=>?_⟩;have kf:=hf.below hb;have alf:=kf.2 16 _ rfl
 go_enter Tryz.func92,Tryz.ntmps92
 go_wp2;go_ret;exact ⟨rfl,hb⟩
theorem SL (hc:Box w Bc [.bool (decide (x.kind=M.bC))]) (hx:Box w Bx (aA ⟨x,P,d⟩)) (hf:Box w Bf (aj r s A c)):Asks 93 #[ptr Bc,ptr Bx,ptr Bf] (M.q2 s x) w:=by
 refine ⟨enters_of Tryz.func93 (by kernel_rfl) rfl,fun W hb=>?_⟩;have kf:=hf.below hb;have kf3:=kf.2 3 _ rfl;have kc:=hc.below hb;have OO:=kc.2 0 _ rfl;have kx:=hx.below hb;have RP:=kx.2 0 _ rfl
 have hq:M.q2 s x=(decide (x.kind=M.bC) || decide (x.aG=s.turn)):=by unfold M.q2;rw [Bool.eq_iff_iff];simp
 rw [hq];obtain ⟨b1,h1⟩:∃ b,decide (x.kind=M.bC)=b:=⟨_,rfl⟩;obtain ⟨p1,h2⟩:∃ b,x.aG=b:=⟨_,rfl⟩;obtain ⟨p2,h3⟩:∃ b,s.turn=b:=⟨_,rfl⟩;rw [h1] at OO
 simp only [h1,h2,h3] at kf3 RP ⊢
 obtain ⟨b2,h4⟩:∃ b,(p1 == p2)=b:=⟨_,rfl⟩
 have h5:decide (p1=p2)=b2:=by rw [← h4,qC]
 rw [h5];clear h1 h2 h3 h5 hq
 cases b1 <;> cases b2
 all_goals
  go_enter Tryz.func93,Tryz.ntmps93
  go_wp2;go_ret;exact ⟨rfl,hb⟩
theorem Px (hc:Box w Bc [.bool (decide (x.kind=M.bC))]) (hf:Box w Bf (aj r s A c)) (hx:Box w Bx (aA ⟨x,P,d⟩)):Asks 94 #[ptr Bc,ptr Bf,ptr Bx] (M.q3 s x) w:=by
 refine ⟨enters_of Tryz.func94 (by kernel_rfl) rfl,fun W hb=>?_⟩;have kf:=hf.below hb;have kf4:=kf.2 4 _ rfl;have kc:=hc.below hb;have OO:=kc.2 0 _ rfl;have kx:=hx.below hb;have RQ:=kx.2 1 _ rfl
 have hq:M.q3 s x=(decide (x.kind=M.bC) || (s.brk == decide (x.kind=M.dS))):=by unfold M.q3;rw [Bool.eq_iff_iff];simp
 rw [hq];obtain ⟨b1,h1⟩:∃ b,decide (x.kind=M.bC)=b:=⟨_,rfl⟩;obtain ⟨b3,h3⟩:∃ b,s.brk=b:=⟨_,rfl⟩;obtain ⟨k,h2⟩:∃ b,x.kind=b:=⟨_,rfl⟩;rw [h1] at OO ⊢;rw [h2,h3]
 simp only [h2,h3] at kf4 RQ
 obtain ⟨b2,h4⟩:∃ b,(k.toList == [98,114,101,97,107])=b:=⟨_,rfl⟩
 have h5:decide (k=M.dS)=b2:=by rw [← h4,Bool.eq_iff_iff,beq_iff_eq,decide_eq_true_eq];exact ⟨fun e=>by subst e;rw [ByteArray.toList_eq],fun e=>kU (by rw [e,ByteArray.toList_eq])⟩
 rw [h5];clear h1 h2 h3 h5 hq
 cases b1 <;> cases b2 <;> cases b3
 all_goals
  go_enter Tryz.func94,Tryz.ntmps94
  go_wp2;go_ret
  first | exact ⟨rfl,hb⟩ | exact ⟨dD (by simp),hb⟩ | exact ⟨dD (by simp_all),hb⟩
theorem on_any (hf:Box w Bf (aj r s A c)) (hp:bQ w S A c s.au) (b:Int) (W:World) (hb:Below w.heap.size w W):
 Calls Tryz.prog 91 #[.int .i64 b,ptr Bf] W fun e w'=>e= .returned (.bool (decide (b∈s.au)))∧W=w':=by
 have kf:=hf.below hb;have kf9:=kf.2 9 _ rfl
 go_enter Tryz.func91,Tryz.ntmps91
 go_wp2_with (go_at_call 78;refine (iQ S A c s.au _ _ (hp.below hb)).mono ?_;rintro e eY ⟨rfl,rfl⟩)
 go_ret;exact ⟨rfl,rfl⟩
theorem SI (hl:Box w Bl [.bool (M.calls r x)]) (ho:Box w Bo [.func (.func 91) #[] #[ptr Bf]]) (hx:Box w Bx (aA ⟨x,P,d⟩)) (hf:Box w Bf (aj r s A c)) (hp:bQ w S A c s.au):Asks 96 #[ptr Bl,ptr Bo,ptr Bx] (M.q5 r s x) w:=by
 refine ⟨enters_of Tryz.func96 (by kernel_rfl) rfl,fun W hb=>?_⟩;have kl:=hl.below hb;have kl0:=kl.2 0 _ rfl;have ko:=ho.below hb;have IY:=ko.2 0 _ rfl;have kx:=hx.below hb;have kx2:=kx.2 2 _ rfl
 have hq:M.q5 r s x=if M.calls r x then decide (x.aT∈s.au) else (x.aT == 0):=by unfold M.q5;rw [Bool.eq_iff_iff];cases M.calls r x <;> simp
 rw [hq];clear hq
 cases hcl:M.calls r x with
 | true=>
   rw [hcl] at kl0;have Ls:=hide hcl;clear hcl
   cases hm:decide (x.aT∈s.au)
   all_goals
    go_enter Tryz.func96,Tryz.ntmps96
    go_wp2_with (go_at_call 91;refine (on_any hf hp _ _ hb).mono ?_;rintro e eY ⟨rfl,rfl⟩)
    go_ret;exact ⟨dD (by simp_all),hb⟩
 | false=>
   rw [hcl] at kl0;have Ls:=hide hcl;clear hcl
   go_enter Tryz.func96,Tryz.ntmps96
   go_wp2_with (go_at_call 91;refine (on_any hf hp _ _ hb).mono ?_;rintro e eY ⟨rfl,rfl⟩)
   go_ret;exact ⟨dD (by simp),hb⟩
theorem Py (hx:Box w Bx (aA ⟨x,P,d⟩)) (ho:Box w Bo [.func (.func 91) #[] #[ptr Bf]]) (hf:Box w Bf (aj r s A c)) (hp:bQ w S A c s.au):Asks 97 #[ptr Bx,ptr Bo] (M.q6 s x) w:=by
 refine ⟨enters_of Tryz.func97 (by kernel_rfl) rfl,fun W hb=>?_⟩;have ko:=ho.below hb;have IY:=ko.2 0 _ rfl;have kx:=hx.below hb;have kx4:=kx.2 4 _ rfl
 have hq:M.q6 s x=((x.first == 0) || decide (x.first∈s.au)):=by unfold M.q6;rw [Bool.eq_iff_iff];simp
 rw [hq];clear hq
 rcases Bool.eq_false_or_eq_true (x.first == 0) with h0 | h0
 all_goals
  rw [h0]
  go_enter Tryz.func97,Tryz.ntmps97
  go_wp2_with (go_at_call 91;refine (on_any hf hp _ _ hb).mono ?_;rintro e eY ⟨rfl,rfl⟩)
  go_ret;exact ⟨dD (by simp),hb⟩
end
def many (fo:Int) (over:Bool) (n:Int):Bool:=decide (0<fo) && (decide (fo<n) || (decide (n=fo) && !over))
def fE (fo:Int) (over:Bool) (n:Int):Int:=aS [wi n 0 99999,wh (many fo over n) 3]
theorem TA (r:M.Rules) (over:Bool) (n:Int):fE r.bD over n=wh (M.oL r over n) 3:=by
 unfold fE M.oL many
 by_cases h1:M.out n 0 99999=true
 · simp [wi,wh,aS,h1]
 · by_cases h2:0<r.bD <;> by_cases h3:r.bD<n <;> by_cases h4:n=r.bD <;> cases over <;> simp [wi,wh,aS,h1,h2,h3,h4]
theorem wh0 {b:Bool} {e:Int} (he:e≠0):(wh b e=0↔b=false):=by cases b <;> simp [wh,he]
theorem oM {r:M.Rules} {s:M.State} (h:wi s.s0 (-99999) 99999≠0∨wi s.s1 (-99999) 99999≠0∨fE r.bD s.over s.f0≠0∨fE r.bD s.over s.f1≠0):M.dK r s=3:=by
 unfold M.dK
 rw [if_pos]
 simp only [TA,wi,ne_eq,wh0 (show (3:Int)≠0 by decide),Bool.not_eq_false] at h
 rcases h with h | h | h | h <;> simp [h]
theorem BJ {r:M.Rules} {s:M.State} (h1:wi s.s0 (-99999) 99999=0) (h2:wi s.s1 (-99999) 99999=0) (h3:fE r.bD s.over s.f0=0) (h4:fE r.bD s.over s.f1=0):M.dK r s=aS [wi s.run 0 99999,wi s.bI 1 1000]:=by
 unfold M.dK
 simp only [TA,wi,wh0 (show (3:Int)≠0 by decide)] at h1 h2 h3 h4
 by_cases h5:M.out s.run 0 99999=true <;> by_cases h6:M.out s.bI 1 1000=true <;> simp [wi,wh,aS,h1,h2,h3,h4,h5,h6]
theorem wi3 {n a b:Int} (h:wi n a b≠0):wi n a b=3:=by unfold wi wh at*;split at h <;> simp_all
theorem fE3 {fo n:Int} {over:Bool} (h:fE fo over n≠0):fE fo over n=3:=by
 have:=TA ⟨M.dA,0,fo⟩ over n
 simp only at this
 rw [this] at h ⊢
 unfold wh at*;split at h <;> simp_all
theorem qo {a b:Bool} (h:a=b):Value.bool a=Value.bool b:=by rw [h]
theorem rP (r:M.Rules) (s:M.State) (A:Option Addr) (c:Nat) (w:World):
 Calls Tryz.prog 50 #[iJ r,oK s A c] w fun e w'=>e= .returned (.int .i64 (M.dK r s))∧Below w.heap.size w w':=by
 obtain ⟨g,tg,fo⟩:=r;obtain ⟨a0,a1,a2,a3,a4,gr,bl,b0,b1,b2,b3,b4,b5,b6,b7⟩:=s;have K0:Keeps w ((w.alloc (.cells #[.string g,.int .i64 tg,.int .i64 fo] 23)).alloc (.cells #[.int .i64 a0,.bool a1,.bool a2,.bool a3,.bool a4,.int .i64 gr,.slice A bl.length c,.int .i64 b0,.int .i64 b1,.int .i64 b2,.int .i64 b3,.int .i64 b4,.int .i64 b5,.bool b6,.int .i64 b7] 53)) 2 ((w.alloc (.cells #[.string g,.int .i64 tg,.int .i64 fo] 23)).alloc (.cells #[.int .i64 a0,.bool a1,.bool a2,.bool a3,.bool a4,.int .i64 gr,.slice A bl.length c,.int .i64 b0,.int .i64 b1,.int .i64 b2,.int .i64 b3,.int .i64 b4,.int .i64 b5,.bool b6,.int .i64 b7] 53)):=Keeps.of2 w _ _
 have i0:∀ w,(Instr.index 51 (.agg #[.int .i64 b0,.int .i64 b1]) (.int .i64 0)).run Tryz.prog w= .ok (.int .i64 b0) w:=fun _=>by kernel_rfl
 have i1:∀ w,(Instr.index 51 (.agg #[.int .i64 b0,.int .i64 b1]) (.int .i64 1)).run Tryz.prog w= .ok (.int .i64 b1) w:=fun _=>by kernel_rfl
 have i2:∀ w,(Instr.index 51 (.agg #[.int .i64 b2,.int .i64 b3]) (.int .i64 0)).run Tryz.prog w= .ok (.int .i64 b2) w:=fun _=>by kernel_rfl
 have i3:∀ w,(Instr.index 51 (.agg #[.int .i64 b2,.int .i64 b3]) (.int .i64 1)).run Tryz.prog w= .ok (.int .i64 b3) w:=fun _=>by kernel_rfl
 go_enter Tryz.func50,Tryz.ntmps50
 go_wp2
 go_loop [14] (fun i=>i= .int .i64 0∨(i= .int .i64 1∧wi b0 (-99999) 99999=0)∨(i= .int .i64 2∧wi b0 (-99999) 99999=0∧wi b1 (-99999) 99999=0)) (fun i=>2 - (intOf i).toNat)
 case atStart=>exact .inl rfl
 case round=>
  rcases hrel with rfl | ⟨rfl,H1⟩ | ⟨rfl,H1,H2⟩
  · by_cases hz:wi b0 (-99999) 99999=0
    · have hz':(wi b0 (-99999) 99999 != 0)=false:=by simp [hz]
      have HZ:=hide hz;clear hz
      go_wp2_with (go_at_call 64;refine (bU _ _ _ _).mono ?_;rintro e eY ⟨rfl,rfl⟩)
      go_round
      case rel=>exact .inr (.inl ⟨by first | rfl | go_num,HZ.out⟩)
      case measure=>simp [intOf]
    · have hz':(wi b0 (-99999) 99999 != 0)=true:=by simp [hz]
      have HZ:=hide hz;clear hz
      go_wp2_with (go_at_call 64;refine (bU _ _ _ _).mono ?_;rintro e eY ⟨rfl,rfl⟩)
      go_ret;exact ⟨dw (by rw [wi3 HZ.out];exact (oM (r:=⟨g,tg,fo⟩) (s:=⟨a0,a1,a2,a3,a4,gr,bl,b0,b1,b2,b3,b4,b5,b6,b7⟩) (.inl HZ.out)).symm),K0.bw⟩
  · have H1:=hide H1
    by_cases hz:wi b1 (-99999) 99999=0
    · have hz':(wi b1 (-99999) 99999 != 0)=false:=by simp [hz]
      have HZ:=hide hz;clear hz
      go_wp2_with (go_at_call 64;refine (bU _ _ _ _).mono ?_;rintro e eY ⟨rfl,rfl⟩)
      go_round
      case rel=>exact .inr (.inr ⟨by first | rfl | go_num,H1.out,HZ.out⟩)
      case measure=>simp [intOf]
    · have hz':(wi b1 (-99999) 99999 != 0)=true:=by simp [hz]
      have HZ:=hide hz;clear hz
      go_wp2_with (go_at_call 64;refine (bU _ _ _ _).mono ?_;rintro e eY ⟨rfl,rfl⟩)
      go_ret;exact ⟨dw (by rw [wi3 HZ.out];exact (oM (r:=⟨g,tg,fo⟩) (s:=⟨a0,a1,a2,a3,a4,gr,bl,b0,b1,b2,b3,b4,b5,b6,b7⟩) (.inr (.inl HZ.out))).symm),K0.bw⟩
  · have H1:=hide H1
    have H2:=hide H2;go_wp2
    go_loopw [25] (fun i wr=>Keeps w ((w.alloc (.cells #[.string g,.int .i64 tg,.int .i64 fo] 23)).alloc (.cells #[.int .i64 a0,.bool a1,.bool a2,.bool a3,.bool a4,.int .i64 gr,.slice A bl.length c,.int .i64 b0,.int .i64 b1,.int .i64 b2,.int .i64 b3,.int .i64 b4,.int .i64 b5,.bool b6,.int .i64 b7] 53)) 2 wr∧(i= .int .i64 0∨(i= .int .i64 1∧fE fo b6 b2=0)∨(i= .int .i64 2∧fE fo b6 b2=0∧fE fo b6 b3=0))) (fun i _=>2 - (intOf i).toNat)
    case atStart=>exact ⟨K0,.inl rfl⟩
    case round=>
     obtain ⟨KR,hrel⟩:=hrel;have hcR:=KR.cell
     rcases hrel with rfl | ⟨rfl,H3⟩ | ⟨rfl,H3,H4⟩
     · go_upto_region 11 with fail
       go_cut [10] (fun v wx=>v= .bool (many fo b6 b2)∧Keeps w ((w.alloc (.cells #[.string g,.int .i64 tg,.int .i64 fo] 23)).alloc (.cells #[.int .i64 a0,.bool a1,.bool a2,.bool a3,.bool a4,.int .i64 gr,.slice A bl.length c,.int .i64 b0,.int .i64 b1,.int .i64 b2,.int .i64 b3,.int .i64 b4,.int .i64 b5,.bool b6,.int .i64 b7] 53)) 2 wx)
       case first=>
        all_goals rcases Bool.eq_false_or_eq_true (b2 == fo) with y0 | y0
        all_goals go_wp2
        all_goals go_meet
        all_goals
         refine ⟨?_,KR⟩;exact qo (by first | (simp [many,qC, *];done) | (simp [many,qC, *];intros;omega) | (simp [many,qC, *];intros;exfalso;omega) | (simp_all [many,qC];done))
       case rest=>
        obtain ⟨rfl,K1⟩:=hcut;have hc1:=K1.cell
        by_cases hz:fE fo b6 b2=0
        · have hz':(aS [wi b2 0 99999,wh (many fo b6 b2) 3] != 0)=false:=by rw [show aS [wi b2 0 99999,wh (many fo b6 b2) 3]=0 from hz];rfl
          have HZ:=hide hz;clear hz
          go_wp2_with (first | (go_at_call 64;refine (bU _ _ _ _).mono ?_;rintro e eY ⟨rfl,rfl⟩) | (go_at_call 30;refine (dF _ _ _).mono ?_;rintro e eY ⟨rfl,rfl⟩) | (go_at_call 28;refine (first_any (fun _=>True) _ _ [wi b2 0 99999,wh (many fo b6 b2) 3] _ (bQ.lit _ _ [wi b2 0 99999,wh (many fo b6 b2) 3] (by simp) _ trivial)).mono ?_;rintro e eY ⟨rfl,rfl⟩))
          go_roundw
          case rel=>exact ⟨K1.alloc _,.inr (.inl ⟨by first | rfl | go_num,HZ.out⟩)⟩
          case measure=>simp [intOf]
        · have hz':(aS [wi b2 0 99999,wh (many fo b6 b2) 3] != 0)=true:=by have:aS [wi b2 0 99999,wh (many fo b6 b2) 3]≠0:=hz;simp [this]
          have HZ:=hide hz;clear hz
          go_wp2_with (first | (go_at_call 64;refine (bU _ _ _ _).mono ?_;rintro e eY ⟨rfl,rfl⟩) | (go_at_call 30;refine (dF _ _ _).mono ?_;rintro e eY ⟨rfl,rfl⟩) | (go_at_call 28;refine (first_any (fun _=>True) _ _ [wi b2 0 99999,wh (many fo b6 b2) 3] _ (bQ.lit _ _ [wi b2 0 99999,wh (many fo b6 b2) 3] (by simp) _ trivial)).mono ?_;rintro e eY ⟨rfl,rfl⟩))
          go_ret;exact ⟨dw (by rw [show aS [wi b2 0 99999,wh (many fo b6 b2) 3]=3 from fE3 HZ.out];exact (oM (r:=⟨g,tg,fo⟩) (s:=⟨a0,a1,a2,a3,a4,gr,bl,b0,b1,b2,b3,b4,b5,b6,b7⟩) <| .inr (.inr (.inl HZ.out))).symm),(K1.alloc _).bw⟩
     · have H3:=hide H3
       go_upto_region 11 with fail
       go_cut [10] (fun v wx=>v= .bool (many fo b6 b3)∧Keeps w ((w.alloc (.cells #[.string g,.int .i64 tg,.int .i64 fo] 23)).alloc (.cells #[.int .i64 a0,.bool a1,.bool a2,.bool a3,.bool a4,.int .i64 gr,.slice A bl.length c,.int .i64 b0,.int .i64 b1,.int .i64 b2,.int .i64 b3,.int .i64 b4,.int .i64 b5,.bool b6,.int .i64 b7] 53)) 2 wx)
       case first=>
        all_goals rcases Bool.eq_false_or_eq_true (b3 == fo) with y0 | y0
        all_goals go_wp2
        all_goals go_meet
        all_goals
         refine ⟨?_,KR⟩;exact qo (by first | (simp [many,qC, *];done) | (simp [many,qC, *];intros;omega) | (simp [many,qC, *];intros;exfalso;omega) | (simp_all [many,qC];done))
       case rest=>
        obtain ⟨rfl,K1⟩:=hcut;have hc1:=K1.cell
        by_cases hz:fE fo b6 b3=0
        · have hz':(aS [wi b3 0 99999,wh (many fo b6 b3) 3] != 0)=false:=by rw [show aS [wi b3 0 99999,wh (many fo b6 b3) 3]=0 from hz];rfl
          have HZ:=hide hz;clear hz
          go_wp2_with (first | (go_at_call 64;refine (bU _ _ _ _).mono ?_;rintro e eY ⟨rfl,rfl⟩) | (go_at_call 30;refine (dF _ _ _).mono ?_;rintro e eY ⟨rfl,rfl⟩) | (go_at_call 28;refine (first_any (fun _=>True) _ _ [wi b3 0 99999,wh (many fo b6 b3) 3] _ (bQ.lit _ _ [wi b3 0 99999,wh (many fo b6 b3) 3] (by simp) _ trivial)).mono ?_;rintro e eY ⟨rfl,rfl⟩))
          go_roundw
          case rel=>exact ⟨K1.alloc _,.inr (.inr ⟨by first | rfl | go_num,H3.out,HZ.out⟩)⟩
          case measure=>simp [intOf]
        · have hz':(aS [wi b3 0 99999,wh (many fo b6 b3) 3] != 0)=true:=by have:aS [wi b3 0 99999,wh (many fo b6 b3) 3]≠0:=hz;simp [this]
          have HZ:=hide hz;clear hz
          go_wp2_with (first | (go_at_call 64;refine (bU _ _ _ _).mono ?_;rintro e eY ⟨rfl,rfl⟩) | (go_at_call 30;refine (dF _ _ _).mono ?_;rintro e eY ⟨rfl,rfl⟩) | (go_at_call 28;refine (first_any (fun _=>True) _ _ [wi b3 0 99999,wh (many fo b6 b3) 3] _ (bQ.lit _ _ [wi b3 0 99999,wh (many fo b6 b3) 3] (by simp) _ trivial)).mono ?_;rintro e eY ⟨rfl,rfl⟩))
          go_ret;exact ⟨dw (by rw [show aS [wi b3 0 99999,wh (many fo b6 b3) 3]=3 from fE3 HZ.out];exact (oM (r:=⟨g,tg,fo⟩) (s:=⟨a0,a1,a2,a3,a4,gr,bl,b0,b1,b2,b3,b4,b5,b6,b7⟩) <| .inr (.inr (.inr HZ.out))).symm),(K1.alloc _).bw⟩
     · have H3:=hide H3
       have H4:=hide H4;go_wp2
       go_region_held3 (fun w'=>∀ p q,p<w.heap.size+2→w'.cell? ⟨p,q,none⟩=((w.alloc (.cells #[.string g,.int .i64 tg,.int .i64 fo] 23)).alloc (.cells #[.int .i64 a0,.bool a1,.bool a2,.bool a3,.bool a4,.int .i64 gr,.slice A bl.length c,.int .i64 b0,.int .i64 b1,.int .i64 b2,.int .i64 b3,.int .i64 b4,.int .i64 b5,.bool b6,.int .i64 b7] 53)).cell? ⟨p,q,none⟩) (first | exact KR.cell | exact (KR.alloc _).cell) (first | (go_at_call 64;refine (bU _ _ _ _).mono ?_;rintro e eY ⟨rfl,rfl⟩) | (go_at_call 28;refine (first_any (fun _=>True) _ _ [wi b4 0 99999,wi b5 1 1000] _ (bQ.drewN (bQ.lit _ _ [wi b4 0 99999,wi b5 1 1000] (by simp) _ trivial) 1)).mono ?_;rintro e eY ⟨rfl,rfl⟩))
       go_wp2;go_ret;exact ⟨dw (BJ (r:=⟨g,tg,fo⟩) (s:=⟨a0,a1,a2,a3,a4,gr,bl,b0,b1,b2,b3,b4,b5,b6,b7⟩) H1.out H2.out H3.out H4.out).symm,(KR.alloc _).drew.bw⟩
end Go.Proofs.YtcjglfbpjkdgiaaGreatDoor
