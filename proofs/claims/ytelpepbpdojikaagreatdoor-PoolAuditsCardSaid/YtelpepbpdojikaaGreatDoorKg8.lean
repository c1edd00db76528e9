/- Parts of the proofs about chapter 5 (pool), joined by program. -/
import Derived.Test.YtelpepbpdojikaaGreatDoorKg5
import Derived.Test.YtelpepbpdojikaaGreatDoorKg6
import Derived.Test.YtelpepbpdojikaaGreatDoorKg9
set_option maxHeartbeats 1600000
set_option maxRecDepth 100000
set_option linter.unusedVariables false
set_option linter.unusedSimpArgs false
namespace Go.Proofs.YtelpepbpdojikaaGreatDoor
open Go.RowKit
theorem tu {P:Program} {md:Region.Mode} {ops:Array Oper} {Q:Exit→Act→World→Prop} {S:World→Prop} {oi:Oper} {fuel:Nat} {listed l':Array Bool} {a a':Act} {w:World} (i:Nat) (h:wpAnyH P md ops Q S fuel l' a' w) (hi:ops[i]? =some oi:=by exact ga rfl) (h3:(Region.noSelect ops && (Region.free md ops listed i && (Region.ready md ops listed).contains i))=true:=by kernel_rfl) (hw:Region.wanted oi (yielded ops a.tmps)=false:=by rfl) (hS:S w:=by assumption) (hQ:∀ c a w,Q (.panic c) (a.put oi.dst undef) w→Q (.panic c) a w:=by exact fun _ _ _ h=>h) (hl:listed.setIfInBounds i true=l':=by (try simp only [la,lz,ls]);exact rfl) (ha:a.put oi.dst undef=a':=by (try simp only [Act.put,la,lz,ls]);exact rfl):wpAnyH P md ops Q S (fuel+1) listed a w:=by
 subst hl ha
 rw [Bool.and_eq_true,Bool.and_eq_true] at h3
 exact wpAnyH_take hi h3.1 h3.2.1 h3.2.2 hQ (Or.inr ⟨hw,rfl⟩) hS h
theorem tr {P:Program} {md:Region.Mode} {ops:Array Oper} {Q:Exit→Act→World→Prop} {S:World→Prop} {oi:Oper} {fuel:Nat} {listed l':Array Bool} {a:Act} {w:World} (i:Nat) (h:∀ K:Act→World→Prop,Shut (∀ a w,S w→(S w→wpAnyH P md ops Q S fuel l' a w)→K a w)→if Region.wanted oi (yielded ops a.tmps)=true then Oper.wp P oi a w K Q else K (a.put oi.dst undef) w) (hi:ops[i]? =some oi:=by exact ga rfl) (hr:Region.ready md ops listed=[i]:=by kernel_rfl) (hl:listed.setIfInBounds i true=l':=by (try simp only [la,lz,ls]);exact rfl):wpAnyH P md ops Q S (fuel+1) listed a w:=by
 subst hl
 exact wpAnyH_ready hr (by simp) (AllReadyH.cons hi h AllReadyH.nil)
theorem Ak (r:M.Rules):M.aH r=if r.game=M.aB then aU [wi r.target 1 200,wh (!decide (r.aY=0) && M.out r.aY 2 9) 3] else if r.game=M.aQ∨r.game=M.bM then aU [wi r.target 0 0,wh (!decide (r.aY=0) && M.out r.aY 2 9) 3] else 13:=by
 have h0:M.out r.target 0 0=decide (r.target≠0):=by unfold M.out;rw [Bool.eq_iff_iff];simp only [decide_eq_true_eq];omega
 unfold M.aH M.rP
 simp only [wi,wh,aU,h0]
 by_cases h1:r.game=M.aB
 · simp only [h1,true_or,decide_true,Bool.true_eq_false,if_false,if_true,true_and,not_true,ne_eq,false_and,false_or]
   by_cases h2:M.out r.target 1 200=true
   · simp [h2]
   · by_cases h3:r.aY=0 <;> by_cases h4:M.out r.aY 2 9=true <;> simp [h2,h3,h4]
 · by_cases h2:r.game=M.aQ∨r.game=M.bM
   · simp only [h1,h2,false_or,decide_true,Bool.true_eq_false,if_false,if_true,false_and,ne_eq,not_false_eq_true,true_and]
     by_cases h3:r.target=0 <;> by_cases h4:r.aY=0 <;> by_cases h5:M.out r.aY 2 9=true <;> simp [h3,h4,h5]
   · simp only [h1,h2,or_self,decide_false,if_false,if_true]
theorem rJ (r:M.Rules) (w:World):Calls Tryz.prog 91 #[jM r] w fun e w'=>e= .returned (.int .i64 (wh (!decide (r.aY=0) && M.out r.aY 2 9) 3))∧Below w.heap.size w w':=by
 obtain ⟨g,tg,fo⟩:=r
 go_enter Tryz.func91,Tryz.ntmps91
 go_wp2_with (go_at_call 87;refine (bY _ _ _).mono ?_;rintro e dO ⟨rfl,rfl⟩)
 all_goals
  go_ret
  exact ⟨dG (by congr 1;simp [M.out, *]),(Below.refl _ _).alloc (Nat.le_refl _) _⟩
theorem dP (r:M.Rules) (w:World):Calls Tryz.prog 39 #[jM r] w fun e w'=>e= .returned (.int .i64 (M.aH r))∧Below w.heap.size w w':=by
 rw [Ak]
 obtain ⟨g,tg,fo⟩:=r
 rcases E8 g with rfl | rfl | rfl | ⟨h0,h1,h2,hk⟩
 · go_enter Tryz.func39,Tryz.ntmps39
   go_wp2
   have K0:Keeps w (w.alloc (.cells #[.string M.aB,.int .i64 tg,.int .i64 fo] 23)) 1 (w.alloc (.cells #[.string M.aB,.int .i64 tg,.int .i64 fo] 23)):=Keeps.FT w _
   go_region_held3 (fun w'=>∀ p q,p<w.heap.size+1→w'.cell? ⟨p,q,none⟩=(w.alloc (.cells #[.string M.aB,.int .i64 tg,.int .i64 fo] 23)).cell? ⟨p,q,none⟩) (first | exact K0.cell | exact K1.cell | exact (K1.alloc _).cell) (first | (go_at_call 86;refine (bn _ _ _ _).mono ?_;rintro e dO ⟨rfl,rfl⟩) | (go_at_call 91;refine (rJ ⟨M.aB,tg,fo⟩ _).mono ?_;rintro e w1 ⟨rfl,hb1⟩;have K1:=K0.drew.call hb1) | (go_at_call 85;refine (first_any (fun _=>True) _ _ [wi tg 1 200,wh (!decide (fo=0) && M.out fo 2 9) 3] _ (bD.lit _ _ [wi tg 1 200,wh (!decide (fo=0) && M.out fo 2 9) 3] (by simp) _ trivial)).mono ?_;rintro e dO ⟨rfl,rfl⟩))
   go_wp2
   go_ret
   exact ⟨rfl,(K1.alloc _).bw⟩
 · go_enter Tryz.func39,Tryz.ntmps39
   go_wp2
   have K0:Keeps w (w.alloc (.cells #[.string M.aQ,.int .i64 tg,.int .i64 fo] 23)) 1 (w.alloc (.cells #[.string M.aQ,.int .i64 tg,.int .i64 fo] 23)):=Keeps.FT w _
   go_region_held3 (fun w'=>∀ p q,p<w.heap.size+1→w'.cell? ⟨p,q,none⟩=(w.alloc (.cells #[.string M.aQ,.int .i64 tg,.int .i64 fo] 23)).cell? ⟨p,q,none⟩) (first | exact K0.cell | exact K1.cell | exact (K1.alloc _).cell) (first | (go_at_call 86;refine (bn _ _ _ _).mono ?_;rintro e dO ⟨rfl,rfl⟩) | (go_at_call 91;refine (rJ ⟨M.aQ,tg,fo⟩ _).mono ?_;rintro e w1 ⟨rfl,hb1⟩;have K1:=K0.drew.call hb1) | (go_at_call 85;refine (first_any (fun _=>True) _ _ [wi tg 0 0,wh (!decide (fo=0) && M.out fo 2 9) 3] _ (bD.lit _ _ [wi tg 0 0,wh (!decide (fo=0) && M.out fo 2 9) 3] (by simp) _ trivial)).mono ?_;rintro e dO ⟨rfl,rfl⟩))
   go_wp2
   go_ret
   exact ⟨rfl,(K1.alloc _).bw⟩
 · go_enter Tryz.func39,Tryz.ntmps39
   go_wp2
   have K0:Keeps w (w.alloc (.cells #[.string M.bM,.int .i64 tg,.int .i64 fo] 23)) 1 (w.alloc (.cells #[.string M.bM,.int .i64 tg,.int .i64 fo] 23)):=Keeps.FT w _
   go_region_held3 (fun w'=>∀ p q,p<w.heap.size+1→w'.cell? ⟨p,q,none⟩=(w.alloc (.cells #[.string M.bM,.int .i64 tg,.int .i64 fo] 23)).cell? ⟨p,q,none⟩) (first | exact K0.cell | exact K1.cell | exact (K1.alloc _).cell) (first | (go_at_call 86;refine (bn _ _ _ _).mono ?_;rintro e dO ⟨rfl,rfl⟩) | (go_at_call 91;refine (rJ ⟨M.bM,tg,fo⟩ _).mono ?_;rintro e w1 ⟨rfl,hb1⟩;have K1:=K0.drew.call hb1) | (go_at_call 85;refine (first_any (fun _=>True) _ _ [wi tg 0 0,wh (!decide (fo=0) && M.out fo 2 9) 3] _ (bD.lit _ _ [wi tg 0 0,wh (!decide (fo=0) && M.out fo 2 9) 3] (by simp) _ trivial)).mono ?_;rintro e dO ⟨rfl,rfl⟩))
   go_wp2
   go_ret
   exact ⟨rfl,(K1.alloc _).bw⟩
 · have hn:¬ (g=M.aB)∧¬ (g=M.aQ∨g=M.bM):=by refine ⟨fun e=>?_,fun e=>?_⟩ <;> (have:M.rP g=true:=by (unfold M.rP;simp [e])) <;> rw [hk] at this <;> cases this
   rw [if_neg hn.1,if_neg hn.2]
   clear hn
   have h0':(g.toList == [115,116,114,97,105,103,104,116])=false:=beq_eq_false_iff_ne.2 h0
   have h1':(g.toList == [101,105,103,104,116])=false:=beq_eq_false_iff_ne.2 h1
   have h2':(g.toList == [110,105,110,101])=false:=beq_eq_false_iff_ne.2 h2
   go_enter Tryz.func39,Tryz.ntmps39
   go_wp2
   go_ret
   exact ⟨rfl,(Below.refl _ _).alloc (Nat.le_refl _) _⟩
theorem xR (x:M.aI):M.cZ x=if M.iK x≠0 then M.iK x else if M.eH [] x.aA≠0 then M.eH [] x.aA else M.sK x:=rfl
theorem rO (a b:Int):(a == b)=decide (a=b):=by by_cases h:a=b <;> simp [h]
theorem wK (pl ba po fi:Int) (kd:ByteArray) (cu:Bool) (aA:List M.rD) (b1 b2 b3:Bool) (h1:b1= !M.isKind kd) (h2:b2=decide (decide (ba=0)≠decide (po=0))) (h3:b3=decide (16<aA.length)):
 aU [wi pl 0 1,wh b1 13,wi ba 0 15,wi po 0 6,wi fi 0 15,wh b2 2,wh b3 5]=M.iK ⟨pl,kd,ba,po,fi,cu,aA⟩:=by
 subst h1 h2 h3
 unfold M.iK
 simp only [wi,wh,aU]
 by_cases h1:M.out pl 0 1=true
 · simp [h1]
 by_cases h2:M.isKind kd=true
 · by_cases h3:M.out ba 0 15=true
   · simp [h1,h2,h3]
   by_cases h4:M.out po 0 6=true
   · simp [h1,h2,h3,h4]
   by_cases h4':M.out fi 0 15=true
   · simp [h1,h2,h3,h4,h4']
   by_cases h5:(ba=0↔po=0) <;> by_cases h7:16<aA.length <;> simp [h1,h2,h3,h4,h4',h5,h7]
 · simp [h1,h2]
theorem BR {l:List M.rD} {k:Nat} (hk:k<l.length):M.eH (l.take k) (l.drop k)=
 if aU [wi l[k].aJ 0 15,wi l[k].aP 1 6,wh ((l.take k).any fun o=>decide (o.aJ=l[k].aJ)) 9]≠0 then aU [wi l[k].aJ 0 15,wi l[k].aP 1 6,wh ((l.take k).any fun o=>decide (o.aJ=l[k].aJ)) 9] else M.eH (l.take (k+1)) (l.drop (k+1)):=by
 rw [xQ hk]
 have hm:(l[k].aJ∈(l.take k).map (·.aJ))↔((l.take k).any fun o=>decide (o.aJ=l[k].aJ))=true:=by
  rw [List.mem_map,List.any_eq_true];simp only [decide_eq_true_eq]
 simp only [wi,wh,aU,hm]
 by_cases h1:M.out l[k].aJ 0 15=true
 · simp [h1]
 by_cases h2:M.out l[k].aP 1 6=true
 · simp [h1,h2]
 by_cases h3:((l.take k).any fun o=>decide (o.aJ=l[k].aJ))=true
 · simp [h1,h2,h3]
 · simp [h1,h2,h3]
theorem EG (B:Nat) (b:Int) (w:World) (hB:B<w.heap.size) (hc:w.cell? ⟨B,0,none⟩=some (.int .i64 b)):yP 89 #[.pointer (some ⟨B,0,none⟩)] OG (fun o=>decide (o.aJ=b)) w:=by
 refine ⟨enters_of Tryz.func89 (by kernel_rfl) rfl,fun W x hb=>?_⟩
 have hc1:=(hb.cell (p:=⟨B,0,none⟩) hB).trans hc
 have hlt:B<W.heap.size:=Nat.lt_of_lt_of_le hB hb.size
 obtain ⟨xb,xp⟩:=x
 clear hc
 go_enter Tryz.func89,Tryz.ntmps89
 go_wp2
 go_ret
 exact ⟨bZ (by by_cases h:xb=b <;> simp [h]),hb.alloc hb.size _⟩
theorem yX (x:M.aI) (h:M.isKind x.kind=false):M.iK x≠0:=by
 intro h0
 have:=(Fe h0).kind
 rw [h] at this;cases this
theorem FV {k:ByteArray} (h:M.jF k=true):¬ (k=M.jo∨k=M.aT):=by
 unfold M.jF at h
 rw [decide_eq_true_eq] at h
 exact not_or.2 h
theorem Iw {k:ByteArray} (h:M.jF k=false):k=M.jo∨k=M.aT:=by
 unfold M.jF at h
 rw [decide_eq_false_iff_not] at h
 by_cases h1:k=M.jo
 · exact .inl h1
 · by_cases h2:k=M.aT
   · exact .inr h2
   · exact absurd ⟨h1,h2⟩ h
theorem OL {x:M.aI} {b:Bool} (h:x.kind=M.jo∨x.kind=M.aT) (hb:b=decide (x.aJ≠0∨x.first≠0∨x.dA∨x.aA≠[])):wh b 1=M.sK x:=by
 subst hb
 unfold M.sK wh
 simp only [h,true_and,decide_eq_true_eq]
theorem vS (S:Nat→Prop) (x:M.aI) (A:Option Addr) (c:Nat) (w:World) (hp:jl w S A c x.aA):
 Calls Tryz.prog 35 #[iO x A c] w fun e w'=>e= .returned (.int .i64 (M.cZ x))∧Below w.heap.size w w':=by
 obtain ⟨b1,b2,b3⟩:=hp.bd
 obtain ⟨pl,kd,ba,po,fi,cu,aA⟩:=x
 simp only at hp b1 b3
 have K0:Keeps w (w.alloc (.cells #[.int .i64 pl,.string kd,.int .i64 ba,.int .i64 po,.int .i64 fi,.bool cu,.slice A aA.length c] 66)) 1 (w.alloc (.cells #[.int .i64 pl,.string kd,.int .i64 ba,.int .i64 po,.int .i64 fi,.bool cu,.slice A aA.length c] 66)):=Keeps.FT w _
 by_cases hk:M.isKind kd=true
 · have hl0:=jg hk (w:=((w.alloc (.cells #[.int .i64 pl,.string kd,.int .i64 ba,.int .i64 po,.int .i64 fi,.bool cu,.slice A aA.length c] 66)).alloc (.map (kE 6) 6)).drew) (xw w _ _) true
   have hl1:=jg hk (w:=(((w.alloc (.cells #[.int .i64 pl,.string kd,.int .i64 ba,.int .i64 po,.int .i64 fi,.bool cu,.slice A aA.length c] 66)).alloc (.map (kE 6) 6)).alloc (.cells #[.bool false,.bool false,.nilFunc] 158)).drew) (zA w _ _ _) true
   have hl2:=jg hk (w:=(((w.alloc (.cells #[.int .i64 pl,.string kd,.int .i64 ba,.int .i64 po,.int .i64 fi,.bool cu,.slice A aA.length c] 66)).alloc (.cells #[.bool false,.bool false,.nilFunc] 158)).alloc (.map (kE 6) 6)).drew) (Bq w _ _ _) true
   go_enter Tryz.func35,Tryz.ntmps35
   go_upto_region 1 with (fail)
   go_cut [3,4] (fun v3 v4 wx=>∃ D,v3= .pointer (some ⟨D,0,none⟩)∧v4= .bool true∧w.heap.size+1≤D∧D<wx.heap.size∧wx.cell? ⟨D,0,none⟩=some (.bool (M.jF kd))∧Keeps w (w.alloc (.cells #[.int .i64 pl,.string kd,.int .i64 ba,.int .i64 po,.int .i64 fi,.bool cu,.slice A aA.length c] 66)) 1 wx)
   case first=>
    go_region_held3 (fun w'=>∀ p q,p<w.heap.size+1→w'.cell? ⟨p,q,none⟩=(w.alloc (.cells #[.int .i64 pl,.string kd,.int .i64 ba,.int .i64 po,.int .i64 fi,.bool cu,.slice A aA.length c] 66)).cell? ⟨p,q,none⟩) (first | exact K0.cell | exact (K0.alloc _).cell | exact ((K0.alloc _).alloc _).cell) (first | (go_at_call 84;refine (rF _).mono ?_;rintro e w1 ⟨rfl,rfl⟩))
    all_goals go_wp2
    all_goals go_meet
    all_goals exact ⟨_,rfl,rfl,by omega,by simp,by first | exact dZ _ [_,_,_] _ _ (by simp) 0 _ rfl | exact ES _ [_,_,_] _ _ _ (by simp) 0 _ rfl,((K0.alloc _).alloc _).drew⟩
   case rest=>
    obtain ⟨D,rfl,rfl,hD,hD1,hDc,K1⟩:=hcut
    clear hl0 hl1 hl2
    go_upto_region 2 with (fail)
    go_cut [5] (fun v5 wy=>v5= .int .i64 (M.iK ⟨pl,kd,ba,po,fi,cu,aA⟩)∧Below wc.heap.size wc wy)
    case first=>
     go_region_held3 (fun w'=>∀ p q,p<w.heap.size+1→w'.cell? ⟨p,q,none⟩=(w.alloc (.cells #[.int .i64 pl,.string kd,.int .i64 ba,.int .i64 po,.int .i64 fi,.bool cu,.slice A aA.length c] 66)).cell? ⟨p,q,none⟩) (first | exact K1.cell | exact (K1.alloc _).cell) (first | (go_at_call 86;refine (bn _ _ _ _).mono ?_;rintro e dO ⟨rfl,rfl⟩) | (go_at_call 87;refine (bY _ _ _).mono ?_;rintro e dO ⟨rfl,rfl⟩) | (go_at_call 85;refine (first_any (fun _=>True) _ _ [wi pl 0 1,wh false 13,wi ba 0 15,wi po 0 6,wi fi 0 15,wh _ 2,wh _ 5] _ (bD.drewN (bD.lit _ _ [wi pl 0 1,wh false 13,wi ba 0 15,wi po 0 6,wi fi 0 15,wh _ 2,wh _ 5] (by simp) _ trivial) 1)).mono ?_;rintro e dO ⟨rfl,rfl⟩))
     all_goals go_wp2
     all_goals go_meet
     all_goals exact ⟨congrArg _ (wK pl ba po fi kd cu aA _ _ _ (by rw [hk];rfl) (by by_cases h5:ba=0 <;> by_cases h6:po=0 <;> simp [rO,h5,h6]) (decide_eq_decide.2 (by omega))),((Below.refl _ _).alloc (Nat.le_refl _) _).drew⟩
    case rest=>
     obtain ⟨rfl,hb2⟩:=hcut
     have K2:=K1.call hb2
     have hc2:=K2.cell
     have hD2:=(hb2.cell (p:=⟨D,0,none⟩) hD1).trans hDc
     have hD3:D<wc.heap.size:=Nat.lt_of_lt_of_le hD1 hb2.size
     have wZ:=hide (xR ⟨pl,kd,ba,po,fi,cu,aA⟩)
     by_cases hz:M.iK ⟨pl,kd,ba,po,fi,cu,aA⟩=0
     · have hz':(M.iK ⟨pl,kd,ba,po,fi,cu,aA⟩ != 0)=false:=by simp [hz]
       have HZ:=hide hz
       clear hz
       clear hDc hD1 hb2 K1
       go_wp2
       go_loopw [53] (fun i wr=>∃ k:Nat,k≤aA.length∧i= .int .i64 k∧M.eH [] aA=M.eH (aA.take k) (aA.drop k)∧Keeps w (w.alloc (.cells #[.int .i64 pl,.string kd,.int .i64 ba,.int .i64 po,.int .i64 fi,.bool cu,.slice A aA.length c] 66)) 1 wr∧D<wr.heap.size∧wr.cell? ⟨D,0,none⟩=some (.bool (M.jF kd))) (fun i _=>aA.length - (intOf i).toNat)
       case atStart=>exact ⟨0,Nat.zero_le _,rfl,by simp,K2,hD3,hD2⟩
       case round=>
        clear hc2 hD2 hD3 K2
        obtain ⟨k,hkl,rfl,hx1,KR,hDr,hDc⟩:=hrel
        have hcR:=KR.cell
        have DX:w.heap.size<wr.heap.size:=by have:=KR.sz;omega
        by_cases hlt:k<aA.length
        · obtain ⟨b,o,rfl,_,hbl,hc⟩:=hp.at_ k hlt
          obtain ⟨hck1,Fb⟩:=hc k hlt
          have P9:b<w.heap.size+1:=by omega
          have hlen:(aA.take k).length=k:=by rw [List.length_take];omega
          have hcf:=Bd S _ c (aA.take k) _ _ _ (wr.alloc (.cells #[.int .i64 aA[k].aJ,.int .i64 aA[k].aP] 107)) ((jl.take (hp.below KR.bw) k (by omega)).alloc _) (EG wr.heap.size aA[k].aJ _ (by simp) (dZ _ [_,_] _ _ rfl 0 _ rfl))
          have hst:=hx1.trans (BR hlt)
          rw [hlen] at hcf
          obtain ⟨tw,htw⟩:∃ t,((aA.take k).any fun o=>decide (o.aJ=aA[k].aJ))=t:=⟨_,rfl⟩
          rw [htw] at hcf hst
          clear hc hx1 hlen htw
          by_cases he:aU [wi aA[k].aJ 0 15,wi aA[k].aP 1 6,wh tw 9]=0
          · have he':(aU [wi aA[k].aJ 0 15,wi aA[k].aP 1 6,wh tw 9] != 0)=false:=by simp [he]
            rw [if_neg (by simp [he])] at hst
            have HX:=hide hst
            clear hst he
            go_wp2_with (go_at_call 88;refine hcf.mono ?_;rintro e w2 ⟨rfl,hb2⟩;have KP:Keeps wr (wr.alloc (.cells #[.int .i64 aA[k].aJ,.int .i64 aA[k].aP] 107)) 1 w2:=(Keeps.FT wr _).call hb2;have hcP:=KP.cell)
            go_wp2
            go_region_held3 (fun w'=>∀ p q,p<wr.heap.size+1→w'.cell? ⟨p,q,none⟩=(wr.alloc (.cells #[.int .i64 aA[k].aJ,.int .i64 aA[k].aP] 107)).cell? ⟨p,q,none⟩) (first | exact KP.cell | exact (KP.alloc _).cell) (first | (go_at_call 86;refine (bn _ _ _ _).mono ?_;rintro e dO ⟨rfl,rfl⟩) | (go_at_call 87;refine (bY _ _ _).mono ?_;rintro e dO ⟨rfl,rfl⟩) | (go_at_call 85;refine (first_any (fun _=>True) _ _ [wi aA[k].aJ 0 15,wi aA[k].aP 1 6,wh tw 9] _ (bD.drewN (bD.lit _ _ [wi aA[k].aJ 0 15,wi aA[k].aP 1 6,wh tw 9] (by simp) _ trivial) 1)).mono ?_;rintro e dO ⟨rfl,rfl⟩))
            clear hcP
            go_wp2
            go_roundw
            case rel=>exact ⟨k+1,by omega,by go_num,HX.out,KR.call (KP.alloc _).drew.bw,Nat.lt_of_lt_of_le hDr (KP.alloc _).drew.bw.size,((KP.alloc _).drew.bw.cell (p:=⟨D,0,none⟩) hDr).trans hDc⟩
            case measure=>simp [intOf];omega
          · have he':(aU [wi aA[k].aJ 0 15,wi aA[k].aP 1 6,wh tw 9] != 0)=true:=by simp [he]
            rw [if_pos he] at hst
            have HX:=hide hst
            have HE:=hide he
            clear hst he
            go_wp2_with (go_at_call 88;refine hcf.mono ?_;rintro e w2 ⟨rfl,hb2⟩;have KP:Keeps wr (wr.alloc (.cells #[.int .i64 aA[k].aJ,.int .i64 aA[k].aP] 107)) 1 w2:=(Keeps.FT wr _).call hb2;have hcP:=KP.cell)
            go_wp2
            go_region_held3 (fun w'=>∀ p q,p<wr.heap.size+1→w'.cell? ⟨p,q,none⟩=(wr.alloc (.cells #[.int .i64 aA[k].aJ,.int .i64 aA[k].aP] 107)).cell? ⟨p,q,none⟩) (first | exact KP.cell | exact (KP.alloc _).cell) (first | (go_at_call 86;refine (bn _ _ _ _).mono ?_;rintro e dO ⟨rfl,rfl⟩) | (go_at_call 87;refine (bY _ _ _).mono ?_;rintro e dO ⟨rfl,rfl⟩) | (go_at_call 85;refine (first_any (fun _=>True) _ _ [wi aA[k].aJ 0 15,wi aA[k].aP 1 6,wh tw 9] _ (bD.drewN (bD.lit _ _ [wi aA[k].aJ 0 15,wi aA[k].aP 1 6,wh tw 9] (by simp) _ trivial) 1)).mono ?_;rintro e dO ⟨rfl,rfl⟩))
            clear hcP
            go_wp2
            go_ret
            exact ⟨dG (by rw [wZ.out,if_neg (by simp [HZ.out]),if_pos (by rw [HX.out];exact HE.out)];exact HX.out.symm),(KR.call (KP.alloc _).drew.bw).bw⟩
        · have hz0:M.eH [] aA=0:=by rw [hx1,List.drop_of_length_le (by omega),M.eH]
          have HF:=hide (show M.cZ ⟨pl,kd,ba,po,fi,cu,aA⟩=M.sK ⟨pl,kd,ba,po,fi,cu,aA⟩ by rw [wZ.out,if_neg (by simp [HZ.out]),if_neg (by simp [hz0])])
          clear hx1 hz0
          cases hpl:M.jF kd with
          | true=>
            rw [hpl] at hDc
            have HP:=hide (FV hpl)
            clear hpl
            go_wp2_with (go_at_call 87;refine (bY _ _ _).mono ?_;rintro e dO ⟨rfl,rfl⟩)
            all_goals
             go_ret
             exact ⟨dG (by rw [HF.out];unfold M.sK;rw [if_neg (fun h=>HP.out h.1)];rfl),KR.bw⟩
          | false=>
            rw [hpl] at hDc
            have HP:=hide (Iw hpl)
            clear hpl
            go_wp2_with (go_at_call 87;refine (bY _ _ _).mono ?_;rintro e dO ⟨rfl,rfl⟩)
            all_goals
             go_ret
             exact ⟨dG (by rw [HF.out];exact OL HP.out (by first | (simp [*,List.length_pos_iff];done) | (simp_all [List.length_pos_iff];done))),KR.bw⟩
     · have hz':(M.iK ⟨pl,kd,ba,po,fi,cu,aA⟩ != 0)=true:=by simp [hz]
       have HZ:=hide hz
       clear hz
       go_wp2
       go_ret
       exact ⟨dG (by rw [wZ.out,if_pos HZ.out]),K2.bw⟩
 · have hk:M.isKind kd=false:=by simpa using hk
   have hl0:=lG hk (w:=((w.alloc (.cells #[.int .i64 pl,.string kd,.int .i64 ba,.int .i64 po,.int .i64 fi,.bool cu,.slice A aA.length c] 66)).alloc (.map (kE 6) 6)).drew) (xw w _ _) true
   have hl1:=lG hk (w:=(((w.alloc (.cells #[.int .i64 pl,.string kd,.int .i64 ba,.int .i64 po,.int .i64 fi,.bool cu,.slice A aA.length c] 66)).alloc (.map (kE 6) 6)).alloc (.cells #[.bool false,.bool false,.nilFunc] 158)).drew) (zA w _ _ _) true
   have hl2:=lG hk (w:=(((w.alloc (.cells #[.int .i64 pl,.string kd,.int .i64 ba,.int .i64 po,.int .i64 fi,.bool cu,.slice A aA.length c] 66)).alloc (.cells #[.bool false,.bool false,.nilFunc] 158)).alloc (.map (kE 6) 6)).drew) (Bq w _ _ _) true
   go_enter Tryz.func35,Tryz.ntmps35
   go_upto_region 1 with (fail)
   go_cut [3,4] (fun v3 v4 wx=>∃ D,v3= .pointer (some ⟨D,0,none⟩)∧v4= .bool false∧w.heap.size+1≤D∧D<wx.heap.size∧True∧Keeps w (w.alloc (.cells #[.int .i64 pl,.string kd,.int .i64 ba,.int .i64 po,.int .i64 fi,.bool cu,.slice A aA.length c] 66)) 1 wx)
   case first=>
    go_region_held3 (fun w'=>∀ p q,p<w.heap.size+1→w'.cell? ⟨p,q,none⟩=(w.alloc (.cells #[.int .i64 pl,.string kd,.int .i64 ba,.int .i64 po,.int .i64 fi,.bool cu,.slice A aA.length c] 66)).cell? ⟨p,q,none⟩) (first | exact K0.cell | exact (K0.alloc _).cell | exact ((K0.alloc _).alloc _).cell) (first | (go_at_call 84;refine (rF _).mono ?_;rintro e w1 ⟨rfl,rfl⟩))
    all_goals go_wp2
    all_goals go_meet
    all_goals exact ⟨_,rfl,rfl,by omega,by simp,trivial,((K0.alloc _).alloc _).drew⟩
   case rest=>
    obtain ⟨D,rfl,rfl,hD,hD1,_,K1⟩:=hcut
    clear hl0 hl1 hl2
    go_upto_region 2 with (fail)
    go_cut [5] (fun v5 wy=>v5= .int .i64 (M.iK ⟨pl,kd,ba,po,fi,cu,aA⟩)∧Below wc.heap.size wc wy)
    case first=>
     go_region_held3 (fun w'=>∀ p q,p<w.heap.size+1→w'.cell? ⟨p,q,none⟩=(w.alloc (.cells #[.int .i64 pl,.string kd,.int .i64 ba,.int .i64 po,.int .i64 fi,.bool cu,.slice A aA.length c] 66)).cell? ⟨p,q,none⟩) (first | exact K1.cell | exact (K1.alloc _).cell) (first | (go_at_call 86;refine (bn _ _ _ _).mono ?_;rintro e dO ⟨rfl,rfl⟩) | (go_at_call 87;refine (bY _ _ _).mono ?_;rintro e dO ⟨rfl,rfl⟩) | (go_at_call 85;refine (first_any (fun _=>True) _ _ [wi pl 0 1,wh true 13,wi ba 0 15,wi po 0 6,wi fi 0 15,wh _ 2,wh _ 5] _ (bD.drewN (bD.lit _ _ [wi pl 0 1,wh true 13,wi ba 0 15,wi po 0 6,wi fi 0 15,wh _ 2,wh _ 5] (by simp) _ trivial) 1)).mono ?_;rintro e dO ⟨rfl,rfl⟩))
     all_goals go_wp2
     all_goals go_meet
     all_goals exact ⟨congrArg _ (wK pl ba po fi kd cu aA _ _ _ (by rw [hk];rfl) (by by_cases h5:ba=0 <;> by_cases h6:po=0 <;> simp [rO,h5,h6]) (decide_eq_decide.2 (by omega))),((Below.refl _ _).alloc (Nat.le_refl _) _).drew⟩
    case rest=>
     obtain ⟨rfl,hb2⟩:=hcut
     have K2:=K1.call hb2
     have HZ:=hide (yX ⟨pl,kd,ba,po,fi,cu,aA⟩ hk)
     have hz':(M.iK ⟨pl,kd,ba,po,fi,cu,aA⟩ != 0)=true:=by simp [HZ.out]
     have wZ:=hide (xR ⟨pl,kd,ba,po,fi,cu,aA⟩)
     go_wp2
     go_ret
     exact ⟨dG (by rw [wZ.out,if_pos HZ.out]),K2.bw⟩
theorem Hq (S:Nat→Prop) (l:List Sh) (A:Option Addr) (c:Nat) (w:World) (hp:wG w S A c l):
 Calls Tryz.prog 40 #[.slice A l.length c] w fun e w'=>e= .returned (.int .i64 (M.je (plain l)))∧Below w.heap.size w w':=by
 obtain ⟨b1,b2,b3⟩:=hp.bd
 by_cases hm:1000<l.length
 · have hck:M.je (plain l)=5:=by unfold M.je;rw [if_pos (by rw [eF];exact hm)]
   rw [hck]
   go_enter Tryz.func40,Tryz.ntmps40
   go_wp2
   go_ret
   exact ⟨rfl,Below.refl _ _⟩
 · have hck:M.je (plain l)=M.lD (plain l):=by unfold M.je;rw [if_neg (by rw [eF];exact hm)]
   rw [hck]
   clear hck
   go_enter Tryz.func40,Tryz.ntmps40
   go_wp2
   go_loopw [11] (fun i wr=>∃ k:Nat,k≤l.length∧i= .int .i64 k∧M.lD (plain l)=M.lD ((plain l).drop k)∧Below w.heap.size w wr) (fun i _=>l.length - (intOf i).toNat)
   case atStart=>exact ⟨0,Nat.zero_le _,rfl,by simp,Below.refl _ _⟩
   case round=>
    obtain ⟨k,hk,rfl,hx1,hb⟩:=hrel
    by_cases hlt:k<l.length
    · obtain ⟨b,o,rfl,_,hbl,hc⟩:=hp.at_ k hlt
      obtain ⟨e0,e1,e2,e3,e4,e5,e6⟩:=hc k hlt
      clear hc
      obtain ⟨hcb,hfb⟩:=Rq hb
      have hst:=tN hlt
      have HP:=hide ((hp.aA k hlt).below hb)
      have HX:=hide (hx1.trans hst)
      clear hx1 hst
      have hcall:=fun W:World=>vS S l[k].x l[k].a l[k].c W
      have HC:=hide hcall
      clear hcall
      by_cases hz:M.cZ l[k].x=0
      · have hz':(M.cZ l[k].x != 0)=false:=by simp [hz]
        rw [if_neg (by simp [hz])] at HX
        have HZ:=hide hz
        clear hz
        go_wp2_with (go_at_call 35;refine (HC.out _ (HP.out.alloc _)).mono ?_;rintro e w1 ⟨rfl,hb1⟩)
        go_roundw
        case rel=>exact ⟨k+1,by omega,by go_num,HX.out,(hb.alloc hb.size _).trans (hb1.mono (hb.alloc hb.size _).size)⟩
        case measure=>simp [intOf];omega
      · have hz':(M.cZ l[k].x != 0)=true:=by simp [hz]
        rw [if_pos hz] at HX
        go_wp2_with (go_at_call 35;refine (HC.out _ (HP.out.alloc _)).mono ?_;rintro e w1 ⟨rfl,hb1⟩)
        go_ret
        exact ⟨dG HX.out.symm,(hb.alloc hb.size _).trans (hb1.mono (hb.alloc hb.size _).size)⟩
    · have hkk:k=l.length:=by omega
      have hz:M.lD (plain l)=0:=by rw [hx1,hkk, ← eF l,List.drop_length,M.lD]
      clear hx1 hkk
      go_wp2
      go_ret
      exact ⟨dG hz.symm,hb⟩
theorem check_any (S:Nat→Prop) (r:M.Rules) (l:List Sh) (A:Option Addr) (c:Nat) (w:World) (hp:wG w S A c l):
 Calls Tryz.prog 63 #[jM r,.slice A l.length c] w fun e w'=>e= .returned (.int .i64 (aU [M.aH r,M.je (plain l)]))∧Below w.heap.size w w':=by
 obtain ⟨b1,b2,b3⟩:=hp.bd
 obtain ⟨g,tg,fo⟩:=r
 have K0:=Keeps.FT w (.cells #[.string g,.int .i64 tg,.int .i64 fo] 23)
 go_enter Tryz.func63,Tryz.ntmps63
 go_wp2_with (first | (go_at_call 39;refine (dP ⟨g,tg,fo⟩ _).mono ?_;rintro e w1 ⟨rfl,hb1⟩;have K1:=K0.call hb1) | (go_at_call 40;refine (Hq S l A c _ (hp.below K1.bw)).mono ?_;rintro e w2 ⟨rfl,hb2⟩;have K2:=K1.call hb2) | (go_at_call 85;refine (first_any (fun _=>True) _ _ [M.aH ⟨g,tg,fo⟩,M.je (plain l)] _ (bD.lit _ _ [M.aH ⟨g,tg,fo⟩,M.je (plain l)] (by simp) _ trivial)).mono ?_;rintro e dO ⟨rfl,rfl⟩))
 go_ret
 exact ⟨rfl,(K2.alloc _).bw⟩
theorem zW (r:M.Rules) (w:World):Calls Tryz.prog 92 #[jM r] w fun e w'=>
 ∃ A c,e= .returned (.slice A (M.jA r).length c)∧bD w' (fun b=>w.heap.size≤b) A c (M.jA r)∧Below w.heap.size w w':=by
 obtain ⟨i0,hi,hz0,hz1,hz2⟩:=info_parts uN
 obtain ⟨g,tg,fo⟩:=r
 by_cases hg:g=M.bM
 · subst hg
   go_enter Tryz.func92,Tryz.ntmps92
   go_wp2
   go_loopw [4,10] (fun v i wr=>∃ k:Nat,k≤9∧i= .int .i64 k∧(∃ A c,v= .slice A k c)∧wr.ownsRow (w.heap.size+1) 3 1 v k ((M.kH k).map (Value.int .i64))∧Below (w.heap.size+1) (w.alloc (.cells #[.string M.bM,.int .i64 tg,.int .i64 fo] 23)) wr)
    (fun _ i _=>9 - (intOf i).toNat)
   case atStart=>exact ⟨0,by omega,rfl,⟨_,_,rfl⟩,World.ownsRow_nil _ _ _ _,Below.refl _ _⟩
   case round=>
    obtain ⟨k,hk,rfl,⟨A,c,rfl⟩,hown,hb⟩:=hrel
    have Qe:=hb.size
    rw [World.size_alloc] at Qe
    by_cases hlt:k<9
    · go_wp2_with (at_builtin;refine wpList_append_lies _ rfl _ _ _ rfl (w.heap.size+1) 3 i0 (.int .i64 0) 1 8 Tryz.underlying30 hi hz0 hz1 hz2 rfl (by omega) _ _ _ rfl (hown.alloc _) ⟨wr.heap.size,0,none⟩ 1 1 [.int .i64 ((k:Int)+1)] rfl rfl (dK _ _ _ _ (by simp)) ?c1 (by omega) ?c2 ?c3 ?c4 (wr.heap.size+1) (by simp) ?_)
      case c1=>simp [Value.oneCell']
      case c2=>simp only [maxLen];omega
      case c3=>omega
      case c4=>first | omega | (simp;omega)
      intro g1 cap w1 hown1 hgrow _ _
      have hbd:=dX (B:=w.heap.size+1) (hown.alloc _) hgrow (by omega) (by simp;omega)
      have hb1:=(hb.alloc (by omega) _).trans hbd
      have hown2:w1.ownsRow (w.heap.size+1) 3 1 (.slice (some ⟨g1,0,none⟩) (k+1) cap) (k+1) ((M.kH (k+1)).map (Value.int .i64)):=by rw [yx];simpa using hown1
      clear hown hgrow hown1 hbd hb
      go_wp2
      go_roundw
      case rel=>exact ⟨k+1,by omega,by go_num,⟨_,_,rfl⟩,hown2,hb1⟩
      case measure=>simp [intOf];omega
    · obtain rfl:k=9:=by omega
      go_wp2
      go_ret
      have hr:M.jA ⟨M.bM,tg,fo⟩=M.kH 9:=by simp [M.jA,M.dS]
      rw [hr,kQ]
      refine ⟨A,c,rfl,?_,((Below.refl _ _).alloc (Nat.le_refl _) _).trans (hb.mono (by omega))⟩
      unfold bD
      rw [kQ]
      exact Reads.kG hown (fun b h=>by omega) (by omega)
 · have hg':(g.toList == [110,105,110,101])=false:=beq_eq_false_iff_ne.2 (bQ hg)
   go_enter Tryz.func92,Tryz.ntmps92
   go_wp2
   go_loopw [4,10] (fun v i wr=>∃ k:Nat,k≤15∧i= .int .i64 k∧(∃ A c,v= .slice A k c)∧wr.ownsRow (w.heap.size+1) 3 1 v k ((M.kH k).map (Value.int .i64))∧Below (w.heap.size+1) (w.alloc (.cells #[.string g,.int .i64 tg,.int .i64 fo] 23)) wr)
    (fun _ i _=>15 - (intOf i).toNat)
   case atStart=>exact ⟨0,by omega,rfl,⟨_,_,rfl⟩,World.ownsRow_nil _ _ _ _,Below.refl _ _⟩
   case round=>
    obtain ⟨k,hk,rfl,⟨A,c,rfl⟩,hown,hb⟩:=hrel
    have Qe:=hb.size
    rw [World.size_alloc] at Qe
    by_cases hlt:k<15
    · go_wp2_with (at_builtin;refine wpList_append_lies _ rfl _ _ _ rfl (w.heap.size+1) 3 i0 (.int .i64 0) 1 8 Tryz.underlying30 hi hz0 hz1 hz2 rfl (by omega) _ _ _ rfl (hown.alloc _) ⟨wr.heap.size,0,none⟩ 1 1 [.int .i64 ((k:Int)+1)] rfl rfl (dK _ _ _ _ (by simp)) ?c1 (by omega) ?c2 ?c3 ?c4 (wr.heap.size+1) (by simp) ?_)
      case c1=>simp [Value.oneCell']
      case c2=>simp only [maxLen];omega
      case c3=>omega
      case c4=>first | omega | (simp;omega)
      intro g1 cap w1 hown1 hgrow _ _
      have hbd:=dX (B:=w.heap.size+1) (hown.alloc _) hgrow (by omega) (by simp;omega)
      have hb1:=(hb.alloc (by omega) _).trans hbd
      have hown2:w1.ownsRow (w.heap.size+1) 3 1 (.slice (some ⟨g1,0,none⟩) (k+1) cap) (k+1) ((M.kH (k+1)).map (Value.int .i64)):=by rw [yx];simpa using hown1
      clear hown hgrow hown1 hbd hb
      go_wp2
      go_roundw
      case rel=>exact ⟨k+1,by omega,by go_num,⟨_,_,rfl⟩,hown2,hb1⟩
      case measure=>simp [intOf];omega
    · obtain rfl:k=15:=by omega
      go_wp2
      go_ret
      have hr:M.jA ⟨g,tg,fo⟩=M.kH 15:=by simp [M.jA,M.dS,hg]
      rw [hr,kQ]
      refine ⟨A,c,rfl,?_,((Below.refl _ _).alloc (Nat.le_refl _) _).trans (hb.mono (by omega))⟩
      unfold bD
      rw [kQ]
      exact Reads.kG hown (fun b h=>by omega) (by omega)
def need (g:ByteArray):Int:=if g=M.aQ then 8 else if g=M.bM then 9 else 0
theorem jT (r:M.Rules) (w:World):Calls Tryz.prog 94 #[jM r] w fun e w'=>e= .returned (.int .i64 (need r.game))∧Below w.heap.size w w':=by
 obtain ⟨g,tg,fo⟩:=r
 by_cases h1:g=M.aQ
 · subst h1
   go_enter Tryz.func94,Tryz.ntmps94
   go_wp2
   go_ret
   exact ⟨rfl,(Below.refl _ _).alloc (Nat.le_refl _) _⟩
 · have h1':(g.toList == [101,105,103,104,116])=false:=beq_eq_false_iff_ne.2 (bQ h1)
   by_cases h2:g=M.bM
   · subst h2
     go_enter Tryz.func94,Tryz.ntmps94
     go_wp2
     go_ret
     exact ⟨rfl,(Below.refl _ _).alloc (Nat.le_refl _) _⟩
   · have h2':(g.toList == [110,105,110,101])=false:=beq_eq_false_iff_ne.2 (bQ h2)
     have hn:need g=0:=by simp [need,h1,h2]
     simp only [hn]
     clear h1 h2 hn
     go_enter Tryz.func94,Tryz.ntmps94
     go_wp2
     go_ret
     exact ⟨rfl,(Below.refl _ _).alloc (Nat.le_refl _) _⟩
theorem jL (S:Nat→Prop) (A:Option Addr) (c:Nat) (zs:List Int) (w:World) (h:bD w S A c zs):
 Calls Tryz.prog 141 #[.slice A zs.length c] w fun e w'=>∃ A' c',e= .returned (.slice A' zs.length c')∧bD w' (fun b=>w.heap.size≤b) A' c' zs∧Below w.heap.size w w':=by
 obtain ⟨i0,hi,hz0,hz1,hz2⟩:=info_parts uN
 obtain ⟨b1,b2,b3⟩:=h.bd
 rcases Nat.eq_zero_or_pos zs.length with h0 | h0
 · obtain rfl:=List.eq_nil_of_length_eq_zero h0
   cases A with
   | none=>
     go_enter Tryz.func141,Tryz.ntmps141
     go_wp2
     go_ret
     exact ⟨none,0,rfl,Reads.none_ _ _ _,Below.refl _ _⟩
   | some a=>
     have hf:=run_firstCells_some (P:=Tryz.prog) w 1 0 a 0 c [] (by simp) (by intro j v h;simp at h)
     go_enter Tryz.func141,Tryz.ntmps141
     go_wp2
     go_ret
     exact ⟨none,0,rfl,Reads.none_ _ _ _,Below.refl _ _⟩
 · obtain ⟨b,o,rfl,_,hbl,hc⟩:=h.at_ 0 h0
   have hnews:∀ j u,(zs.map (Value.int .i64))[j]? =some u→w.cell? ((⟨b,o,none⟩:Addr).add j)=some u:=by
    intro j u hu
    rw [List.getElem?_map] at hu
    rcases hj:zs[j]? with _ | z
    · rw [hj] at hu;cases hu
    · rw [hj] at hu
      obtain ⟨hj1,hj2⟩:=List.getElem?_eq_some_iff.1 hj
      rw [rH,hc j hj1, ← hu,hj2];rfl
   have HC:=hide hc
   clear hc
   go_enter Tryz.func141,Tryz.ntmps141
   go_wp2_with (at_builtin;go_loud (refine wpList_append_lies _ rfl _ _ _ rfl w.heap.size 3 i0 (.int .i64 0) 1 8 Tryz.underlying30 hi hz0 hz1 hz2 rfl (by omega) (.slice none 0 0) 0 [] rfl (World.ownsRow_nil _ _ _ _) ⟨b,o,none⟩ zs.length c (zs.map (Value.int .i64)) rfl (by simp) hnews ?c1 h0 ?c2 ?c3 (Nat.le_refl _) w.heap.size rfl ?_))
   case c1=>intro u hu;simp at hu;obtain ⟨z,_,rfl⟩:=hu;rfl
   case c2=>simp only [maxLen];omega
   case c3=>omega
   intro g1 cap w1 hown1 hgrow _ _
   have hb1:Below w.heap.size w w1:=dX (World.ownsRow_nil _ w.heap.size 3 1) hgrow (Nat.le_refl _) (Nat.le_refl _)
   have HO:=hide hown1
   clear hown1 hgrow
   go_wp2
   go_ret
   have hown2:=HO.out
   exact ⟨_,_,by simp,Reads.kG hown2 (fun b h=>h) (by omega),hb1⟩
theorem jC (S:Nat→Prop) (x:M.aI) (A:Option Addr) (c:Nat) (w:World) (hp:jl w S A c x.aA) (hpos:∀ p∈x.aA,0≤p.aJ):
 Calls Tryz.prog 70 #[iO x A c] w fun e w'=>∃ A' c',e= .returned (.slice A' (M.objects x).length c')∧bD w' (fun b=>w.heap.size≤b) A' c' (M.objects x)∧Below w.heap.size w w':=by
 obtain ⟨i0,hi,hz0,hz1,hz2⟩:=info_parts uN
 obtain ⟨b1,b2,b3⟩:=hp.bd
 obtain ⟨pl,kd,ba,po,fi,cu,aA⟩:=x
 simp only at hp hpos b1 b3
 have K0:Keeps w (w.alloc (.cells #[.int .i64 pl,.string kd,.int .i64 ba,.int .i64 po,.int .i64 fi,.bool cu,.slice A aA.length c] 66)) 1 (w.alloc (.cells #[.int .i64 pl,.string kd,.int .i64 ba,.int .i64 po,.int .i64 fi,.bool cu,.slice A aA.length c] 66)):=Keeps.FT w _
 go_enter Tryz.func70,Tryz.ntmps70
 go_wp2
 go_loopw [3,9] (fun v i wr=>∃ k:Nat,k≤aA.length∧i= .int .i64 k∧(∃ A c,v= .slice A (lT (aA.take k)).length c)∧wr.ownsRow (w.heap.size+1) 3 1 v (lT (aA.take k)).length ((lT (aA.take k)).map (Value.int .i64))∧Keeps w (w.alloc (.cells #[.int .i64 pl,.string kd,.int .i64 ba,.int .i64 po,.int .i64 fi,.bool cu,.slice A aA.length c] 66)) 1 wr)
  (fun _ i _=>aA.length - (intOf i).toNat)
 case atStart=>exact ⟨0,by omega,rfl,⟨_,_,rfl⟩,World.ownsRow_nil _ _ _ _,K0⟩
 case round=>
  obtain ⟨k,hk,rfl,⟨A1,c1,rfl⟩,hown,KR⟩:=hrel
  have hcR:=KR.cell
  have DX:=KR.sz
  by_cases hlt:k<aA.length
  · obtain ⟨b,o,rfl,_,hbl,hc⟩:=hp.at_ k hlt
    obtain ⟨hck1,Fb⟩:=hc k hlt
    have P9:b<w.heap.size+1:=by omega
    have hge:=hpos _ (List.getElem_mem hlt)
    clear hc
    by_cases hz:aA[k].aJ=0
    · have hz':decide (0<aA[k].aJ)=false:=by simp [hz]
      have hs:lT (aA.take (k+1))=lT (aA.take k):=by rw [zK hlt,if_pos hz];simp
      have HS:=hide hs
      clear hs hz hge
      go_wp2
      go_roundw
      case rel=>exact ⟨k+1,by omega,by go_num,by rw [HS.out];exact ⟨⟨_,_,rfl⟩,hown.alloc _,KR.alloc _⟩⟩
      case measure=>simp [intOf];omega
    · have hz':0<aA[k].aJ:=by omega
      have hs:lT (aA.take (k+1))=lT (aA.take k)++[aA[k].aJ]:=by rw [zK hlt,if_neg hz]
      have hle:=zJ (aA.take k)
      rw [List.length_take] at hle
      have HS:=hide hs
      clear hs hz hge
      go_wp2_with (at_builtin;refine wpList_append_lies _ rfl _ _ _ rfl (w.heap.size+1) 3 i0 (.int .i64 0) 1 8 Tryz.underlying30 hi hz0 hz1 hz2 rfl (by omega) _ _ _ rfl ((hown.alloc _).alloc _) ⟨(wr.heap.size+1),0,none⟩ 1 1 [.int .i64 aA[k].aJ] rfl rfl (dK _ _ _ _ (by simp)) ?c1 (by omega) ?c2 ?c3 ?c4 (wr.heap.size+1+1) (by simp) ?_)
      case c1=>simp [Value.oneCell']
      case c2=>simp only [maxLen];omega
      case c3=>omega
      case c4=>simp;omega
      intro g1 cap w1 hown1 hgrow _ _
      have hbd:=dX (B:=w.heap.size+1) ((hown.alloc _).alloc _) hgrow (by omega) (by simp;omega)
      have K1:=((KR.alloc _).alloc _).upto hbd (by omega)
      have hown2:w1.ownsRow (w.heap.size+1) 3 1 (.slice (some ⟨g1,0,none⟩) (lT (aA.take (k+1))).length cap) (lT (aA.take (k+1))).length ((lT (aA.take (k+1))).map (Value.int .i64)):=by rw [HS.out];simpa using hown1
      have hv:(lT (aA.take k)).length+1=(lT (aA.take (k+1))).length:=by rw [HS.out];simp
      rw [hv]
      clear hown hgrow hown1 hbd hle hv HS hck1 Fb hcR
      go_wp2
      go_roundw
      case rel=>exact ⟨k+1,by omega,by go_num,⟨_,_,rfl⟩,hown2,K1⟩
      case measure=>simp [intOf];omega
  · obtain rfl:k=aA.length:=by omega
    go_wp2
    go_ret
    have hr:M.objects ⟨pl,kd,ba,po,fi,cu,aA⟩=lT aA:=rfl
    have hle:=zJ aA
    rw [List.take_length] at hown ⊢
    rw [hr]
    exact ⟨A1,c1,rfl,Reads.kG hown (fun b h=>by omega) (by omega),KR.bw⟩
theorem Ju (w:World):yP 150 #[] OG (fun o=>decide (o.aJ=0)) w:=by
 refine ⟨enters_of Tryz.func150 (by kernel_rfl) rfl,fun W x hb=>?_⟩
 obtain ⟨xb,xp⟩:=x
 go_enter Tryz.func150,Tryz.ntmps150
 go_wp2
 go_ret
 exact ⟨bZ (by by_cases h:xb=0 <;> simp [h]),hb.alloc hb.size _⟩
theorem AX (S:Nat→Prop) (x:M.aI) (A:Option Addr) (c:Nat) (w:World) (hp:jl w S A c x.aA):
 Calls Tryz.prog 113 #[iO x A c] w fun e w'=>e= .returned (.bool (M.lu x))∧Below w.heap.size w w':=by
 obtain ⟨b1,b2,b3⟩:=hp.bd
 obtain ⟨pl,kd,ba,po,fi,cu,aA⟩:=x
 simp only at hp b1 b3
 have K0:Keeps w (w.alloc (.cells #[.int .i64 pl,.string kd,.int .i64 ba,.int .i64 po,.int .i64 fi,.bool cu,.slice A aA.length c] 66)) 1 (w.alloc (.cells #[.int .i64 pl,.string kd,.int .i64 ba,.int .i64 po,.int .i64 fi,.bool cu,.slice A aA.length c] 66)):=Keeps.FT w _
 go_enter Tryz.func113,Tryz.ntmps113
 go_wp2_with (go_at_call 88;refine (Bd S A c aA _ _ _ _ (hp.below K0.bw) (Ju _)).mono ?_;rintro e w1 ⟨rfl,hb1⟩;have K1:=K0.call hb1)
 go_ret
 exact ⟨rfl,K1.bw⟩
theorem lN (n:Int) (w:World):Calls Tryz.prog 146 #[.int .i64 n] w fun r w'=>r= .returned (.int .i64 (M.side n))∧w=w':=by
 go_enter Tryz.func146,Tryz.ntmps146
 go_wp2
 all_goals
  go_ret
  exact ⟨dG (by simp [M.side, *];try omega),rfl⟩
theorem jP (r:M.Rules) (s:M.State) (A:Option Addr) (c:Nat) (w:World) (hg:0≤s.group∧s.group≤2):Calls Tryz.prog 145 #[dH r s A c] w fun e w'=>e= .returned (.int .i64 (M.own s))∧Below w.heap.size w w':=by
 obtain ⟨g,tg,fo⟩:=r
 obtain ⟨a0,a1,a2,a3,a4,gr,bl,b0,b1,b2,b3,b4,b5,b6,b7⟩:=s
 obtain ⟨hg1,hg2⟩:=hg
 simp only at hg1 hg2
 go_enter Tryz.func145,Tryz.ntmps145
 go_wp2
 all_goals
  go_ret
  exact ⟨dG (by first | (simp [M.own, *];done) | (simp_all [M.own];done)),(Below.refl _ _).alloc (Nat.le_refl _) _⟩
def Box (w:World) (b:Nat) (cs:List Value):Prop:=b<w.heap.size∧∀ j v,cs[j]? =some v→w.cell? ⟨b,j,none⟩=some v
theorem Box.below {w W:World} {b:Nat} {cs:List Value} (h:Box w b cs) (hb:Below w.heap.size w W):Box W b cs:=
 ⟨Nat.lt_of_lt_of_le h.1 hb.size,fun j v hj=>(hb.cell (p:=⟨b,j,none⟩) h.1).trans (h.2 j v hj)⟩
theorem Box.alloc {w:World} {b:Nat} {cs:List Value} (h:Box w b cs) (o:Obj):Box (w.alloc o) b cs:=h.below ((Below.refl _ _).alloc (Nat.le_refl _) o)
theorem Box.new (w:World) (us:List Value) (t:TypeId):Box (w.alloc (.cells us.toArray t)) w.heap.size us:=⟨by simp,fun j v h=>dZ w us t _ rfl j v h⟩
theorem Box.newAt (w:World) (us:List Value) (t:TypeId) (g:Nat) (hg:w.heap.size=g):Box (w.alloc (.cells us.toArray t)) g us:=by subst hg;exact Box.new w us t
def ah (r:M.Rules) (s:M.State) (A:Option Addr) (c:Nat):List Value:=[.string r.game,.int .i64 r.target,.int .i64 r.aY,.int .i64 s.turn,.bool s.brk,.bool s.hand,.bool s.push,.bool s.pushed,.int .i64 s.group,.slice A s.ay.length c,.int .i64 s.s0,.int .i64 s.s1,.int .i64 s.f0,.int .i64 s.f1,.int .i64 s.run,.int .i64 s.aZ,.bool s.over,.int .i64 s.bC]
@[reducible] def ptr (b:Nat):Value:= .pointer (some ⟨b,0,none⟩)
section
variable {w:World} {Bf Bx Bc Bo Bk Bl:Nat} {r:M.Rules} {s:M.State} {x:M.aI} {A P:Option Addr} {c d:Nat} {S:Nat→Prop}
theorem JM (hf:Box w Bf (ah r s A c)):Asks 132 #[ptr Bf] (!s.over) w:=by
 refine ⟨enters_of Tryz.func132 (by kernel_rfl) rfl,fun W hb=>?_⟩
 have kf:=hf.below hb
 have SI:=kf.2 16 _ rfl
 go_enter Tryz.func132,Tryz.ntmps132
 go_wp2
 go_ret
 exact ⟨rfl,hb⟩
theorem JO (hc:Box w Bc [.bool (decide (x.kind=M.aT))]) (hx:Box w Bx (au ⟨x,P,d⟩)) (hf:Box w Bf (ah r s A c)):Asks 133 #[ptr Bc,ptr Bx,ptr Bf] (M.q2 s x) w:=by
 refine ⟨enters_of Tryz.func133 (by kernel_rfl) rfl,fun W hb=>?_⟩
 have kf:=hf.below hb
 have Yb:=kf.2 3 _ rfl
 have kc:=hc.below hb
 have Vq:=kc.2 0 _ rfl
 have kx:=hx.below hb
 have Ui:=kx.2 0 _ rfl
 have hq:M.q2 s x=(decide (x.kind=M.aT) || decide (x.aC=s.turn)):=by unfold M.q2;rw [Bool.eq_iff_iff];simp
 rw [hq]
 obtain ⟨b1,h1⟩:∃ b,decide (x.kind=M.aT)=b:=⟨_,rfl⟩
 obtain ⟨p1,h2⟩:∃ b,x.aC=b:=⟨_,rfl⟩
 obtain ⟨p2,h3⟩:∃ b,s.turn=b:=⟨_,rfl⟩
 rw [h1] at Vq
 simp only [h1,h2,h3] at Yb Ui ⊢
 obtain ⟨b2,h4⟩:∃ b,(p1 == p2)=b:=⟨_,rfl⟩
 have h5:decide (p1=p2)=b2:=by rw [← h4,rO]
 rw [h5]
 clear h1 h2 h3 h5 hq
 cases b1 <;> cases b2
 all_goals
  go_enter Tryz.func133,Tryz.ntmps133
  go_wp2
  go_ret
  exact ⟨rfl,hb⟩
theorem G8 (hc:Box w Bc [.bool (decide (x.kind=M.aT))]) (hf:Box w Bf (ah r s A c)) (hx:Box w Bx (au ⟨x,P,d⟩)):Asks 134 #[ptr Bc,ptr Bf,ptr Bx] (M.q3 s x) w:=by
 refine ⟨enters_of Tryz.func134 (by kernel_rfl) rfl,fun W hb=>?_⟩
 have kf:=hf.below hb
 have Vs:=kf.2 4 _ rfl
 have kc:=hc.below hb
 have Vq:=kc.2 0 _ rfl
 have kx:=hx.below hb
 have Uj:=kx.2 1 _ rfl
 have hq:M.q3 s x=(decide (x.kind=M.aT) || (s.brk == decide (x.kind=M.dh))):=by unfold M.q3;rw [Bool.eq_iff_iff];simp
 rw [hq]
 obtain ⟨b1,h1⟩:∃ b,decide (x.kind=M.aT)=b:=⟨_,rfl⟩
 obtain ⟨b3,h3⟩:∃ b,s.brk=b:=⟨_,rfl⟩
 obtain ⟨k,h2⟩:∃ b,x.kind=b:=⟨_,rfl⟩
 rw [h1] at Vq ⊢
 rw [h2,h3]
 simp only [h2,h3] at Vs Uj
 obtain ⟨b2,h4⟩:∃ b,(k.toList == [98,114,101,97,107])=b:=⟨_,rfl⟩
 have h5:decide (k=M.dh)=b2:=by rw [← h4,Bool.eq_iff_iff,beq_iff_eq,decide_eq_true_eq];exact ⟨fun e=>by subst e;rw [ByteArray.toList_eq],fun e=>lg (by rw [e,ByteArray.toList_eq])⟩
 rw [h5]
 clear h1 h2 h3 h5 hq
 cases b1 <;> cases b2 <;> cases b3
 all_goals
  go_enter Tryz.func134,Tryz.ntmps134
  go_wp2
  go_ret
  first | exact ⟨rfl,hb⟩ | exact ⟨bZ (by simp),hb⟩ | exact ⟨bZ (by simp_all),hb⟩
theorem on_any (hf:Box w Bf (ah r s A c)) (hp:bD w S A c s.ay) (b:Int) (W:World) (hb:Below w.heap.size w W):
 Calls Tryz.prog 131 #[.int .i64 b,ptr Bf] W fun e w'=>e= .returned (.bool (decide (b∈s.ay)))∧W=w':=by
 have kf:=hf.below hb
 have Wx:=kf.2 9 _ rfl
 go_enter Tryz.func131,Tryz.ntmps131
 go_wp2_with (go_at_call 95;refine (iZ S A c s.ay _ _ (hp.below hb)).mono ?_;rintro e dO ⟨rfl,rfl⟩)
 go_ret
 exact ⟨rfl,rfl⟩
theorem JL (hl:Box w Bl [.bool (M.calls r x)]) (ho:Box w Bo [.func (.func 131) #[] #[ptr Bf]]) (hx:Box w Bx (au ⟨x,P,d⟩)) (hf:Box w Bf (ah r s A c)) (hp:bD w S A c s.ay):Asks 136 #[ptr Bl,ptr Bo,ptr Bx] (M.q5 r s x) w:=by
 refine ⟨enters_of Tryz.func136 (by kernel_rfl) rfl,fun W hb=>?_⟩
 have kl:=hl.below hb
 have Wy:=kl.2 0 _ rfl
 have ko:=ho.below hb
 have WA:=ko.2 0 _ rfl
 have kx:=hx.below hb
 have Vt:=kx.2 2 _ rfl
 have hq:M.q5 r s x=if M.calls r x then decide (x.aJ∈s.ay) else (x.aJ == 0):=by unfold M.q5;rw [Bool.eq_iff_iff];cases M.calls r x <;> simp
 rw [hq]
 clear hq
 cases hcl:M.calls r x with
 | true=>
   rw [hcl] at Wy
   have JF:=hide hcl
   clear hcl
   cases hm:decide (x.aJ∈s.ay)
   all_goals
    go_enter Tryz.func136,Tryz.ntmps136
    go_wp2_with (go_at_call 131;refine (on_any hf hp _ _ hb).mono ?_;rintro e dO ⟨rfl,rfl⟩)
    go_ret
    exact ⟨bZ (by simp_all),hb⟩
 | false=>
   rw [hcl] at Wy
   have JF:=hide hcl
   clear hcl
   go_enter Tryz.func136,Tryz.ntmps136
   go_wp2_with (go_at_call 131;refine (on_any hf hp _ _ hb).mono ?_;rintro e dO ⟨rfl,rfl⟩)
   go_ret
   exact ⟨bZ (by simp),hb⟩
theorem G9 (hx:Box w Bx (au ⟨x,P,d⟩)) (ho:Box w Bo [.func (.func 131) #[] #[ptr Bf]]) (hf:Box w Bf (ah r s A c)) (hp:bD w S A c s.ay):Asks 137 #[ptr Bx,ptr Bo] (M.q6 s x) w:=by
 refine ⟨enters_of Tryz.func137 (by kernel_rfl) rfl,fun W hb=>?_⟩
 have ko:=ho.below hb
 have WA:=ko.2 0 _ rfl
 have kx:=hx.below hb
 have SL:=kx.2 4 _ rfl
 have hq:M.q6 s x=((x.first == 0) || decide (x.first∈s.ay)):=by unfold M.q6;rw [Bool.eq_iff_iff];simp
 rw [hq]
 clear hq
 rcases Bool.eq_false_or_eq_true (x.first == 0) with h0 | h0
 all_goals
  rw [h0]
  go_enter Tryz.func137,Tryz.ntmps137
  go_wp2_with (go_at_call 131;refine (on_any hf hp _ _ hb).mono ?_;rintro e dO ⟨rfl,rfl⟩)
  go_ret
  exact ⟨bZ (by simp),hb⟩
end
def many (fo:Int) (over:Bool) (n:Int):Bool:=decide (0<fo) && (decide (fo<n) || (decide (n=fo) && !over))
def fE (fo:Int) (over:Bool) (n:Int):Int:=aU [wi n 0 99999,wh (many fo over n) 3]
theorem J8 (r:M.Rules) (over:Bool) (n:Int):fE r.aY over n=wh (M.yL r over n) 3:=by
 unfold fE M.yL many
 by_cases h1:M.out n 0 99999=true
 · simp [wi,wh,aU,h1]
 · by_cases h2:0<r.aY <;> by_cases h3:r.aY<n <;> by_cases h4:n=r.aY <;> cases over <;> simp [wi,wh,aU,h1,h2,h3,h4]
theorem WJ {b:Bool} {e:Int} (he:e≠0):(wh b e=0↔b=false):=by cases b <;> simp [wh,he]
theorem mg {r:M.Rules} {s:M.State} (h:wi s.s0 (-99999) 99999≠0∨wi s.s1 (-99999) 99999≠0∨fE r.aY s.over s.f0≠0∨fE r.aY s.over s.f1≠0):M.iP r s=3:=by
 unfold M.iP
 rw [if_pos]
 simp only [J8,wi,ne_eq,WJ (show (3:Int)≠0 by decide),Bool.not_eq_false] at h
 rcases h with h | h | h | h <;> simp [h]
theorem yY {r:M.Rules} {s:M.State} (h1:wi s.s0 (-99999) 99999=0) (h2:wi s.s1 (-99999) 99999=0) (h3:fE r.aY s.over s.f0=0) (h4:fE r.aY s.over s.f1=0):M.iP r s=aU [wi s.run 0 99999,wi s.aZ 1 1000]:=by
 unfold M.iP
 simp only [J8,wi,WJ (show (3:Int)≠0 by decide)] at h1 h2 h3 h4
 by_cases h5:M.out s.run 0 99999=true <;> by_cases h6:M.out s.aZ 1 1000=true <;> simp [wi,wh,aU,h1,h2,h3,h4,h5,h6]
theorem WL {n a b:Int} (h:wi n a b≠0):wi n a b=3:=by unfold wi wh at*;split at h <;> simp_all
theorem V5 {fo n:Int} {over:Bool} (h:fE fo over n≠0):fE fo over n=3:=by
 have:=J8 ⟨M.bM,0,fo⟩ over n
 simp only at this
 rw [this] at h ⊢
 unfold wh at*;split at h <;> simp_all
theorem rG {a b:Bool} (h:a=b):Value.bool a=Value.bool b:=by rw [h]
theorem vI (r:M.Rules) (s:M.State) (A:Option Addr) (c:Nat) (w:World):
 Calls Tryz.prog 93 #[jM r,wF s A c] w fun e w'=>e= .returned (.int .i64 (M.iP r s))∧Below w.heap.size w w':=by
 obtain ⟨g,tg,fo⟩:=r
 obtain ⟨a0,a1,a2,a3,a4,gr,bl,b0,b1,b2,b3,b4,b5,b6,b7⟩:=s
 have K0:Keeps w ((w.alloc (.cells #[.string g,.int .i64 tg,.int .i64 fo] 23)).alloc (.cells #[.int .i64 a0,.bool a1,.bool a2,.bool a3,.bool a4,.int .i64 gr,.slice A bl.length c,.int .i64 b0,.int .i64 b1,.int .i64 b2,.int .i64 b3,.int .i64 b4,.int .i64 b5,.bool b6,.int .i64 b7] 33)) 2 ((w.alloc (.cells #[.string g,.int .i64 tg,.int .i64 fo] 23)).alloc (.cells #[.int .i64 a0,.bool a1,.bool a2,.bool a3,.bool a4,.int .i64 gr,.slice A bl.length c,.int .i64 b0,.int .i64 b1,.int .i64 b2,.int .i64 b3,.int .i64 b4,.int .i64 b5,.bool b6,.int .i64 b7] 33)):=Keeps.SQ w _ _
 have i0:∀ w,(Instr.index 31 (.agg #[.int .i64 b0,.int .i64 b1]) (.int .i64 0)).run Tryz.prog w= .ok (.int .i64 b0) w:=fun _=>by kernel_rfl
 have i1:∀ w,(Instr.index 31 (.agg #[.int .i64 b0,.int .i64 b1]) (.int .i64 1)).run Tryz.prog w= .ok (.int .i64 b1) w:=fun _=>by kernel_rfl
 have i2:∀ w,(Instr.index 31 (.agg #[.int .i64 b2,.int .i64 b3]) (.int .i64 0)).run Tryz.prog w= .ok (.int .i64 b2) w:=fun _=>by kernel_rfl
 have i3:∀ w,(Instr.index 31 (.agg #[.int .i64 b2,.int .i64 b3]) (.int .i64 1)).run Tryz.prog w= .ok (.int .i64 b3) w:=fun _=>by kernel_rfl
 go_enter Tryz.func93,Tryz.ntmps93
 go_wp2
 go_loop [14] (fun i=>i= .int .i64 0∨(i= .int .i64 1∧wi b0 (-99999) 99999=0)∨(i= .int .i64 2∧wi b0 (-99999) 99999=0∧wi b1 (-99999) 99999=0)) (fun i=>2 - (intOf i).toNat)
 case atStart=>exact .inl rfl
 case round=>
  rcases hrel with rfl | ⟨rfl,H1⟩ | ⟨rfl,H1,H2⟩
  · by_cases hz:wi b0 (-99999) 99999=0
    · have hz':(wi b0 (-99999) 99999 != 0)=false:=by simp [hz]
      have HZ:=hide hz
      clear hz
      go_wp2_with (go_at_call 86;refine (bn _ _ _ _).mono ?_;rintro e dO ⟨rfl,rfl⟩)
      go_round
      case rel=>exact .inr (.inl ⟨by first | rfl | go_num,HZ.out⟩)
      case measure=>simp [intOf]
    · have hz':(wi b0 (-99999) 99999 != 0)=true:=by simp [hz]
      have HZ:=hide hz
      clear hz
      go_wp2_with (go_at_call 86;refine (bn _ _ _ _).mono ?_;rintro e dO ⟨rfl,rfl⟩)
      go_ret
      exact ⟨dG (by rw [WL HZ.out];exact (mg (r:=⟨g,tg,fo⟩) (s:=⟨a0,a1,a2,a3,a4,gr,bl,b0,b1,b2,b3,b4,b5,b6,b7⟩) (.inl HZ.out)).symm),K0.bw⟩
  · have H1:=hide H1
    by_cases hz:wi b1 (-99999) 99999=0
    · have hz':(wi b1 (-99999) 99999 != 0)=false:=by simp [hz]
      have HZ:=hide hz
      clear hz
      go_wp2_with (go_at_call 86;refine (bn _ _ _ _).mono ?_;rintro e dO ⟨rfl,rfl⟩)
      go_round
      case rel=>exact .inr (.inr ⟨by first | rfl | go_num,H1.out,HZ.out⟩)
      case measure=>simp [intOf]
    · have hz':(wi b1 (-99999) 99999 != 0)=true:=by simp [hz]
      have HZ:=hide hz
      clear hz
      go_wp2_with (go_at_call 86;refine (bn _ _ _ _).mono ?_;rintro e dO ⟨rfl,rfl⟩)
      go_ret
      exact ⟨dG (by rw [WL HZ.out];exact (mg (r:=⟨g,tg,fo⟩) (s:=⟨a0,a1,a2,a3,a4,gr,bl,b0,b1,b2,b3,b4,b5,b6,b7⟩) (.inr (.inl HZ.out))).symm),K0.bw⟩
  · have H1:=hide H1
    have H2:=hide H2
    go_wp2
    go_loopw [25] (fun i wr=>Keeps w ((w.alloc (.cells #[.string g,.int .i64 tg,.int .i64 fo] 23)).alloc (.cells #[.int .i64 a0,.bool a1,.bool a2,.bool a3,.bool a4,.int .i64 gr,.slice A bl.length c,.int .i64 b0,.int .i64 b1,.int .i64 b2,.int .i64 b3,.int .i64 b4,.int .i64 b5,.bool b6,.int .i64 b7] 33)) 2 wr∧(i= .int .i64 0∨(i= .int .i64 1∧fE fo b6 b2=0)∨(i= .int .i64 2∧fE fo b6 b2=0∧fE fo b6 b3=0))) (fun i _=>2 - (intOf i).toNat)
    case atStart=>exact ⟨K0,.inl rfl⟩
    case round=>
     obtain ⟨KR,hrel⟩:=hrel
     have hcR:=KR.cell
     rcases hrel with rfl | ⟨rfl,H3⟩ | ⟨rfl,H3,H4⟩
     · go_upto_region 11 with fail
       go_cut [10] (fun v wx=>v= .bool (many fo b6 b2)∧Keeps w ((w.alloc (.cells #[.string g,.int .i64 tg,.int .i64 fo] 23)).alloc (.cells #[.int .i64 a0,.bool a1,.bool a2,.bool a3,.bool a4,.int .i64 gr,.slice A bl.length c,.int .i64 b0,.int .i64 b1,.int .i64 b2,.int .i64 b3,.int .i64 b4,.int .i64 b5,.bool b6,.int .i64 b7] 33)) 2 wx)
       case first=>
        all_goals rcases Bool.eq_false_or_eq_true (b2 == fo) with y0 | y0
        all_goals go_wp2
        all_goals go_meet
        all_goals
         refine ⟨?_,KR⟩
         exact rG (by first | (simp [many,rO, *];done) | (simp [many,rO, *];intros;omega) | (simp [many,rO, *];intros;exfalso;omega) | (simp_all [many,rO];done))
       case rest=>
        obtain ⟨rfl,K1⟩:=hcut
        have hc1:=K1.cell
        by_cases hz:fE fo b6 b2=0
        · have hz':(aU [wi b2 0 99999,wh (many fo b6 b2) 3] != 0)=false:=by rw [show aU [wi b2 0 99999,wh (many fo b6 b2) 3]=0 from hz];rfl
          have HZ:=hide hz
          clear hz
          go_wp2_with (first | (go_at_call 86;refine (bn _ _ _ _).mono ?_;rintro e dO ⟨rfl,rfl⟩) | (go_at_call 87;refine (bY _ _ _).mono ?_;rintro e dO ⟨rfl,rfl⟩) | (go_at_call 85;refine (first_any (fun _=>True) _ _ [wi b2 0 99999,wh (many fo b6 b2) 3] _ (bD.lit _ _ [wi b2 0 99999,wh (many fo b6 b2) 3] (by simp) _ trivial)).mono ?_;rintro e dO ⟨rfl,rfl⟩))
          go_roundw
          case rel=>exact ⟨K1.alloc _,.inr (.inl ⟨by first | rfl | go_num,HZ.out⟩)⟩
          case measure=>simp [intOf]
        · have hz':(aU [wi b2 0 99999,wh (many fo b6 b2) 3] != 0)=true:=by have:aU [wi b2 0 99999,wh (many fo b6 b2) 3]≠0:=hz;simp [this]
          have HZ:=hide hz
          clear hz
          go_wp2_with (first | (go_at_call 86;refine (bn _ _ _ _).mono ?_;rintro e dO ⟨rfl,rfl⟩) | (go_at_call 87;refine (bY _ _ _).mono ?_;rintro e dO ⟨rfl,rfl⟩) | (go_at_call 85;refine (first_any (fun _=>True) _ _ [wi b2 0 99999,wh (many fo b6 b2) 3] _ (bD.lit _ _ [wi b2 0 99999,wh (many fo b6 b2) 3] (by simp) _ trivial)).mono ?_;rintro e dO ⟨rfl,rfl⟩))
          go_ret
          exact ⟨dG (by rw [show aU [wi b2 0 99999,wh (many fo b6 b2) 3]=3 from V5 HZ.out];exact (mg (r:=⟨g,tg,fo⟩) (s:=⟨a0,a1,a2,a3,a4,gr,bl,b0,b1,b2,b3,b4,b5,b6,b7⟩) <| .inr (.inr (.inl HZ.out))).symm),(K1.alloc _).bw⟩
     · have H3:=hide H3
       go_upto_region 11 with fail
       go_cut [10] (fun v wx=>v= .bool (many fo b6 b3)∧Keeps w ((w.alloc (.cells #[.string g,.int .i64 tg,.int .i64 fo] 23)).alloc (.cells #[.int .i64 a0,.bool a1,.bool a2,.bool a3,.bool a4,.int .i64 gr,.slice A bl.length c,.int .i64 b0,.int .i64 b1,.int .i64 b2,.int .i64 b3,.int .i64 b4,.int .i64 b5,.bool b6,.int .i64 b7] 33)) 2 wx)
       case first=>
        all_goals rcases Bool.eq_false_or_eq_true (b3 == fo) with y0 | y0
        all_goals go_wp2
        all_goals go_meet
        all_goals
         refine ⟨?_,KR⟩
         exact rG (by first | (simp [many,rO, *];done) | (simp [many,rO, *];intros;omega) | (simp [many,rO, *];intros;exfalso;omega) | (simp_all [many,rO];done))
       case rest=>
        obtain ⟨rfl,K1⟩:=hcut
        have hc1:=K1.cell
        by_cases hz:fE fo b6 b3=0
        · have hz':(aU [wi b3 0 99999,wh (many fo b6 b3) 3] != 0)=false:=by rw [show aU [wi b3 0 99999,wh (many fo b6 b3) 3]=0 from hz];rfl
          have HZ:=hide hz
          clear hz
          go_wp2_with (first | (go_at_call 86;refine (bn _ _ _ _).mono ?_;rintro e dO ⟨rfl,rfl⟩) | (go_at_call 87;refine (bY _ _ _).mono ?_;rintro e dO ⟨rfl,rfl⟩) | (go_at_call 85;refine (first_any (fun _=>True) _ _ [wi b3 0 99999,wh (many fo b6 b3) 3] _ (bD.lit _ _ [wi b3 0 99999,wh (many fo b6 b3) 3] (by simp) _ trivial)).mono ?_;rintro e dO ⟨rfl,rfl⟩))
          go_roundw
          case rel=>exact ⟨K1.alloc _,.inr (.inr ⟨by first | rfl | go_num,H3.out,HZ.out⟩)⟩
          case measure=>simp [intOf]
        · have hz':(aU [wi b3 0 99999,wh (many fo b6 b3) 3] != 0)=true:=by have:aU [wi b3 0 99999,wh (many fo b6 b3) 3]≠0:=hz;simp [this]
          have HZ:=hide hz
          clear hz
          go_wp2_with (first | (go_at_call 86;refine (bn _ _ _ _).mono ?_;rintro e dO ⟨rfl,rfl⟩) | (go_at_call 87;refine (bY _ _ _).mono ?_;rintro e dO ⟨rfl,rfl⟩) | (go_at_call 85;refine (first_any (fun _=>True) _ _ [wi b3 0 99999,wh (many fo b6 b3) 3] _ (bD.lit _ _ [wi b3 0 99999,wh (many fo b6 b3) 3] (by simp) _ trivial)).mono ?_;rintro e dO ⟨rfl,rfl⟩))
          go_ret
          exact ⟨dG (by rw [show aU [wi b3 0 99999,wh (many fo b6 b3) 3]=3 from V5 HZ.out];exact (mg (r:=⟨g,tg,fo⟩) (s:=⟨a0,a1,a2,a3,a4,gr,bl,b0,b1,b2,b3,b4,b5,b6,b7⟩) <| .inr (.inr (.inr HZ.out))).symm),(K1.alloc _).bw⟩
     · have H3:=hide H3
       have H4:=hide H4
       go_wp2
       go_region_held3 (fun w'=>∀ p q,p<w.heap.size+2→w'.cell? ⟨p,q,none⟩=((w.alloc (.cells #[.string g,.int .i64 tg,.int .i64 fo] 23)).alloc (.cells #[.int .i64 a0,.bool a1,.bool a2,.bool a3,.bool a4,.int .i64 gr,.slice A bl.length c,.int .i64 b0,.int .i64 b1,.int .i64 b2,.int .i64 b3,.int .i64 b4,.int .i64 b5,.bool b6,.int .i64 b7] 33)).cell? ⟨p,q,none⟩) (first | exact KR.cell | exact (KR.alloc _).cell) (first | (go_at_call 86;refine (bn _ _ _ _).mono ?_;rintro e dO ⟨rfl,rfl⟩) | (go_at_call 85;refine (first_any (fun _=>True) _ _ [wi b4 0 99999,wi b5 1 1000] _ (bD.drewN (bD.lit _ _ [wi b4 0 99999,wi b5 1 1000] (by simp) _ trivial) 1)).mono ?_;rintro e dO ⟨rfl,rfl⟩))
       go_wp2
       go_ret
       exact ⟨dG (yY (r:=⟨g,tg,fo⟩) (s:=⟨a0,a1,a2,a3,a4,gr,bl,b0,b1,b2,b3,b4,b5,b6,b7⟩) H1.out H2.out H3.out H4.out).symm,(KR.alloc _).drew.bw⟩
end Go.Proofs.YtelpepbpdojikaaGreatDoor
