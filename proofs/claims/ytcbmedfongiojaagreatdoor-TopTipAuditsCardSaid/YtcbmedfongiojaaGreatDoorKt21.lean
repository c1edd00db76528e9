/- Parts of a proof. -/
import Derived.Test.YtcbmedfongiojaaGreatDoorKt15
set_option maxHeartbeats 4000000
set_option maxRecDepth 100000
set_option linter.unusedVariables false
set_option linter.unusedSimpArgs false
namespace Go.Proofs.YtcbmedfongiojaaGreatDoor
open Go.RowKit
theorem Ld (k:ByteArray):Sk.has [Sk.dW,Sk.kK,Sk.mQ,Sk.jg] k=Sk.isKind k:=by
 unfold Sk.has Sk.isKind
 rw [Bool.eq_iff_iff]
 simp only [List.any_cons,List.any_nil,Bool.or_false,Bool.or_eq_true,decide_eq_true_eq,eq_comm (b:=k)]
def qJ (g:Sk.Game) (e:Sk.Entry):Bool:=decide (e.called≠Sk.bQ∧Sk.value e.called<2) || e.hits.any (fun b=>Sk.fM g b true=false) || e.aV.any (fun b=>Sk.fM g b false=false)
def fU (g:Sk.Game) (e:Sk.Entry):Bool:=decide ((g.kind≠Sk.aK∧e.called≠Sk.bQ)∨(g.kind=Sk.fA∧0<e.aV.length)∨(g.kind≠Sk.fA∧e.dM≠0))
theorem Oh (g:Sk.Game) (e:Sk.Entry) (h1:Sk.isKind e.kind=true) (h2:e.kind=Sk.dW) (h3:¬ (22<e.hits.length∨22<e.aV.length)):Sk.jc g e=fst [jA (qJ g e) 10,jA (Sk.out e.dM 0 99) 3,jA (fU g e) 1]:=by
 unfold Sk.jc
 rw [if_neg (by rw [h1];decide),if_neg (by simpa using h2),if_neg h3]
 have hu:((e.called≠Sk.bQ∧Sk.value e.called<2)∨e.hits.any (fun b=>Sk.fM g b true=false)=true∨e.aV.any (fun b=>Sk.fM g b false=false)=true)↔qJ g e=true:=by
  unfold qJ
  simp only [Bool.or_eq_true,decide_eq_true_eq,or_assoc]
 have hf:((g.kind≠Sk.aK∧e.called≠Sk.bQ)∨(g.kind=Sk.fA∧0<e.aV.length)∨(g.kind≠Sk.fA∧e.dM≠0))↔fU g e=true:=by
  unfold fU
  rw [decide_eq_true_eq]
 simp only [hu,hf]
 cases qJ g e <;> cases Sk.out e.dM 0 99 <;> cases fU g e <;> rfl
theorem GI (S:Nat→Prop) (g:Sk.Game) (e:En) (w:World) (he:je w S e):Calls Tryz.prog 69 #[rF g,wC e] w fun e_ w'=>e_= .returned (.int .i64 (Sk.jc g e.x))∧Below w.heap.size w w':=by
 obtain ⟨p1,p2,p3⟩:=he.hits.bd;obtain ⟨p4,p5,p6⟩:=he.aV.bd
 go_enter Tryz.func69,Tryz.ntmps69
 go_upto_region 0 with (fail)
 go_cut [2,3,4] (fun v2 v3 v4 wx=>v2=ptr w.heap.size∧v3=ptr (w.heap.size+1)∧v4= .int .i64 0∧aC w wx [(dN g,23),(fC e,41)])
 case first=>
  go_wp2;go_meet;exact ⟨rfl,rfl,rfl,(((aC.nil w).new (by simp) (dN g) _).new (by simp) (fC e) _)⟩
 case rest=>
  obtain ⟨rfl,rfl,rfl,hB⟩:=hcut;have hX:=hB.get 1 rfl;have k0:=hX.cell (j:=0) rfl;have K0:=hB.keeps 2 rfl (by omega)
  go_upto_region 1 with (fail)
  go_cut [12] (fun v wx=>v= .bool (!Sk.isKind e.x.kind)∧aC w wx [(dN g,23),(fC e,41)])
  case first=>
   go_region_held3 (fun w':World=>∀ p q,p<w.heap.size+2→w'.cell? ⟨p,q,none⟩=wc.cell? ⟨p,q,none⟩) (first | exact K0.cell | exact (K0.drew.alloc _).cell) (first | (go_at_call 132;refine (Lp _).mono ?_;rintro e1 w1 ⟨rfl,rfl⟩) | (go_at_call 59;refine (gZ (fun _=>True) _ 4 [Sk.dW,Sk.kK,Sk.mQ,Sk.jg] e.x.kind _ (kF.lit wc.drew 9 [Sk.dW,Sk.kK,Sk.mQ,Sk.jg] (by simp) _ trivial)).mono ?_;rintro e1 w1 ⟨rfl,rfl⟩))
   go_wp2;go_meet;exact ⟨dK (by rw [Ld]),hB.drew.alloc (by simp) _⟩
  case rest=>
   obtain ⟨rfl,hB1⟩:=hcut;clear hX k0 K0 hB;have hB:=hB1;clear hB1;have hX:=hB.get 1 rfl;have hG:=hB.aj rfl;have x0:=hX.cell (j:=0) rfl;have xf0:=hX.frozen 0;have x1:=hX.cell (j:=1) rfl;have xf1:=hX.frozen 1;have x2:=hX.cell (j:=2) rfl;have Bg:=hX.frozen 2;have x3:=hX.cell (j:=3) rfl;have zn:=hX.frozen 3;have x4:=hX.cell (j:=4) rfl;have xf4:=hX.frozen 4;have g0:=hG.cell (j:=0) rfl;have Za:=hG.frozen 0
   cases hk:Sk.isKind e.x.kind with
   | false=>
     have uP:=hide (show Sk.jc g e.x=13 by unfold Sk.jc;rw [if_pos hk]);clear hk;go_wp2;go_ret;exact ⟨bG uP.out.symm,hB.bw⟩
   | true=>
     by_cases hs:e.x.kind=Sk.dW
     · have hs1:=wt hs
       have hs2:(e.x.kind.toList != [115,104,111,116])=false:=by rw [bne,hs1];rfl
       by_cases hl:22<(e.x.hits.length:Int)
       · have hl1:decide (22<(e.x.hits.length:Int))=true:=decide_eq_true hl
         have uP:=hide (show Sk.jc g e.x=5 by unfold Sk.jc;rw [if_neg (by rw [hk];decide),if_neg (by simpa using hs),if_pos (.inl (by omega))]);clear hk hs hl;go_wp2;go_ret;exact ⟨bG uP.out.symm,hB.bw⟩
       · have hl1:decide (22<(e.x.hits.length:Int))=false:=decide_eq_false hl
         by_cases hm:22<(e.x.aV.length:Int)
         · have hm1:decide (22<(e.x.aV.length:Int))=true:=decide_eq_true hm
           have uP:=hide (show Sk.jc g e.x=5 by unfold Sk.jc;rw [if_neg (by rw [hk];decide),if_neg (by simpa using hs),if_pos (.inr (by omega))]);clear hk hs hl hm;go_wp2;go_ret;exact ⟨bG uP.out.symm,hB.bw⟩
         · have hm1:decide (22<(e.x.aV.length:Int))=false:=decide_eq_false hm
           have uP:=hide (Oh g e.x hk hs (by omega));clear hk hs hl hm;have hbD:=hB.bw;have hwh:=fun W (hb:Below wc.heap.size wc W)=>Dl S g true e.x.hits e.A e.a W w.heap.size ((hB.aj rfl).below hb) ((he.hits.below hbD).below hb);have hwp:=fun W (hb:Below wc.heap.size wc W)=>Dl S g false e.x.aV e.B e.b W w.heap.size ((hB.aj rfl).below hb) ((he.aV.below hbD).below hb);obtain ⟨yh,V5⟩:∃ y,e.x.hits.any (fun b=>Sk.fM g b true=false)=y:=⟨_,rfl⟩;obtain ⟨yp,hyp⟩:∃ y,e.x.aV.any (fun b=>Sk.fM g b false=false)=y:=⟨_,rfl⟩
           simp only [V5] at hwh
           simp only [hyp] at hwp
           have HWH:=hide hwh;have HWP:=hide hwp;have WG:=hide V5;have HYP:=hide hyp;clear hwh hwp V5 hyp;have hb8:Below wc.heap.size wc wc:=Below.refl _ _;have hl0:w.heap.size<wc.heap.size:=(hB.aj rfl).lt;have hl1:w.heap.size+1<wc.heap.size:=(hB.get 1 rfl).lt
           go_upto_region 8 with (fail)
           go_cut [5,6] (fun v5 v wx=>v5= .func (.func 133) #[] #[ptr w.heap.size]∧v= .bool (qJ g e.x)∧Below wc.heap.size wc wx)
           case first=>
            by_cases h4:e.x.called=Sk.bQ
            · have OC:=wt h4
              cases yh
              all_goals
               have HH:=hide (And.intro h4 trivial);clear h4
               go_wp2_with (first | (go_at_call 137;refine (dS _ _).mono ?_;rintro e1 w1 ⟨rfl,hb1⟩;have hb8:=hb8.trans (hb1.mono hb8.size);have hB:=hB.call (by simp) hb1;have hX:=hB.get 1 rfl;have x2:=hX.cell (j:=2) rfl;have Bg:=hX.frozen 2;have x3:=hX.cell (j:=3) rfl;have zn:=hX.frozen 3) | (go_at_call_of 133 (Value.slice e.A e.x.hits.length e.a);refine (HWH.out _ hb8).mono ?_;rintro e1 w1 ⟨rfl,hb1⟩;have hb8:=hb8.trans (hb1.mono hb8.size);have hB:=hB.call (by simp) hb1;have hX:=hB.get 1 rfl;have x2:=hX.cell (j:=2) rfl;have Bg:=hX.frozen 2;have x3:=hX.cell (j:=3) rfl;have zn:=hX.frozen 3) | (go_at_call_of 133 (Value.slice e.B e.x.aV.length e.b);refine (HWP.out _ hb8).mono ?_;rintro e1 w1 ⟨rfl,hb1⟩;have hb8:=hb8.trans (hb1.mono hb8.size);have hB:=hB.call (by simp) hb1;have hX:=hB.get 1 rfl;have x2:=hX.cell (j:=2) rfl;have Bg:=hX.frozen 2;have x3:=hX.cell (j:=3) rfl;have zn:=hX.frozen 3))
               go_meet;exact ⟨rfl,dK (by have hh1:=WG.out;have hh2:=HYP.out;obtain ⟨h4,_⟩:=HH.out;unfold qJ;rw [hh1,hh2];first | (simp [if_true,h4];done) | (simp [if_true,h4];omega) | (rw [Bool.eq_iff_iff];simp [if_true,h4];omega)),hb8⟩
            · have OB:=wf h4
              by_cases h5:Sk.value e.x.called<2
              · have Ud:=(show decide (Sk.value e.x.called<2)=true from decide_eq_true h5)
                have HH:=hide (And.intro h4 (And.intro h5 trivial));clear h4 h5
                go_wp2_with (first | (go_at_call 137;refine (dS _ _).mono ?_;rintro e1 w1 ⟨rfl,hb1⟩;have hb8:=hb8.trans (hb1.mono hb8.size);have hB:=hB.call (by simp) hb1;have hX:=hB.get 1 rfl;have x2:=hX.cell (j:=2) rfl;have Bg:=hX.frozen 2;have x3:=hX.cell (j:=3) rfl;have zn:=hX.frozen 3) | (go_at_call_of 133 (Value.slice e.A e.x.hits.length e.a);refine (HWH.out _ hb8).mono ?_;rintro e1 w1 ⟨rfl,hb1⟩;have hb8:=hb8.trans (hb1.mono hb8.size);have hB:=hB.call (by simp) hb1;have hX:=hB.get 1 rfl;have x2:=hX.cell (j:=2) rfl;have Bg:=hX.frozen 2;have x3:=hX.cell (j:=3) rfl;have zn:=hX.frozen 3) | (go_at_call_of 133 (Value.slice e.B e.x.aV.length e.b);refine (HWP.out _ hb8).mono ?_;rintro e1 w1 ⟨rfl,hb1⟩;have hb8:=hb8.trans (hb1.mono hb8.size);have hB:=hB.call (by simp) hb1;have hX:=hB.get 1 rfl;have x2:=hX.cell (j:=2) rfl;have Bg:=hX.frozen 2;have x3:=hX.cell (j:=3) rfl;have zn:=hX.frozen 3))
                go_meet;exact ⟨rfl,dK (by have hh1:=WG.out;have hh2:=HYP.out;obtain ⟨h4,h5,_⟩:=HH.out;unfold qJ;rw [hh1,hh2];first | (simp [if_true,h4,h5];done) | (simp [if_true,h4,h5];omega) | (rw [Bool.eq_iff_iff];simp [if_true,h4,h5];omega)),hb8⟩
              · have Uc:=(show decide (Sk.value e.x.called<2)=false from decide_eq_false h5)
                cases yh
                all_goals
                 have HH:=hide (And.intro h4 (And.intro h5 trivial));clear h4 h5
                 go_wp2_with (first | (go_at_call 137;refine (dS _ _).mono ?_;rintro e1 w1 ⟨rfl,hb1⟩;have hb8:=hb8.trans (hb1.mono hb8.size);have hB:=hB.call (by simp) hb1;have hX:=hB.get 1 rfl;have x2:=hX.cell (j:=2) rfl;have Bg:=hX.frozen 2;have x3:=hX.cell (j:=3) rfl;have zn:=hX.frozen 3) | (go_at_call_of 133 (Value.slice e.A e.x.hits.length e.a);refine (HWH.out _ hb8).mono ?_;rintro e1 w1 ⟨rfl,hb1⟩;have hb8:=hb8.trans (hb1.mono hb8.size);have hB:=hB.call (by simp) hb1;have hX:=hB.get 1 rfl;have x2:=hX.cell (j:=2) rfl;have Bg:=hX.frozen 2;have x3:=hX.cell (j:=3) rfl;have zn:=hX.frozen 3) | (go_at_call_of 133 (Value.slice e.B e.x.aV.length e.b);refine (HWP.out _ hb8).mono ?_;rintro e1 w1 ⟨rfl,hb1⟩;have hb8:=hb8.trans (hb1.mono hb8.size);have hB:=hB.call (by simp) hb1;have hX:=hB.get 1 rfl;have x2:=hX.cell (j:=2) rfl;have Bg:=hX.frozen 2;have x3:=hX.cell (j:=3) rfl;have zn:=hX.frozen 3))
                 go_meet;exact ⟨rfl,dK (by have hh1:=WG.out;have hh2:=HYP.out;obtain ⟨h4,h5,_⟩:=HH.out;unfold qJ;rw [hh1,hh2];first | (simp [if_true,h4,h5];done) | (simp [if_true,h4,h5];omega) | (rw [Bool.eq_iff_iff];simp [if_true,h4,h5];omega)),hb8⟩
           case rest=>
            obtain ⟨rfl,rfl,xU⟩:=hcut;have Xe:=(hB.get 1 rfl).below xU;have hG9:=(hB.aj rfl).below xU;have jP:=hB.call (by simp) xU;clear x0 xf0 x1 xf1 x2 Bg x3 zn x4 xf4 g0 Za;have x1:=Xe.cell (j:=1) rfl;have xf1:=Xe.frozen 1;have x3:=Xe.cell (j:=3) rfl;have zn:=Xe.frozen 3;have x4:=Xe.cell (j:=4) rfl;have xf4:=Xe.frozen 4;have g0:=hG9.cell (j:=0) rfl;have Za:=hG9.frozen 0;have hl0:w.heap.size<wc.heap.size:=hG9.lt;have hl1:w.heap.size+1<wc.heap.size:=Xe.lt
            go_upto_region 9 with (fail)
            go_cut [7] (fun v wx=>v= .bool (fU g e.x)∧wx=wc)
            case first=>
             by_cases h6:g.kind=Sk.aK
             · have Uf:=wt h6
               by_cases h7:g.kind=Sk.fA
               · have Uh:=wt h7
                 exact absurd (h6.symm.trans h7) (by decide)
               · have Ug:=wf h7
                 by_cases h8:e.x.dM=0
                 · have Ze:=(show (e.x.dM == 0)=true by simp [h8])
                   have asN:=(show (e.x.dM != 0)=false by simp [h8]);have HH:=hide (And.intro h6 (And.intro h7 (And.intro h8 trivial)));clear h6 h7 h8;go_wp2;go_meet;exact ⟨dK (by obtain ⟨h6,h7,h8,_⟩:=HH.out;first | (simp [fU,h6,h7,h8];done) | (simp [fU,h6,h7,h8];omega) | (rw [Bool.eq_iff_iff];simp [fU,h6,h7,h8];omega)),rfl⟩
                 · have Zd:=(show (e.x.dM == 0)=false by simp [h8])
                   have asG:=(show (e.x.dM != 0)=true by simp [h8]);have HH:=hide (And.intro h6 (And.intro h7 (And.intro h8 trivial)));clear h6 h7 h8;go_wp2;go_meet;exact ⟨dK (by obtain ⟨h6,h7,h8,_⟩:=HH.out;first | (simp [fU,h6,h7,h8];done) | (simp [fU,h6,h7,h8];omega) | (rw [Bool.eq_iff_iff];simp [fU,h6,h7,h8];omega)),rfl⟩
             · have Ue:=wf h6
               by_cases h9:e.x.called=Sk.bQ
               · have Zg:=wt h9
                 by_cases h10:g.kind=Sk.fA
                 · have VO:=wt h10
                   by_cases h11:0<e.x.aV.length
                   · have VQ:=(show decide (0<(e.x.aV.length:Int))=true by simpa using h11)
                     have anF:=(show decide (0<e.x.aV.length)=true by simpa using h11);have HH:=hide (And.intro h6 (And.intro h9 (And.intro h10 (And.intro h11 trivial))));clear h6 h9 h10 h11;go_wp2;go_meet;exact ⟨dK (by obtain ⟨h6,h9,h10,h11,_⟩:=HH.out;first | (simp [fU,h6,h9,h10,h11];done) | (simp [fU,h6,h9,h10,h11];omega) | (rw [Bool.eq_iff_iff];simp [fU,h6,h9,h10,h11];omega)),rfl⟩
                   · have VP:=(show decide (0<(e.x.aV.length:Int))=false by simpa using h11)
                     have anx:=(show decide (0<e.x.aV.length)=false by simpa using h11);have HH:=hide (And.intro h6 (And.intro h9 (And.intro h10 (And.intro h11 trivial))));clear h6 h9 h10 h11;go_wp2;go_meet;exact ⟨dK (by obtain ⟨h6,h9,h10,h11,_⟩:=HH.out;first | (simp [fU,h6,h9,h10,h11];done) | (simp [fU,h6,h9,h10,h11];omega) | (rw [Bool.eq_iff_iff];simp [fU,h6,h9,h10,h11];omega)),rfl⟩
                 · have VN:=wf h10
                   by_cases h12:e.x.dM=0
                   · have VT:=(show (e.x.dM == 0)=true by simp [h12])
                     have Zc:=(show (e.x.dM != 0)=false by simp [h12]);have HH:=hide (And.intro h6 (And.intro h9 (And.intro h10 (And.intro h12 trivial))));clear h6 h9 h10 h12;go_wp2;go_meet;exact ⟨dK (by obtain ⟨h6,h9,h10,h12,_⟩:=HH.out;first | (simp [fU,h6,h9,h10,h12];done) | (simp [fU,h6,h9,h10,h12];omega) | (rw [Bool.eq_iff_iff];simp [fU,h6,h9,h10,h12];omega)),rfl⟩
                   · have VR:=(show (e.x.dM == 0)=false by simp [h12])
                     have Zb:=(show (e.x.dM != 0)=true by simp [h12]);have HH:=hide (And.intro h6 (And.intro h9 (And.intro h10 (And.intro h12 trivial))));clear h6 h9 h10 h12;go_wp2;go_meet;exact ⟨dK (by obtain ⟨h6,h9,h10,h12,_⟩:=HH.out;first | (simp [fU,h6,h9,h10,h12];done) | (simp [fU,h6,h9,h10,h12];omega) | (rw [Bool.eq_iff_iff];simp [fU,h6,h9,h10,h12];omega)),rfl⟩
               · have Zf:=wf h9
                 have HH:=hide (And.intro h6 (And.intro h9 trivial));clear h6 h9;go_wp2;go_meet;exact ⟨dK (by obtain ⟨h6,h9,_⟩:=HH.out;first | (simp [fU,h6,h9];done) | (simp [fU,h6,h9];omega) | (rw [Bool.eq_iff_iff];simp [fU,h6,h9];omega)),rfl⟩
            case rest=>
             obtain ⟨rfl,rfl⟩:=hcut;clear x1 xf1 x3 zn g0 Za;obtain ⟨z1,hz1⟩:∃ z,qJ g e.x=z:=⟨_,rfl⟩;obtain ⟨z3,hz3⟩:∃ z,fU g e.x=z:=⟨_,rfl⟩;rw [hz1,hz3] at uP ⊢;clear hz1 hz3
             go_upto_region 10 with (fail)
             go_region_held3 (fun w':World=>∀ p q,p<wc.heap.size→w'.cell? ⟨p,q,none⟩=wc.cell? ⟨p,q,none⟩) (first | exact fun p q h=>rfl | exact (fun p q h=>((Below.refl wc.heap.size wc).alloc (Nat.le_refl _) _).cell (p:=⟨p,q,none⟩) h)) (first | (go_at_call 25;refine (dJ _ _ _).mono ?_;rintro e oh ⟨rfl,rfl⟩) | (go_at_call 30;refine (jG _ _ _ _).mono ?_;rintro e oh ⟨rfl,rfl⟩) | (go_at_call 23;refine (iO (fun _=>True) _ _ [jA (z1) 10,jA (Sk.out e.x.dM 0 99) 3,jA (z3) 1] _ (kX.row _ _ [jA (z1) 10,jA (Sk.out e.x.dM 0 99) 3,jA (z3) 1] (by simp) _ trivial)).mono ?_;rintro e oh ⟨rfl,rfl⟩) | (go_at_call 23;refine (iO (fun _=>True) _ _ [jA (z1) 10,jA (Sk.out e.x.dM 0 99) 3,jA (z3) 1] _ (kX.drewN (kX.row wc 31 [jA (z1) 10,jA (Sk.out e.x.dM 0 99) 3,jA (z3) 1] (by simp) _ trivial) 1)).mono ?_;rintro e oh ⟨rfl,rfl⟩))
             go_wp2;go_ret;exact ⟨bG uP.out.symm,jP.bw.trans (((below_drewN (Below.refl wc.heap.size wc) 1).alloc (Nat.le_refl _) _).mono jP.bw.size)⟩
     · have hs1:=wf hs
       have hs2:(e.x.kind.toList != [115,104,111,116])=true:=by rw [bne,hs1];rfl
       have uP:=hide (show Sk.jc g e.x=if e.x.called≠Sk.bQ∨0<e.x.hits.length+e.x.aV.length∨e.x.dM≠0 then 1 else 0 by unfold Sk.jc;rw [if_neg (by rw [hk];decide),if_pos hs]);clear hk hs
       by_cases h1:e.x.called=Sk.bQ
       · have TY:=wt h1
         by_cases h2:0<(e.x.hits.length:Int)+(e.x.aV.length:Int)
         · have Ub:=(show decide (0<(e.x.hits.length:Int)+(e.x.aV.length:Int))=true from decide_eq_true h2)
           have HH:=hide (And.intro h1 (And.intro h2 trivial));clear h1 h2
           go_wp2_with (first | (go_at_call 25;refine (dJ _ _ _).mono ?_;rintro e oh ⟨rfl,rfl⟩))
           go_ret;exact ⟨bG (by rw [uP.out];obtain ⟨h1,h2,_⟩:=HH.out;rw [if_pos (.inr (.inl (by omega)))];rfl),hB.bw⟩
         · have Ua:=(show decide (0<(e.x.hits.length:Int)+(e.x.aV.length:Int))=false from decide_eq_false h2)
           by_cases h3:e.x.dM=0
           · have OA:=(show (e.x.dM == 0)=true by simp [h3])
             have ar0:=(show (e.x.dM != 0)=false by simp [h3]);have HH:=hide (And.intro h1 (And.intro h2 (And.intro h3 trivial)));clear h1 h2 h3
             go_wp2_with (first | (go_at_call 25;refine (dJ _ _ _).mono ?_;rintro e oh ⟨rfl,rfl⟩))
             go_ret;exact ⟨bG (by rw [uP.out];obtain ⟨h1,h2,h3,_⟩:=HH.out;rw [if_neg (by rintro (h | h | h);exact h h1;exact absurd h (by omega);exact h h3)];rfl),hB.bw⟩
           · have Oz:=(show (e.x.dM == 0)=false by simp [h3])
             have arT:=(show (e.x.dM != 0)=true by simp [h3]);have HH:=hide (And.intro h1 (And.intro h2 (And.intro h3 trivial)));clear h1 h2 h3
             go_wp2_with (first | (go_at_call 25;refine (dJ _ _ _).mono ?_;rintro e oh ⟨rfl,rfl⟩))
             go_ret;exact ⟨bG (by rw [uP.out];obtain ⟨h1,h2,h3,_⟩:=HH.out;rw [if_pos (.inr (.inr h3))];rfl),hB.bw⟩
       · have TW:=wf h1
         have HH:=hide (And.intro h1 trivial);clear h1
         go_wp2_with (first | (go_at_call 25;refine (dJ _ _ _).mono ?_;rintro e oh ⟨rfl,rfl⟩))
         go_ret;exact ⟨bG (by rw [uP.out];obtain ⟨h1,_⟩:=HH.out;rw [if_pos (.inl h1)];rfl),hB.bw⟩
def iQ (g:Sk.Game) (s:Sk.State) (e:Sk.Entry):Int:=if Sk.bW g s≠0 then Sk.bW g s else Sk.jc g e
theorem rW (S:Nat→Prop) (g:Sk.Game) (s:Sk.State) (e:En) (w:World) (he:je w S e):Calls Tryz.prog 62 #[rF g,lJ s,wC e] w fun e_ w'=>e_= .returned (.int .i64 (iQ g s e.x))∧Below w.heap.size w w':=by
 go_enter Tryz.func62,Tryz.ntmps62
 go_upto_region 0 with (fail)
 go_cut [3,4,5,6] (fun v3 v4 v5 v6 wx=>v3=ptr w.heap.size∧v4=ptr (w.heap.size+1)∧v5=ptr (w.heap.size+2)∧v6= .int .i64 0∧aC w wx [(dN g,23),(aQ s,26),(fC e,41)])
 case first=>
  go_wp2;go_meet;exact ⟨rfl,rfl,rfl,rfl,((((aC.nil w).new (by simp) (dN g) _).new (by simp) (aQ s) _).new (by simp) (fC e) _)⟩
 case rest=>
  obtain ⟨rfl,rfl,rfl,rfl,hB⟩:=hcut
  by_cases hz:Sk.bW g s=0
  · have hz':(Sk.bW g s != 0)=false:=by simp [hz]
    have uP:=hide (show iQ g s e.x=Sk.jc g e.x by unfold iQ;rw [if_neg (by simpa using hz)]);clear hz
    go_wp2_with (first | ((with_reducible refine dh 23 3 ?_);refine dO (hB.aj rfl) Tryz.underlying23 fG ?_) | ((with_reducible refine dh 26 4 ?_);refine dO (hB.get 1 rfl) Tryz.underlying26 ak ?_) | ((with_reducible refine dh 41 5 ?_);refine dO (hB.get 2 rfl) Tryz.underlying41 bY ?_) | (go_at_call 24;refine (lG g s _).mono ?_;rintro e1 w1 ⟨rfl,hb1⟩;have hB:=hB.call (by simp) hb1) | (go_at_call 69;refine (GI S g e _ (he.below hB.bw)).mono ?_;rintro e1 w1 ⟨rfl,hb1⟩;have hB:=hB.call (by simp) hb1))
    go_ret;exact ⟨bG uP.out.symm,hB.bw⟩
  · have hz':(Sk.bW g s != 0)=true:=by simp [hz]
    have uP:=hide (show iQ g s e.x=Sk.bW g s by unfold iQ;rw [if_pos hz]);clear hz
    go_wp2_with (first | ((with_reducible refine dh 23 3 ?_);refine dO (hB.aj rfl) Tryz.underlying23 fG ?_) | ((with_reducible refine dh 26 4 ?_);refine dO (hB.get 1 rfl) Tryz.underlying26 ak ?_) | (go_at_call 24;refine (lG g s _).mono ?_;rintro e1 w1 ⟨rfl,hb1⟩;have hB:=hB.call (by simp) hb1))
    go_ret;exact ⟨bG uP.out.symm,hB.bw⟩
theorem Oc {S:Nat→Prop} {l:List En} {A:Option Addr} {c k b o:Nat} {w W:World} (hl:wF w S A c l) (hk:k<l.length) (hb:Below w.heap.size w W) (hA:A=some ⟨b,o,none⟩):W.rangeAt b (o+k*5) (fC l[k]):=by
 obtain ⟨b',o',e,_,hbl,hc⟩:=Reads.at_ hl.1 (by omega);rw [hA] at e
 cases e
 intro j v hj;have hj5:j<5:=(List.getElem?_eq_some_iff.1 hj).1
 have:=hc (k*5+j) v (by rw [sO l k hk j hj5];exact hj)
 rw [Nat.add_assoc];exact (hb.cell (p:=⟨b,o+(k*5+j),none⟩) hbl).trans this
theorem BU (s:Sk.State) (e:En) (hc:0≤s.colour∧s.colour≤7) (l:List ByteArray) (w:World) (D H:Nat) (hD:Held w D (aQ s) 26) (hH:Held w H (fC e) 41):Says 233 #[ptr D,ptr H] l (fun b=>Sk.wanted s e.x b=false) w:=by
 refine ⟨enters_of Tryz.func233 (by kernel_rfl) rfl,fun W x _ hb=>?_⟩;have hS:=hD.below hb;have hE:=hH.below hb;have hI:=fun W=>A8 s e x hc W
 have hdec:decide (Sk.wanted s e.x x=false)= !Sk.wanted s e.x x:=by cases Sk.wanted s e.x x <;> rfl
 show Calls Tryz.prog 233 #[.string x,ptr D,ptr H] W fun e_ w'=>e_= .returned (.bool (decide (Sk.wanted s e.x x=false)))∧Below w.heap.size w w'
 rw [hdec];obtain ⟨y,hy⟩:∃ y,Sk.wanted s e.x x=y:=⟨_,rfl⟩
 simp only [hy] at hI ⊢
 have HI:=hide hI;clear hI hy hdec
 go_enter Tryz.func233,Tryz.ntmps233
 go_wp2_with (first | ((with_reducible refine dh 26 1 ?_);refine dO (hS) Tryz.underlying26 ak ?_) | ((with_reducible refine dh 41 2 ?_);refine dO (hE) Tryz.underlying41 bY ?_) | (go_at_call 185;refine (HI.out _).mono ?_;rintro e1 w1 ⟨rfl,hb1⟩))
 go_ret;exact ⟨rfl,hb.trans (hb1.mono hb.size)⟩
theorem wtE {b:ByteArray} (h:b=Sk.bQ):b.toList.isEmpty=true:=by subst h;rw [ByteArray.toList_eq];rfl
theorem wfE {b:ByteArray} (h:¬ b=Sk.bQ):b.toList.isEmpty=false:=by
 cases hh:b.toList.isEmpty
 · rfl
 · exact absurd (sK (by rw [List.isEmpty_iff.1 hh,ByteArray.toList_eq])) h
theorem kM (s:Sk.State):0<(Sk.on s).length:=by
 unfold Sk.on Sk.dX
 split
 · simp
 · split <;> simp
theorem KD (s:Sk.State):(Sk.on s).headD Sk.bQ=(Sk.on s)[0]'(kM s):=by
 rw [List.headD_eq_head?_getD,List.head?_eq_getElem?,List.getElem?_eq_getElem (kM s)];rfl
theorem Jy (S:Nat→Prop) (s:Sk.State) (e:En) (w:World) (hc:0≤s.colour∧s.colour≤7) (he:je w S e):Calls Tryz.prog 183 #[lJ s,wC e] w fun e_ w'=>e_= .returned (.int .i64 (Sk.dw s e.x))∧Below w.heap.size w w':=by
 obtain ⟨p1,p2,p3⟩:=he.hits.bd
 go_enter Tryz.func183,Tryz.ntmps183
 go_upto_region 0 with (fail)
 go_cut [2,3,4] (fun v2 v3 v4 wx=>v2=ptr w.heap.size∧v3=ptr (w.heap.size+1)∧v4= .int .i64 0∧aC w wx [(aQ s,26),(fC e,41)])
 case first=>
  go_wp2;go_meet;exact ⟨rfl,rfl,rfl,(((aC.nil w).new (by simp) (aQ s) _).new (by simp) (fC e) _)⟩
 case rest=>
  obtain ⟨rfl,rfl,rfl,hB⟩:=hcut;have hX:=hB.get 1 rfl;have x1:=hX.cell (j:=1) rfl;have xf1:=hX.frozen 1;obtain ⟨yb,hyb⟩:∃ y,e.x.called.toList.isEmpty=y:=⟨_,rfl⟩;have YF:=hide hyb
  go_upto_if 10 with (fail)
  clear hyb
  go_cut [5] (fun v wx=>v= .string (Sk.due s e.x)∧aC w wx [(aQ s,26),(fC e,41)])
  case first=>
   cases yb
   · have HH:=hide (show Sk.due s e.x=e.x.called by unfold Sk.due;rw [if_neg (fun h=>by have:=YF.out;rw [wtE h] at this;cases this)])
     go_wp2;go_meet;exact ⟨by rw [HH.out],hB⟩
   · have HH:=hide (show Sk.due s e.x=(Sk.on s)[0]'(kM s) by unfold Sk.due;rw [if_pos (by by_cases h:e.x.called=Sk.bQ;exact h;have:=YF.out;rw [wfE h] at this;cases this),KD])
     go_wp2_with (first | ((with_reducible refine dh 26 2 ?_);refine dO (hB.aj rfl) Tryz.underlying26 ak ?_) | (go_at_call 186;refine (kS s hc _).mono ?_;rintro e1 w1 ⟨A1,c1,rfl,hr1,hb1⟩;have hB:=hB.call (by simp) hb1;obtain ⟨b1,o1,rfl,_,_,hc1⟩:=hr1.at_ 0 (kM s);have hon:=hc1 0 (kM s);have Xt:=kM s;rw [Nat.add_zero] at hon))
     go_meet;exact ⟨by rw [HH.out],hB⟩
  case rest=>
   obtain ⟨rfl,hB1⟩:=hcut;clear hX x1 xf1 hB;have hB:=hB1;clear hB1;have hX:=hB.get 1 rfl;have x2:=hX.cell (j:=2) rfl;have Bg:=hX.frozen 2;have x3:=hX.cell (j:=3) rfl;have zn:=hX.frozen 3;have hbD:=hB.bw;have hhw:=fun W (hb:Below wc.heap.size wc W)=>gZ S e.B e.b e.x.aV Sk.dB W ((he.aV.below hbD).below hb);have hhf:=fun W (hb:Below wc.heap.size wc W)=>og S e.B e.b e.x.aV _ _ _ W ((he.aV.below hbD).below hb) (BU s e hc e.x.aV W w.heap.size (w.heap.size+1) ((hB.aj rfl).below hb) ((hB.get 1 rfl).below hb));obtain ⟨yw,UJ⟩:∃ y,Sk.has e.x.aV Sk.dB=y:=⟨_,rfl⟩;obtain ⟨yf,XD⟩:∃ y,e.x.aV.any (fun b=>Sk.wanted s e.x b=false)=y:=⟨_,rfl⟩
   simp only [UJ] at hhw
   simp only [XD] at hhf
   have HHW:=hide hhw;have HHF:=hide hhf;have HYW:=hide UJ;have HYF:=hide XD;obtain ⟨d,hd⟩:∃ d,Sk.due s e.x=d:=⟨_,rfl⟩;have HD:=hide hd;rw [hd];have hb8:Below wc.heap.size wc wc:=Below.refl _ _;clear hhw hhf UJ XD hd
   by_cases hn:e.x.hits=[]
   · have hn1:((e.x.hits.length:Int) == 0)=true:=by simp [hn]
     have HF:=hide (show Sk.dw s e.x=1 by unfold Sk.dw;rw [if_pos hn]);clear hn;go_wp2;go_ret;exact ⟨bG HF.out.symm,hbD⟩
   · have hpos:0<e.x.hits.length:=List.length_pos_iff.2 hn
     have hn1:((e.x.hits.length:Int) == 0)=false:=by simp [hn]
     obtain ⟨b0,o0,hA,_,hbl,hcc⟩:=(he.hits.below hbD).at_ 0 hpos;have h00:=hcc 0 hpos;rw [Nat.add_zero] at h00
     have hhd:e.x.hits.headD Sk.bQ=e.x.hits[0]:=by rw [List.headD_eq_head?_getD,List.head?_eq_getElem?,List.getElem?_eq_getElem hpos];rfl
     obtain ⟨h0,hh0⟩:∃ h,e.x.hits[0]=h:=⟨_,rfl⟩;rw [hh0] at h00 hhd;rw [hA] at x2;have HN:=hide hn;have WC:=hide hhd;clear hn hcc hh0 hhd
     by_cases hq:h0=d
     · have hq1:(h0.toList == d.toList)=true:=mD hq
       have hq2:(h0.toList != d.toList)=false:=by rw [bne,hq1];rfl
       have HF:=hide (show Sk.dw s e.x=if yw then 3 else if yf then 4 else 0 by unfold Sk.dw;rw [if_neg HN.out,if_neg (by rw [WC.out,HD.out];simpa using hq),HYW.out,HYF.out]);clear hq
       cases yw
       · cases yf
         all_goals
          go_wp2_with (first | (go_at_call 59;refine (HHW.out _ hb8).mono ?_;rintro e1 w1 ⟨rfl,rfl⟩) | (go_at_call 134;refine (HHF.out _ hb8).mono ?_;rintro e1 w1 ⟨rfl,hb1⟩;have hb8:=hb8.trans (hb1.mono hb8.size)))
          go_ret;exact ⟨bG HF.out.symm,hbD.trans (hb8.mono hbD.size)⟩
       · go_wp2_with (first | (go_at_call 59;refine (HHW.out _ hb8).mono ?_;rintro e1 w1 ⟨rfl,rfl⟩))
         go_ret;exact ⟨bG HF.out.symm,hbD⟩
     · have hq1:(h0.toList == d.toList)=false:=mg hq
       have hq2:(h0.toList != d.toList)=true:=by rw [bne,hq1];rfl
       have HF:=hide (show Sk.dw s e.x=2 by unfold Sk.dw;rw [if_neg HN.out,if_pos (by rw [WC.out,HD.out];exact hq)]);clear hq;go_wp2;go_ret;exact ⟨bG HF.out.symm,hbD⟩
theorem Ep {md:Region.Mode} {ops:Array Oper} {Q:Exit→Act→World→Prop} {S:World→Prop} {fuel:Nat} {listed:Array Bool} {a:Act} {w:World} {i:Nat} {o:Oper} {g:Nat} {cs:List Value} {t:TypeId} (ho:ops[i]? =some o) (hw:Region.wanted o (yielded ops a.tmps)=true)
 (h:Held w g cs t) (vs:List Value) (hl:vs.length=cs.length) (hi:(Tryz.prog.info? t).map (·.size)=some cs.length) (h1:∀ v∈vs,v.oneCell'=true) (x y:Operand) (hop:o.op= .store t x y) (hx:a.eval x= .pointer (some ⟨g,0,none⟩)) (hy:a.eval y= .agg vs.toArray)
 (hS:S (w.setCells g 0 vs)) (k:wpAnyH Tryz.prog md ops Q S fuel (listed.setIfInBounds i true) (a.put o.dst undef) (w.setCells g 0 vs)):AllReadyH Tryz.prog md ops Q S fuel listed a w [i]:=
 AllReadyH.cons ho (fun K hK=>by rw [if_pos hw];exact aG h vs hl hi h1 x y hop hx hy (hK.out _ _ hS (fun _=>k))) AllReadyH.nil
def gB (v:Sk.fF):List Value:=[.int .i64 v.points,.int .i64 v.iC,.int .i64 v.penalty,.bool v.stays]
theorem jM (v:Sk.fF):∀ x∈gB v,x.oneCell'=true:=by simp [gB,Value.oneCell']
theorem FH {l:List ByteArray} (h:0<l.length):l.headD Sk.bQ=l[0]:=by rw [List.headD_eq_head?_getD,List.head?_eq_getElem?,List.getElem?_eq_getElem h];rfl
theorem qH (S:Nat→Prop) (s:Sk.State) (e:En) (w:World) (ht:s.turn=0∨s.turn=1) (he:je w S e):Calls Tryz.prog 190 #[lJ s,wC e] w fun e_ w'=>e_= .returned (.bool (Sk.jf s e.x))∧Below w.heap.size w w':=by
 go_enter Tryz.func190,Tryz.ntmps190
 go_upto_region 0 with (fail)
 go_cut [2,3,4] (fun v2 v3 v4 wx=>v2=ptr w.heap.size∧v3=ptr (w.heap.size+1)∧v4= .bool false∧aC w wx [(aQ s,26),(fC e,41)])
 case first=>
  go_wp2;go_meet;exact ⟨rfl,rfl,rfl,(((aC.nil w).new (by simp) (aQ s) _).new (by simp) (fC e) _)⟩
 case rest=>
  obtain ⟨rfl,rfl,rfl,hB⟩:=hcut;have hsz:=hB.size (by simp)
  simp only [List.length_cons,List.length_nil] at hsz
  have hX:=hB.get 1 rfl;have x2:=hX.cell (j:=2) rfl;have Bg:=hX.frozen 2;have hhd:=he.hits.below hB.bw;have hh1:=fun W (hb:Below wc.heap.size wc W)=>gZ S e.A e.a e.x.hits (Sk.theirs s) W (hhd.below hb);have hh2:=fun W (hb:Below wc.heap.size wc W)=>gZ S e.A e.a e.x.hits Sk.aX W (hhd.below hb)
  have xX:∀ W:World,(fun w':World=>∀ p q,p<w.heap.size+2→w'.cell? ⟨p,q,none⟩=wc.cell? ⟨p,q,none⟩) W→W.rangeAt w.heap.size 0 (aQ s):=fun W h j v hj=>by rw [h _ _ (by omega)];exact (hB.aj rfl).range j v hj
  obtain ⟨y1,hy1⟩:∃ y,Sk.has e.x.hits (Sk.theirs s)=y:=⟨_,rfl⟩;obtain ⟨y2,hy2⟩:∃ y,Sk.has e.x.hits Sk.aX=y:=⟨_,rfl⟩
  simp only [hy1] at hh1
  simp only [hy2] at hh2
  have HH1:=hide hh1;have HH2:=hide hh2;have HY1:=hide hy1;have HY2:=hide hy2;clear hh1 hh2 hy1 hy2 hX
  go_upto_region 1 with (fail)
  cases y1
  · refine wp_region_held_drew (S:=(fun w':World=>∀ p q,p<w.heap.size+2→w'.cell? ⟨p,q,none⟩=wc.cell? ⟨p,q,none⟩)) (by kernel_rfl) ?bU (fun hHeld=>?_)
    case bU=>exact fun p q h=>rfl
    refine tk 0 ?_;refine tk 1 ?_;refine wpAnyH_take (i:=2) (oi:=_) (v:=_) (ga rfl) (by kernel_rfl) (by kernel_rfl) (by kernel_rfl) (fun _ _ _ h=>h) (yieldsIf_load_mid (by rfl) _ _ (by rfl) _ _ (by rfl) _ _ xX Tryz.underlying26 rfl (by kernel_rfl)) (by assumption) ?_
    try simp only [Act.put,la,lz,ls]
    refine tr 3 fun K hK=>?_;go_simp
    (go_at_call 234;refine (yF s ht _).mono ?_;rintro e1 w1 ⟨rfl,hb1⟩;have hb8:Below wc.heap.size wc w1:=⟨hb1.os,hb1.tape,hb1.output,hb1.size,hb1.block⟩)
    refine hK.out _ _ ?Gu (fun hHeld=>?_)
    case Gu=>(exact fun p q h=>hb8.cell (p:=⟨p,q,none⟩) (Nat.lt_of_lt_of_le h hsz))
    clear hK K
    try simp only [Act.put,la,lz,ls]
    refine tr 4 fun K hK=>?_;go_simp
    (go_at_call 59;refine (HH1.out _ hb8).mono ?_;rintro e1 w2 ⟨rfl,rfl⟩)
    refine hK.out _ _ ?vW (fun hHeld=>?_)
    case vW=>(exact fun p q h=>hb8.cell (p:=⟨p,q,none⟩) (Nat.lt_of_lt_of_le h hsz))
    clear hK K
    try simp only [Act.put,la,lz,ls]
    refine tk 5 ?_;refine tu 6 ?_;refine tu 7 ?_;refine tu 8 ?_;refine tk 9 ?_;refine tk 10 ?_;refine wpAnyH_done (by kernel_rfl) ?_ _;go_wp2;go_ret;exact ⟨aI (by have h1:=HY1.out;have h2:=HY2.out;simp [Sk.jf,h1,h2]),hB.bw.trans (hb8.mono hB.bw.size)⟩
  · refine wp_region_held_drew (S:=(fun w':World=>∀ p q,p<w.heap.size+2→w'.cell? ⟨p,q,none⟩=wc.cell? ⟨p,q,none⟩)) (by kernel_rfl) ?cu (fun hHeld=>?_)
    case cu=>exact fun p q h=>rfl
    refine tk 0 ?_;refine tk 1 ?_;refine wpAnyH_take (i:=2) (oi:=_) (v:=_) (ga rfl) (by kernel_rfl) (by kernel_rfl) (by kernel_rfl) (fun _ _ _ h=>h) (yieldsIf_load_mid (by rfl) _ _ (by rfl) _ _ (by rfl) _ _ xX Tryz.underlying26 rfl (by kernel_rfl)) (by assumption) ?_
    try simp only [Act.put,la,lz,ls]
    refine tr 3 fun K hK=>?_;go_simp
    (go_at_call 234;refine (yF s ht _).mono ?_;rintro e1 w1 ⟨rfl,hb1⟩;have hb8:Below wc.heap.size wc w1:=⟨hb1.os,hb1.tape,hb1.output,hb1.size,hb1.block⟩)
    refine hK.out _ _ ?Qr (fun hHeld=>?_)
    case Qr=>(exact fun p q h=>hb8.cell (p:=⟨p,q,none⟩) (Nat.lt_of_lt_of_le h hsz))
    clear hK K
    try simp only [Act.put,la,lz,ls]
    refine tr 4 fun K hK=>?_;go_simp
    (go_at_call 59;refine (HH1.out _ hb8).mono ?_;rintro e1 w2 ⟨rfl,rfl⟩)
    refine hK.out _ _ ?vX (fun hHeld=>?_)
    case vX=>(exact fun p q h=>hb8.cell (p:=⟨p,q,none⟩) (Nat.lt_of_lt_of_le h hsz))
    clear hK K
    try simp only [Act.put,la,lz,ls]
    refine tk 5 ?_;refine tk 6 ?_;refine tk 7 ?_;refine tr 8 fun K hK=>?_;go_simp
    (go_at_call 59;refine (HH2.out _ hb8).mono ?_;rintro e1 w2 ⟨rfl,rfl⟩)
    refine hK.out _ _ ?Qx (fun hHeld=>?_)
    case Qx=>(exact fun p q h=>hb8.cell (p:=⟨p,q,none⟩) (Nat.lt_of_lt_of_le h hsz))
    clear hK K
    try simp only [Act.put,la,lz,ls]
    refine tk 9 ?_;refine tk 10 ?_;refine wpAnyH_done (by kernel_rfl) ?_ _;go_wp2;go_ret;exact ⟨aI (by have h1:=HY1.out;have h2:=HY2.out;simp [Sk.jf,h1,h2]),hB.bw.trans (hb8.mono hB.bw.size)⟩
theorem zy (S:Nat→Prop) (s:Sk.State) (e:En) (w:World) (ht:s.turn=0∨s.turn=1) (he:je w S e):Calls Tryz.prog 120 #[lJ s,wC e] w fun e_ w'=>e_= .returned (Vy (Sk.iG s e.x))∧Below w.heap.size w w':=by
 go_enter Tryz.func120,Tryz.ntmps120
 go_upto_region 0 with (fail)
 go_cut [2,3,4] (fun v2 v3 v4 wx=>v2=ptr w.heap.size∧v3=ptr (w.heap.size+1)∧v4=ptr (w.heap.size+2)∧aC w wx [(aQ s,26),(fC e,41),(gB ⟨0,0,0,false⟩,88)])
 case first=>
  go_wp2;go_meet;exact ⟨rfl,rfl,rfl,((((aC.nil w).new (by simp) (aQ s) _).new (by simp) (fC e) _).new (by simp) (gB ⟨0,0,0,false⟩) _)⟩
 case rest=>
  obtain ⟨rfl,rfl,rfl,hB⟩:=hcut;have hbD:=hB.bw;have hb8:Below wc.heap.size wc wc:=Below.refl _ _;have hcn:=fun W (hb:Below wc.heap.size wc W)=>qH S s e W ht ((he.below hbD).below hb);obtain ⟨yc,wU⟩:∃ y,Sk.jf s e.x=y:=⟨_,rfl⟩
  simp only [wU] at hcn
  have Hf:=hide hcn;have NI:=hide wU;clear hcn wU
  cases yc
  · have HM:=hide (show Sk.iG s e.x=⟨0,0,0,false⟩ by unfold Sk.iG;rw [NI.out];simp)
    go_wp2_with (first | ((with_reducible refine dh 26 2 ?_);refine dO (hB.aj rfl) Tryz.underlying26 ak ?_) | ((with_reducible refine dh 41 3 ?_);refine dO (hB.get 1 rfl) Tryz.underlying41 bY ?_) | (go_at_call 190;refine (Hf.out _ hb8).mono ?_;rintro e1 w1 ⟨rfl,hb1⟩;have hb8:=hb8.trans (hb1.mono hb8.size);have hB:=hB.call (by simp) hb1;have hX:=hB.get 1 rfl;have x4:=hX.cell (j:=4) rfl;have xf4:=hX.frozen 4) | ((with_reducible refine isS 88 4 14 ?_);refine iZ (hB.get 2 rfl) (gB ⟨0,0,0,false⟩) dR (jM _) ?_))
    have hZ:=hB.put 2 rfl (gB ⟨0,0,0,false⟩) rfl;refine bodyPost_ret (aP (p:=4) (hZ.get 2 rfl) Tryz.underlying88 rfl dR rfl _ rfl) rfl ⟨?_,hZ.bw⟩;rw [HM.out];rfl
  · by_cases h3:3≤e.x.dM
    · have h31:decide (3≤e.x.dM)=true:=decide_eq_true h3
      have HM:=hide (show Sk.iG s e.x=⟨1,0,0,true⟩ by unfold Sk.iG;rw [NI.out];simp [h3]);clear h3
      go_wp2_with (first | ((with_reducible refine dh 26 2 ?_);refine dO (hB.aj rfl) Tryz.underlying26 ak ?_) | ((with_reducible refine dh 41 3 ?_);refine dO (hB.get 1 rfl) Tryz.underlying41 bY ?_) | (go_at_call 190;refine (Hf.out _ hb8).mono ?_;rintro e1 w1 ⟨rfl,hb1⟩;have hb8:=hb8.trans (hb1.mono hb8.size);have hB:=hB.call (by simp) hb1;have hX:=hB.get 1 rfl;have x4:=hX.cell (j:=4) rfl;have xf4:=hX.frozen 4) | ((with_reducible refine isS 88 4 13 ?_);refine iZ (hB.get 2 rfl) (gB ⟨1,0,0,true⟩) dR (jM _) ?_))
      have hZ:=hB.put 2 rfl (gB ⟨1,0,0,true⟩) rfl;refine bodyPost_ret (aP (p:=4) (hZ.get 2 rfl) Tryz.underlying88 rfl dR rfl _ rfl) rfl ⟨?_,hZ.bw⟩;rw [HM.out];rfl
    · have h31:decide (3≤e.x.dM)=false:=decide_eq_false h3
      have HM:=hide (show Sk.iG s e.x=⟨0,0,0,false⟩ by unfold Sk.iG;rw [NI.out];simp [h3]);clear h3
      go_wp2_with (first | ((with_reducible refine dh 26 2 ?_);refine dO (hB.aj rfl) Tryz.underlying26 ak ?_) | ((with_reducible refine dh 41 3 ?_);refine dO (hB.get 1 rfl) Tryz.underlying41 bY ?_) | (go_at_call 190;refine (Hf.out _ hb8).mono ?_;rintro e1 w1 ⟨rfl,hb1⟩;have hb8:=hb8.trans (hb1.mono hb8.size);have hB:=hB.call (by simp) hb1;have hX:=hB.get 1 rfl;have x4:=hX.cell (j:=4) rfl;have xf4:=hX.frozen 4) | ((with_reducible refine isS 88 4 14 ?_);refine iZ (hB.get 2 rfl) (gB ⟨0,0,0,false⟩) dR (jM _) ?_))
      have hZ:=hB.put 2 rfl (gB ⟨0,0,0,false⟩) rfl;refine bodyPost_ret (aP (p:=4) (hZ.get 2 rfl) Tryz.underlying88 rfl dR rfl _ rfl) rfl ⟨?_,hZ.bw⟩;rw [HM.out];rfl
def pq (s:Sk.State) (e:Sk.Entry):Bool:=decide (e.aV≠[]∧Sk.jf s e=false∧s.aJ=5)
theorem Ji (s:Sk.State) (e:Sk.Entry) {l:List ByteArray} {k:Nat} (hk:k<l.length) (m:Int):Sk.rD s e m (l.drop k)=Sk.rD s e (m+(if l[k]=Sk.aX∨(l[k]=Sk.own s∧e.hits.headD Sk.bQ=Sk.aX) then 3 else 2)) (l.drop (k+1)):=by
 rw [List.drop_eq_getElem_cons hk,Sk.rD]
theorem uh (S:Nat→Prop) (s:Sk.State) (e:En) (w:World) (ht:s.turn=0∨s.turn=1) (he:je w S e):Calls Tryz.prog 116 #[lJ s,wC e] w fun e_ w'=>e_= .returned (Vy (Sk.dZ s e.x))∧Below w.heap.size w w':=by
 obtain ⟨p1,p2,p3⟩:=he.hits.bd;obtain ⟨p4,p5,p6⟩:=he.aV.bd
 go_enter Tryz.func116,Tryz.ntmps116
 go_upto_region 0 with (fail)
 go_cut [2,3,4] (fun v2 v3 v4 wx=>v2=ptr w.heap.size∧v3=ptr (w.heap.size+1)∧v4=ptr (w.heap.size+2)∧aC w wx [(aQ s,26),(fC e,41),(gB ⟨0,0,0,false⟩,88)])
 case first=>
  go_wp2;go_meet;exact ⟨rfl,rfl,rfl,((((aC.nil w).new (by simp) (aQ s) _).new (by simp) (fC e) _).new (by simp) (gB ⟨0,0,0,false⟩) _)⟩
 case rest=>
  obtain ⟨rfl,rfl,rfl,hB⟩:=hcut;have hbD:=hB.bw;have hb8:Below wc.heap.size wc wc:=Below.refl _ _;have hcn:=fun W (hb:Below wc.heap.size wc W)=>qH S s e W ht ((he.below hbD).below hb);obtain ⟨yc,wU⟩:∃ y,Sk.jf s e.x=y:=⟨_,rfl⟩
  simp only [wU] at hcn
  have Hf:=hide hcn;have NI:=hide wU;clear hcn wU
  by_cases hn:e.x.hits=[]
  · have hn1:((e.x.hits.length:Int) == 0)=true:=by simp [hn]
    have HM:=hide (show Sk.dZ s e.x=⟨0,1,2,false⟩ by unfold Sk.dZ;rw [if_pos hn]);clear hn
    go_wp2_with (first | ((with_reducible refine dh 26 2 ?_);refine dO (hB.aj rfl) Tryz.underlying26 ak ?_) | ((with_reducible refine dh 41 3 ?_);refine dO (hB.get 1 rfl) Tryz.underlying41 bY ?_) | (go_at_call 190;refine (Hf.out _ hb8).mono ?_;rintro e1 w1 ⟨rfl,hb1⟩;have xU:=hb8.trans (hb1.mono hb8.size);have jP:=hB.call (by simp) hb1;have hX:=jP.get 1 rfl;have hS:=jP.aj rfl;have x2:=hX.cell (j:=2) rfl;have Bg:=hX.frozen 2;have x3:=hX.cell (j:=3) rfl;have zn:=hX.frozen 3;have s9:=hS.cell (j:=9) rfl;have Hr:=hS.frozen 9) | ((with_reducible refine isS 88 4 17 ?_);refine iZ (jP.get 2 rfl) (gB ⟨0,1,2,false⟩) dR (jM _) ?_))
    have hZ:=jP.put 2 rfl (gB ⟨0,1,2,false⟩) rfl;refine bodyPost_ret (aP (p:=4) (hZ.get 2 rfl) Tryz.underlying88 rfl dR rfl _ rfl) rfl ⟨?_,hZ.bw⟩;rw [HM.out];rfl
  · have hpos:0<e.x.hits.length:=List.length_pos_iff.2 hn
    have hn1:((e.x.hits.length:Int) == 0)=false:=by simp [hn]
    have HN:=hide hn;clear hn
    go_upto_region 4 with (first | ((with_reducible refine dh 26 2 ?_);refine dO (hB.aj rfl) Tryz.underlying26 ak ?_) | ((with_reducible refine dh 41 3 ?_);refine dO (hB.get 1 rfl) Tryz.underlying41 bY ?_) | (go_at_call 190;refine (Hf.out _ hb8).mono ?_;rintro e1 w1 ⟨rfl,hb1⟩;have xU:=hb8.trans (hb1.mono hb8.size);have jP:=hB.call (by simp) hb1;have hX:=jP.get 1 rfl;have hS:=jP.aj rfl;have x2:=hX.cell (j:=2) rfl;have Bg:=hX.frozen 2;have x3:=hX.cell (j:=3) rfl;have zn:=hX.frozen 3;have s9:=hS.cell (j:=9) rfl;have Hr:=hS.frozen 9))
    go_cut [18] (fun v wx=>v= .bool (pq s e.x)∧wx=w1)
    case first=>
     by_cases h1:0<e.x.aV.length
     · have TY:=(show decide (0<(e.x.aV.length:Int))=true by simpa using h1)
       have ahb:=(show decide (0<e.x.aV.length)=true by simpa using h1)
       cases yc
       · by_cases h2:s.aJ=5
         · have Ub:=(show (s.aJ == 5)=true by simp [h2])
           have arM:=(show (s.aJ != 5)=false by simp [h2]);have HH:=hide (And.intro h1 (And.intro h2 trivial));clear h1 h2;go_wp2;go_meet;exact ⟨dK (by have h9:=NI.out;obtain ⟨h1,h2,_⟩:=HH.out;have hne:=@List.length_pos_iff _ e.x.aV;simp_all [pq]),rfl⟩
         · have Ua:=(show (s.aJ == 5)=false by simp [h2])
           have arF:=(show (s.aJ != 5)=true by simp [h2]);have HH:=hide (And.intro h1 (And.intro h2 trivial));clear h1 h2;go_wp2;go_meet;exact ⟨dK (by have h9:=NI.out;obtain ⟨h1,h2,_⟩:=HH.out;have hne:=@List.length_pos_iff _ e.x.aV;simp_all [pq]),rfl⟩
       · have HH:=hide (And.intro h1 trivial)
         clear h1;go_wp2;go_meet;exact ⟨dK (by have h9:=NI.out;obtain ⟨h1,_⟩:=HH.out;have hne:=@List.length_pos_iff _ e.x.aV;simp_all [pq]),rfl⟩
     · have TW:=(show decide (0<(e.x.aV.length:Int))=false by simpa using h1)
       have ag4:=(show decide (0<e.x.aV.length)=false by simpa using h1);have HH:=hide (And.intro h1 trivial);clear h1;go_wp2;go_meet;exact ⟨dK (by have h9:=NI.out;obtain ⟨h1,_⟩:=HH.out;have hne:=@List.length_pos_iff _ e.x.aV;simp_all [pq]),rfl⟩
    case rest=>
     obtain ⟨rfl,rfl⟩:=hcut;obtain ⟨yst,XF⟩:∃ y,pq s e.x=y:=⟨_,rfl⟩;have Y4:=hide XF;rw [XF];clear XF
     cases yst with
     | true=>
       have HM:=hide (show Sk.dZ s e.x=⟨0,5,2,false⟩ by unfold Sk.dZ;rw [if_neg HN.out,if_pos (by have h:=Y4.out;unfold pq at h;simpa using h)])
       go_wp2_with (first | ((with_reducible refine isS 88 4 32 ?_);refine iZ (jP.get 2 rfl) (gB ⟨0,5,2,false⟩) dR (jM _) ?_))
       have hZ:=jP.put 2 rfl (gB ⟨0,5,2,false⟩) rfl;refine bodyPost_ret (aP (p:=4) (hZ.get 2 rfl) Tryz.underlying88 rfl dR rfl _ rfl) rfl ⟨?_,hZ.bw⟩;rw [HM.out];rfl
     | false=>
       go_upto_if 33 with (fail)
       go_cut [6] (fun v wx=>v= .int .i64 (if yc=true then 2 else 0)∧wx=wc)
       case first=>
        cases yc
        all_goals
         go_wp2;go_meet;exact ⟨rfl,rfl⟩
       case rest=>
        obtain ⟨rfl,rfl⟩:=hcut;have O1:=(he.aV.below hbD).below xU;obtain ⟨PB,WX⟩:∃ A,e.B=A:=⟨_,rfl⟩;rw [WX] at x3 O1;have HPB:=hide WX;clear WX;obtain ⟨b0,o0,hA0,_,Us,hcc⟩:=((he.hits.below hbD).below xU).at_ 0 hpos;have h00:=hcc 0 hpos;rw [Nat.add_zero] at h00;have hhd:=FH hpos;obtain ⟨h0,hh0⟩:∃ h,e.x.hits[0]=h:=⟨_,rfl⟩;rw [hh0] at h00 hhd;have HA0:=hide hA0;have HBL:=hide Us;have VH:=hide h00;have WC:=hide hhd;clear hA0 Us h00 hhd hh0 hcc;obtain ⟨m0,hm0⟩:∃ m:Int,(if yc=true then 2 else 0)=m:=⟨_,rfl⟩;have HM0:=hide hm0
        have hm2:0≤m0∧m0≤2:=by rw [← hm0];split <;> omega
        rw [hm0];clear hm0;go_wp2
        go_loopw [6,8,39] (fun v6 _ i wr=>∃ (k:Nat) (m:Int),k≤e.x.aV.length∧i= .int .i64 k∧v6= .int .i64 m∧Aside (Sk.fP s e.x=Sk.rD s e.x m (e.x.aV.drop k))∧0≤m∧m≤2+3*k∧aC w wr [(aQ s,26),(fC e,41),(gB ⟨0,0,0,false⟩,88)]∧Below wc.heap.size wc wr) (fun _ _ i _=>e.x.aV.length - (intOf i).toNat)
        case atStart=>exact ⟨0,m0,Nat.zero_le _,rfl,rfl,by show _=_;unfold Sk.fP;rw [NI.out,show (if yc=true then (2:Int) else 0)=m0 from HM0.out];rfl,by omega,by omega,jP,Below.refl _ _⟩
        case round=>
         obtain ⟨k,m,hk,rfl,rfl,hx,hm0,hm1,hBr,hbr⟩:=hrel;have hXr:=hBr.get 1 rfl
         by_cases hlt:k<e.x.aV.length
         · have hst:=Ji s e.x hlt m
           obtain ⟨bp,op,rfl,_,hbp,hcp⟩:=O1.at_ k hlt;have hck:wr.cell? ⟨bp,op+k,none⟩=some (.string e.x.aV[k]):=(hbr.cell (p:=⟨bp,op+k,none⟩) hbp).trans (hcp k hlt);obtain ⟨b,hb⟩:∃ b,e.x.aV[k]=b:=⟨_,rfl⟩;rw [hb] at hck hst;have HST:=hide hst;have HX:=hide hx.out;clear hst hb hcp hx
           by_cases h3:b=Sk.aX
           · have OA:=wt h3
             have HH:=hide (And.intro h3 trivial);clear h3
             go_wp2_with (first | ((with_reducible refine dh 26 2 ?_);refine dO (hBr.aj rfl) Tryz.underlying26 ak ?_) | ((with_reducible refine iV 26 2 ?_);refine nO (hBr.aj rfl) Tryz.underlying26 ak ?_) | (go_at_call 189;refine (qw s ht _).mono ?_;rintro e1 w5 ⟨rfl,hb5⟩;have hBr:=hBr.call (by simp) hb5;have hbr:=hbr.trans (hb5.mono hbr.size);have hX:=hBr.get 1 rfl;have Bg:=hX.frozen 2;have x2:w5.cell? ⟨w.heap.size+1,2,none⟩=some (.slice (some ⟨b0,o0,none⟩) e.x.hits.length e.a):=(hX.cell (j:=2) rfl).trans (by rw [HA0.out]);have h05:w5.cell? ⟨b0,o0,none⟩=some (.string h0):=(hbr.cell (p:=⟨b0,o0,none⟩) HBL.out).trans VH.out))
             go_roundw
             case rel=>exact ⟨k+1,m+3,by omega,by go_num,by go_num,by obtain ⟨h3,_⟩:=HH.out;have hst5:=HST.out;show _=_;rw [HX.out,hst5,WC.out,if_pos (.inl h3)],by omega,by omega,hBr,hbr⟩
             case measure=>simp [intOf];omega
           · have Oz:=wf h3
             by_cases h4:b=Sk.own s
             · have OC:=mD h4
               have ahp:=mD h4.symm
               by_cases h5:h0=Sk.aX
               · have Ud:=wt h5
                 have HH:=hide (And.intro h3 (And.intro h4 (And.intro h5 trivial)));clear h3 h4 h5
                 go_wp2_with (first | ((with_reducible refine dh 26 2 ?_);refine dO (hBr.aj rfl) Tryz.underlying26 ak ?_) | ((with_reducible refine iV 26 2 ?_);refine nO (hBr.aj rfl) Tryz.underlying26 ak ?_) | (go_at_call 189;refine (qw s ht _).mono ?_;rintro e1 w5 ⟨rfl,hb5⟩;have hBr:=hBr.call (by simp) hb5;have hbr:=hbr.trans (hb5.mono hbr.size);have hX:=hBr.get 1 rfl;have Bg:=hX.frozen 2;have x2:w5.cell? ⟨w.heap.size+1,2,none⟩=some (.slice (some ⟨b0,o0,none⟩) e.x.hits.length e.a):=(hX.cell (j:=2) rfl).trans (by rw [HA0.out]);have h05:w5.cell? ⟨b0,o0,none⟩=some (.string h0):=(hbr.cell (p:=⟨b0,o0,none⟩) HBL.out).trans VH.out))
                 go_roundw
                 case rel=>exact ⟨k+1,m+3,by omega,by go_num,by go_num,by obtain ⟨h3,h4,h5,_⟩:=HH.out;have hst5:=HST.out;show _=_;rw [HX.out,hst5,WC.out,if_pos (.inr ⟨h4,h5⟩)],by omega,by omega,hBr,hbr⟩
                 case measure=>simp [intOf];omega
               · have Uc:=wf h5
                 have HH:=hide (And.intro h3 (And.intro h4 (And.intro h5 trivial)));clear h3 h4 h5
                 go_wp2_with (first | ((with_reducible refine dh 26 2 ?_);refine dO (hBr.aj rfl) Tryz.underlying26 ak ?_) | ((with_reducible refine iV 26 2 ?_);refine nO (hBr.aj rfl) Tryz.underlying26 ak ?_) | (go_at_call 189;refine (qw s ht _).mono ?_;rintro e1 w5 ⟨rfl,hb5⟩;have hBr:=hBr.call (by simp) hb5;have hbr:=hbr.trans (hb5.mono hbr.size);have hX:=hBr.get 1 rfl;have Bg:=hX.frozen 2;have x2:w5.cell? ⟨w.heap.size+1,2,none⟩=some (.slice (some ⟨b0,o0,none⟩) e.x.hits.length e.a):=(hX.cell (j:=2) rfl).trans (by rw [HA0.out]);have h05:w5.cell? ⟨b0,o0,none⟩=some (.string h0):=(hbr.cell (p:=⟨b0,o0,none⟩) HBL.out).trans VH.out))
                 go_roundw
                 case rel=>exact ⟨k+1,m+2,by omega,by go_num,by go_num,by obtain ⟨h3,h4,h5,_⟩:=HH.out;have hst5:=HST.out;show _=_;rw [HX.out,hst5,WC.out,if_neg (by rintro (h | ⟨_,h⟩);exact h3 h;exact h5 h)],by omega,by omega,hBr,hbr⟩
                 case measure=>simp [intOf];omega
             · have OB:=mg h4
               have ahi:=mg (fun e=>h4 e.symm);have HH:=hide (And.intro h3 (And.intro h4 trivial));clear h3 h4
               go_wp2_with (first | ((with_reducible refine dh 26 2 ?_);refine dO (hBr.aj rfl) Tryz.underlying26 ak ?_) | ((with_reducible refine iV 26 2 ?_);refine nO (hBr.aj rfl) Tryz.underlying26 ak ?_) | (go_at_call 189;refine (qw s ht _).mono ?_;rintro e1 w5 ⟨rfl,hb5⟩;have hBr:=hBr.call (by simp) hb5;have hbr:=hbr.trans (hb5.mono hbr.size);have hX:=hBr.get 1 rfl;have Bg:=hX.frozen 2;have x2:w5.cell? ⟨w.heap.size+1,2,none⟩=some (.slice (some ⟨b0,o0,none⟩) e.x.hits.length e.a):=(hX.cell (j:=2) rfl).trans (by rw [HA0.out]);have h05:w5.cell? ⟨b0,o0,none⟩=some (.string h0):=(hbr.cell (p:=⟨b0,o0,none⟩) HBL.out).trans VH.out))
               go_roundw
               case rel=>exact ⟨k+1,m+2,by omega,by go_num,by go_num,by obtain ⟨h3,h4,_⟩:=HH.out;have hst5:=HST.out;show _=_;rw [HX.out,hst5,WC.out,if_neg (by rintro (h | ⟨h,_⟩);exact h3 h;exact h4 h)],by omega,by omega,hBr,hbr⟩
               case measure=>simp [intOf];omega
         · have hz:=hx.out
           rw [List.drop_of_length_le (by omega),Sk.rD] at hz;have HZ:=hide hz;have HM:=hide (show Sk.dZ s e.x=⟨m,0,0,decide (0<m)⟩ by unfold Sk.dZ;rw [if_neg HN.out,if_neg (by have h:=Y4.out;unfold pq at h;simpa using h),hz]);clear hz hx
           go_wp2_with (first | ((with_reducible refine isS 88 4 66 ?_);refine iZ (hBr.get 2 rfl) (gB ⟨m,0,0,decide (0<m)⟩) dR (jM _) ?_))
           all_goals
            have hZ:=hBr.put 2 rfl (gB ⟨m,0,0,decide (0<m)⟩) rfl;refine bodyPost_ret (aP (p:=4) (hZ.get 2 rfl) Tryz.underlying88 rfl dR rfl _ rfl) rfl ⟨?_,hZ.bw⟩;rw [HM.out];rfl
theorem LG (s:Sk.State) (e:Sk.Entry) {l:List ByteArray} {k:Nat} (hk:k<l.length) (m:Int):Sk.most s e m (l.drop k)=Sk.most s e (if Sk.wanted s e l[k] then m else max m (Sk.value l[k])) (l.drop (k+1)):=by
 rw [List.drop_eq_getElem_cons hk,Sk.most]
theorem Ci (l:List ByteArray) (x:ByteArray):0≤Sk.count l x∧Sk.count l x≤l.length:=by
 have h:=Cm l x l.length
 rwa [List.take_length] at h
theorem Oo {s:Sk.State} {e:Sk.Entry} (h:Sk.dw s e=2):e.hits≠[]:=by
 intro h0
 unfold Sk.dw at h
 rw [if_pos h0] at h
 cases h
theorem xC (S:Nat→Prop) (s:Sk.State) (e:En) (w:World) (hc:0≤s.colour∧s.colour≤7) (he:je w S e):Calls Tryz.prog 111 #[lJ s,wC e] w fun e_ w'=>e_= .returned (Vy (Sk.dQ s e.x))∧Below w.heap.size w w':=by
 obtain ⟨p1,p2,p3⟩:=he.hits.bd;obtain ⟨p4,p5,p6⟩:=he.aV.bd
 go_enter Tryz.func111,Tryz.ntmps111
 go_upto_region 0 with (fail)
 go_cut [2,3,4] (fun v2 v3 v4 wx=>v2=ptr w.heap.size∧v3=ptr (w.heap.size+1)∧v4=ptr (w.heap.size+2)∧aC w wx [(aQ s,26),(fC e,41),(gB ⟨0,0,0,false⟩,88)])
 case first=>
  go_wp2;go_meet;exact ⟨rfl,rfl,rfl,((((aC.nil w).new (by simp) (aQ s) _).new (by simp) (fC e) _).new (by simp) (gB ⟨0,0,0,false⟩) _)⟩
 case rest=>
  obtain ⟨rfl,rfl,rfl,hB⟩:=hcut;have hfo:=fun W (hb:Below w.heap.size w W)=>Jy S s e W hc (he.below hb);obtain ⟨f,hf⟩:∃ y,Sk.dw s e.x=y:=⟨_,rfl⟩
  simp only [hf] at hfo
  have Hg:=hide hfo;have HF:=hide hf;clear hfo
  by_cases hpf:0<f
  · have OZ:decide (0<f)=true:=decide_eq_true hpf
    have HPF:=hide hpf;clear hpf
    go_upto_region 3 with (first | ((with_reducible refine dh 26 2 ?_);refine dO (hB.aj rfl) Tryz.underlying26 ak ?_) | ((with_reducible refine dh 41 3 ?_);refine dO (hB.get 1 rfl) Tryz.underlying41 bY ?_) | (go_at_call 183;refine (Hg.out _ hB.bw).mono ?_;rintro e1 w1 ⟨rfl,hb1⟩;have hB:=hB.call (by simp) hb1))
    go_cut [6] (fun v wx=>v= .int .i64 (max 4 (Sk.worth s e.x))∧aC w wx [(aQ s,26),(fC e,41),(gB ⟨0,0,0,false⟩,88)])
    case first=>
     go_wp2_with (first | ((with_reducible refine dh 26 2 ?_);refine dO (hB.aj rfl) Tryz.underlying26 ak ?_) | ((with_reducible refine dh 41 3 ?_);refine dO (hB.get 1 rfl) Tryz.underlying41 bY ?_) | (go_at_call 184;refine (xK s e _).mono ?_;rintro e1 w1 ⟨rfl,hb1⟩;have hB:=hB.call (by simp) hb1))
     all_goals
      go_meet;exact ⟨congrArg (Value.int .i64) (by omega),hB⟩
    case rest=>
     obtain ⟨rfl,hB1⟩:=hcut;obtain ⟨m0,hm0⟩:∃ m,(if f=2 then max (max 4 (Sk.worth s e.x)) (Sk.value (e.x.hits.headD Sk.bQ)) else max 4 (Sk.worth s e.x))=m:=⟨_,rfl⟩;obtain ⟨mw,hmw⟩:∃ m,max 4 (Sk.worth s e.x)=m:=⟨_,rfl⟩;rw [hmw] at hm0 ⊢;have HMW:=hide hmw;have hB:=hB1;clear hmw hB1
     rcases Bool.eq_false_or_eq_true (f == 2) with h2 | h2
     all_goals
      go_upto_if 21 with (fail)
      go_cut [6] (fun v wx=>v= .int .i64 m0∧aC w wx [(aQ s,26),(fC e,41),(gB ⟨0,0,0,false⟩,88)])
      case rest=>
       obtain ⟨rfl,hB1⟩:=hcut;have HM0:=hide hm0;have hB:=hB1;clear hB1 hm0 h2;have hX:=hB.get 1 rfl;have x3:=hX.cell (j:=3) rfl;have zn:=hX.frozen 3;have O1:=he.aV;obtain ⟨PB,WX⟩:∃ A,e.B=A:=⟨_,rfl⟩;rw [WX] at x3 O1;have HPB:=hide WX;clear WX;go_wp2
       go_loopw [6,8,32] (fun v6 _ i wr=>∃ (k:Nat) (m:Int),k≤e.x.aV.length∧i= .int .i64 k∧v6= .int .i64 m∧Aside (Sk.most s e.x m0 e.x.aV=Sk.most s e.x m (e.x.aV.drop k))∧aC w wr [(aQ s,26),(fC e,41),(gB ⟨0,0,0,false⟩,88)]) (fun _ _ i _=>e.x.aV.length - (intOf i).toNat)
       case atStart=>exact ⟨0,m0,Nat.zero_le _,rfl,rfl,(show _=_ from rfl),hB⟩
       case round=>
        obtain ⟨k,m,hk,rfl,rfl,hx,hBr⟩:=hrel
        by_cases hlt:k<e.x.aV.length
        · have hst:=LG s e.x hlt m
          obtain ⟨bp,op,rfl,_,hbp,hcp⟩:=O1.at_ k hlt;have hck:wr.cell? ⟨bp,op+k,none⟩=some (.string e.x.aV[k]):=(hBr.bw.cell (p:=⟨bp,op+k,none⟩) hbp).trans (hcp k hlt);obtain ⟨b,hb⟩:∃ b,e.x.aV[k]=b:=⟨_,rfl⟩;rw [hb] at hck hst;have hwa:=fun W=>A8 s e b hc W;obtain ⟨yw,UJ⟩:∃ y,Sk.wanted s e.x b=y:=⟨_,rfl⟩
          simp only [UJ] at hwa
          rw [UJ] at hst;have HWA:=hide hwa;have HX:=hide hx.out;clear hb hcp hx hwa UJ
          cases yw with
          | true=>
            have HST:=hide hst;clear hst
            go_wp2_with (first | ((with_reducible refine dh 26 2 ?_);refine dO (hBr.aj rfl) Tryz.underlying26 ak ?_) | ((with_reducible refine dh 41 3 ?_);refine dO (hBr.get 1 rfl) Tryz.underlying41 bY ?_) | (go_at_call 185;refine (HWA.out _).mono ?_;rintro e1 w5 ⟨rfl,hb5⟩;have hBr:=hBr.call (by simp) hb5))
            go_roundw
            case rel=>exact ⟨k+1,m,by omega,by go_num,rfl,(show _=_ from by rw [HX.out,HST.out];rfl),hBr⟩
            case measure=>simp [intOf];omega
          | false=>
            have HST:=hide hst;clear hst
            go_wp2_with (first | ((with_reducible refine dh 26 2 ?_);refine dO (hBr.aj rfl) Tryz.underlying26 ak ?_) | ((with_reducible refine dh 41 3 ?_);refine dO (hBr.get 1 rfl) Tryz.underlying41 bY ?_) | (go_at_call 185;refine (HWA.out _).mono ?_;rintro e1 w5 ⟨rfl,hb5⟩;have hBr:=hBr.call (by simp) hb5) | (go_at_call 137;refine (dS _ _).mono ?_;rintro e1 w6 ⟨rfl,hb6⟩;have hBr:=hBr.call (by simp) hb6))
            all_goals
             go_roundw
             case rel=>exact ⟨k+1,_,by omega,by go_num,rfl,(show _=_ from by rw [HX.out,HST.out];exact congrArg (fun z=>Sk.most s e.x z _) (by rw [if_neg (by decide)];omega)),hBr⟩
             case measure=>simp [intOf];omega
        · have hz:=hx.out
          rw [List.drop_of_length_le (by omega),Sk.most] at hz;have HM:=hide (show Sk.dQ s e.x=⟨0,f,m,false⟩ by unfold Sk.dQ;rw [HF.out,if_pos HPF.out,HMW.out,HM0.out,hz]);clear hz hx
          go_wp2_with (first | ((with_reducible refine isS 88 4 48 ?_);refine iZ (hBr.get 2 rfl) (gB ⟨0,f,m,false⟩) dR (jM _) ?_))
          have hZ:=hBr.put 2 rfl (gB ⟨0,f,m,false⟩) rfl;refine bodyPost_ret (aP (p:=4) (hZ.get 2 rfl) Tryz.underlying88 rfl dR rfl _ rfl) rfl ⟨?_,hZ.bw⟩;rw [HM.out];rfl
     · case first=>
        have h22:f=2:=by simpa using h2
        have hne:e.x.hits≠[]:=Oo (HF.out.trans h22);have hpos:0<e.x.hits.length:=List.length_pos_iff.2 hne;obtain ⟨b0,o0,hA0,_,Us,hcc⟩:=he.hits.at_ 0 hpos;have Zv:=hcc 0 hpos;rw [Nat.add_zero] at Zv;have h00:=(hB.bw.cell (p:=⟨b0,o0,none⟩) Us).trans Zv;have hhd:=FH hpos;obtain ⟨h0,hh0⟩:∃ h,e.x.hits[0]=h:=⟨_,rfl⟩;rw [hh0] at h00 hhd;rw [hhd,if_pos h22] at hm0;have hX:=hB.get 1 rfl;have x2:wc.cell? ⟨w.heap.size+1,2,none⟩=some (.slice (some ⟨b0,o0,none⟩) e.x.hits.length e.a):=(hX.cell (j:=2) rfl).trans (by rw [hA0]);have Bg:=hX.frozen 2;have HM:=hide hm0;clear hm0 hA0 hcc hhd hh0 hne h22 h2
        go_wp2_with (first | (go_at_call 137;refine (dS _ _).mono ?_;rintro e1 w5 ⟨rfl,hb5⟩;have hB:=hB.call (by simp) hb5))
        all_goals
         go_meet;exact ⟨congrArg (Value.int .i64) (by have:=HM.out;omega),hB⟩
     · case first=>
        have h22:¬ f=2:=by simpa using h2
        rw [if_neg h22] at hm0;have HM:=hide hm0;clear hm0 h22;go_wp2;go_meet;exact ⟨congrArg (Value.int .i64) HM.out,hB⟩
  · have OZ:decide (0<f)=false:=decide_eq_false hpf
    have HJ:=hide (show Sk.dQ s e.x=⟨Sk.aF s e.x,0,0,decide (0<Sk.aF s e.x)⟩ by unfold Sk.dQ;rw [HF.out,if_neg hpf]);clear hpf
    go_upto_region 14 with (first | ((with_reducible refine dh 26 2 ?_);refine dO (hB.aj rfl) Tryz.underlying26 ak ?_) | ((with_reducible refine dh 41 3 ?_);refine dO (hB.get 1 rfl) Tryz.underlying41 bY ?_) | (go_at_call 183;refine (Hg.out _ hB.bw).mono ?_;rintro e1 w1 ⟨rfl,hb1⟩;have hB:=hB.call (by simp) hb1))
    go_cut [10] (fun v wx=>v= .bool (Sk.called e.x)∧aC w wx [(aQ s,26),(fC e,41),(gB ⟨0,0,0,false⟩,88)])
    case first=>
     have hhc:=fun W (hb:Below w.heap.size w W)=>gZ S e.B e.b e.x.aV e.x.called W (he.aV.below hb);obtain ⟨yc,wU⟩:∃ y,Sk.has e.x.aV e.x.called=y:=⟨_,rfl⟩
     simp only [wU] at hhc
     have HHC:=hide hhc;have NI:=hide wU;clear hhc wU;have hX:=hB.get 1 rfl;have x1:=hX.cell (j:=1) rfl;have xf1:=hX.frozen 1;have x3:=hX.cell (j:=3) rfl;have zn:=hX.frozen 3
     by_cases hcl:e.x.called=Sk.bQ
     · have hc1:=wt hcl
       have hc2:=wtE hcl;have HH:=hide hcl;clear hcl;go_wp2;go_meet;exact ⟨dK (by unfold Sk.called;simp [HH.out]),hB⟩
     · have hc1:=wf hcl
       have hc2:=wfE hcl;have HH:=hide hcl;clear hcl
       go_wp2_with (first | (go_at_call 59;refine (HHC.out _ hB.bw).mono ?_;rintro e1 w9 ⟨rfl,rfl⟩))
       go_meet;exact ⟨dK (by unfold Sk.called;rw [NI.out];simp [HH.out]),hB⟩
    case rest=>
     obtain ⟨rfl,hB1⟩:=hcut;have hB:=hB1;clear hB1;obtain ⟨yk,hyk⟩:∃ y,Sk.called e.x=y:=⟨_,rfl⟩;have YG:=hide hyk;rw [hyk];clear hyk;have hS:=hB.aj rfl;have hX:=hB.get 1 rfl;have x3:=hX.cell (j:=3) rfl;have zn:=hX.frozen 3;have s4:=hS.cell (j:=4) rfl;have sf4:=hS.frozen 4;have hcb:=Ci e.x.aV Sk.aX
     by_cases uz:s.phase=Sk.gu
     · have hp1:=wt uz
       cases yk
       · have HM:=hide (show Sk.dQ s e.x=⟨Sk.count e.x.aV Sk.aX,0,0,decide (0<Sk.count e.x.aV Sk.aX)⟩ by rw [HJ.out,show Sk.aF s e.x=Sk.count e.x.aV Sk.aX by unfold Sk.aF;rw [if_pos uz,YG.out];simp])
         clear uz
         go_wp2_with (first | ((with_reducible refine dh 26 2 ?_);refine dO (hB.aj rfl) Tryz.underlying26 ak ?_) | ((with_reducible refine dh 41 3 ?_);refine dO (hB.get 1 rfl) Tryz.underlying41 bY ?_) | (go_at_call 180;refine (iM S e.B e.b e.x.aV Sk.aX _ (he.aV.below hB.bw)).mono ?_;rintro e1 w9 ⟨rfl,rfl⟩) | ((with_reducible refine isS 88 4 91 ?_);refine iZ (hB.get 2 rfl) (gB ⟨Sk.count e.x.aV Sk.aX,0,0,decide (0<Sk.count e.x.aV Sk.aX)⟩) dR (jM _) ?_))
         have hZ:=hB.put 2 rfl (gB ⟨Sk.count e.x.aV Sk.aX,0,0,decide (0<Sk.count e.x.aV Sk.aX)⟩) rfl;refine bodyPost_ret (aP (p:=4) (hZ.get 2 rfl) Tryz.underlying88 rfl dR rfl _ rfl) rfl ⟨?_,hZ.bw⟩;rw [HM.out];rfl
       · have HM:=hide (show Sk.dQ s e.x=⟨(Sk.count e.x.aV Sk.aX+1),0,0,decide (0<(Sk.count e.x.aV Sk.aX+1))⟩ by rw [HJ.out,show Sk.aF s e.x=(Sk.count e.x.aV Sk.aX+1) by unfold Sk.aF;rw [if_pos uz,YG.out];simp])
         clear uz
         go_wp2_with (first | ((with_reducible refine dh 26 2 ?_);refine dO (hB.aj rfl) Tryz.underlying26 ak ?_) | ((with_reducible refine dh 41 3 ?_);refine dO (hB.get 1 rfl) Tryz.underlying41 bY ?_) | (go_at_call 180;refine (iM S e.B e.b e.x.aV Sk.aX _ (he.aV.below hB.bw)).mono ?_;rintro e1 w9 ⟨rfl,rfl⟩) | ((with_reducible refine isS 88 4 91 ?_);refine iZ (hB.get 2 rfl) (gB ⟨(Sk.count e.x.aV Sk.aX+1),0,0,decide (0<(Sk.count e.x.aV Sk.aX+1))⟩) dR (jM _) ?_))
         have hZ:=hB.put 2 rfl (gB ⟨(Sk.count e.x.aV Sk.aX+1),0,0,decide (0<(Sk.count e.x.aV Sk.aX+1))⟩) rfl;refine bodyPost_ret (aP (p:=4) (hZ.get 2 rfl) Tryz.underlying88 rfl dR rfl _ rfl) rfl ⟨?_,hZ.bw⟩;rw [HM.out];rfl
     · have hp1:=wf uz
       have hsz:=hB.size (by simp)
       simp only [List.length_cons,List.length_nil] at hsz
       cases yk
       · have hho:=fun W (hb:Below w.heap.size w W)=>gZ S e.B e.b e.x.aV ((Sk.on s)[0]'(kM s)) W (he.aV.below hb)
         have hhd:=KD s;obtain ⟨yh,V5⟩:∃ y,Sk.has e.x.aV ((Sk.on s)[0]'(kM s))=y:=⟨_,rfl⟩
         simp only [V5] at hho
         rw [← hhd] at V5;have HHO:=hide hho;have WG:=hide V5
         have xX:∀ W:World,(fun w':World=>∀ p q,p<w.heap.size+3→w'.cell? ⟨p,q,none⟩=wc.cell? ⟨p,q,none⟩) W→W.rangeAt w.heap.size 0 (aQ s):=fun W h j v hj=>by rw [h _ _ (by omega)];exact (hB.aj rfl).range j v hj
         clear hho V5 hhd
         cases yh
         · have HM:=hide (show Sk.dQ s e.x=⟨0,0,0,false⟩ by rw [HJ.out,show Sk.aF s e.x=0 by unfold Sk.aF;rw [if_neg uz,YG.out,WG.out];simp];rfl)
           clear uz
           go_upto_region 19 with (fail)
           refine wp_region_held_drew (S:=(fun w':World=>∀ p q,p<w.heap.size+3→w'.cell? ⟨p,q,none⟩=wc.cell? ⟨p,q,none⟩)) (by kernel_rfl) ?dF (fun hHeld=>?_)
           case dF=>exact fun p q h=>rfl
           refine aA 0 ?_;refine aA 1 ?_;refine aA 2 ?_;refine aA 3 ?_;refine bP 4 xX Tryz.underlying26 ?_;refine aB 5 fun K hK=>?_;go_simp
           (go_at_call 186;refine (kS s hc _).mono ?_;rintro e1 w1 ⟨A1,c1,rfl,hr1,hb1⟩;have hB:=hB.drew.call (by simp) hb1;obtain ⟨b1,o1,rfl,_,_,hc1⟩:=hr1.at_ 0 (kM s);have hon:=hc1 0 (kM s);have Xt:=kM s;rw [Nat.add_zero] at hon;have hb8:Below wc.heap.size wc w1:=⟨hb1.os,hb1.tape,hb1.output,hb1.size,hb1.block⟩)
           refine au hK (fun p q h=>hb8.cell (p:=⟨p,q,none⟩) (Nat.lt_of_lt_of_le h hsz)) fun hHeld=>?_;clear hK K;refine aA 6 ?_;refine aB 7 fun K hK=>?_;go_simp;refine au hK (by first | exact fun p q h=>hb8.cell (p:=⟨p,q,none⟩) (Nat.lt_of_lt_of_le h hsz) | exact fun p q h=>rfl) fun hHeld=>?_;clear hK K;refine aB 8 fun K hK=>?_;go_simp
           (go_at_call 59;refine (HHO.out _ hB.bw).mono ?_;rintro e1 w9 ⟨rfl,rfl⟩)
           refine au hK (fun p q h=>hb8.cell (p:=⟨p,q,none⟩) (Nat.lt_of_lt_of_le h hsz)) fun hHeld=>?_;clear hK K;refine aA 9 ?_;refine iE 10 ?_;refine iE 11 ?_;refine iE 12 ?_;refine aA 13 ?_;refine aA 14 ?_;refine aA 15 ?_;refine wpAnyH_done (by kernel_rfl) ?_ _
           go_wp2_with (first | ((with_reducible refine isS 88 4 91 ?_);refine iZ (hB.get 2 rfl) (gB ⟨0,0,0,false⟩) dR (jM _) ?_))
           have hZ:=hB.put 2 rfl (gB ⟨0,0,0,false⟩) rfl;refine bodyPost_ret (aP (p:=4) (hZ.get 2 rfl) Tryz.underlying88 rfl dR rfl _ rfl) rfl ⟨?_,hZ.bw⟩;rw [HM.out];rfl
         · by_cases hfi:s.phase=Sk.bJ
           · have ajo:=wt hfi
             have HM:=hide (show Sk.dQ s e.x=⟨(Sk.worth s e.x),0,0,decide (0<(Sk.worth s e.x))⟩ by rw [HJ.out,show Sk.aF s e.x=(Sk.worth s e.x) by unfold Sk.aF;rw [if_neg uz,YG.out,WG.out,if_pos (.inr ⟨rfl,hfi⟩)]]);clear uz hfi
             go_upto_region 19 with (fail)
             refine wp_region_held_drew (S:=(fun w':World=>∀ p q,p<w.heap.size+3→w'.cell? ⟨p,q,none⟩=wc.cell? ⟨p,q,none⟩)) (by kernel_rfl) ?iK (fun hHeld=>?_)
             case iK=>exact fun p q h=>rfl
             refine aA 0 ?_;refine aA 1 ?_;refine aA 2 ?_;refine aA 3 ?_;refine bP 4 xX Tryz.underlying26 ?_;refine aB 5 fun K hK=>?_;go_simp
             (go_at_call 186;refine (kS s hc _).mono ?_;rintro e1 w1 ⟨A1,c1,rfl,hr1,hb1⟩;have hB:=hB.drew.call (by simp) hb1;obtain ⟨b1,o1,rfl,_,_,hc1⟩:=hr1.at_ 0 (kM s);have hon:=hc1 0 (kM s);have Xt:=kM s;rw [Nat.add_zero] at hon;have hb8:Below wc.heap.size wc w1:=⟨hb1.os,hb1.tape,hb1.output,hb1.size,hb1.block⟩)
             refine au hK (fun p q h=>hb8.cell (p:=⟨p,q,none⟩) (Nat.lt_of_lt_of_le h hsz)) fun hHeld=>?_;clear hK K;refine aA 6 ?_;refine aB 7 fun K hK=>?_;go_simp;refine au hK (by first | exact fun p q h=>hb8.cell (p:=⟨p,q,none⟩) (Nat.lt_of_lt_of_le h hsz) | exact fun p q h=>rfl) fun hHeld=>?_;clear hK K;refine aB 8 fun K hK=>?_;go_simp
             (go_at_call 59;refine (HHO.out _ hB.bw).mono ?_;rintro e1 w9 ⟨rfl,rfl⟩)
             refine au hK (fun p q h=>hb8.cell (p:=⟨p,q,none⟩) (Nat.lt_of_lt_of_le h hsz)) fun hHeld=>?_;clear hK K;refine aA 9 ?_;refine aA 10 ?_;refine aA 11 ?_;refine aA 12 ?_;refine aA 13 ?_;refine aA 14 ?_;refine aA 15 ?_;refine wpAnyH_done (by kernel_rfl) ?_ _
             go_wp2_with (first | ((with_reducible refine dh 26 2 ?_);refine dO (hB.aj rfl) Tryz.underlying26 ak ?_) | ((with_reducible refine dh 41 3 ?_);refine dO (hB.get 1 rfl) Tryz.underlying41 bY ?_) | (go_at_call 184;refine (xK s e _).mono ?_;rintro e1 w5 ⟨rfl,hb5⟩;have hB:=hB.call (by simp) hb5) | ((with_reducible refine isS 88 4 91 ?_);refine iZ (hB.get 2 rfl) (gB ⟨(Sk.worth s e.x),0,0,decide (0<(Sk.worth s e.x))⟩) dR (jM _) ?_))
             have hZ:=hB.put 2 rfl (gB ⟨(Sk.worth s e.x),0,0,decide (0<(Sk.worth s e.x))⟩) rfl;refine bodyPost_ret (aP (p:=4) (hZ.get 2 rfl) Tryz.underlying88 rfl dR rfl _ rfl) rfl ⟨?_,hZ.bw⟩;rw [HM.out];rfl
           · have ajo:=wf hfi
             have HM:=hide (show Sk.dQ s e.x=⟨0,0,0,false⟩ by rw [HJ.out,show Sk.aF s e.x=0 by unfold Sk.aF;rw [if_neg uz,YG.out,WG.out,if_neg (by rintro (h | ⟨_,h⟩);cases h;exact hfi h)]];rfl);clear uz hfi
             go_upto_region 19 with (fail)
             refine wp_region_held_drew (S:=(fun w':World=>∀ p q,p<w.heap.size+3→w'.cell? ⟨p,q,none⟩=wc.cell? ⟨p,q,none⟩)) (by kernel_rfl) ?kN (fun hHeld=>?_)
             case kN=>exact fun p q h=>rfl
             refine aA 0 ?_;refine aA 1 ?_;refine aA 2 ?_;refine aA 3 ?_;refine bP 4 xX Tryz.underlying26 ?_;refine aB 5 fun K hK=>?_;go_simp
             (go_at_call 186;refine (kS s hc _).mono ?_;rintro e1 w1 ⟨A1,c1,rfl,hr1,hb1⟩;have hB:=hB.drew.call (by simp) hb1;obtain ⟨b1,o1,rfl,_,_,hc1⟩:=hr1.at_ 0 (kM s);have hon:=hc1 0 (kM s);have Xt:=kM s;rw [Nat.add_zero] at hon;have hb8:Below wc.heap.size wc w1:=⟨hb1.os,hb1.tape,hb1.output,hb1.size,hb1.block⟩)
             refine au hK (fun p q h=>hb8.cell (p:=⟨p,q,none⟩) (Nat.lt_of_lt_of_le h hsz)) fun hHeld=>?_;clear hK K;refine aA 6 ?_;refine aB 7 fun K hK=>?_;go_simp;refine au hK (by first | exact fun p q h=>hb8.cell (p:=⟨p,q,none⟩) (Nat.lt_of_lt_of_le h hsz) | exact fun p q h=>rfl) fun hHeld=>?_;clear hK K;refine aB 8 fun K hK=>?_;go_simp
             (go_at_call 59;refine (HHO.out _ hB.bw).mono ?_;rintro e1 w9 ⟨rfl,rfl⟩)
             refine au hK (fun p q h=>hb8.cell (p:=⟨p,q,none⟩) (Nat.lt_of_lt_of_le h hsz)) fun hHeld=>?_;clear hK K;refine aA 9 ?_;refine aA 10 ?_;refine aA 11 ?_;refine aA 12 ?_;refine aA 13 ?_;refine aA 14 ?_;refine aA 15 ?_;refine wpAnyH_done (by kernel_rfl) ?_ _
             go_wp2_with (first | ((with_reducible refine isS 88 4 91 ?_);refine iZ (hB.get 2 rfl) (gB ⟨0,0,0,false⟩) dR (jM _) ?_))
             have hZ:=hB.put 2 rfl (gB ⟨0,0,0,false⟩) rfl;refine bodyPost_ret (aP (p:=4) (hZ.get 2 rfl) Tryz.underlying88 rfl dR rfl _ rfl) rfl ⟨?_,hZ.bw⟩;rw [HM.out];rfl
       · have xX:∀ W:World,(fun w':World=>∀ p q,p<w.heap.size+3→w'.cell? ⟨p,q,none⟩=wc.cell? ⟨p,q,none⟩) W→W.rangeAt w.heap.size 0 (aQ s):=fun W h j v hj=>by rw [h _ _ (by omega)];exact (hB.aj rfl).range j v hj
         have HM:=hide (show Sk.dQ s e.x=⟨(Sk.worth s e.x),0,0,decide (0<(Sk.worth s e.x))⟩ by rw [HJ.out,show Sk.aF s e.x=(Sk.worth s e.x) by unfold Sk.aF;rw [if_neg uz,YG.out,if_pos (.inl rfl)]]);clear uz
         go_upto_region 19 with (fail)
         refine wp_region_held_drew (S:=(fun w':World=>∀ p q,p<w.heap.size+3→w'.cell? ⟨p,q,none⟩=wc.cell? ⟨p,q,none⟩)) (by kernel_rfl) ?oQ (fun hHeld=>?_)
         case oQ=>exact fun p q h=>rfl
         refine aA 0 ?_;refine aA 1 ?_;refine iE 2 ?_;refine iE 3 ?_;refine iE 4 ?_;refine iE 5 ?_;refine iE 6 ?_;refine aB 7 fun K hK=>?_;go_simp;refine au hK (by first | exact fun p q h=>hb8.cell (p:=⟨p,q,none⟩) (Nat.lt_of_lt_of_le h hsz) | exact fun p q h=>rfl) fun hHeld=>?_;clear hK K;refine iE 8 ?_;refine iE 9 ?_;refine iE 10 ?_;refine iE 11 ?_;refine iE 12 ?_;refine iE 13 ?_;refine aA 14 ?_;refine aA 15 ?_;refine wpAnyH_done (by kernel_rfl) ?_ _;have hB:=hB.drew
         go_wp2_with (first | ((with_reducible refine dh 26 2 ?_);refine dO (hB.aj rfl) Tryz.underlying26 ak ?_) | ((with_reducible refine dh 41 3 ?_);refine dO (hB.get 1 rfl) Tryz.underlying41 bY ?_) | (go_at_call 184;refine (xK s e _).mono ?_;rintro e1 w5 ⟨rfl,hb5⟩;have hB:=hB.call (by simp) hb5) | ((with_reducible refine isS 88 4 91 ?_);refine iZ (hB.get 2 rfl) (gB ⟨(Sk.worth s e.x),0,0,decide (0<(Sk.worth s e.x))⟩) dR (jM _) ?_))
         have hZ:=hB.put 2 rfl (gB ⟨(Sk.worth s e.x),0,0,decide (0<(Sk.worth s e.x))⟩) rfl;refine bodyPost_ret (aP (p:=4) (hZ.get 2 rfl) Tryz.underlying88 rfl dR rfl _ rfl) rfl ⟨?_,hZ.bw⟩;rw [HM.out];rfl
def sS (s:Sk.State) (k:Int):Sk.State:=⟨s.turn,s.s0,s.s1,s.brk,s.phase,s.aW,s.colour,s.free,s.aO,k,s.t0,s.t1,s.ay⟩
def zl (s:Sk.State) (k wi:Int):Sk.State:=⟨s.turn,s.s0,s.s1,s.brk,s.phase,s.aW,s.colour,s.free,s.aO,k,s.t0,s.t1,wi⟩
def wL (s:Sk.State) (e:Sk.Entry) (v:Sk.fF):Int:=if v.stays∧Sk.jf {Sk.zero with turn:=if v.stays then s.turn else 1 - s.turn } e then 0 else if v.stays then s.aJ+1 else s.aJ
theorem iy (g:Sk.Game) (s:Sk.State) (e:Sk.Entry) (v:Sk.fF):Sk.dD g s e v= {s with aJ:=wL s e v,ay:=if g.target≤max s.s0 s.s1 then Sk.leader s else s.ay }:=rfl
theorem ug (S:Nat→Prop) (g:Sk.Game) (s:Sk.State) (e:En) (v:Sk.fF) (w:World) (ht:s.turn=0∨s.turn=1) (hk5:0≤s.aJ∧s.aJ≤5) (he:je w S e):Calls Tryz.prog 117 #[rF g,lJ s,wC e,Vy v] w fun e_ w'=>e_= .returned (lJ (Sk.dD g s e.x v))∧Below w.heap.size w w':=by
 go_enter Tryz.func117,Tryz.ntmps117
 go_upto_region 0 with (fail)
 go_cut [4,5,6,7,8] (fun v4 v5 v6 v7 v8 wx=>v4=ptr w.heap.size∧v5=ptr (w.heap.size+1)∧v6=ptr (w.heap.size+2)∧v7=ptr (w.heap.size+3)∧v8=ptr (w.heap.size+4)∧wx.heap.size=w.heap.size+5∧aC w wx [(dN g,23),(aQ s,26),(fC e,41),(gB v,88),(aQ Sk.zero,26)])
 case first=>
  go_wp2;go_meet;exact ⟨rfl,rfl,rfl,rfl,rfl,by simp,((((((aC.nil w).new (by simp) (dN g) _).new (by simp) (aQ s) _).new (by simp) (fC e) _).new (by simp) (gB v) _).new (by simp) (aQ Sk.zero) _)⟩
 case rest=>
  obtain ⟨rfl,rfl,rfl,rfl,rfl,hBs,hB⟩:=hcut;have hS:=hB.get 1 rfl;have k0:=hS.cell (j:=0) rfl;have hV:=hB.get 3 rfl;have u3:=hV.cell (j:=3) rfl;have uf3:=hV.frozen 3
  rcases ht with ht | ht
  all_goals
   have ht':=ht;rw [ht] at k0
   rcases Bool.eq_false_or_eq_true v.stays with hst | hst
   all_goals rw [hst] at u3
  · go_upto_region 4 with (fail)
    go_cut [10] (fun v10 wx=>v10=ptr (w.heap.size+5)∧aC w wx [(dN g,23),(aQ s,26),(fC e,41),(gB v,88),(aQ Sk.zero,26),(aQ {Sk.zero with turn:=0 },26)])
    case first=>
     have hZ:=Held.newAt (g:=w.heap.size+5) wc (aQ Sk.zero) 26 hBs;have jP:=hB.new (by have h:=hBs;simpa using h) (aQ Sk.zero) 26
     go_wp2_with (first | ((with_reducible refine isS 26 10 19 ?_);refine iZ (hZ) (aQ {Sk.zero with turn:=0 }) ak (bI _) ?_))
     go_meet;exact ⟨rfl,jP.put 5 rfl (aQ {Sk.zero with turn:=0 }) rfl⟩
    case rest=>
     obtain ⟨rfl,hB2⟩:=hcut;have hcn:=fun W (hb:Below w.heap.size w W)=>qH S {Sk.zero with turn:=0 } e W (by simp) (he.below hb);have hV2:=hB2.get 3 rfl;have v3:=hV2.cell (j:=3) rfl;have SH:=hV2.frozen 3;rw [hst] at v3;obtain ⟨yc,wU⟩:∃ y,Sk.jf {Sk.zero with turn:=0 } e.x=y:=⟨_,rfl⟩
     simp only [wU] at hcn
     have Hf:=hide hcn;clear hcn
     cases yc
     · have HK:=hide (show wL s e.x v=(s.aJ+1) by unfold wL;rw [hst];simp only [if_true];rw [ht',wU];simp)
       clear wU
       by_cases hm:g.target≤max s.s0 s.s1
       · have hm1:decide (g.target≤max s.s0 s.s1)=true:=decide_eq_true hm
         have HM:=hide (show Sk.dD g s e.x v=(zl s (s.aJ+1) (Sk.leader (sS s (s.aJ+1)))) by rw [iy,HK.out,if_pos hm];rfl);have qA:=hide hm;clear hm
         go_wp2_with (first | ((with_reducible refine dh 26 10 ?_);refine dO (hB2.get 5 rfl) Tryz.underlying26 ak ?_) | ((with_reducible refine iV 26 10 ?_);refine nO (hB2.get 5 rfl) Tryz.underlying26 ak ?_) | ((with_reducible refine dh 41 6 ?_);refine dO (hB2.get 2 rfl) Tryz.underlying41 bY ?_) | ((with_reducible refine iV 41 6 ?_);refine nO (hB2.get 2 rfl) Tryz.underlying41 bY ?_) | (go_at_call 190;refine (Hf.out _ hB2.bw).mono ?_;rintro e1 w1 ⟨rfl,hb1⟩;have lC:=hB2.call (by simp) hb1;have hS3:=lC.get 1 rfl;have hG3:=lC.aj rfl;have tX:=lC.get 3 rfl;have z1:=hS3.cell (j:=1) rfl;have SN:=hS3.frozen 1;have z2:=hS3.cell (j:=2) rfl;have SQ:=hS3.frozen 2;have z9:=hS3.cell (j:=9) rfl;have VF:=hS3.frozen 9;have g2:=hG3.cell (j:=2) rfl;have xQ:=hG3.frozen 2;have v3:=tX.cell (j:=3) rfl;have SH:=tX.frozen 3;rw [hst] at v3;have hB3:aC w (w1.setCell ⟨w.heap.size+1,9,none⟩ (.int .i64 (s.aJ+1))) [(dN g,23),(aQ (sS s (s.aJ+1)),26),(fC e,41),(gB v,88),(aQ Sk.zero,26),(aQ {Sk.zero with turn:=0 },26)]:=lC.set 1 rfl 9 _) | ((with_reducible refine dh 26 5 ?_);refine dO (hB3.get 1 rfl) Tryz.underlying26 ak ?_) | (go_at_call 187;refine (gX ((sS s (s.aJ+1))) _).mono ?_;rintro e1 w5 ⟨rfl,hb5⟩;have eH:=hB3.call (by simp) hb5;have h12:=(eH.get 1 rfl).cell (j:=12) rfl;have DZ:=(eH.get 1 rfl).frozen 12;have hE:aC w (w5.setCell ⟨w.heap.size+1,12,none⟩ (.int .i64 (Sk.leader ((sS s (s.aJ+1)))))) [(dN g,23),(aQ (zl s (s.aJ+1) (Sk.leader (sS s (s.aJ+1)))),26),(fC e,41),(gB v,88),(aQ Sk.zero,26),(aQ {Sk.zero with turn:=0 },26)]:=eH.set 1 rfl 12 _) | ((with_reducible refine dh 26 5 ?_);refine dO (hE.get 1 rfl) Tryz.underlying26 ak ?_) | ((with_reducible refine isS 26 8 49 ?_);refine iZ (hE.get 4 rfl) (aQ ((zl s (s.aJ+1) (Sk.leader (sS s (s.aJ+1)))))) ak (bI _) ?_))
         all_goals first | (exfalso;have:=qA.out;omega) | skip
         all_goals
          have hZ:=hE.put 4 rfl (aQ ((zl s (s.aJ+1) (Sk.leader (sS s (s.aJ+1)))))) rfl;refine bodyPost_ret (aP (p:=8) (hZ.get 4 rfl) Tryz.underlying26 rfl ak rfl _ rfl) rfl ⟨?_,hZ.bw⟩;rw [HM.out];rfl
       · have hm1:decide (g.target≤max s.s0 s.s1)=false:=decide_eq_false hm
         have HM:=hide (show Sk.dD g s e.x v=(sS s (s.aJ+1)) by rw [iy,HK.out,if_neg hm];rfl);have qA:=hide hm;clear hm
         go_wp2_with (first | ((with_reducible refine dh 26 10 ?_);refine dO (hB2.get 5 rfl) Tryz.underlying26 ak ?_) | ((with_reducible refine iV 26 10 ?_);refine nO (hB2.get 5 rfl) Tryz.underlying26 ak ?_) | ((with_reducible refine dh 41 6 ?_);refine dO (hB2.get 2 rfl) Tryz.underlying41 bY ?_) | ((with_reducible refine iV 41 6 ?_);refine nO (hB2.get 2 rfl) Tryz.underlying41 bY ?_) | (go_at_call 190;refine (Hf.out _ hB2.bw).mono ?_;rintro e1 w1 ⟨rfl,hb1⟩;have lC:=hB2.call (by simp) hb1;have hS3:=lC.get 1 rfl;have hG3:=lC.aj rfl;have tX:=lC.get 3 rfl;have z1:=hS3.cell (j:=1) rfl;have SN:=hS3.frozen 1;have z2:=hS3.cell (j:=2) rfl;have SQ:=hS3.frozen 2;have z9:=hS3.cell (j:=9) rfl;have VF:=hS3.frozen 9;have g2:=hG3.cell (j:=2) rfl;have xQ:=hG3.frozen 2;have v3:=tX.cell (j:=3) rfl;have SH:=tX.frozen 3;rw [hst] at v3;have hB3:aC w (w1.setCell ⟨w.heap.size+1,9,none⟩ (.int .i64 (s.aJ+1))) [(dN g,23),(aQ (sS s (s.aJ+1)),26),(fC e,41),(gB v,88),(aQ Sk.zero,26),(aQ {Sk.zero with turn:=0 },26)]:=lC.set 1 rfl 9 _) | ((with_reducible refine dh 26 5 ?_);refine dO (hB3.get 1 rfl) Tryz.underlying26 ak ?_) | ((with_reducible refine isS 26 8 49 ?_);refine iZ (hB3.get 4 rfl) (aQ ((sS s (s.aJ+1)))) ak (bI _) ?_))
         all_goals first | (exfalso;have:=qA.out;omega) | skip
         all_goals
          have hZ:=hB3.put 4 rfl (aQ ((sS s (s.aJ+1)))) rfl;refine bodyPost_ret (aP (p:=8) (hZ.get 4 rfl) Tryz.underlying26 rfl ak rfl _ rfl) rfl ⟨?_,hZ.bw⟩;rw [HM.out];rfl
     · have HK:=hide (show wL s e.x v=0 by unfold wL;rw [hst];simp only [if_true];rw [ht',wU];simp)
       clear wU
       by_cases hm:g.target≤max s.s0 s.s1
       · have hm1:decide (g.target≤max s.s0 s.s1)=true:=decide_eq_true hm
         have HM:=hide (show Sk.dD g s e.x v=(zl s 0 (Sk.leader (sS s 0))) by rw [iy,HK.out,if_pos hm];rfl);have qA:=hide hm;clear hm
         go_wp2_with (first | ((with_reducible refine dh 26 10 ?_);refine dO (hB2.get 5 rfl) Tryz.underlying26 ak ?_) | ((with_reducible refine iV 26 10 ?_);refine nO (hB2.get 5 rfl) Tryz.underlying26 ak ?_) | ((with_reducible refine dh 41 6 ?_);refine dO (hB2.get 2 rfl) Tryz.underlying41 bY ?_) | ((with_reducible refine iV 41 6 ?_);refine nO (hB2.get 2 rfl) Tryz.underlying41 bY ?_) | (go_at_call 190;refine (Hf.out _ hB2.bw).mono ?_;rintro e1 w1 ⟨rfl,hb1⟩;have lC:=hB2.call (by simp) hb1;have hS3:=lC.get 1 rfl;have hG3:=lC.aj rfl;have tX:=lC.get 3 rfl;have z1:=hS3.cell (j:=1) rfl;have SN:=hS3.frozen 1;have z2:=hS3.cell (j:=2) rfl;have SQ:=hS3.frozen 2;have z9:=hS3.cell (j:=9) rfl;have VF:=hS3.frozen 9;have g2:=hG3.cell (j:=2) rfl;have xQ:=hG3.frozen 2;have v3:=tX.cell (j:=3) rfl;have SH:=tX.frozen 3;rw [hst] at v3;have hB3:aC w (w1.setCell ⟨w.heap.size+1,9,none⟩ (.int .i64 0)) [(dN g,23),(aQ (sS s 0),26),(fC e,41),(gB v,88),(aQ Sk.zero,26),(aQ {Sk.zero with turn:=0 },26)]:=lC.set 1 rfl 9 _) | ((with_reducible refine dh 26 5 ?_);refine dO (hB3.get 1 rfl) Tryz.underlying26 ak ?_) | (go_at_call 187;refine (gX ((sS s 0)) _).mono ?_;rintro e1 w5 ⟨rfl,hb5⟩;have eH:=hB3.call (by simp) hb5;have h12:=(eH.get 1 rfl).cell (j:=12) rfl;have DZ:=(eH.get 1 rfl).frozen 12;have hE:aC w (w5.setCell ⟨w.heap.size+1,12,none⟩ (.int .i64 (Sk.leader ((sS s 0))))) [(dN g,23),(aQ (zl s 0 (Sk.leader (sS s 0))),26),(fC e,41),(gB v,88),(aQ Sk.zero,26),(aQ {Sk.zero with turn:=0 },26)]:=eH.set 1 rfl 12 _) | ((with_reducible refine dh 26 5 ?_);refine dO (hE.get 1 rfl) Tryz.underlying26 ak ?_) | ((with_reducible refine isS 26 8 49 ?_);refine iZ (hE.get 4 rfl) (aQ ((zl s 0 (Sk.leader (sS s 0))))) ak (bI _) ?_))
         all_goals first | (exfalso;have:=qA.out;omega) | skip
         all_goals
          have hZ:=hE.put 4 rfl (aQ ((zl s 0 (Sk.leader (sS s 0))))) rfl;refine bodyPost_ret (aP (p:=8) (hZ.get 4 rfl) Tryz.underlying26 rfl ak rfl _ rfl) rfl ⟨?_,hZ.bw⟩;rw [HM.out];rfl
       · have hm1:decide (g.target≤max s.s0 s.s1)=false:=decide_eq_false hm
         have HM:=hide (show Sk.dD g s e.x v=(sS s 0) by rw [iy,HK.out,if_neg hm];rfl);have qA:=hide hm;clear hm
         go_wp2_with (first | ((with_reducible refine dh 26 10 ?_);refine dO (hB2.get 5 rfl) Tryz.underlying26 ak ?_) | ((with_reducible refine iV 26 10 ?_);refine nO (hB2.get 5 rfl) Tryz.underlying26 ak ?_) | ((with_reducible refine dh 41 6 ?_);refine dO (hB2.get 2 rfl) Tryz.underlying41 bY ?_) | ((with_reducible refine iV 41 6 ?_);refine nO (hB2.get 2 rfl) Tryz.underlying41 bY ?_) | (go_at_call 190;refine (Hf.out _ hB2.bw).mono ?_;rintro e1 w1 ⟨rfl,hb1⟩;have lC:=hB2.call (by simp) hb1;have hS3:=lC.get 1 rfl;have hG3:=lC.aj rfl;have tX:=lC.get 3 rfl;have z1:=hS3.cell (j:=1) rfl;have SN:=hS3.frozen 1;have z2:=hS3.cell (j:=2) rfl;have SQ:=hS3.frozen 2;have z9:=hS3.cell (j:=9) rfl;have VF:=hS3.frozen 9;have g2:=hG3.cell (j:=2) rfl;have xQ:=hG3.frozen 2;have v3:=tX.cell (j:=3) rfl;have SH:=tX.frozen 3;rw [hst] at v3;have hB3:aC w (w1.setCell ⟨w.heap.size+1,9,none⟩ (.int .i64 0)) [(dN g,23),(aQ (sS s 0),26),(fC e,41),(gB v,88),(aQ Sk.zero,26),(aQ {Sk.zero with turn:=0 },26)]:=lC.set 1 rfl 9 _) | ((with_reducible refine dh 26 5 ?_);refine dO (hB3.get 1 rfl) Tryz.underlying26 ak ?_) | ((with_reducible refine isS 26 8 49 ?_);refine iZ (hB3.get 4 rfl) (aQ ((sS s 0))) ak (bI _) ?_))
         all_goals first | (exfalso;have:=qA.out;omega) | skip
         all_goals
          have hZ:=hB3.put 4 rfl (aQ ((sS s 0))) rfl;refine bodyPost_ret (aP (p:=8) (hZ.get 4 rfl) Tryz.underlying26 rfl ak rfl _ rfl) rfl ⟨?_,hZ.bw⟩;rw [HM.out];rfl
  · go_upto_region 4 with (fail)
    go_cut [10] (fun v10 wx=>v10=ptr (w.heap.size+5)∧aC w wx [(dN g,23),(aQ s,26),(fC e,41),(gB v,88),(aQ Sk.zero,26),(aQ {Sk.zero with turn:=1 },26)])
    case first=>
     have hZ:=Held.newAt (g:=w.heap.size+5) wc (aQ Sk.zero) 26 hBs;have jP:=hB.new (by have h:=hBs;simpa using h) (aQ Sk.zero) 26
     go_wp2_with (first | ((with_reducible refine isS 26 10 19 ?_);refine iZ (hZ) (aQ {Sk.zero with turn:=1 }) ak (bI _) ?_))
     go_meet;exact ⟨rfl,jP.put 5 rfl (aQ {Sk.zero with turn:=1 }) rfl⟩
    case rest=>
     obtain ⟨rfl,hB2⟩:=hcut;have HK:=hide (show wL s e.x v=s.aJ by unfold wL;rw [hst];simp);have hB3:aC w wc [(dN g,23),(aQ (sS s s.aJ),26),(fC e,41),(gB v,88),(aQ Sk.zero,26),(aQ {Sk.zero with turn:=1 },26)]:=hB2;have hS3:=hB2.get 1 rfl;have hG3:=hB2.aj rfl;have tX:=hB2.get 3 rfl;have z1:=hS3.cell (j:=1) rfl;have SN:=hS3.frozen 1;have z2:=hS3.cell (j:=2) rfl;have SQ:=hS3.frozen 2;have z9:=hS3.cell (j:=9) rfl;have VF:=hS3.frozen 9;have g2:=hG3.cell (j:=2) rfl;have xQ:=hG3.frozen 2;have v3:=tX.cell (j:=3) rfl;have SH:=tX.frozen 3;rw [hst] at v3
     by_cases hm:g.target≤max s.s0 s.s1
     · have hm1:decide (g.target≤max s.s0 s.s1)=true:=decide_eq_true hm
       have HM:=hide (show Sk.dD g s e.x v=(zl s s.aJ (Sk.leader (sS s s.aJ))) by rw [iy,HK.out,if_pos hm];rfl);have qA:=hide hm;clear hm
       go_wp2_with (first | ((with_reducible refine dh 26 5 ?_);refine dO (hB3.get 1 rfl) Tryz.underlying26 ak ?_) | (go_at_call 187;refine (gX ((sS s s.aJ)) _).mono ?_;rintro e1 w5 ⟨rfl,hb5⟩;have eH:=hB3.call (by simp) hb5;have h12:=(eH.get 1 rfl).cell (j:=12) rfl;have DZ:=(eH.get 1 rfl).frozen 12;have hE:aC w (w5.setCell ⟨w.heap.size+1,12,none⟩ (.int .i64 (Sk.leader ((sS s s.aJ))))) [(dN g,23),(aQ (zl s s.aJ (Sk.leader (sS s s.aJ))),26),(fC e,41),(gB v,88),(aQ Sk.zero,26),(aQ {Sk.zero with turn:=1 },26)]:=eH.set 1 rfl 12 _) | ((with_reducible refine dh 26 5 ?_);refine dO (hE.get 1 rfl) Tryz.underlying26 ak ?_) | ((with_reducible refine isS 26 8 49 ?_);refine iZ (hE.get 4 rfl) (aQ ((zl s s.aJ (Sk.leader (sS s s.aJ))))) ak (bI _) ?_))
       all_goals first | (exfalso;have:=qA.out;omega) | skip
       all_goals
        have hZ:=hE.put 4 rfl (aQ ((zl s s.aJ (Sk.leader (sS s s.aJ))))) rfl;refine bodyPost_ret (aP (p:=8) (hZ.get 4 rfl) Tryz.underlying26 rfl ak rfl _ rfl) rfl ⟨?_,hZ.bw⟩;rw [HM.out];rfl
     · have hm1:decide (g.target≤max s.s0 s.s1)=false:=decide_eq_false hm
       have HM:=hide (show Sk.dD g s e.x v=(sS s s.aJ) by rw [iy,HK.out,if_neg hm];rfl);have qA:=hide hm;clear hm
       go_wp2_with (first | ((with_reducible refine dh 26 5 ?_);refine dO (hB3.get 1 rfl) Tryz.underlying26 ak ?_) | ((with_reducible refine isS 26 8 49 ?_);refine iZ (hB3.get 4 rfl) (aQ ((sS s s.aJ))) ak (bI _) ?_))
       all_goals first | (exfalso;have:=qA.out;omega) | skip
       all_goals
        have hZ:=hB3.put 4 rfl (aQ ((sS s s.aJ))) rfl;refine bodyPost_ret (aP (p:=8) (hZ.get 4 rfl) Tryz.underlying26 rfl ak rfl _ rfl) rfl ⟨?_,hZ.bw⟩;rw [HM.out];rfl
  · go_upto_region 4 with (fail)
    go_cut [10] (fun v10 wx=>v10=ptr (w.heap.size+5)∧aC w wx [(dN g,23),(aQ s,26),(fC e,41),(gB v,88),(aQ Sk.zero,26),(aQ {Sk.zero with turn:=1 },26)])
    case first=>
     have hZ:=Held.newAt (g:=w.heap.size+5) wc (aQ Sk.zero) 26 hBs;have jP:=hB.new (by have h:=hBs;simpa using h) (aQ Sk.zero) 26
     go_wp2_with (first | ((with_reducible refine isS 26 10 19 ?_);refine iZ (hZ) (aQ {Sk.zero with turn:=1 }) ak (bI _) ?_))
     go_meet;exact ⟨rfl,jP.put 5 rfl (aQ {Sk.zero with turn:=1 }) rfl⟩
    case rest=>
     obtain ⟨rfl,hB2⟩:=hcut;have hcn:=fun W (hb:Below w.heap.size w W)=>qH S {Sk.zero with turn:=1 } e W (by simp) (he.below hb);have hV2:=hB2.get 3 rfl;have v3:=hV2.cell (j:=3) rfl;have SH:=hV2.frozen 3;rw [hst] at v3;obtain ⟨yc,wU⟩:∃ y,Sk.jf {Sk.zero with turn:=1 } e.x=y:=⟨_,rfl⟩
     simp only [wU] at hcn
     have Hf:=hide hcn;clear hcn
     cases yc
     · have HK:=hide (show wL s e.x v=(s.aJ+1) by unfold wL;rw [hst];simp only [if_true];rw [ht',wU];simp)
       clear wU
       by_cases hm:g.target≤max s.s0 s.s1
       · have hm1:decide (g.target≤max s.s0 s.s1)=true:=decide_eq_true hm
         have HM:=hide (show Sk.dD g s e.x v=(zl s (s.aJ+1) (Sk.leader (sS s (s.aJ+1)))) by rw [iy,HK.out,if_pos hm];rfl);have qA:=hide hm;clear hm
         go_wp2_with (first | ((with_reducible refine dh 26 10 ?_);refine dO (hB2.get 5 rfl) Tryz.underlying26 ak ?_) | ((with_reducible refine iV 26 10 ?_);refine nO (hB2.get 5 rfl) Tryz.underlying26 ak ?_) | ((with_reducible refine dh 41 6 ?_);refine dO (hB2.get 2 rfl) Tryz.underlying41 bY ?_) | ((with_reducible refine iV 41 6 ?_);refine nO (hB2.get 2 rfl) Tryz.underlying41 bY ?_) | (go_at_call 190;refine (Hf.out _ hB2.bw).mono ?_;rintro e1 w1 ⟨rfl,hb1⟩;have lC:=hB2.call (by simp) hb1;have hS3:=lC.get 1 rfl;have hG3:=lC.aj rfl;have tX:=lC.get 3 rfl;have z1:=hS3.cell (j:=1) rfl;have SN:=hS3.frozen 1;have z2:=hS3.cell (j:=2) rfl;have SQ:=hS3.frozen 2;have z9:=hS3.cell (j:=9) rfl;have VF:=hS3.frozen 9;have g2:=hG3.cell (j:=2) rfl;have xQ:=hG3.frozen 2;have v3:=tX.cell (j:=3) rfl;have SH:=tX.frozen 3;rw [hst] at v3;have hB3:aC w (w1.setCell ⟨w.heap.size+1,9,none⟩ (.int .i64 (s.aJ+1))) [(dN g,23),(aQ (sS s (s.aJ+1)),26),(fC e,41),(gB v,88),(aQ Sk.zero,26),(aQ {Sk.zero with turn:=1 },26)]:=lC.set 1 rfl 9 _) | ((with_reducible refine dh 26 5 ?_);refine dO (hB3.get 1 rfl) Tryz.underlying26 ak ?_) | (go_at_call 187;refine (gX ((sS s (s.aJ+1))) _).mono ?_;rintro e1 w5 ⟨rfl,hb5⟩;have eH:=hB3.call (by simp) hb5;have h12:=(eH.get 1 rfl).cell (j:=12) rfl;have DZ:=(eH.get 1 rfl).frozen 12;have hE:aC w (w5.setCell ⟨w.heap.size+1,12,none⟩ (.int .i64 (Sk.leader ((sS s (s.aJ+1)))))) [(dN g,23),(aQ (zl s (s.aJ+1) (Sk.leader (sS s (s.aJ+1)))),26),(fC e,41),(gB v,88),(aQ Sk.zero,26),(aQ {Sk.zero with turn:=1 },26)]:=eH.set 1 rfl 12 _) | ((with_reducible refine dh 26 5 ?_);refine dO (hE.get 1 rfl) Tryz.underlying26 ak ?_) | ((with_reducible refine isS 26 8 49 ?_);refine iZ (hE.get 4 rfl) (aQ ((zl s (s.aJ+1) (Sk.leader (sS s (s.aJ+1)))))) ak (bI _) ?_))
         all_goals first | (exfalso;have:=qA.out;omega) | skip
         all_goals
          have hZ:=hE.put 4 rfl (aQ ((zl s (s.aJ+1) (Sk.leader (sS s (s.aJ+1)))))) rfl;refine bodyPost_ret (aP (p:=8) (hZ.get 4 rfl) Tryz.underlying26 rfl ak rfl _ rfl) rfl ⟨?_,hZ.bw⟩;rw [HM.out];rfl
       · have hm1:decide (g.target≤max s.s0 s.s1)=false:=decide_eq_false hm
         have HM:=hide (show Sk.dD g s e.x v=(sS s (s.aJ+1)) by rw [iy,HK.out,if_neg hm];rfl);have qA:=hide hm;clear hm
         go_wp2_with (first | ((with_reducible refine dh 26 10 ?_);refine dO (hB2.get 5 rfl) Tryz.underlying26 ak ?_) | ((with_reducible refine iV 26 10 ?_);refine nO (hB2.get 5 rfl) Tryz.underlying26 ak ?_) | ((with_reducible refine dh 41 6 ?_);refine dO (hB2.get 2 rfl) Tryz.underlying41 bY ?_) | ((with_reducible refine iV 41 6 ?_);refine nO (hB2.get 2 rfl) Tryz.underlying41 bY ?_) | (go_at_call 190;refine (Hf.out _ hB2.bw).mono ?_;rintro e1 w1 ⟨rfl,hb1⟩;have lC:=hB2.call (by simp) hb1;have hS3:=lC.get 1 rfl;have hG3:=lC.aj rfl;have tX:=lC.get 3 rfl;have z1:=hS3.cell (j:=1) rfl;have SN:=hS3.frozen 1;have z2:=hS3.cell (j:=2) rfl;have SQ:=hS3.frozen 2;have z9:=hS3.cell (j:=9) rfl;have VF:=hS3.frozen 9;have g2:=hG3.cell (j:=2) rfl;have xQ:=hG3.frozen 2;have v3:=tX.cell (j:=3) rfl;have SH:=tX.frozen 3;rw [hst] at v3;have hB3:aC w (w1.setCell ⟨w.heap.size+1,9,none⟩ (.int .i64 (s.aJ+1))) [(dN g,23),(aQ (sS s (s.aJ+1)),26),(fC e,41),(gB v,88),(aQ Sk.zero,26),(aQ {Sk.zero with turn:=1 },26)]:=lC.set 1 rfl 9 _) | ((with_reducible refine dh 26 5 ?_);refine dO (hB3.get 1 rfl) Tryz.underlying26 ak ?_) | ((with_reducible refine isS 26 8 49 ?_);refine iZ (hB3.get 4 rfl) (aQ ((sS s (s.aJ+1)))) ak (bI _) ?_))
         all_goals first | (exfalso;have:=qA.out;omega) | skip
         all_goals
          have hZ:=hB3.put 4 rfl (aQ ((sS s (s.aJ+1)))) rfl;refine bodyPost_ret (aP (p:=8) (hZ.get 4 rfl) Tryz.underlying26 rfl ak rfl _ rfl) rfl ⟨?_,hZ.bw⟩;rw [HM.out];rfl
     · have HK:=hide (show wL s e.x v=0 by unfold wL;rw [hst];simp only [if_true];rw [ht',wU];simp)
       clear wU
       by_cases hm:g.target≤max s.s0 s.s1
       · have hm1:decide (g.target≤max s.s0 s.s1)=true:=decide_eq_true hm
         have HM:=hide (show Sk.dD g s e.x v=(zl s 0 (Sk.leader (sS s 0))) by rw [iy,HK.out,if_pos hm];rfl);have qA:=hide hm;clear hm
         go_wp2_with (first | ((with_reducible refine dh 26 10 ?_);refine dO (hB2.get 5 rfl) Tryz.underlying26 ak ?_) | ((with_reducible refine iV 26 10 ?_);refine nO (hB2.get 5 rfl) Tryz.underlying26 ak ?_) | ((with_reducible refine dh 41 6 ?_);refine dO (hB2.get 2 rfl) Tryz.underlying41 bY ?_) | ((with_reducible refine iV 41 6 ?_);refine nO (hB2.get 2 rfl) Tryz.underlying41 bY ?_) | (go_at_call 190;refine (Hf.out _ hB2.bw).mono ?_;rintro e1 w1 ⟨rfl,hb1⟩;have lC:=hB2.call (by simp) hb1;have hS3:=lC.get 1 rfl;have hG3:=lC.aj rfl;have tX:=lC.get 3 rfl;have z1:=hS3.cell (j:=1) rfl;have SN:=hS3.frozen 1;have z2:=hS3.cell (j:=2) rfl;have SQ:=hS3.frozen 2;have z9:=hS3.cell (j:=9) rfl;have VF:=hS3.frozen 9;have g2:=hG3.cell (j:=2) rfl;have xQ:=hG3.frozen 2;have v3:=tX.cell (j:=3) rfl;have SH:=tX.frozen 3;rw [hst] at v3;have hB3:aC w (w1.setCell ⟨w.heap.size+1,9,none⟩ (.int .i64 0)) [(dN g,23),(aQ (sS s 0),26),(fC e,41),(gB v,88),(aQ Sk.zero,26),(aQ {Sk.zero with turn:=1 },26)]:=lC.set 1 rfl 9 _) | ((with_reducible refine dh 26 5 ?_);refine dO (hB3.get 1 rfl) Tryz.underlying26 ak ?_) | (go_at_call 187;refine (gX ((sS s 0)) _).mono ?_;rintro e1 w5 ⟨rfl,hb5⟩;have eH:=hB3.call (by simp) hb5;have h12:=(eH.get 1 rfl).cell (j:=12) rfl;have DZ:=(eH.get 1 rfl).frozen 12;have hE:aC w (w5.setCell ⟨w.heap.size+1,12,none⟩ (.int .i64 (Sk.leader ((sS s 0))))) [(dN g,23),(aQ (zl s 0 (Sk.leader (sS s 0))),26),(fC e,41),(gB v,88),(aQ Sk.zero,26),(aQ {Sk.zero with turn:=1 },26)]:=eH.set 1 rfl 12 _) | ((with_reducible refine dh 26 5 ?_);refine dO (hE.get 1 rfl) Tryz.underlying26 ak ?_) | ((with_reducible refine isS 26 8 49 ?_);refine iZ (hE.get 4 rfl) (aQ ((zl s 0 (Sk.leader (sS s 0))))) ak (bI _) ?_))
         all_goals first | (exfalso;have:=qA.out;omega) | skip
         all_goals
          have hZ:=hE.put 4 rfl (aQ ((zl s 0 (Sk.leader (sS s 0))))) rfl;refine bodyPost_ret (aP (p:=8) (hZ.get 4 rfl) Tryz.underlying26 rfl ak rfl _ rfl) rfl ⟨?_,hZ.bw⟩;rw [HM.out];rfl
       · have hm1:decide (g.target≤max s.s0 s.s1)=false:=decide_eq_false hm
         have HM:=hide (show Sk.dD g s e.x v=(sS s 0) by rw [iy,HK.out,if_neg hm];rfl);have qA:=hide hm;clear hm
         go_wp2_with (first | ((with_reducible refine dh 26 10 ?_);refine dO (hB2.get 5 rfl) Tryz.underlying26 ak ?_) | ((with_reducible refine iV 26 10 ?_);refine nO (hB2.get 5 rfl) Tryz.underlying26 ak ?_) | ((with_reducible refine dh 41 6 ?_);refine dO (hB2.get 2 rfl) Tryz.underlying41 bY ?_) | ((with_reducible refine iV 41 6 ?_);refine nO (hB2.get 2 rfl) Tryz.underlying41 bY ?_) | (go_at_call 190;refine (Hf.out _ hB2.bw).mono ?_;rintro e1 w1 ⟨rfl,hb1⟩;have lC:=hB2.call (by simp) hb1;have hS3:=lC.get 1 rfl;have hG3:=lC.aj rfl;have tX:=lC.get 3 rfl;have z1:=hS3.cell (j:=1) rfl;have SN:=hS3.frozen 1;have z2:=hS3.cell (j:=2) rfl;have SQ:=hS3.frozen 2;have z9:=hS3.cell (j:=9) rfl;have VF:=hS3.frozen 9;have g2:=hG3.cell (j:=2) rfl;have xQ:=hG3.frozen 2;have v3:=tX.cell (j:=3) rfl;have SH:=tX.frozen 3;rw [hst] at v3;have hB3:aC w (w1.setCell ⟨w.heap.size+1,9,none⟩ (.int .i64 0)) [(dN g,23),(aQ (sS s 0),26),(fC e,41),(gB v,88),(aQ Sk.zero,26),(aQ {Sk.zero with turn:=1 },26)]:=lC.set 1 rfl 9 _) | ((with_reducible refine dh 26 5 ?_);refine dO (hB3.get 1 rfl) Tryz.underlying26 ak ?_) | ((with_reducible refine isS 26 8 49 ?_);refine iZ (hB3.get 4 rfl) (aQ ((sS s 0))) ak (bI _) ?_))
         all_goals first | (exfalso;have:=qA.out;omega) | skip
         all_goals
          have hZ:=hB3.put 4 rfl (aQ ((sS s 0))) rfl;refine bodyPost_ret (aP (p:=8) (hZ.get 4 rfl) Tryz.underlying26 rfl ak rfl _ rfl) rfl ⟨?_,hZ.bw⟩;rw [HM.out];rfl
  · go_upto_region 4 with (fail)
    go_cut [10] (fun v10 wx=>v10=ptr (w.heap.size+5)∧aC w wx [(dN g,23),(aQ s,26),(fC e,41),(gB v,88),(aQ Sk.zero,26),(aQ {Sk.zero with turn:=0 },26)])
    case first=>
     have hZ:=Held.newAt (g:=w.heap.size+5) wc (aQ Sk.zero) 26 hBs;have jP:=hB.new (by have h:=hBs;simpa using h) (aQ Sk.zero) 26
     go_wp2_with (first | ((with_reducible refine isS 26 10 19 ?_);refine iZ (hZ) (aQ {Sk.zero with turn:=0 }) ak (bI _) ?_))
     go_meet;exact ⟨rfl,jP.put 5 rfl (aQ {Sk.zero with turn:=0 }) rfl⟩
    case rest=>
     obtain ⟨rfl,hB2⟩:=hcut;have HK:=hide (show wL s e.x v=s.aJ by unfold wL;rw [hst];simp);have hB3:aC w wc [(dN g,23),(aQ (sS s s.aJ),26),(fC e,41),(gB v,88),(aQ Sk.zero,26),(aQ {Sk.zero with turn:=0 },26)]:=hB2;have hS3:=hB2.get 1 rfl;have hG3:=hB2.aj rfl;have tX:=hB2.get 3 rfl;have z1:=hS3.cell (j:=1) rfl;have SN:=hS3.frozen 1;have z2:=hS3.cell (j:=2) rfl;have SQ:=hS3.frozen 2;have z9:=hS3.cell (j:=9) rfl;have VF:=hS3.frozen 9;have g2:=hG3.cell (j:=2) rfl;have xQ:=hG3.frozen 2;have v3:=tX.cell (j:=3) rfl;have SH:=tX.frozen 3;rw [hst] at v3
     by_cases hm:g.target≤max s.s0 s.s1
     · have hm1:decide (g.target≤max s.s0 s.s1)=true:=decide_eq_true hm
       have HM:=hide (show Sk.dD g s e.x v=(zl s s.aJ (Sk.leader (sS s s.aJ))) by rw [iy,HK.out,if_pos hm];rfl);have qA:=hide hm;clear hm
       go_wp2_with (first | ((with_reducible refine dh 26 5 ?_);refine dO (hB3.get 1 rfl) Tryz.underlying26 ak ?_) | (go_at_call 187;refine (gX ((sS s s.aJ)) _).mono ?_;rintro e1 w5 ⟨rfl,hb5⟩;have eH:=hB3.call (by simp) hb5;have h12:=(eH.get 1 rfl).cell (j:=12) rfl;have DZ:=(eH.get 1 rfl).frozen 12;have hE:aC w (w5.setCell ⟨w.heap.size+1,12,none⟩ (.int .i64 (Sk.leader ((sS s s.aJ))))) [(dN g,23),(aQ (zl s s.aJ (Sk.leader (sS s s.aJ))),26),(fC e,41),(gB v,88),(aQ Sk.zero,26),(aQ {Sk.zero with turn:=0 },26)]:=eH.set 1 rfl 12 _) | ((with_reducible refine dh 26 5 ?_);refine dO (hE.get 1 rfl) Tryz.underlying26 ak ?_) | ((with_reducible refine isS 26 8 49 ?_);refine iZ (hE.get 4 rfl) (aQ ((zl s s.aJ (Sk.leader (sS s s.aJ))))) ak (bI _) ?_))
       all_goals first | (exfalso;have:=qA.out;omega) | skip
       all_goals
        have hZ:=hE.put 4 rfl (aQ ((zl s s.aJ (Sk.leader (sS s s.aJ))))) rfl;refine bodyPost_ret (aP (p:=8) (hZ.get 4 rfl) Tryz.underlying26 rfl ak rfl _ rfl) rfl ⟨?_,hZ.bw⟩;rw [HM.out];rfl
     · have hm1:decide (g.target≤max s.s0 s.s1)=false:=decide_eq_false hm
       have HM:=hide (show Sk.dD g s e.x v=(sS s s.aJ) by rw [iy,HK.out,if_neg hm];rfl);have qA:=hide hm;clear hm
       go_wp2_with (first | ((with_reducible refine dh 26 5 ?_);refine dO (hB3.get 1 rfl) Tryz.underlying26 ak ?_) | ((with_reducible refine isS 26 8 49 ?_);refine iZ (hB3.get 4 rfl) (aQ ((sS s s.aJ))) ak (bI _) ?_))
       all_goals first | (exfalso;have:=qA.out;omega) | skip
       all_goals
        have hZ:=hB3.put 4 rfl (aQ ((sS s s.aJ))) rfl;refine bodyPost_ret (aP (p:=8) (hZ.get 4 rfl) Tryz.underlying26 rfl ak rfl _ rfl) rfl ⟨?_,hZ.bw⟩;rw [HM.out];rfl
def VJ (s:Sk.State):Sk.State:=⟨s.turn,s.s0,s.s1,s.brk,s.phase,s.aW,s.colour,s.free,s.aO,s.aJ,s.t0+1,s.t1,s.ay⟩
def cT1 (s:Sk.State):Sk.State:=⟨s.turn,s.s0,s.s1,s.brk,s.phase,s.aW,s.colour,s.free,s.aO,s.aJ,s.t0,s.t1+1,s.ay⟩
def cW (s:Sk.State) (wi:Int):Sk.State:=⟨s.turn,s.s0,s.s1,s.brk,s.phase,s.aW,s.colour,s.free,s.aO,s.aJ,s.t0,s.t1,wi⟩
theorem zx (g:Sk.Game) (s:Sk.State) (e:En) (v:Sk.fF) (w:World) (ht:s.turn=0∨s.turn=1) (hb0:0≤s.t0∧s.t0≤100) (hb1':0≤s.t1∧s.t1≤100):Calls Tryz.prog 121 #[rF g,lJ s,wC e,Vy v] w fun e_ w'=>e_= .returned (lJ (Sk.dL g s v))∧Below w.heap.size w w':=by
 go_enter Tryz.func121,Tryz.ntmps121
 go_upto_region 0 with (fail)
 go_cut [4,5,6,7,8] (fun v4 v5 v6 v7 v8 wx=>v4=ptr w.heap.size∧v5=ptr (w.heap.size+1)∧v6=ptr (w.heap.size+2)∧v7=ptr (w.heap.size+3)∧v8=ptr (w.heap.size+4)∧aC w wx [(dN g,23),(aQ s,26),(fC e,41),(gB v,88),(aQ Sk.zero,26)])
 case first=>
  go_wp2;go_meet;exact ⟨rfl,rfl,rfl,rfl,rfl,((((((aC.nil w).new (by simp) (dN g) _).new (by simp) (aQ s) _).new (by simp) (fC e) _).new (by simp) (gB v) _).new (by simp) (aQ Sk.zero) _)⟩
 case rest=>
  obtain ⟨rfl,rfl,rfl,rfl,rfl,hB⟩:=hcut;have k0:=(hB.get 1 rfl).cell (j:=0) rfl;have u3:=(hB.get 3 rfl).cell (j:=3) rfl;have uf3:=(hB.get 3 rfl).frozen 3
  rcases ht with ht | ht
  all_goals
   have ht':=ht;rw [ht] at k0
   rcases Bool.eq_false_or_eq_true v.stays with hst | hst
   all_goals
    have hst':=hst;rw [hst] at u3
  · have z1:_=some (Value.int .i64 s.s0):=(hB.get 1 rfl).cell (j:=1) rfl
    have VD:=(hB.get 1 rfl).frozen 1;have z2:_=some (Value.int .i64 s.s1):=(hB.get 1 rfl).cell (j:=2) rfl;have VE:=(hB.get 1 rfl).frozen 2;have z10:_=some (Value.int .i64 s.t0):=(hB.get 1 rfl).cell (j:=10) rfl;have EO:=(hB.get 1 rfl).frozen 10;have z11:_=some (Value.int .i64 s.t1):=(hB.get 1 rfl).cell (j:=11) rfl;have ER:=(hB.get 1 rfl).frozen 11;have g2:_=some (Value.int .i64 g.target):=(hB.aj rfl).cell (j:=2) rfl;have TL:=(hB.aj rfl).frozen 2;have g3:_=some (Value.int .i64 g.turns):=(hB.aj rfl).cell (j:=3) rfl;have TM:=(hB.aj rfl).frozen 3
    go_upto_region 4 with (fail)
    by_cases hl:s.s0<g.target
    · have hl1:decide (s.s0<g.target)=true:=decide_eq_true hl
      have HM:=hide (show Sk.dL g s v=s by unfold Sk.dL;rw [if_neg (by rw [hst'];decide),if_pos (by unfold Sk.score;rw [if_pos ht'];exact hl)]);clear hl
      go_quiet (fail)
      have hB:=hB.drewN nq
      go_wp2_with (first | ((with_reducible refine dh 26 5 ?_);refine dO (hB.get 1 rfl) Tryz.underlying26 ak ?_) | ((with_reducible refine isS 26 8 24 ?_);refine iZ (hB.get 4 rfl) (aQ s) ak (bI _) ?_))
      all_goals
       have hZ:=hB.put 4 rfl (aQ s) rfl
      refine bodyPost_ret (aP (p:=8) (hZ.get 4 rfl) Tryz.underlying26 rfl ak rfl _ rfl) rfl ⟨?_,hZ.bw⟩;rw [HM.out];rfl
    · have hl1:decide (s.s0<g.target)=false:=decide_eq_false hl
      have hl':=hl;have HL:=hide hl;clear hl
      go_quiet (fail)
      have hB:=hB.drewN nq;clear z1 VD z2 VE z10 EO z11 ER g2 TL g3 TM;have HM:=hide (show Sk.dL g s v=(VJ (Sk.pass s)) by unfold Sk.dL;rw [if_neg (by rw [hst'];decide),if_neg (by unfold Sk.score;rw [if_pos ht'];exact HL.out),ht'];rfl)
      go_wp2_with (first | ((with_reducible refine dh 26 5 ?_);refine dO (hB3.get 1 rfl) Tryz.underlying26 ak ?_) | ((with_reducible refine dh 26 5 ?_);refine dO (hB.get 1 rfl) Tryz.underlying26 ak ?_) | (go_at_call 131;refine (ni s (by omega) _).mono ?_;rintro e1 w1 ⟨rfl,hb1⟩;have lC:=hB.call (by simp) hb1;have hB2:=lC.put 1 rfl (aQ (Sk.pass s)) rfl) | ((with_reducible (refine fO 26 (.tmp 5) (.tmp 26) ?lx ?_));(case lx=>rfl);refine dP (lC.get 1 rfl) (aQ (Sk.pass s)) rfl ak (bI _) rfl (.tmp 5) (.tmp 26) rfl rfl rfl ?_;obtain ⟨W2,hW2⟩:∃ W2,w1.setCells (w.heap.size+1) 0 (aQ (Sk.pass s))=W2:=⟨_,rfl⟩;rw [hW2];rw [hW2] at hB2;have z1:_=some (Value.int .i64 s.s0):=(hB2.get 1 rfl).cell (j:=1) rfl;have VD:=(hB2.get 1 rfl).frozen 1;have z2:_=some (Value.int .i64 s.s1):=(hB2.get 1 rfl).cell (j:=2) rfl;have VE:=(hB2.get 1 rfl).frozen 2;have z10:_=some (Value.int .i64 s.t0):=(hB2.get 1 rfl).cell (j:=10) rfl;have EO:=(hB2.get 1 rfl).frozen 10;have z11:_=some (Value.int .i64 s.t1):=(hB2.get 1 rfl).cell (j:=11) rfl;have ER:=(hB2.get 1 rfl).frozen 11;have g2:_=some (Value.int .i64 g.target):=(hB2.aj rfl).cell (j:=2) rfl;have TL:=(hB2.aj rfl).frozen 2;have g3:_=some (Value.int .i64 g.turns):=(hB2.aj rfl).cell (j:=3) rfl;have TM:=(hB2.aj rfl).frozen 3;have hB3:aC w (W2.setCell ⟨w.heap.size+1,10,none⟩ (.int .i64 (s.t0+1))) [(dN g,23),(aQ (VJ (Sk.pass s)),26),(fC e,41),(gB v,88),(aQ Sk.zero,26)]:=hB2.set 1 rfl 10 _;clear hW2) | ((with_reducible refine isS 26 8 59 ?_);refine iZ (hB3.get 4 rfl) (aQ (VJ (Sk.pass s))) ak (bI _) ?_))
      all_goals
       have hZ:=hB3.put 4 rfl (aQ (VJ (Sk.pass s))) rfl;refine bodyPost_ret (aP (p:=8) (hZ.get 4 rfl) Tryz.underlying26 rfl ak rfl _ rfl) rfl ⟨?_,hZ.bw⟩;rw [HM.out];rfl
  · have z1:_=some (Value.int .i64 s.s0):=(hB.get 1 rfl).cell (j:=1) rfl
    have VD:=(hB.get 1 rfl).frozen 1;have z2:_=some (Value.int .i64 s.s1):=(hB.get 1 rfl).cell (j:=2) rfl;have VE:=(hB.get 1 rfl).frozen 2;have z10:_=some (Value.int .i64 s.t0):=(hB.get 1 rfl).cell (j:=10) rfl;have EO:=(hB.get 1 rfl).frozen 10;have z11:_=some (Value.int .i64 s.t1):=(hB.get 1 rfl).cell (j:=11) rfl;have ER:=(hB.get 1 rfl).frozen 11;have g2:_=some (Value.int .i64 g.target):=(hB.aj rfl).cell (j:=2) rfl;have TL:=(hB.aj rfl).frozen 2;have g3:_=some (Value.int .i64 g.turns):=(hB.aj rfl).cell (j:=3) rfl;have TM:=(hB.aj rfl).frozen 3;have hB3:aC w (wc.setCell ⟨w.heap.size+1,11,none⟩ (.int .i64 (s.t1+1))) [(dN g,23),(aQ (cT1 s),26),(fC e,41),(gB v,88),(aQ Sk.zero,26)]:=hB.set 1 rfl 11 _
    by_cases hm:g.target≤max s.s0 s.s1
    · have hm1:decide (g.target≤max s.s0 s.s1)=true:=decide_eq_true hm
      have HM:=hide (show Sk.dL g s v=(cW (cT1 s) (Sk.leader (cT1 s))) by unfold Sk.dL;rw [if_pos hst',ht'];unfold Sk.jC;rw [if_pos ⟨rfl,.inl hm⟩];rfl);have qA:=hide (And.intro hm trivial);clear hm
      go_wp2_with (first | ((with_reducible refine dh 26 5 ?_);refine dO (hE.get 1 rfl) Tryz.underlying26 ak ?_) | ((with_reducible refine dh 26 5 ?_);refine dO (hB3.get 1 rfl) Tryz.underlying26 ak ?_) | (go_at_call 187;refine (gX (cT1 s) _).mono ?_;rintro e1 w5 ⟨rfl,hb5⟩;have eH:=hB3.call (by simp) hb5;have h12:=(eH.get 1 rfl).cell (j:=12) rfl;have DZ:=(eH.get 1 rfl).frozen 12;have hE:aC w (w5.setCell ⟨w.heap.size+1,12,none⟩ (.int .i64 (Sk.leader (cT1 s)))) [(dN g,23),(aQ (cW (cT1 s) (Sk.leader (cT1 s))),26),(fC e,41),(gB v,88),(aQ Sk.zero,26)]:=eH.set 1 rfl 12 _) | ((with_reducible refine isS 26 8 59 ?_);refine iZ (hE.get 4 rfl) (aQ (cW (cT1 s) (Sk.leader (cT1 s)))) ak (bI _) ?_))
      all_goals first | (exfalso;have:=qA.out.1;omega) | skip
      all_goals
       have hZ:=hE.put 4 rfl (aQ (cW (cT1 s) (Sk.leader (cT1 s)))) rfl;refine bodyPost_ret (aP (p:=8) (hZ.get 4 rfl) Tryz.underlying26 rfl ak rfl _ rfl) rfl ⟨?_,hZ.bw⟩;rw [HM.out];rfl
    · have hm1:decide (g.target≤max s.s0 s.s1)=false:=decide_eq_false hm
      by_cases hq:s.t1+1=g.turns
      · have hq1:(s.t1+1 == g.turns)=true:=by simp [hq]
        have HM:=hide (show Sk.dL g s v=(cW (cT1 s) (Sk.leader (cT1 s))) by unfold Sk.dL;rw [if_pos hst',ht'];unfold Sk.jC;rw [if_pos ⟨rfl,.inr hq⟩];rfl);have qA:=hide (And.intro hm trivial);clear hm hq
        go_wp2_with (first | ((with_reducible refine dh 26 5 ?_);refine dO (hE.get 1 rfl) Tryz.underlying26 ak ?_) | ((with_reducible refine dh 26 5 ?_);refine dO (hB3.get 1 rfl) Tryz.underlying26 ak ?_) | (go_at_call 187;refine (gX (cT1 s) _).mono ?_;rintro e1 w5 ⟨rfl,hb5⟩;have eH:=hB3.call (by simp) hb5;have h12:=(eH.get 1 rfl).cell (j:=12) rfl;have DZ:=(eH.get 1 rfl).frozen 12;have hE:aC w (w5.setCell ⟨w.heap.size+1,12,none⟩ (.int .i64 (Sk.leader (cT1 s)))) [(dN g,23),(aQ (cW (cT1 s) (Sk.leader (cT1 s))),26),(fC e,41),(gB v,88),(aQ Sk.zero,26)]:=eH.set 1 rfl 12 _) | ((with_reducible refine isS 26 8 59 ?_);refine iZ (hE.get 4 rfl) (aQ (cW (cT1 s) (Sk.leader (cT1 s)))) ak (bI _) ?_))
        all_goals first | (exfalso;have:=qA.out.1;omega) | skip
        all_goals
         have hZ:=hE.put 4 rfl (aQ (cW (cT1 s) (Sk.leader (cT1 s)))) rfl;refine bodyPost_ret (aP (p:=8) (hZ.get 4 rfl) Tryz.underlying26 rfl ak rfl _ rfl) rfl ⟨?_,hZ.bw⟩;rw [HM.out];rfl
      · have hq1:(s.t1+1 == g.turns)=false:=by simp [hq]
        have HM:=hide (show Sk.dL g s v=(cT1 s) by unfold Sk.dL;rw [if_pos hst',ht'];unfold Sk.jC;rw [if_neg (by rintro ⟨_,h | h⟩;exact hm h;exact hq h)];rfl);have qA:=hide (And.intro hm trivial);clear hm hq
        go_wp2_with (first | ((with_reducible refine dh 26 5 ?_);refine dO (hB3.get 1 rfl) Tryz.underlying26 ak ?_) | ((with_reducible refine isS 26 8 59 ?_);refine iZ (hB3.get 4 rfl) (aQ (cT1 s)) ak (bI _) ?_))
        all_goals first | (exfalso;have:=qA.out.1;omega) | skip
        all_goals
         have hZ:=hB3.put 4 rfl (aQ (cT1 s)) rfl;refine bodyPost_ret (aP (p:=8) (hZ.get 4 rfl) Tryz.underlying26 rfl ak rfl _ rfl) rfl ⟨?_,hZ.bw⟩;rw [HM.out];rfl
  · have z1:_=some (Value.int .i64 s.s0):=(hB.get 1 rfl).cell (j:=1) rfl
    have VD:=(hB.get 1 rfl).frozen 1;have z2:_=some (Value.int .i64 s.s1):=(hB.get 1 rfl).cell (j:=2) rfl;have VE:=(hB.get 1 rfl).frozen 2;have z10:_=some (Value.int .i64 s.t0):=(hB.get 1 rfl).cell (j:=10) rfl;have EO:=(hB.get 1 rfl).frozen 10;have z11:_=some (Value.int .i64 s.t1):=(hB.get 1 rfl).cell (j:=11) rfl;have ER:=(hB.get 1 rfl).frozen 11;have g2:_=some (Value.int .i64 g.target):=(hB.aj rfl).cell (j:=2) rfl;have TL:=(hB.aj rfl).frozen 2;have g3:_=some (Value.int .i64 g.turns):=(hB.aj rfl).cell (j:=3) rfl;have TM:=(hB.aj rfl).frozen 3
    go_upto_region 4 with (fail)
    by_cases hl:s.s1<g.target
    · have hl1:decide (s.s1<g.target)=true:=decide_eq_true hl
      have HM:=hide (show Sk.dL g s v=s by unfold Sk.dL;rw [if_neg (by rw [hst'];decide),if_pos (by unfold Sk.score;rw [if_neg (by rw [ht'];decide)];exact hl)]);clear hl
      go_quiet (fail)
      have hB:=hB.drewN nq
      go_wp2_with (first | ((with_reducible refine dh 26 5 ?_);refine dO (hB.get 1 rfl) Tryz.underlying26 ak ?_) | ((with_reducible refine isS 26 8 24 ?_);refine iZ (hB.get 4 rfl) (aQ s) ak (bI _) ?_))
      all_goals
       have hZ:=hB.put 4 rfl (aQ s) rfl
      refine bodyPost_ret (aP (p:=8) (hZ.get 4 rfl) Tryz.underlying26 rfl ak rfl _ rfl) rfl ⟨?_,hZ.bw⟩;rw [HM.out];rfl
    · have hl1:decide (s.s1<g.target)=false:=decide_eq_false hl
      have hl':=hl;have HL:=hide hl;clear hl
      go_quiet (fail)
      have hB:=hB.drewN nq;clear z1 VD z2 VE z10 EO z11 ER g2 TL g3 TM
      by_cases hm:g.target≤max s.s0 s.s1
      · have hm1:decide (g.target≤max s.s0 s.s1)=true:=decide_eq_true hm
        have HM:=hide (show Sk.dL g s v=(cW (cT1 (Sk.pass s)) (Sk.leader (cT1 (Sk.pass s)))) by unfold Sk.dL;rw [if_neg (by rw [hst'];decide),if_neg (by unfold Sk.score;rw [if_neg (by rw [ht'];decide)];exact HL.out),ht'];unfold Sk.jC;rw [if_pos ⟨rfl,.inl hm⟩];rfl);have qA:=hide (And.intro hm trivial);clear hm
        go_wp2_with (first | ((with_reducible refine dh 26 5 ?_);refine dO (hE.get 1 rfl) Tryz.underlying26 ak ?_) | ((with_reducible refine dh 26 5 ?_);refine dO (hB3.get 1 rfl) Tryz.underlying26 ak ?_) | ((with_reducible refine dh 26 5 ?_);refine dO (hB.get 1 rfl) Tryz.underlying26 ak ?_) | (go_at_call 131;refine (ni s (by omega) _).mono ?_;rintro e1 w1 ⟨rfl,hb1⟩;have lC:=hB.call (by simp) hb1;have hB2:=lC.put 1 rfl (aQ (Sk.pass s)) rfl) | ((with_reducible (refine fO 26 (.tmp 5) (.tmp 26) ?lx ?_));(case lx=>rfl);refine dP (lC.get 1 rfl) (aQ (Sk.pass s)) rfl ak (bI _) rfl (.tmp 5) (.tmp 26) rfl rfl rfl ?_;obtain ⟨W2,hW2⟩:∃ W2,w1.setCells (w.heap.size+1) 0 (aQ (Sk.pass s))=W2:=⟨_,rfl⟩;rw [hW2];rw [hW2] at hB2;have z1:_=some (Value.int .i64 s.s0):=(hB2.get 1 rfl).cell (j:=1) rfl;have VD:=(hB2.get 1 rfl).frozen 1;have z2:_=some (Value.int .i64 s.s1):=(hB2.get 1 rfl).cell (j:=2) rfl;have VE:=(hB2.get 1 rfl).frozen 2;have z10:_=some (Value.int .i64 s.t0):=(hB2.get 1 rfl).cell (j:=10) rfl;have EO:=(hB2.get 1 rfl).frozen 10;have z11:_=some (Value.int .i64 s.t1):=(hB2.get 1 rfl).cell (j:=11) rfl;have ER:=(hB2.get 1 rfl).frozen 11;have g2:_=some (Value.int .i64 g.target):=(hB2.aj rfl).cell (j:=2) rfl;have TL:=(hB2.aj rfl).frozen 2;have g3:_=some (Value.int .i64 g.turns):=(hB2.aj rfl).cell (j:=3) rfl;have TM:=(hB2.aj rfl).frozen 3;have hB3:aC w (W2.setCell ⟨w.heap.size+1,11,none⟩ (.int .i64 (s.t1+1))) [(dN g,23),(aQ (cT1 (Sk.pass s)),26),(fC e,41),(gB v,88),(aQ Sk.zero,26)]:=hB2.set 1 rfl 11 _;clear hW2) | (go_at_call 187;refine (gX (cT1 (Sk.pass s)) _).mono ?_;rintro e1 w5 ⟨rfl,hb5⟩;have eH:=hB3.call (by simp) hb5;have h12:=(eH.get 1 rfl).cell (j:=12) rfl;have DZ:=(eH.get 1 rfl).frozen 12;have hE:aC w (w5.setCell ⟨w.heap.size+1,12,none⟩ (.int .i64 (Sk.leader (cT1 (Sk.pass s))))) [(dN g,23),(aQ (cW (cT1 (Sk.pass s)) (Sk.leader (cT1 (Sk.pass s)))),26),(fC e,41),(gB v,88),(aQ Sk.zero,26)]:=eH.set 1 rfl 12 _) | ((with_reducible refine isS 26 8 59 ?_);refine iZ (hE.get 4 rfl) (aQ (cW (cT1 (Sk.pass s)) (Sk.leader (cT1 (Sk.pass s))))) ak (bI _) ?_))
        all_goals first | (exfalso;have:=qA.out.1;omega) | skip
        all_goals
         have hZ:=hE.put 4 rfl (aQ (cW (cT1 (Sk.pass s)) (Sk.leader (cT1 (Sk.pass s))))) rfl;refine bodyPost_ret (aP (p:=8) (hZ.get 4 rfl) Tryz.underlying26 rfl ak rfl _ rfl) rfl ⟨?_,hZ.bw⟩;rw [HM.out];rfl
      · have hm1:decide (g.target≤max s.s0 s.s1)=false:=decide_eq_false hm
        by_cases hq:s.t1+1=g.turns
        · have hq1:(s.t1+1 == g.turns)=true:=by simp [hq]
          have HM:=hide (show Sk.dL g s v=(cW (cT1 (Sk.pass s)) (Sk.leader (cT1 (Sk.pass s)))) by unfold Sk.dL;rw [if_neg (by rw [hst'];decide),if_neg (by unfold Sk.score;rw [if_neg (by rw [ht'];decide)];exact HL.out),ht'];unfold Sk.jC;rw [if_pos ⟨rfl,.inr hq⟩];rfl);have qA:=hide (And.intro hm trivial);clear hm hq
          go_wp2_with (first | ((with_reducible refine dh 26 5 ?_);refine dO (hE.get 1 rfl) Tryz.underlying26 ak ?_) | ((with_reducible refine dh 26 5 ?_);refine dO (hB3.get 1 rfl) Tryz.underlying26 ak ?_) | ((with_reducible refine dh 26 5 ?_);refine dO (hB.get 1 rfl) Tryz.underlying26 ak ?_) | (go_at_call 131;refine (ni s (by omega) _).mono ?_;rintro e1 w1 ⟨rfl,hb1⟩;have lC:=hB.call (by simp) hb1;have hB2:=lC.put 1 rfl (aQ (Sk.pass s)) rfl) | ((with_reducible (refine fO 26 (.tmp 5) (.tmp 26) ?lx ?_));(case lx=>rfl);refine dP (lC.get 1 rfl) (aQ (Sk.pass s)) rfl ak (bI _) rfl (.tmp 5) (.tmp 26) rfl rfl rfl ?_;obtain ⟨W2,hW2⟩:∃ W2,w1.setCells (w.heap.size+1) 0 (aQ (Sk.pass s))=W2:=⟨_,rfl⟩;rw [hW2];rw [hW2] at hB2;have z1:_=some (Value.int .i64 s.s0):=(hB2.get 1 rfl).cell (j:=1) rfl;have VD:=(hB2.get 1 rfl).frozen 1;have z2:_=some (Value.int .i64 s.s1):=(hB2.get 1 rfl).cell (j:=2) rfl;have VE:=(hB2.get 1 rfl).frozen 2;have z10:_=some (Value.int .i64 s.t0):=(hB2.get 1 rfl).cell (j:=10) rfl;have EO:=(hB2.get 1 rfl).frozen 10;have z11:_=some (Value.int .i64 s.t1):=(hB2.get 1 rfl).cell (j:=11) rfl;have ER:=(hB2.get 1 rfl).frozen 11;have g2:_=some (Value.int .i64 g.target):=(hB2.aj rfl).cell (j:=2) rfl;have TL:=(hB2.aj rfl).frozen 2;have g3:_=some (Value.int .i64 g.turns):=(hB2.aj rfl).cell (j:=3) rfl;have TM:=(hB2.aj rfl).frozen 3;have hB3:aC w (W2.setCell ⟨w.heap.size+1,11,none⟩ (.int .i64 (s.t1+1))) [(dN g,23),(aQ (cT1 (Sk.pass s)),26),(fC e,41),(gB v,88),(aQ Sk.zero,26)]:=hB2.set 1 rfl 11 _;clear hW2) | (go_at_call 187;refine (gX (cT1 (Sk.pass s)) _).mono ?_;rintro e1 w5 ⟨rfl,hb5⟩;have eH:=hB3.call (by simp) hb5;have h12:=(eH.get 1 rfl).cell (j:=12) rfl;have DZ:=(eH.get 1 rfl).frozen 12;have hE:aC w (w5.setCell ⟨w.heap.size+1,12,none⟩ (.int .i64 (Sk.leader (cT1 (Sk.pass s))))) [(dN g,23),(aQ (cW (cT1 (Sk.pass s)) (Sk.leader (cT1 (Sk.pass s)))),26),(fC e,41),(gB v,88),(aQ Sk.zero,26)]:=eH.set 1 rfl 12 _) | ((with_reducible refine isS 26 8 59 ?_);refine iZ (hE.get 4 rfl) (aQ (cW (cT1 (Sk.pass s)) (Sk.leader (cT1 (Sk.pass s))))) ak (bI _) ?_))
          all_goals first | (exfalso;have:=qA.out.1;omega) | skip
          all_goals
           have hZ:=hE.put 4 rfl (aQ (cW (cT1 (Sk.pass s)) (Sk.leader (cT1 (Sk.pass s))))) rfl;refine bodyPost_ret (aP (p:=8) (hZ.get 4 rfl) Tryz.underlying26 rfl ak rfl _ rfl) rfl ⟨?_,hZ.bw⟩;rw [HM.out];rfl
        · have hq1:(s.t1+1 == g.turns)=false:=by simp [hq]
          have HM:=hide (show Sk.dL g s v=(cT1 (Sk.pass s)) by unfold Sk.dL;rw [if_neg (by rw [hst'];decide),if_neg (by unfold Sk.score;rw [if_neg (by rw [ht'];decide)];exact HL.out),ht'];unfold Sk.jC;rw [if_neg (by rintro ⟨_,h | h⟩;exact hm h;exact hq h)];rfl);have qA:=hide (And.intro hm trivial);clear hm hq
          go_wp2_with (first | ((with_reducible refine dh 26 5 ?_);refine dO (hB3.get 1 rfl) Tryz.underlying26 ak ?_) | ((with_reducible refine dh 26 5 ?_);refine dO (hB.get 1 rfl) Tryz.underlying26 ak ?_) | (go_at_call 131;refine (ni s (by omega) _).mono ?_;rintro e1 w1 ⟨rfl,hb1⟩;have lC:=hB.call (by simp) hb1;have hB2:=lC.put 1 rfl (aQ (Sk.pass s)) rfl) | ((with_reducible (refine fO 26 (.tmp 5) (.tmp 26) ?lx ?_));(case lx=>rfl);refine dP (lC.get 1 rfl) (aQ (Sk.pass s)) rfl ak (bI _) rfl (.tmp 5) (.tmp 26) rfl rfl rfl ?_;obtain ⟨W2,hW2⟩:∃ W2,w1.setCells (w.heap.size+1) 0 (aQ (Sk.pass s))=W2:=⟨_,rfl⟩;rw [hW2];rw [hW2] at hB2;have z1:_=some (Value.int .i64 s.s0):=(hB2.get 1 rfl).cell (j:=1) rfl;have VD:=(hB2.get 1 rfl).frozen 1;have z2:_=some (Value.int .i64 s.s1):=(hB2.get 1 rfl).cell (j:=2) rfl;have VE:=(hB2.get 1 rfl).frozen 2;have z10:_=some (Value.int .i64 s.t0):=(hB2.get 1 rfl).cell (j:=10) rfl;have EO:=(hB2.get 1 rfl).frozen 10;have z11:_=some (Value.int .i64 s.t1):=(hB2.get 1 rfl).cell (j:=11) rfl;have ER:=(hB2.get 1 rfl).frozen 11;have g2:_=some (Value.int .i64 g.target):=(hB2.aj rfl).cell (j:=2) rfl;have TL:=(hB2.aj rfl).frozen 2;have g3:_=some (Value.int .i64 g.turns):=(hB2.aj rfl).cell (j:=3) rfl;have TM:=(hB2.aj rfl).frozen 3;have hB3:aC w (W2.setCell ⟨w.heap.size+1,11,none⟩ (.int .i64 (s.t1+1))) [(dN g,23),(aQ (cT1 (Sk.pass s)),26),(fC e,41),(gB v,88),(aQ Sk.zero,26)]:=hB2.set 1 rfl 11 _;clear hW2) | ((with_reducible refine isS 26 8 59 ?_);refine iZ (hB3.get 4 rfl) (aQ (cT1 (Sk.pass s))) ak (bI _) ?_))
          all_goals first | (exfalso;have:=qA.out.1;omega) | skip
          all_goals
           have hZ:=hB3.put 4 rfl (aQ (cT1 (Sk.pass s))) rfl;refine bodyPost_ret (aP (p:=8) (hZ.get 4 rfl) Tryz.underlying26 rfl ak rfl _ rfl) rfl ⟨?_,hZ.bw⟩;rw [HM.out];rfl
  · have z1:_=some (Value.int .i64 s.s0):=(hB.get 1 rfl).cell (j:=1) rfl
    have VD:=(hB.get 1 rfl).frozen 1;have z2:_=some (Value.int .i64 s.s1):=(hB.get 1 rfl).cell (j:=2) rfl;have VE:=(hB.get 1 rfl).frozen 2;have z10:_=some (Value.int .i64 s.t0):=(hB.get 1 rfl).cell (j:=10) rfl;have EO:=(hB.get 1 rfl).frozen 10;have z11:_=some (Value.int .i64 s.t1):=(hB.get 1 rfl).cell (j:=11) rfl;have ER:=(hB.get 1 rfl).frozen 11;have g2:_=some (Value.int .i64 g.target):=(hB.aj rfl).cell (j:=2) rfl;have TL:=(hB.aj rfl).frozen 2;have g3:_=some (Value.int .i64 g.turns):=(hB.aj rfl).cell (j:=3) rfl;have TM:=(hB.aj rfl).frozen 3;have hB3:aC w (wc.setCell ⟨w.heap.size+1,10,none⟩ (.int .i64 (s.t0+1))) [(dN g,23),(aQ (VJ s),26),(fC e,41),(gB v,88),(aQ Sk.zero,26)]:=hB.set 1 rfl 10 _;have HM:=hide (show Sk.dL g s v=(VJ s) by unfold Sk.dL;rw [if_pos hst',ht'];rfl)
    go_wp2_with (first | ((with_reducible refine dh 26 5 ?_);refine dO (hB3.get 1 rfl) Tryz.underlying26 ak ?_) | ((with_reducible refine isS 26 8 59 ?_);refine iZ (hB3.get 4 rfl) (aQ (VJ s)) ak (bI _) ?_))
    all_goals
     have hZ:=hB3.put 4 rfl (aQ (VJ s)) rfl;refine bodyPost_ret (aP (p:=8) (hZ.get 4 rfl) Tryz.underlying26 rfl ak rfl _ rfl) rfl ⟨?_,hZ.bw⟩;rw [HM.out];rfl
theorem JI {l m:List ByteArray} {k:Nat} (hk:k<m.length):Sk.twice l (m.drop k)=decide (1<Sk.count l m[k]∨Sk.twice l (m.drop (k+1))=true):=by
 rw [List.drop_eq_getElem_cons hk,Sk.twice]
theorem uY (S:Nat→Prop) (s:Sk.State) (e:En) (w:World) (ht:s.turn=0∨s.turn=1) (he:je w S e):Calls Tryz.prog 115 #[lJ s,wC e] w fun e_ w'=>e_= .returned (.bool (Sk.pW s e.x))∧Below w.heap.size w w':=by
 go_enter Tryz.func115,Tryz.ntmps115
 go_upto_region 0 with (fail)
 go_cut [2,3,4] (fun v2 v3 v4 wx=>v2=ptr w.heap.size∧v3=ptr (w.heap.size+1)∧v4= .bool false∧aC w wx [(aQ s,26),(fC e,41)])
 case first=>
  go_wp2;go_meet;exact ⟨rfl,rfl,rfl,(((aC.nil w).new (by simp) (aQ s) _).new (by simp) (fC e) _)⟩
 case rest=>
  obtain ⟨rfl,rfl,rfl,hB⟩:=hcut;have hB0:=hB.alloc (by simp) (.cells ([Sk.dB,Sk.dH,Sk.aX].map Value.string).toArray 9);have hr3:kF (wc.alloc (.cells ([Sk.dB,Sk.dH,Sk.aX].map Value.string).toArray 9)) (fun _=>True) (some ⟨wc.heap.size,0,none⟩) 3 [Sk.dB,Sk.dH,Sk.aX]:=kF.lit wc 9 [Sk.dB,Sk.dH,Sk.aX] (by simp) _ trivial;go_wp2;obtain ⟨W0,hW0⟩:∃ W,wc.alloc (.cells ([Sk.dB,Sk.dH,Sk.aX].map Value.string).toArray 9)=W:=⟨_,rfl⟩;have hW0':wc.alloc (.cells #[.string Sk.dB,.string Sk.dH,.string Sk.aX] 9)=W0:=hW0;rw [hW0] at hB0 hr3;rw [hW0'];have hpo:=he.aV.below hB0.bw;have hhi:=he.hits.below hB0.bw;have hsz:=hB0.size (by simp)
  simp only [List.length_cons,List.length_nil] at hsz
  have hX:=hB0.get 1 rfl;have x2:=hX.cell (j:=2) rfl;have Bg:=hX.frozen 2;have x3:=hX.cell (j:=3) rfl;have zn:=hX.frozen 3
  have xX:∀ W:World,(fun w':World=>∀ p q,p<w.heap.size+2→w'.cell? ⟨p,q,none⟩=W0.cell? ⟨p,q,none⟩) W→W.rangeAt w.heap.size 0 (aQ s):=fun W h j v hj=>by rw [h _ _ (by omega)];exact (hB0.aj rfl).range j v hj
  clear hW0 hW0' hB hX
  go_loop [6,9] (fun _ i=>∃ k:Nat,k≤3∧i= .int .i64 k∧Aside (Sk.twice e.x.aV [Sk.dB,Sk.dH,Sk.aX]=Sk.twice e.x.aV ([Sk.dB,Sk.dH,Sk.aX].drop k))) (fun _ i=>3 - (intOf i).toNat)
  case atStart=>exact ⟨0,by omega,rfl,(show _=_ from rfl)⟩
  case round=>
   obtain ⟨k,hk,rfl,hx⟩:=hrel
   by_cases hlt:k<3
   · obtain ⟨bp,op,hA,_,hbp,hcp⟩:=hr3.at_ k hlt
     cases hA
     have hck:=hcp k hlt;rw [Nat.zero_add] at hck;have hst:=JI (l:=e.x.aV) (m:=[Sk.dB,Sk.dH,Sk.aX]) (k:=k) hlt;obtain ⟨b,hb⟩:∃ b,([Sk.dB,Sk.dH,Sk.aX]:List ByteArray)[k]=b:=⟨_,rfl⟩;rw [hb] at hck hst;have HX:=hide hx.out;clear hb hcp hx
     by_cases hc:1<Sk.count e.x.aV b
     · have hc1:decide (1<Sk.count e.x.aV b)=true:=decide_eq_true hc
       have HM:=hide (show Sk.pW s e.x=false by unfold Sk.pW;rw [HX.out,hst,if_pos (by simp [hc])]);clear hc hst
       go_wp2_with (first | (go_at_call 180;refine (iM S e.B e.b e.x.aV b _ hpo).mono ?_;rintro e1 w9 ⟨rfl,rfl⟩))
       go_ret;exact ⟨aI HM.out.symm,hB0.bw⟩
     · have hc1:decide (1<Sk.count e.x.aV b)=false:=decide_eq_false hc
       have HS:=hide (show Sk.twice e.x.aV ([Sk.dB,Sk.dH,Sk.aX].drop k)=Sk.twice e.x.aV ([Sk.dB,Sk.dH,Sk.aX].drop (k+1)) by rw [hst];simp [hc]);clear hc hst
       go_wp2_with (first | (go_at_call 180;refine (iM S e.B e.b e.x.aV b _ hpo).mono ?_;rintro e1 w9 ⟨rfl,rfl⟩))
       go_round
       case rel=>exact ⟨k+1,by omega,by go_num,(show _=_ from by rw [HX.out,HS.out])⟩
       case measure=>simp [intOf];omega
   · obtain rfl:k=3:=by omega
     have HM:=hide (show Sk.pW s e.x= !Sk.has e.x.hits (Sk.own s) by unfold Sk.pW;rw [hx.out,if_neg (by simp [Sk.twice])];cases Sk.has e.x.hits (Sk.own s) <;> rfl);clear hx
     go_upto_region 7 with (fail)
     refine wp_region_held_drew (S:=(fun w':World=>∀ p q,p<w.heap.size+2→w'.cell? ⟨p,q,none⟩=W0.cell? ⟨p,q,none⟩)) (by kernel_rfl) ?bU (fun hHeld=>?_)
     case bU=>exact fun p q h=>rfl
     refine aA 0 ?_;refine aA 1 ?_;refine bP 2 xX Tryz.underlying26 ?_;refine aB 3 fun K hK=>?_;go_simp
     (go_at_call 189;refine (qw s ht _).mono ?_;rintro e1 w5 ⟨rfl,hb5⟩;have hb8:Below W0.heap.size W0 w5:=⟨hb5.os,hb5.tape,hb5.output,hb5.size,hb5.block⟩)
     refine au hK (fun p q h=>hb8.cell (p:=⟨p,q,none⟩) (Nat.lt_of_lt_of_le h hsz)) fun hHeld=>?_;clear hK K;refine aB 4 fun K hK=>?_;go_simp
     (go_at_call 59;refine (gZ S e.A e.a e.x.hits (Sk.own s) _ (hhi.below hb8)).mono ?_;rintro e1 w6 ⟨rfl,rfl⟩)
     refine au hK (fun p q h=>hb8.cell (p:=⟨p,q,none⟩) (Nat.lt_of_lt_of_le h hsz)) fun hHeld=>?_;clear hK K;refine aA 5 ?_;refine aA 6 ?_;refine wpAnyH_done (by kernel_rfl) ?_ _;go_wp2;go_ret;exact ⟨aI HM.out.symm,hB0.bw.trans (hb8.mono hB0.bw.size)⟩
theorem CB (s:Sk.State) (l:List ByteArray) (w:World) (D:Nat) (hD:Held w D (aQ s) 26):Says 182 #[ptr D] l (Sk.gone s) w:=by
 refine ⟨enters_of Tryz.func182 (by kernel_rfl) rfl,fun W0 x _ hb=>?_⟩;have hS:=hD.below hb;have k4:=hS.cell (j:=4) rfl;have S9:=hS.frozen 4;have k6:=hS.cell (j:=6) rfl;have UQ:=hS.frozen 6
 show Calls Tryz.prog 182 #[.string x,ptr D] W0 fun e_ w'=>e_= .returned (.bool (Sk.gone s x))∧Below w.heap.size w w'
 by_cases h1:s.phase=Sk.bJ
 · have h11:=wt h1
   by_cases h2:2≤Sk.value x
   · have h21:decide (2≤Sk.value x)=true:=decide_eq_true h2
     have HM:=hide (show Sk.gone s x=decide (Sk.value x<s.colour) by unfold Sk.gone;simp [h1,h2]);clear h1 h2
     go_enter Tryz.func182,Tryz.ntmps182
     go_upto_region 1 with (fail)
     refine wp_region_held_drew (S:=(fun w':World=>∀ q,w'.cell? ⟨D,q,none⟩=W0.cell? ⟨D,q,none⟩)) (by kernel_rfl) ?cu (fun hHeld=>?_)
     case cu=>exact fun q=>rfl
     refine aA 0 ?_;refine aA 1 ?_;refine aA 2 ?_;refine aA 3 ?_;refine aA 4 ?_;refine aB 5 fun K hK=>?_;go_simp
     (go_at_call 137;refine (dS _ _).mono ?_;rintro e1 w5 ⟨rfl,hb5⟩;have hb8:Below W0.heap.size W0 w5:=⟨hb5.os,hb5.tape,hb5.output,hb5.size,hb5.block⟩)
     refine au hK (fun q=>hb8.cell (p:=⟨D,q,none⟩) hS.lt) fun hHeld=>?_;clear hK K;refine aA 6 ?_;refine aA 7 ?_;refine aA 8 ?_;refine aA 9 ?_;refine aA 11 ?_;refine aA 12 ?_;refine aB 10 fun K hK=>?_;go_simp
     (go_at_call 137;refine (dS _ _).mono ?_;rintro e1 w6 ⟨rfl,hb6⟩;have xU:=hb8.trans (hb6.mono hb8.size))
     refine au hK (fun q=>xU.cell (p:=⟨D,q,none⟩) hS.lt) fun hHeld=>?_;clear hK K;refine aA 13 ?_;refine aA 14 ?_;refine aA 15 ?_;refine wpAnyH_done (by kernel_rfl) ?_ _;go_wp2;go_ret;exact ⟨aI HM.out.symm,hb.trans (xU.mono hb.size)⟩
   · have h21:decide (2≤Sk.value x)=false:=decide_eq_false h2
     have HM:=hide (show Sk.gone s x=false by unfold Sk.gone;simp [h1,h2]);clear h1 h2
     go_enter Tryz.func182,Tryz.ntmps182
     go_upto_region 1 with (fail)
     refine wp_region_held_drew (S:=(fun w':World=>∀ q,w'.cell? ⟨D,q,none⟩=W0.cell? ⟨D,q,none⟩)) (by kernel_rfl) ?dF (fun hHeld=>?_)
     case dF=>exact fun q=>rfl
     refine aA 0 ?_;refine aA 1 ?_;refine aA 2 ?_;refine aA 3 ?_;refine aA 4 ?_;refine aB 5 fun K hK=>?_;go_simp
     (go_at_call 137;refine (dS _ _).mono ?_;rintro e1 w5 ⟨rfl,hb5⟩;have hb8:Below W0.heap.size W0 w5:=⟨hb5.os,hb5.tape,hb5.output,hb5.size,hb5.block⟩)
     refine au hK (fun q=>hb8.cell (p:=⟨D,q,none⟩) hS.lt) fun hHeld=>?_;clear hK K;refine aA 6 ?_;refine aA 7 ?_;refine aA 8 ?_;refine iE 9 ?_;refine iE 10 ?_;refine iE 11 ?_;refine iE 12 ?_;refine iE 13 ?_;refine aA 14 ?_;refine aA 15 ?_;refine wpAnyH_done (by kernel_rfl) ?_ _;go_wp2;go_ret;exact ⟨aI HM.out.symm,hb.trans (hb8.mono hb.size)⟩
 · have h11:=wf h1
   have HM:=hide (show Sk.gone s x=false by unfold Sk.gone;simp [h1]);clear h1
   go_enter Tryz.func182,Tryz.ntmps182
   go_upto_region 1 with (fail)
   refine wp_region_held_drew (S:=(fun w':World=>∀ q,w'.cell? ⟨D,q,none⟩=W0.cell? ⟨D,q,none⟩)) (by kernel_rfl) ?iK (fun hHeld=>?_)
   case iK=>exact fun q=>rfl
   refine aA 0 ?_;refine aA 1 ?_;refine aA 2 ?_;refine aA 3 ?_;refine iE 4 ?_;refine iE 5 ?_;refine iE 6 ?_;refine aA 7 ?_;refine aA 8 ?_;refine iE 9 ?_;refine iE 10 ?_;refine iE 11 ?_;refine iE 12 ?_;refine iE 13 ?_;refine aA 14 ?_;refine aA 15 ?_;refine wpAnyH_done (by kernel_rfl) ?_ _;go_wp2;go_ret;exact ⟨aI HM.out.symm,below_drewN hb 1⟩
theorem FQ (k:Nat) (hk:k<8) (W:World):(Instr.index 238 (.agg #[.string Sk.dB,.string Sk.aX,.string Sk.dH,.string Sk.wH,.string Sk.wG,.string Sk.BZ,.string Sk.iw,.string Sk.bf]) (.int .i64 (k:Int))).run Tryz.prog W= .ok (.string (Sk.dX[k]'hk)) W:=by
 obtain rfl | rfl | rfl | rfl | rfl | rfl | rfl | rfl:k=0∨k=1∨k=2∨k=3∨k=4∨k=5∨k=6∨k=7:=by omega
 all_goals kernel_rfl
def others (k:Nat):List ByteArray:=(Sk.dX.drop k).filter (· ≠Sk.aX)
theorem Gl {l:List ByteArray} {k:Nat} (hk:k<8):Sk.twice l (others k)=decide ((Sk.dX[k]'hk≠Sk.aX∧1<Sk.count l (Sk.dX[k]'hk))∨Sk.twice l (others (k+1))=true):=by
 obtain ⟨b,hb⟩:∃ b,Sk.dX[k]'hk=b:=⟨_,rfl⟩
 have hd:Sk.dX.drop k=b::Sk.dX.drop (k+1):=by rw [List.drop_eq_getElem_cons (show k<Sk.dX.length from hk)];exact congrArg (· ::_) hb
 simp only [hb]
 unfold others
 rw [hd]
 by_cases h:b=Sk.aX
 · rw [List.filter_cons_of_neg (by simp [h])];simp [h]
 · rw [List.filter_cons_of_pos (by simp [h]),Sk.twice];simp [h]
def oI (s:Sk.State) (e:Sk.Entry):Bool:=decide (s.aW<Sk.count e.aV Sk.aX∨(s.aW=0∧Sk.has e.hits Sk.aX=true))
theorem uJ (s:Sk.State) (e:Sk.Entry):Sk.eu s e=if oI s e then false else if Sk.twice e.aV (others 0) then false else decide (e.hits.any (Sk.gone s)=false∧e.aV.any (Sk.gone s)=false):=by
 unfold Sk.eu oI others
 simp only [decide_eq_true_eq]
 rfl
theorem xB (S:Nat→Prop) (s:Sk.State) (e:En) (w:World) (he:je w S e):Calls Tryz.prog 110 #[lJ s,wC e] w fun e_ w'=>e_= .returned (.bool (Sk.eu s e.x))∧Below w.heap.size w w':=by
 go_enter Tryz.func110,Tryz.ntmps110
 go_upto_region 0 with (fail)
 go_cut [2,3,4] (fun v2 v3 v4 wx=>v2=ptr w.heap.size∧v3=ptr (w.heap.size+1)∧v4= .bool false∧aC w wx [(aQ s,26),(fC e,41)])
 case first=>
  go_wp2;go_meet;exact ⟨rfl,rfl,rfl,(((aC.nil w).new (by simp) (aQ s) _).new (by simp) (fC e) _)⟩
 case rest=>
  obtain ⟨rfl,rfl,rfl,hB⟩:=hcut;have hpo:=he.aV.below hB.bw;have hhi:=he.hits.below hB.bw;have hsz:=hB.size (by simp)
  simp only [List.length_cons,List.length_nil] at hsz
  have hX:=hB.get 1 rfl;have hS:=hB.aj rfl;have x2:=hX.cell (j:=2) rfl;have Bg:=hX.frozen 2;have x3:=hX.cell (j:=3) rfl;have zn:=hX.frozen 3;have s5:=hS.cell (j:=5) rfl;have sf5:=hS.frozen 5
  go_upto_region 1 with (fail)
  go_cut [23] (fun v wx=>v= .bool (oI s e.x)∧aC w wx [(aQ s,26),(fC e,41)])
  case first=>
   by_cases hc:s.aW<Sk.count e.x.aV Sk.aX
   · have hc1:decide (s.aW<Sk.count e.x.aV Sk.aX)=true:=decide_eq_true hc
     have HC:=hide hc;clear hc;refine wp_region_held_drew (S:=(fun w':World=>∀ p q,p<w.heap.size+2→w'.cell? ⟨p,q,none⟩=wc.cell? ⟨p,q,none⟩)) (by kernel_rfl) ?bU (fun hHeld=>?_)
     case bU=>exact fun p q h=>rfl
     refine tk 0 ?_;refine tk 1 ?_;refine tk 3 ?_;refine tk 4 ?_;refine tr 2 fun K hK=>?_;go_simp
     (go_at_call 180;refine (iM S e.B e.b e.x.aV Sk.aX _ (hpo.drewN 1)).mono ?_;rintro e1 w9 ⟨rfl,rfl⟩)
     refine hK.out _ _ ?Gt (fun hHeld=>?_)
     case Gt=>(exact fun p q h=>rfl)
     clear hK K
     try simp only [Act.put,la,lz,ls]
     refine tk 5 ?_;refine tk 6 ?_;refine tu 7 ?_;refine tu 8 ?_;refine tu 9 ?_;refine tu 10 ?_;refine tu 11 ?_;refine tu 12 ?_;refine tu 13 ?_;refine tu 14 ?_;refine tk 15 ?_;refine wpAnyH_done (by kernel_rfl) ?_ _;go_wp2;go_meet;exact ⟨dK (by unfold oI;have h:=HC.out;simp [h]),hB.drew⟩
   · have hc1:decide (s.aW<Sk.count e.x.aV Sk.aX)=false:=decide_eq_false hc
     have HC:=hide hc;clear hc
     by_cases h0:s.aW=0
     · have h01:(s.aW == 0)=true:=by simp [h0]
       have VH:=hide h0;clear h0;have hhr:=fun W=>(show Calls Tryz.prog 59 #[.slice e.A e.x.hits.length e.a,.string Sk.aX] (wc.drewN W) fun e1 w'=>e1= .returned (.bool (Sk.has e.x.hits Sk.aX))∧wc.drewN W=w' from gZ S e.A e.a e.x.hits Sk.aX _ (hhi.drewN W));obtain ⟨yr,hyr⟩:∃ y,Sk.has e.x.hits Sk.aX=y:=⟨_,rfl⟩
       simp only [hyr] at hhr
       have HHR:=hide hhr;have HYR:=hide hyr;clear hhr hyr;refine wp_region_held_drew (S:=(fun w':World=>∀ p q,p<w.heap.size+2→w'.cell? ⟨p,q,none⟩=wc.cell? ⟨p,q,none⟩)) (by kernel_rfl) ?cu (fun hHeld=>?_)
       case cu=>exact fun p q h=>rfl
       refine tk 0 ?_;refine tk 1 ?_;refine tk 3 ?_;refine tk 4 ?_;refine tr 2 fun K hK=>?_;go_simp
       (go_at_call 180;refine (iM S e.B e.b e.x.aV Sk.aX _ (hpo.drewN 1)).mono ?_;rintro e1 w9 ⟨rfl,rfl⟩)
       refine hK.out _ _ ?Ag (fun hHeld=>?_)
       case Ag=>(exact fun p q h=>rfl)
       clear hK K
       try simp only [Act.put,la,lz,ls]
       refine tk 5 ?_;refine tk 6 ?_;refine tk 7 ?_;refine tk 8 ?_;refine tk 9 ?_;refine tk 10 ?_;refine tk 11 ?_;refine tk 12 ?_;refine tr 13 fun K hK=>?_;go_simp
       (go_at_call 59;refine (HHR.out 1).mono ?_;rintro e1 w9 ⟨rfl,rfl⟩)
       refine hK.out _ _ ?X3 (fun hHeld=>?_)
       case X3=>(exact fun p q h=>rfl)
       clear hK K
       try simp only [Act.put,la,lz,ls]
       refine tk 14 ?_;refine tk 15 ?_;refine wpAnyH_done (by kernel_rfl) ?_ _;go_wp2;go_meet;exact ⟨dK (by unfold oI;have h1:=HC.out;have h2:=VH.out;have h3:=HYR.out;simp [h2,h3];omega),hB.drew⟩
     · have h01:(s.aW == 0)=false:=by simp [h0]
       have VH:=hide h0;clear h0;refine wp_region_held_drew (S:=(fun w':World=>∀ p q,p<w.heap.size+2→w'.cell? ⟨p,q,none⟩=wc.cell? ⟨p,q,none⟩)) (by kernel_rfl) ?dF (fun hHeld=>?_)
       case dF=>exact fun p q h=>rfl
       refine tk 0 ?_;refine tk 1 ?_;refine tk 3 ?_;refine tk 4 ?_;refine tr 2 fun K hK=>?_;go_simp
       (go_at_call 180;refine (iM S e.B e.b e.x.aV Sk.aX _ (hpo.drewN 1)).mono ?_;rintro e1 w9 ⟨rfl,rfl⟩)
       refine hK.out _ _ ?Gv (fun hHeld=>?_)
       case Gv=>(exact fun p q h=>rfl)
       clear hK K
       try simp only [Act.put,la,lz,ls]
       refine tk 5 ?_;refine tk 6 ?_;refine tk 7 ?_;refine tk 8 ?_;refine tk 9 ?_;refine tk 10 ?_;refine tu 11 ?_;refine tu 12 ?_;refine tu 13 ?_;refine tk 14 ?_;refine tk 15 ?_;refine wpAnyH_done (by kernel_rfl) ?_ _;go_wp2;go_meet;exact ⟨dK (by unfold oI;have h1:=HC.out;have h2:=VH.out;simp [h2];omega),hB.drew⟩
  case rest=>
   obtain ⟨rfl,hB1⟩:=hcut;have hB:=hB1;clear hB1 hX hS x2 Bg x3 zn s5 sf5 hpo hhi hsz;obtain ⟨yb,hyb⟩:∃ y,oI s e.x=y:=⟨_,rfl⟩;have YF:=hide hyb;rw [hyb];clear hyb
   cases yb with
   | true=>
     have HM:=hide (show Sk.eu s e.x=false by rw [uJ,YF.out];rfl);go_wp2;go_ret;exact ⟨aI HM.out.symm,hB.bw⟩
   | false=>
     go_upto_region 3 with (fail)
     go_cut [24,25] (fun v24 v25 wx=>v24= .agg #[.string Sk.dB,.string Sk.aX,.string Sk.dH,.string Sk.wH,.string Sk.wG,.string Sk.BZ,.string Sk.iw,.string Sk.bf]∧v25= .int .i64 0∧aC w wx [(aQ s,26),(fC e,41)])
     case first=>
      go_wp2_with (first | (go_at_call 181;refine (pz _).mono ?_;rintro e1 w1 ⟨rfl,hb1⟩;have hB2:=hB.call (by simp) hb1))
      go_meet;exact ⟨rfl,rfl,hB2⟩
     case rest=>
      obtain ⟨rfl,rfl,hB1⟩:=hcut;have jP:=hB1;clear hB1 hB;have ZC:=he.aV.below jP.bw;have hX:=jP.get 1 rfl;have x2:=hX.cell (j:=2) rfl;have Bg:=hX.frozen 2;have x3:=hX.cell (j:=3) rfl;have zn:=hX.frozen 3;go_wp2
      go_loop [6,25] (fun _ i=>∃ k:Nat,k≤8∧i= .int .i64 k∧Aside (Sk.twice e.x.aV (others 0)=Sk.twice e.x.aV (others k))) (fun _ i=>8 - (intOf i).toNat)
      case atStart=>exact ⟨0,by omega,rfl,(show _=_ from rfl)⟩
      case round=>
       obtain ⟨k,hk,rfl,hx⟩:=hrel
       by_cases hlt:k<8
       · have hix:=FQ k hlt
         have hst:=Gl (l:=e.x.aV) hlt;obtain ⟨b,hb⟩:∃ b,Sk.dX[k]'hlt=b:=⟨_,rfl⟩;rw [hb] at hst
         simp only [hb] at hix
         have HX:=hide hx.out;clear hb hx
         by_cases hr:b=Sk.aX
         · have hr1:=wt hr
           have hr2:(b.toList != [114,101,100])=false:=by rw [bne,hr1];rfl
           have HS:=hide (show Sk.twice e.x.aV (others k)=Sk.twice e.x.aV (others (k+1)) by rw [hst];simp [hr]);clear hr hst;go_wp2
           go_round
           case rel=>exact ⟨k+1,by omega,by go_num,(show _=_ from by rw [HX.out,HS.out])⟩
           case measure=>simp [intOf];omega
         · have hr1:=wf hr
           have hr2:(b.toList != [114,101,100])=true:=by rw [bne,hr1];rfl
           by_cases hc:1<Sk.count e.x.aV b
           · have hc1:decide (1<Sk.count e.x.aV b)=true:=decide_eq_true hc
             have HM:=hide (show Sk.eu s e.x=false by rw [uJ,YF.out,HX.out,hst];simp [hr,hc]);clear hc hst hr
             go_wp2_with (first | (go_at_call 180;refine (iM S e.B e.b e.x.aV b _ ZC).mono ?_;rintro e1 w9 ⟨rfl,rfl⟩))
             go_ret;exact ⟨aI HM.out.symm,jP.bw⟩
           · have hc1:decide (1<Sk.count e.x.aV b)=false:=decide_eq_false hc
             have HS:=hide (show Sk.twice e.x.aV (others k)=Sk.twice e.x.aV (others (k+1)) by rw [hst];simp [hc]);clear hc hst hr
             go_wp2_with (first | (go_at_call 180;refine (iM S e.B e.b e.x.aV b _ ZC).mono ?_;rintro e1 w9 ⟨rfl,rfl⟩))
             go_round
             case rel=>exact ⟨k+1,by omega,by go_num,(show _=_ from by rw [HX.out,HS.out])⟩
             case measure=>simp [intOf];omega
       · obtain rfl:k=8:=by omega
         have hg1:=fun W (hb:Below w.heap.size w W) (hD:Held W w.heap.size (aQ s) 26)=>og S e.A e.a e.x.hits _ _ (Sk.gone s) W (he.hits.below hb) (CB s e.x.hits W w.heap.size hD);have hg2:=fun W (hb:Below w.heap.size w W) (hD:Held W w.heap.size (aQ s) 26)=>og S e.B e.b e.x.aV _ _ (Sk.gone s) W (he.aV.below hb) (CB s e.x.aV W w.heap.size hD);obtain ⟨y1,hy1⟩:∃ y,e.x.hits.any (Sk.gone s)=y:=⟨_,rfl⟩;obtain ⟨y2,hy2⟩:∃ y,e.x.aV.any (Sk.gone s)=y:=⟨_,rfl⟩;have HM:=hide (show Sk.eu s e.x=(!y1 && !y2) by rw [uJ,YF.out,hx.out,hy1,hy2,show Sk.twice e.x.aV (others 8)=false from rfl];cases y1 <;> cases y2 <;> rfl)
         simp only [hy1] at hg1
         simp only [hy2] at hg2
         have HG1:=hide hg1;have HG2:=hide hg2;clear hg1 hg2 hy1 hy2 hx
         cases y1
         all_goals
          go_wp2_with (first | (go_at_call_of 134 (Value.slice e.A e.x.hits.length e.a);refine (HG1.out _ jP.bw (jP.aj rfl)).mono ?_;rintro e1 w5 ⟨rfl,hb5⟩;have jP:=jP.call (by simp) hb5;have hX:=jP.get 1 rfl;have x3:=hX.cell (j:=3) rfl;have zn:=hX.frozen 3) | (go_at_call_of 134 (Value.slice e.B e.x.aV.length e.b);refine (HG2.out _ jP.bw (jP.aj rfl)).mono ?_;rintro e1 w5 ⟨rfl,hb5⟩;have jP:=jP.call (by simp) hb5;have hX:=jP.get 1 rfl;have x3:=hX.cell (j:=3) rfl;have zn:=hX.frozen 3))
          go_ret;exact ⟨aI (by rw [HM.out];simp),jP.bw⟩
end Go.Proofs.YtcbmedfongiojaaGreatDoor
