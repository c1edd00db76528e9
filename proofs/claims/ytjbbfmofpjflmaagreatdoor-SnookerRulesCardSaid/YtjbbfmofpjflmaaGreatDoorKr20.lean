/- Parts of a proof. -/
import Derived.Test.YtjbbfmofpjflmaaGreatDoorKr14
set_option maxHeartbeats 4000000
set_option maxRecDepth 100000
set_option linter.unusedVariables false
set_option linter.unusedSimpArgs false
namespace Go.Proofs.YtjbbfmofpjflmaaGreatDoor
open Go.RowKit
theorem LY (k:ByteArray):Sk.has [Sk.cO,Sk.gu,Sk.iI,Sk.fJ] k=Sk.isKind k:=by
 unfold Sk.has Sk.isKind
 rw [Bool.eq_iff_iff]
 simp only [List.any_cons,List.any_nil,Bool.or_false,Bool.or_eq_true,decide_eq_true_eq,eq_comm (b:=k)]
def rY (g:Sk.Game) (e:Sk.Entry):Bool:=decide (e.called≠Sk.bU∧Sk.value e.called<2) || e.hits.any (fun b=>Sk.dZ g b true=false) || e.aF.any (fun b=>Sk.dZ g b false=false)
def gq (g:Sk.Game) (e:Sk.Entry):Bool:=decide ((g.kind≠Sk.aK∧e.called≠Sk.bU)∨(g.kind=Sk.fC∧0<e.aF.length)∨(g.kind≠Sk.fC∧e.aX≠0))
theorem OJ (g:Sk.Game) (e:Sk.Entry) (h1:Sk.isKind e.kind=true) (h2:e.kind=Sk.cO) (h3:¬ (22<e.hits.length∨22<e.aF.length)):Sk.dH g e=fst [jg (rY g e) 10,jg (Sk.out e.aX 0 99) 3,jg (gq g e) 1]:=by
 unfold Sk.dH
 rw [if_neg (by rw [h1];decide),if_neg (by simpa using h2),if_neg h3]
 have hu:((e.called≠Sk.bU∧Sk.value e.called<2)∨e.hits.any (fun b=>Sk.dZ g b true=false)=true∨e.aF.any (fun b=>Sk.dZ g b false=false)=true)↔rY g e=true:=by
  unfold rY
  simp only [Bool.or_eq_true,decide_eq_true_eq,or_assoc]
 have hf:((g.kind≠Sk.aK∧e.called≠Sk.bU)∨(g.kind=Sk.fC∧0<e.aF.length)∨(g.kind≠Sk.fC∧e.aX≠0))↔gq g e=true:=by
  unfold gq
  rw [decide_eq_true_eq]
 simp only [hu,hf]
 cases rY g e <;> cases Sk.out e.aX 0 99 <;> cases gq g e <;> rfl
theorem uF (S:Nat→Prop) (g:Sk.Game) (e:En) (w:World) (he:iL w S e):Calls Tryz.prog 72 #[lX g,rU e] w fun e_ w'=>e_= .returned (.int .i64 (Sk.dH g e.x))∧Below w.heap.size w w':=by
 obtain ⟨p1,p2,p3⟩:=he.hits.bd;obtain ⟨p4,p5,p6⟩:=he.aF.bd
 go_enter Tryz.func72,Tryz.ntmps72
 go_upto_region 0 with (fail)
 go_cut [2,3,4] (fun v2 v3 v4 wx=>v2=ptr w.heap.size∧v3=ptr (w.heap.size+1)∧v4= .int .i64 0∧aG w wx [(bK g,23),(dn e,83)])
 case first=>
  go_wp2;go_meet;exact ⟨rfl,rfl,rfl,(((aG.nil w).new (by simp) (bK g) _).new (by simp) (dn e) _)⟩
 case rest=>
  obtain ⟨rfl,rfl,rfl,hB⟩:=hcut;have hX:=hB.get 1 rfl;have k0:=hX.cell (j:=0) rfl;have K0:=hB.keeps 2 rfl (by omega)
  go_upto_region 1 with (fail)
  go_cut [12] (fun v wx=>v= .bool (!Sk.isKind e.x.kind)∧aG w wx [(bK g,23),(dn e,83)])
  case first=>
   go_region_held3 (fun w':World=>∀ p q,p<w.heap.size+2→w'.cell? ⟨p,q,none⟩=wc.cell? ⟨p,q,none⟩) (first | exact K0.cell | exact (K0.drew.alloc _).cell) (first | (go_at_call 123;refine (MF _).mono ?_;rintro e1 w1 ⟨rfl,rfl⟩) | (go_at_call 68;refine (iF (fun _=>True) _ 4 [Sk.cO,Sk.gu,Sk.iI,Sk.fJ] e.x.kind _ (lQ.lit wc.drew 9 [Sk.cO,Sk.gu,Sk.iI,Sk.fJ] (by simp) _ trivial)).mono ?_;rintro e1 w1 ⟨rfl,rfl⟩))
   go_wp2;go_meet;exact ⟨dO (by rw [LY]),hB.drew.alloc (by simp) _⟩
  case rest=>
   obtain ⟨rfl,hB1⟩:=hcut;clear hX k0 K0 hB;have hB:=hB1;clear hB1;have hX:=hB.get 1 rfl;have hG:=hB.au rfl;have x0:=hX.cell (j:=0) rfl;have xf0:=hX.frozen 0;have x1:=hX.cell (j:=1) rfl;have xf1:=hX.frozen 1;have x2:=hX.cell (j:=2) rfl;have CO:=hX.frozen 2;have x3:=hX.cell (j:=3) rfl;have Aa:=hX.frozen 3;have x4:=hX.cell (j:=4) rfl;have xf4:=hX.frozen 4;have g0:=hG.cell (j:=0) rfl;have ZY:=hG.frozen 0
   cases hk:Sk.isKind e.x.kind with
   | false=>
     have qJ:=hide (show Sk.dH g e.x=13 by unfold Sk.dH;rw [if_pos hk]);clear hk;go_wp2;go_ret;exact ⟨aV qJ.out.symm,hB.bw⟩
   | true=>
     by_cases hs:e.x.kind=Sk.cO
     · have hs1:=wt hs
       have hs2:(e.x.kind.toList != [115,104,111,116])=false:=by rw [bne,hs1];rfl
       by_cases hl:22<(e.x.hits.length:Int)
       · have hl1:decide (22<(e.x.hits.length:Int))=true:=decide_eq_true hl
         have qJ:=hide (show Sk.dH g e.x=5 by unfold Sk.dH;rw [if_neg (by rw [hk];decide),if_neg (by simpa using hs),if_pos (.inl (by omega))]);clear hk hs hl;go_wp2;go_ret;exact ⟨aV qJ.out.symm,hB.bw⟩
       · have hl1:decide (22<(e.x.hits.length:Int))=false:=decide_eq_false hl
         by_cases hm:22<(e.x.aF.length:Int)
         · have hm1:decide (22<(e.x.aF.length:Int))=true:=decide_eq_true hm
           have qJ:=hide (show Sk.dH g e.x=5 by unfold Sk.dH;rw [if_neg (by rw [hk];decide),if_neg (by simpa using hs),if_pos (.inr (by omega))]);clear hk hs hl hm;go_wp2;go_ret;exact ⟨aV qJ.out.symm,hB.bw⟩
         · have hm1:decide (22<(e.x.aF.length:Int))=false:=decide_eq_false hm
           have qJ:=hide (OJ g e.x hk hs (by omega));clear hk hs hl hm;have hbD:=hB.bw;have hwh:=fun W (hb:Below wc.heap.size wc W)=>Ec S g true e.x.hits e.A e.a W w.heap.size ((hB.au rfl).below hb) ((he.hits.below hbD).below hb);have hwp:=fun W (hb:Below wc.heap.size wc W)=>Ec S g false e.x.aF e.B e.b W w.heap.size ((hB.au rfl).below hb) ((he.aF.below hbD).below hb);obtain ⟨yh,WL⟩:∃ y,e.x.hits.any (fun b=>Sk.dZ g b true=false)=y:=⟨_,rfl⟩;obtain ⟨yp,hyp⟩:∃ y,e.x.aF.any (fun b=>Sk.dZ g b false=false)=y:=⟨_,rfl⟩
           simp only [WL] at hwh
           simp only [hyp] at hwp
           have HWH:=hide hwh;have HWP:=hide hwp;have Xm:=hide WL;have HYP:=hide hyp;clear hwh hwp WL hyp;have hb8:Below wc.heap.size wc wc:=Below.refl _ _;have hl0:w.heap.size<wc.heap.size:=(hB.au rfl).lt;have hl1:w.heap.size+1<wc.heap.size:=(hB.get 1 rfl).lt
           go_upto_region 8 with (fail)
           go_cut [5,6] (fun v5 v wx=>v5= .func (.func 124) #[] #[ptr w.heap.size]∧v= .bool (rY g e.x)∧Below wc.heap.size wc wx)
           case first=>
            by_cases h4:e.x.called=Sk.bU
            · have LP:=wt h4
              cases yh
              all_goals
               have HH:=hide (And.intro h4 trivial);clear h4
               go_wp2_with (first | (go_at_call 90;refine (dY _ _).mono ?_;rintro e1 w1 ⟨rfl,hb1⟩;have hb8:=hb8.trans (hb1.mono hb8.size);have hB:=hB.call (by simp) hb1;have hX:=hB.get 1 rfl;have x2:=hX.cell (j:=2) rfl;have CO:=hX.frozen 2;have x3:=hX.cell (j:=3) rfl;have Aa:=hX.frozen 3) | (go_at_call_of 124 (Value.slice e.A e.x.hits.length e.a);refine (HWH.out _ hb8).mono ?_;rintro e1 w1 ⟨rfl,hb1⟩;have hb8:=hb8.trans (hb1.mono hb8.size);have hB:=hB.call (by simp) hb1;have hX:=hB.get 1 rfl;have x2:=hX.cell (j:=2) rfl;have CO:=hX.frozen 2;have x3:=hX.cell (j:=3) rfl;have Aa:=hX.frozen 3) | (go_at_call_of 124 (Value.slice e.B e.x.aF.length e.b);refine (HWP.out _ hb8).mono ?_;rintro e1 w1 ⟨rfl,hb1⟩;have hb8:=hb8.trans (hb1.mono hb8.size);have hB:=hB.call (by simp) hb1;have hX:=hB.get 1 rfl;have x2:=hX.cell (j:=2) rfl;have CO:=hX.frozen 2;have x3:=hX.cell (j:=3) rfl;have Aa:=hX.frozen 3))
               go_meet;exact ⟨rfl,dO (by have hh1:=Xm.out;have hh2:=HYP.out;obtain ⟨h4,_⟩:=HH.out;unfold rY;rw [hh1,hh2];first | (simp [if_true,h4];done) | (simp [if_true,h4];omega) | (rw [Bool.eq_iff_iff];simp [if_true,h4];omega)),hb8⟩
            · have LM:=wf h4
              by_cases h5:Sk.value e.x.called<2
              · have UK:=(show decide (Sk.value e.x.called<2)=true from decide_eq_true h5)
                have HH:=hide (And.intro h4 (And.intro h5 trivial));clear h4 h5
                go_wp2_with (first | (go_at_call 90;refine (dY _ _).mono ?_;rintro e1 w1 ⟨rfl,hb1⟩;have hb8:=hb8.trans (hb1.mono hb8.size);have hB:=hB.call (by simp) hb1;have hX:=hB.get 1 rfl;have x2:=hX.cell (j:=2) rfl;have CO:=hX.frozen 2;have x3:=hX.cell (j:=3) rfl;have Aa:=hX.frozen 3) | (go_at_call_of 124 (Value.slice e.A e.x.hits.length e.a);refine (HWH.out _ hb8).mono ?_;rintro e1 w1 ⟨rfl,hb1⟩;have hb8:=hb8.trans (hb1.mono hb8.size);have hB:=hB.call (by simp) hb1;have hX:=hB.get 1 rfl;have x2:=hX.cell (j:=2) rfl;have CO:=hX.frozen 2;have x3:=hX.cell (j:=3) rfl;have Aa:=hX.frozen 3) | (go_at_call_of 124 (Value.slice e.B e.x.aF.length e.b);refine (HWP.out _ hb8).mono ?_;rintro e1 w1 ⟨rfl,hb1⟩;have hb8:=hb8.trans (hb1.mono hb8.size);have hB:=hB.call (by simp) hb1;have hX:=hB.get 1 rfl;have x2:=hX.cell (j:=2) rfl;have CO:=hX.frozen 2;have x3:=hX.cell (j:=3) rfl;have Aa:=hX.frozen 3))
                go_meet;exact ⟨rfl,dO (by have hh1:=Xm.out;have hh2:=HYP.out;obtain ⟨h4,h5,_⟩:=HH.out;unfold rY;rw [hh1,hh2];first | (simp [if_true,h4,h5];done) | (simp [if_true,h4,h5];omega) | (rw [Bool.eq_iff_iff];simp [if_true,h4,h5];omega)),hb8⟩
              · have UJ:=(show decide (Sk.value e.x.called<2)=false from decide_eq_false h5)
                cases yh
                all_goals
                 have HH:=hide (And.intro h4 (And.intro h5 trivial));clear h4 h5
                 go_wp2_with (first | (go_at_call 90;refine (dY _ _).mono ?_;rintro e1 w1 ⟨rfl,hb1⟩;have hb8:=hb8.trans (hb1.mono hb8.size);have hB:=hB.call (by simp) hb1;have hX:=hB.get 1 rfl;have x2:=hX.cell (j:=2) rfl;have CO:=hX.frozen 2;have x3:=hX.cell (j:=3) rfl;have Aa:=hX.frozen 3) | (go_at_call_of 124 (Value.slice e.A e.x.hits.length e.a);refine (HWH.out _ hb8).mono ?_;rintro e1 w1 ⟨rfl,hb1⟩;have hb8:=hb8.trans (hb1.mono hb8.size);have hB:=hB.call (by simp) hb1;have hX:=hB.get 1 rfl;have x2:=hX.cell (j:=2) rfl;have CO:=hX.frozen 2;have x3:=hX.cell (j:=3) rfl;have Aa:=hX.frozen 3) | (go_at_call_of 124 (Value.slice e.B e.x.aF.length e.b);refine (HWP.out _ hb8).mono ?_;rintro e1 w1 ⟨rfl,hb1⟩;have hb8:=hb8.trans (hb1.mono hb8.size);have hB:=hB.call (by simp) hb1;have hX:=hB.get 1 rfl;have x2:=hX.cell (j:=2) rfl;have CO:=hX.frozen 2;have x3:=hX.cell (j:=3) rfl;have Aa:=hX.frozen 3))
                 go_meet;exact ⟨rfl,dO (by have hh1:=Xm.out;have hh2:=HYP.out;obtain ⟨h4,h5,_⟩:=HH.out;unfold rY;rw [hh1,hh2];first | (simp [if_true,h4,h5];done) | (simp [if_true,h4,h5];omega) | (rw [Bool.eq_iff_iff];simp [if_true,h4,h5];omega)),hb8⟩
           case rest=>
            obtain ⟨rfl,rfl,zq⟩:=hcut;have XQ:=(hB.get 1 rfl).below zq;have hG9:=(hB.au rfl).below zq;have kC:=hB.call (by simp) zq;clear x0 xf0 x1 xf1 x2 CO x3 Aa x4 xf4 g0 ZY;have x1:=XQ.cell (j:=1) rfl;have xf1:=XQ.frozen 1;have x3:=XQ.cell (j:=3) rfl;have Aa:=XQ.frozen 3;have x4:=XQ.cell (j:=4) rfl;have xf4:=XQ.frozen 4;have g0:=hG9.cell (j:=0) rfl;have ZY:=hG9.frozen 0;have hl0:w.heap.size<wc.heap.size:=hG9.lt;have hl1:w.heap.size+1<wc.heap.size:=XQ.lt
            go_upto_region 9 with (fail)
            go_cut [7] (fun v wx=>v= .bool (gq g e.x)∧wx=wc)
            case first=>
             by_cases h6:g.kind=Sk.aK
             · have UM:=wt h6
               by_cases h7:g.kind=Sk.fC
               · have UO:=wt h7
                 exact absurd (h6.symm.trans h7) (by decide)
               · have UN:=wf h7
                 by_cases h8:e.x.aX=0
                 · have aac:=(show (e.x.aX == 0)=true by simp [h8])
                   have azr:=(show (e.x.aX != 0)=false by simp [h8]);have HH:=hide (And.intro h6 (And.intro h7 (And.intro h8 trivial)));clear h6 h7 h8;go_wp2;go_meet;exact ⟨dO (by obtain ⟨h6,h7,h8,_⟩:=HH.out;first | (simp [gq,h6,h7,h8];done) | (simp [gq,h6,h7,h8];omega) | (rw [Bool.eq_iff_iff];simp [gq,h6,h7,h8];omega)),rfl⟩
                 · have Z9:=(show (e.x.aX == 0)=false by simp [h8])
                   have azk:=(show (e.x.aX != 0)=true by simp [h8]);have HH:=hide (And.intro h6 (And.intro h7 (And.intro h8 trivial)));clear h6 h7 h8;go_wp2;go_meet;exact ⟨dO (by obtain ⟨h6,h7,h8,_⟩:=HH.out;first | (simp [gq,h6,h7,h8];done) | (simp [gq,h6,h7,h8];omega) | (rw [Bool.eq_iff_iff];simp [gq,h6,h7,h8];omega)),rfl⟩
             · have UL:=wf h6
               by_cases h9:e.x.called=Sk.bU
               · have aaq:=wt h9
                 by_cases h10:g.kind=Sk.fC
                 · have Wj:=wt h10
                   by_cases h11:0<e.x.aF.length
                   · have Wp:=(show decide (0<(e.x.aF.length:Int))=true by simpa using h11)
                     have atm:=(show decide (0<e.x.aF.length)=true by simpa using h11);have HH:=hide (And.intro h6 (And.intro h9 (And.intro h10 (And.intro h11 trivial))));clear h6 h9 h10 h11;go_wp2;go_meet;exact ⟨dO (by obtain ⟨h6,h9,h10,h11,_⟩:=HH.out;first | (simp [gq,h6,h9,h10,h11];done) | (simp [gq,h6,h9,h10,h11];omega) | (rw [Bool.eq_iff_iff];simp [gq,h6,h9,h10,h11];omega)),rfl⟩
                   · have Wn:=(show decide (0<(e.x.aF.length:Int))=false by simpa using h11)
                     have ate:=(show decide (0<e.x.aF.length)=false by simpa using h11);have HH:=hide (And.intro h6 (And.intro h9 (And.intro h10 (And.intro h11 trivial))));clear h6 h9 h10 h11;go_wp2;go_meet;exact ⟨dO (by obtain ⟨h6,h9,h10,h11,_⟩:=HH.out;first | (simp [gq,h6,h9,h10,h11];done) | (simp [gq,h6,h9,h10,h11];omega) | (rw [Bool.eq_iff_iff];simp [gq,h6,h9,h10,h11];omega)),rfl⟩
                 · have Wi:=wf h10
                   by_cases h12:e.x.aX=0
                   · have Ws:=(show (e.x.aX == 0)=true by simp [h12])
                     have Z5:=(show (e.x.aX != 0)=false by simp [h12]);have HH:=hide (And.intro h6 (And.intro h9 (And.intro h10 (And.intro h12 trivial))));clear h6 h9 h10 h12;go_wp2;go_meet;exact ⟨dO (by obtain ⟨h6,h9,h10,h12,_⟩:=HH.out;first | (simp [gq,h6,h9,h10,h12];done) | (simp [gq,h6,h9,h10,h12];omega) | (rw [Bool.eq_iff_iff];simp [gq,h6,h9,h10,h12];omega)),rfl⟩
                   · have Wq:=(show (e.x.aX == 0)=false by simp [h12])
                     have Z4:=(show (e.x.aX != 0)=true by simp [h12]);have HH:=hide (And.intro h6 (And.intro h9 (And.intro h10 (And.intro h12 trivial))));clear h6 h9 h10 h12;go_wp2;go_meet;exact ⟨dO (by obtain ⟨h6,h9,h10,h12,_⟩:=HH.out;first | (simp [gq,h6,h9,h10,h12];done) | (simp [gq,h6,h9,h10,h12];omega) | (rw [Bool.eq_iff_iff];simp [gq,h6,h9,h10,h12];omega)),rfl⟩
               · have aaj:=wf h9
                 have HH:=hide (And.intro h6 (And.intro h9 trivial));clear h6 h9;go_wp2;go_meet;exact ⟨dO (by obtain ⟨h6,h9,_⟩:=HH.out;first | (simp [gq,h6,h9];done) | (simp [gq,h6,h9];omega) | (rw [Bool.eq_iff_iff];simp [gq,h6,h9];omega)),rfl⟩
            case rest=>
             obtain ⟨rfl,rfl⟩:=hcut;clear x1 xf1 x3 Aa g0 ZY;obtain ⟨z1,hz1⟩:∃ z,rY g e.x=z:=⟨_,rfl⟩;obtain ⟨z3,hz3⟩:∃ z,gq g e.x=z:=⟨_,rfl⟩;rw [hz1,hz3] at qJ ⊢;clear hz1 hz3
             go_upto_region 10 with (fail)
             go_region_held3 (fun w':World=>∀ p q,p<wc.heap.size→w'.cell? ⟨p,q,none⟩=wc.cell? ⟨p,q,none⟩) (first | exact fun p q h=>rfl | exact (fun p q h=>((Below.refl wc.heap.size wc).alloc (Nat.le_refl _) _).cell (p:=⟨p,q,none⟩) h)) (first | (go_at_call 64;refine (dL _ _ _).mono ?_;rintro e qK ⟨rfl,rfl⟩) | (go_at_call 66;refine (jm _ _ _ _).mono ?_;rintro e qK ⟨rfl,rfl⟩) | (go_at_call 67;refine (iK (fun _=>True) _ _ [jg (z1) 10,jg (Sk.out e.x.aX 0 99) 3,jg (z3) 1] _ (nI.row _ _ [jg (z1) 10,jg (Sk.out e.x.aX 0 99) 3,jg (z3) 1] (by simp) _ trivial)).mono ?_;rintro e qK ⟨rfl,rfl⟩) | (go_at_call 67;refine (iK (fun _=>True) _ _ [jg (z1) 10,jg (Sk.out e.x.aX 0 99) 3,jg (z3) 1] _ (nI.drewN (nI.row wc 34 [jg (z1) 10,jg (Sk.out e.x.aX 0 99) 3,jg (z3) 1] (by simp) _ trivial) 1)).mono ?_;rintro e qK ⟨rfl,rfl⟩))
             go_wp2;go_ret;exact ⟨aV qJ.out.symm,kC.bw.trans (((below_drewN (Below.refl wc.heap.size wc) 1).alloc (Nat.le_refl _) _).mono kC.bw.size)⟩
     · have hs1:=wf hs
       have hs2:(e.x.kind.toList != [115,104,111,116])=true:=by rw [bne,hs1];rfl
       have qJ:=hide (show Sk.dH g e.x=if e.x.called≠Sk.bU∨0<e.x.hits.length+e.x.aF.length∨e.x.aX≠0 then 1 else 0 by unfold Sk.dH;rw [if_neg (by rw [hk];decide),if_pos hs]);clear hk hs
       by_cases h1:e.x.called=Sk.bU
       · have O7:=wt h1
         by_cases h2:0<(e.x.hits.length:Int)+(e.x.aF.length:Int)
         · have O9:=(show decide (0<(e.x.hits.length:Int)+(e.x.aF.length:Int))=true from decide_eq_true h2)
           have HH:=hide (And.intro h1 (And.intro h2 trivial));clear h1 h2
           go_wp2_with (first | (go_at_call 64;refine (dL _ _ _).mono ?_;rintro e qK ⟨rfl,rfl⟩))
           go_ret;exact ⟨aV (by rw [qJ.out];obtain ⟨h1,h2,_⟩:=HH.out;rw [if_pos (.inr (.inl (by omega)))];rfl),hB.bw⟩
         · have O8:=(show decide (0<(e.x.hits.length:Int)+(e.x.aF.length:Int))=false from decide_eq_false h2)
           by_cases h3:e.x.aX=0
           · have LK:=(show (e.x.aX == 0)=true by simp [h3])
             have alN:=(show (e.x.aX != 0)=false by simp [h3]);have HH:=hide (And.intro h1 (And.intro h2 (And.intro h3 trivial)));clear h1 h2 h3
             go_wp2_with (first | (go_at_call 64;refine (dL _ _ _).mono ?_;rintro e qK ⟨rfl,rfl⟩))
             go_ret;exact ⟨aV (by rw [qJ.out];obtain ⟨h1,h2,h3,_⟩:=HH.out;rw [if_neg (by rintro (h | h | h);exact h h1;exact absurd h (by omega);exact h h3)];rfl),hB.bw⟩
           · have LJ:=(show (e.x.aX == 0)=false by simp [h3])
             have alG:=(show (e.x.aX != 0)=true by simp [h3]);have HH:=hide (And.intro h1 (And.intro h2 (And.intro h3 trivial)));clear h1 h2 h3
             go_wp2_with (first | (go_at_call 64;refine (dL _ _ _).mono ?_;rintro e qK ⟨rfl,rfl⟩))
             go_ret;exact ⟨aV (by rw [qJ.out];obtain ⟨h1,h2,h3,_⟩:=HH.out;rw [if_pos (.inr (.inr h3))];rfl),hB.bw⟩
       · have O6:=wf h1
         have HH:=hide (And.intro h1 trivial);clear h1
         go_wp2_with (first | (go_at_call 64;refine (dL _ _ _).mono ?_;rintro e qK ⟨rfl,rfl⟩))
         go_ret;exact ⟨aV (by rw [qJ.out];obtain ⟨h1,_⟩:=HH.out;rw [if_pos (.inl h1)];rfl),hB.bw⟩
def pq (g:Sk.Game) (s:Sk.State) (e:Sk.Entry):Int:=if Sk.dh g s≠0 then Sk.dh g s else Sk.dH g e
theorem Hu (S:Nat→Prop) (g:Sk.Game) (s:Sk.State) (e:En) (w:World) (he:iL w S e):Calls Tryz.prog 79 #[lX g,jE s,rU e] w fun e_ w'=>e_= .returned (.int .i64 (pq g s e.x))∧Below w.heap.size w w':=by
 go_enter Tryz.func79,Tryz.ntmps79
 go_upto_region 0 with (fail)
 go_cut [3,4,5,6] (fun v3 v4 v5 v6 wx=>v3=ptr w.heap.size∧v4=ptr (w.heap.size+1)∧v5=ptr (w.heap.size+2)∧v6= .int .i64 0∧aG w wx [(bK g,23),(aC s,26),(dn e,83)])
 case first=>
  go_wp2;go_meet;exact ⟨rfl,rfl,rfl,rfl,((((aG.nil w).new (by simp) (bK g) _).new (by simp) (aC s) _).new (by simp) (dn e) _)⟩
 case rest=>
  obtain ⟨rfl,rfl,rfl,rfl,hB⟩:=hcut
  by_cases hz:Sk.dh g s=0
  · have hz':(Sk.dh g s != 0)=false:=by simp [hz]
    have qJ:=hide (show pq g s e.x=Sk.dH g e.x by unfold pq;rw [if_neg (by simpa using hz)]);clear hz
    go_wp2_with (first | ((with_reducible refine bJ 23 3 ?_);refine dW (hB.au rfl) Tryz.underlying23 dQ ?_) | ((with_reducible refine bJ 26 4 ?_);refine dW (hB.get 1 rfl) Tryz.underlying26 aj ?_) | ((with_reducible refine bJ 83 5 ?_);refine dW (hB.get 2 rfl) Tryz.underlying83 bI ?_) | (go_at_call 18;refine (jO g s _).mono ?_;rintro e1 w1 ⟨rfl,hb1⟩;have hB:=hB.call (by simp) hb1) | (go_at_call 72;refine (uF S g e _ (he.below hB.bw)).mono ?_;rintro e1 w1 ⟨rfl,hb1⟩;have hB:=hB.call (by simp) hb1))
    go_ret;exact ⟨aV qJ.out.symm,hB.bw⟩
  · have hz':(Sk.dh g s != 0)=true:=by simp [hz]
    have qJ:=hide (show pq g s e.x=Sk.dh g s by unfold pq;rw [if_pos hz]);clear hz
    go_wp2_with (first | ((with_reducible refine bJ 23 3 ?_);refine dW (hB.au rfl) Tryz.underlying23 dQ ?_) | ((with_reducible refine bJ 26 4 ?_);refine dW (hB.get 1 rfl) Tryz.underlying26 aj ?_) | (go_at_call 18;refine (jO g s _).mono ?_;rintro e1 w1 ⟨rfl,hb1⟩;have hB:=hB.call (by simp) hb1))
    go_ret;exact ⟨aV qJ.out.symm,hB.bw⟩
theorem zl (g:Sk.Game) (l:List En) {k:Nat} (hk:k<l.length):Sk.kZ g (bare (l.drop k))=if Sk.dH g l[k].x≠0 then Sk.dH g l[k].x else Sk.kZ g (bare (l.drop (k+1))):=by
 rw [List.drop_eq_getElem_cons hk,bare,List.map_cons,Sk.kZ]
 rfl
def zeroE:List Value:=[.string ⟨#[]⟩,.string ⟨#[]⟩,.slice none 0 0,.slice none 0 0,.int .i64 0]
theorem IG (e:En):∀ v∈dn e,v.oneCell'=true:=by simp [dn,Value.oneCell']
theorem WR {ops:Array Oper} {rest:List Oper} {op:Oper} {a:Act} {W:World} {Q:Exit→Act→World→Prop} {g o:Nat} {cs:List Value} {t:TypeId} {d:TypeDesc} (h:W.rangeAt g o cs) (hu:Tryz.prog.underlying t=some d) (hd:d.isRow=true) (hi:(Tryz.prog.info? t).map (·.size)=some cs.length) (hgd:op.guard=none) (x:Operand) (ho:op.op= .load t x) (hx:a.eval x= .pointer (some ⟨g,o,none⟩))
 (k:wpList Tryz.prog ops Q rest (a.put op.dst (.agg cs.toArray)) W):mO Tryz.prog ops Q op rest a W:=
 wpList_load_mid hgd t x ho g o hx cs d h hu hd hi k
theorem tV {S:Nat→Prop} {l:List En} {A:Option Addr} {c k b o:Nat} {w W:World} (hl:ni w S A c l) (hk:k<l.length) (hb:Below w.heap.size w W) (hA:A=some ⟨b,o,none⟩):W.rangeAt b (o+k*5) (dn l[k]):=by
 obtain ⟨b',o',e,_,hbl,hc⟩:=Reads.at_ hl.1 (by omega);rw [hA] at e
 cases e
 intro j v hj;have hj5:j<5:=(List.getElem?_eq_some_iff.1 hj).1
 have:=hc (k*5+j) v (by rw [rZ l k hk j hj5];exact hj)
 rw [Nat.add_assoc];exact (hb.cell (p:=⟨b,o+(k*5+j),none⟩) hbl).trans this
theorem qm (S:Nat→Prop) (g:Sk.Game) (l:List En) (A:Option Addr) (c:Nat) (w:World) (hl:ni w S A c l):Calls Tryz.prog 20 #[lX g,.slice A l.length c] w fun e_ w'=>e_= .returned (.int .i64 (Sk.iO g (bare l)))∧Below w.heap.size w w':=by
 obtain ⟨b1,b2,b3⟩:=hl.bd
 go_enter Tryz.func20,Tryz.ntmps20
 go_upto_region 0 with (fail)
 go_cut [2,4] (fun v2 v4 wx=>v2=ptr w.heap.size∧v4= .int .i64 0∧aG w wx [(bK g,23)])
 case first=>
  go_wp2;go_meet;exact ⟨rfl,rfl,((aG.nil w).new (by simp) (bK g) _)⟩
 case rest=>
  obtain ⟨rfl,rfl,hB⟩:=hcut;have hB0:=hB
  go_upto_region 1 with (fail)
  go_cut [5] (fun v wx=>v= .int .i64 (fst [Sk.dM g,jg (decide (1000<(l.length:Int))) 5])∧aG w wx [(bK g,23)])
  case first=>
   go_wp2_with (first | ((with_reducible refine bJ 23 2 ?_);refine dW (hB.au rfl) Tryz.underlying23 dQ ?_) | (go_at_call 16;refine (rX g _).mono ?_;rintro e1 w1 ⟨rfl,hb1⟩;have hB:=hB.call (by simp) hb1) | (go_at_call 64;refine (dL _ _ _).mono ?_;rintro e qK ⟨rfl,rfl⟩) | (go_at_call 67;refine (iK (fun _=>True) _ _ [Sk.dM g,jg (decide (1000<(l.length:Int))) 5] _ (nI.row _ _ [Sk.dM g,jg (decide (1000<(l.length:Int))) 5] (by simp) _ trivial)).mono ?_;rintro e qK ⟨rfl,rfl⟩))
   go_meet;exact ⟨rfl,hB.alloc (by simp) _⟩
  case rest=>
   obtain ⟨rfl,hB⟩:=hcut
   by_cases hz:Sk.dM g=0
   · by_cases hn:1000<l.length
     · have WC:fst [Sk.dM g,jg (decide (1000<(l.length:Int))) 5]=5:=by rw [hz,decide_eq_true (by omega)];rfl
       have qJ:=hide (show Sk.iO g (bare l)=5 by unfold Sk.iO;rw [if_neg (by simpa using hz),if_pos (by rw [kQ];exact hn)]);rw [WC];clear WC hz hn;go_wp2;go_ret;exact ⟨aV qJ.out.symm,hB.bw⟩
     · have WC:fst [Sk.dM g,jg (decide (1000<(l.length:Int))) 5]=0:=by rw [hz,decide_eq_false (by omega)];rfl
       have qJ:=hide (show Sk.iO g (bare l)=Sk.kZ g (bare l) by unfold Sk.iO;rw [if_neg (by simpa using hz),if_neg (by rw [kQ];exact hn)]);rw [WC];clear WC hz;have kC:=hB;go_wp2
       go_loopw [7,8,22] (fun _ _ i wr=>∃ k:Nat,k≤l.length∧i= .int .i64 k∧Aside (Sk.kZ g (bare l)=Sk.kZ g (bare (l.drop k)))∧aG w wr [(bK g,23)]∧Below wc.heap.size wc wr) (fun _ _ i _=>l.length - (intOf i).toNat)
       case atStart=>exact ⟨0,Nat.zero_le _,rfl,by simp [Aside],hB,Below.refl _ _⟩
       case round=>
        obtain ⟨k,hk,rfl,hx,hB,hbw⟩:=hrel
        by_cases hlt:k<l.length
        · obtain ⟨b,o,rfl,_,hbl,hc⟩:=hl.at_ k hlt
          have hrg:=tV hl hlt hB.bw rfl;have WE:=(hl.ent k hlt);have hst:=zl g l hlt;obtain ⟨ek,hek⟩:∃ e,l[k]=e:=⟨_,rfl⟩;rw [hek] at hrg WE hst;have hZ:=Held.new wr zeroE 83;have hE:=hZ.whole (dn ek) rfl;have Zk:aG w ((wr.alloc (.cells zeroE.toArray 83)).setCells wr.heap.size 0 (dn ek)) [(bK g,23)]:=(hB.alloc (by simp) _).fQ (by have:=hB.size (by simp);simpa using this) _ _;have U3:Below wc.heap.size wc ((wr.alloc (.cells zeroE.toArray 83)).setCells wr.heap.size 0 (dn ek)):=below_setCells _ hbw.size _ _ _ _ (hbw.alloc hbw.size _);have hx2:=hx.out;rw [hst] at hx2;clear hc hst hek hx
          by_cases hz2:Sk.dH g ek.x=0
          · have hz':(Sk.dH g ek.x != 0)=false:=by simp [hz2]
            rw [if_neg (by simpa using hz2)] at hx2;have HX:=hide hx2;clear hx2 hz2
            go_wp2_with (first | ((with_reducible (refine dw 83 (.tmp 24) ?lx ?_));(case lx=>rfl);refine WR hrg Tryz.underlying83 rfl bI rfl (.tmp 24) rfl rfl ?_) | ((with_reducible refine isS 83 7 25 ?_);refine fU (hZ) (dn ek) bI (IG _) ?_) | ((with_reducible refine bJ 23 2 ?_);refine dW (Zk.au rfl) Tryz.underlying23 dQ ?_) | ((with_reducible refine bJ 83 7 ?_);refine dW (hE) Tryz.underlying83 bI ?_) | (go_at_call 72;refine (uF S g ek _ (WE.below Zk.bw)).mono ?_;rintro e1 w1 ⟨rfl,hb1⟩;have hB2:=Zk.call (by simp) hb1;have hbw2:=U3.trans (hb1.mono U3.size)))
            go_roundw
            case rel=>exact ⟨k+1,by omega,by go_num,HX.out,hB2,hbw2⟩
            case measure=>simp [intOf];omega
          · have hz':(Sk.dH g ek.x != 0)=true:=by simp [hz2]
            rw [if_pos hz2] at hx2;have HX:=hide hx2;clear hx2 hz2
            go_wp2_with (first | ((with_reducible (refine dw 83 (.tmp 24) ?lx ?_));(case lx=>rfl);refine WR hrg Tryz.underlying83 rfl bI rfl (.tmp 24) rfl rfl ?_) | ((with_reducible refine isS 83 7 25 ?_);refine fU (hZ) (dn ek) bI (IG _) ?_) | ((with_reducible refine bJ 23 2 ?_);refine dW (Zk.au rfl) Tryz.underlying23 dQ ?_) | ((with_reducible refine bJ 83 7 ?_);refine dW (hE) Tryz.underlying83 bI ?_) | (go_at_call 72;refine (uF S g ek _ (WE.below Zk.bw)).mono ?_;rintro e1 w1 ⟨rfl,hb1⟩;have hB2:=Zk.call (by simp) hb1;have hbw2:=U3.trans (hb1.mono U3.size)))
            go_ret;exact ⟨aV (by rw [qJ.out,HX.out]),hB2.bw⟩
        · have hz2:Sk.kZ g (bare l)=0:=by rw [hx.out,List.drop_of_length_le (by omega)];rfl
          have HX:=hide hz2;clear hx hz2;go_wp2;go_ret;exact ⟨aV (by rw [qJ.out,HX.out]),hB.bw⟩
   · have WC:fst [Sk.dM g,jg (decide (1000<(l.length:Int))) 5]=Sk.dM g:=by unfold fst;rw [if_pos hz]
     have hz':(Sk.dM g != 0)=true:=by simp [hz]
     have qJ:=hide (show Sk.iO g (bare l)=Sk.dM g by unfold Sk.iO;rw [if_pos hz]);rw [WC];clear WC hz;go_wp2;go_ret;exact ⟨aV qJ.out.symm,hB.bw⟩
theorem Dy (s:Sk.State) (e:En) (hc:0≤s.colour∧s.colour≤7) (l:List ByteArray) (w:World) (D H:Nat) (hD:Held w D (aC s) 26) (hH:Held w H (dn e) 83):Says 211 #[ptr D,ptr H] l (fun b=>Sk.wanted s e.x b=false) w:=by
 refine ⟨enters_of Tryz.func211 (by kernel_rfl) rfl,fun W x _ hb=>?_⟩;have hS:=hD.below hb;have hE:=hH.below hb;have hI:=fun W=>CJ s e x hc W
 have hdec:decide (Sk.wanted s e.x x=false)= !Sk.wanted s e.x x:=by cases Sk.wanted s e.x x <;> rfl
 show Calls Tryz.prog 211 #[.string x,ptr D,ptr H] W fun e_ w'=>e_= .returned (.bool (decide (Sk.wanted s e.x x=false)))∧Below w.heap.size w w'
 rw [hdec];obtain ⟨y,hy⟩:∃ y,Sk.wanted s e.x x=y:=⟨_,rfl⟩
 simp only [hy] at hI ⊢
 have HI:=hide hI;clear hI hy hdec
 go_enter Tryz.func211,Tryz.ntmps211
 go_wp2_with (first | ((with_reducible refine bJ 26 1 ?_);refine dW (hS) Tryz.underlying26 aj ?_) | ((with_reducible refine bJ 83 2 ?_);refine dW (hE) Tryz.underlying83 bI ?_) | (go_at_call 172;refine (HI.out _).mono ?_;rintro e1 w1 ⟨rfl,hb1⟩))
 go_ret;exact ⟨rfl,hb.trans (hb1.mono hb.size)⟩
theorem ZM {b:ByteArray} (h:b=Sk.bU):b.toList.isEmpty=true:=by subst h;rw [ByteArray.toList_eq];rfl
theorem ZL {b:ByteArray} (h:¬ b=Sk.bU):b.toList.isEmpty=false:=by
 cases hh:b.toList.isEmpty
 · rfl
 · exact absurd (qQ (by rw [List.isEmpty_iff.1 hh,ByteArray.toList_eq])) h
theorem kT (s:Sk.State):0<(Sk.on s).length:=by
 unfold Sk.on Sk.dX
 split
 · simp
 · split <;> simp
theorem La (s:Sk.State):(Sk.on s).headD Sk.bU=(Sk.on s)[0]'(kT s):=by
 rw [List.headD_eq_head?_getD,List.head?_eq_getElem?,List.getElem?_eq_getElem (kT s)];rfl
theorem J6 (S:Nat→Prop) (s:Sk.State) (e:En) (w:World) (hc:0≤s.colour∧s.colour≤7) (he:iL w S e):Calls Tryz.prog 170 #[jE s,rU e] w fun e_ w'=>e_= .returned (.int .i64 (Sk.cu s e.x))∧Below w.heap.size w w':=by
 obtain ⟨p1,p2,p3⟩:=he.hits.bd
 go_enter Tryz.func170,Tryz.ntmps170
 go_upto_region 0 with (fail)
 go_cut [2,3,4] (fun v2 v3 v4 wx=>v2=ptr w.heap.size∧v3=ptr (w.heap.size+1)∧v4= .int .i64 0∧aG w wx [(aC s,26),(dn e,83)])
 case first=>
  go_wp2;go_meet;exact ⟨rfl,rfl,rfl,(((aG.nil w).new (by simp) (aC s) _).new (by simp) (dn e) _)⟩
 case rest=>
  obtain ⟨rfl,rfl,rfl,hB⟩:=hcut;have hX:=hB.get 1 rfl;have x1:=hX.cell (j:=1) rfl;have xf1:=hX.frozen 1;obtain ⟨yb,hyb⟩:∃ y,e.x.called.toList.isEmpty=y:=⟨_,rfl⟩;have Zi:=hide hyb
  go_upto_if 10 with (fail)
  clear hyb
  go_cut [5] (fun v wx=>v= .string (Sk.due s e.x)∧aG w wx [(aC s,26),(dn e,83)])
  case first=>
   cases yb
   · have HH:=hide (show Sk.due s e.x=e.x.called by unfold Sk.due;rw [if_neg (fun h=>by have:=Zi.out;rw [ZM h] at this;cases this)])
     go_wp2;go_meet;exact ⟨by rw [HH.out],hB⟩
   · have HH:=hide (show Sk.due s e.x=(Sk.on s)[0]'(kT s) by unfold Sk.due;rw [if_pos (by by_cases h:e.x.called=Sk.bU;exact h;have:=Zi.out;rw [ZL h] at this;cases this),La])
     go_wp2_with (first | ((with_reducible refine bJ 26 2 ?_);refine dW (hB.au rfl) Tryz.underlying26 aj ?_) | (go_at_call 93;refine (kV s hc _).mono ?_;rintro e1 w1 ⟨A1,c1,rfl,hr1,hb1⟩;have hB:=hB.call (by simp) hb1;obtain ⟨b1,o1,rfl,_,_,hc1⟩:=hr1.at_ 0 (kT s);have hon:=hc1 0 (kT s);have X5:=kT s;rw [Nat.add_zero] at hon))
     go_meet;exact ⟨by rw [HH.out],hB⟩
  case rest=>
   obtain ⟨rfl,hB1⟩:=hcut;clear hX x1 xf1 hB;have hB:=hB1;clear hB1;have hX:=hB.get 1 rfl;have x2:=hX.cell (j:=2) rfl;have CO:=hX.frozen 2;have x3:=hX.cell (j:=3) rfl;have Aa:=hX.frozen 3;have hbD:=hB.bw;have XZ:=fun W (hb:Below wc.heap.size wc W)=>iF S e.B e.b e.x.aF Sk.bf W ((he.aF.below hbD).below hb);have hhf:=fun W (hb:Below wc.heap.size wc W)=>oL S e.B e.b e.x.aF _ _ _ W ((he.aF.below hbD).below hb) (Dy s e hc e.x.aF W w.heap.size (w.heap.size+1) ((hB.au rfl).below hb) ((hB.get 1 rfl).below hb));obtain ⟨yw,Vh⟩:∃ y,Sk.has e.x.aF Sk.bf=y:=⟨_,rfl⟩;obtain ⟨yf,Yd⟩:∃ y,e.x.aF.any (fun b=>Sk.wanted s e.x b=false)=y:=⟨_,rfl⟩
   simp only [Vh] at XZ
   simp only [Yd] at hhf
   have HHW:=hide XZ;have HHF:=hide hhf;have HYW:=hide Vh;have HYF:=hide Yd;obtain ⟨d,hd⟩:∃ d,Sk.due s e.x=d:=⟨_,rfl⟩;have HD:=hide hd;rw [hd];have hb8:Below wc.heap.size wc wc:=Below.refl _ _;clear XZ hhf Vh Yd hd
   by_cases hn:e.x.hits=[]
   · have hn1:((e.x.hits.length:Int) == 0)=true:=by simp [hn]
     have HF:=hide (show Sk.cu s e.x=1 by unfold Sk.cu;rw [if_pos hn]);clear hn;go_wp2;go_ret;exact ⟨aV HF.out.symm,hbD⟩
   · have hpos:0<e.x.hits.length:=List.length_pos_iff.2 hn
     have hn1:((e.x.hits.length:Int) == 0)=false:=by simp [hn]
     obtain ⟨b0,o0,hA,_,hbl,hcc⟩:=(he.hits.below hbD).at_ 0 hpos;have h00:=hcc 0 hpos;rw [Nat.add_zero] at h00
     have hhd:e.x.hits.headD Sk.bU=e.x.hits[0]:=by rw [List.headD_eq_head?_getD,List.head?_eq_getElem?,List.getElem?_eq_getElem hpos];rfl
     obtain ⟨h0,hh0⟩:∃ h,e.x.hits[0]=h:=⟨_,rfl⟩;rw [hh0] at h00 hhd;rw [hA] at x2;have HN:=hide hn;have Uf:=hide hhd;clear hn hcc hh0 hhd
     by_cases hq:h0=d
     · have hq1:(h0.toList == d.toList)=true:=ku hq
       have hq2:(h0.toList != d.toList)=false:=by rw [bne,hq1];rfl
       have HF:=hide (show Sk.cu s e.x=if yw then 3 else if yf then 4 else 0 by unfold Sk.cu;rw [if_neg HN.out,if_neg (by rw [Uf.out,HD.out];simpa using hq),HYW.out,HYF.out]);clear hq
       cases yw
       · cases yf
         all_goals
          go_wp2_with (first | (go_at_call 68;refine (HHW.out _ hb8).mono ?_;rintro e1 w1 ⟨rfl,rfl⟩) | (go_at_call 125;refine (HHF.out _ hb8).mono ?_;rintro e1 w1 ⟨rfl,hb1⟩;have hb8:=hb8.trans (hb1.mono hb8.size)))
          go_ret;exact ⟨aV HF.out.symm,hbD.trans (hb8.mono hbD.size)⟩
       · go_wp2_with (first | (go_at_call 68;refine (HHW.out _ hb8).mono ?_;rintro e1 w1 ⟨rfl,rfl⟩))
         go_ret;exact ⟨aV HF.out.symm,hbD⟩
     · have hq1:(h0.toList == d.toList)=false:=jM hq
       have hq2:(h0.toList != d.toList)=true:=by rw [bne,hq1];rfl
       have HF:=hide (show Sk.cu s e.x=2 by unfold Sk.cu;rw [if_neg HN.out,if_pos (by rw [Uf.out,HD.out];exact hq)]);clear hq;go_wp2;go_ret;exact ⟨aV HF.out.symm,hbD⟩
def dV (v:Sk.dI):List Value:=[.int .i64 v.points,.int .i64 v.gU,.int .i64 v.penalty,.bool v.stays]
theorem fZ (v:Sk.dI):∀ x∈dV v,x.oneCell'=true:=by simp [dV,Value.oneCell']
theorem xC {l:List ByteArray} (h:0<l.length):l.headD Sk.bU=l[0]:=by rw [List.headD_eq_head?_getD,List.head?_eq_getElem?,List.getElem?_eq_getElem h];rfl
theorem rW (S:Nat→Prop) (s:Sk.State) (e:En) (w:World) (ht:s.turn=0∨s.turn=1) (he:iL w S e):Calls Tryz.prog 176 #[jE s,rU e] w fun e_ w'=>e_= .returned (.bool (Sk.eU s e.x))∧Below w.heap.size w w':=by
 go_enter Tryz.func176,Tryz.ntmps176
 go_upto_region 0 with (fail)
 go_cut [2,3,4] (fun v2 v3 v4 wx=>v2=ptr w.heap.size∧v3=ptr (w.heap.size+1)∧v4= .bool false∧aG w wx [(aC s,26),(dn e,83)])
 case first=>
  go_wp2;go_meet;exact ⟨rfl,rfl,rfl,(((aG.nil w).new (by simp) (aC s) _).new (by simp) (dn e) _)⟩
 case rest=>
  obtain ⟨rfl,rfl,rfl,hB⟩:=hcut;have hsz:=hB.size (by simp)
  simp only [List.length_cons,List.length_nil] at hsz
  have hX:=hB.get 1 rfl;have x2:=hX.cell (j:=2) rfl;have CO:=hX.frozen 2;have hhd:=he.hits.below hB.bw;have hh1:=fun W (hb:Below wc.heap.size wc W)=>iF S e.A e.a e.x.hits (Sk.theirs s) W (hhd.below hb);have hh2:=fun W (hb:Below wc.heap.size wc W)=>iF S e.A e.a e.x.hits Sk.bG W (hhd.below hb)
  have yu:∀ W:World,(fun w':World=>∀ p q,p<w.heap.size+2→w'.cell? ⟨p,q,none⟩=wc.cell? ⟨p,q,none⟩) W→W.rangeAt w.heap.size 0 (aC s):=fun W h j v hj=>by rw [h _ _ (by omega)];exact (hB.au rfl).range j v hj
  obtain ⟨y1,hy1⟩:∃ y,Sk.has e.x.hits (Sk.theirs s)=y:=⟨_,rfl⟩;obtain ⟨y2,hy2⟩:∃ y,Sk.has e.x.hits Sk.bG=y:=⟨_,rfl⟩
  simp only [hy1] at hh1
  simp only [hy2] at hh2
  have HH1:=hide hh1;have HH2:=hide hh2;have HY1:=hide hy1;have HY2:=hide hy2;clear hh1 hh2 hy1 hy2 hX
  go_upto_region 1 with (fail)
  cases y1
  · refine wp_region_held_drew (S:=(fun w':World=>∀ p q,p<w.heap.size+2→w'.cell? ⟨p,q,none⟩=wc.cell? ⟨p,q,none⟩)) (by kernel_rfl) ?bg (fun hHeld=>?_)
    case bg=>exact fun p q h=>rfl
    refine tk 0 ?_;refine tk 1 ?_;refine wpAnyH_take (i:=2) (oi:=_) (v:=_) (ga rfl) (by kernel_rfl) (by kernel_rfl) (by kernel_rfl) (fun _ _ _ h=>h) (yieldsIf_load_mid (by rfl) _ _ (by rfl) _ _ (by rfl) _ _ yu Tryz.underlying26 rfl (by kernel_rfl)) (by assumption) ?_
    try simp only [Act.put,la,lz,ls]
    refine tr 3 fun K hK=>?_;go_simp
    (go_at_call 91;refine (zH s ht _).mono ?_;rintro e1 w1 ⟨rfl,hb1⟩;have hb8:Below wc.heap.size wc w1:=⟨hb1.os,hb1.tape,hb1.output,hb1.size,hb1.block⟩)
    refine hK.out _ _ ?GX (fun hHeld=>?_)
    case GX=>(exact fun p q h=>hb8.cell (p:=⟨p,q,none⟩) (Nat.lt_of_lt_of_le h hsz))
    clear hK K
    try simp only [Act.put,la,lz,ls]
    refine tr 4 fun K hK=>?_;go_simp
    (go_at_call 68;refine (HH1.out _ hb8).mono ?_;rintro e1 w2 ⟨rfl,rfl⟩)
    refine hK.out _ _ ?BG (fun hHeld=>?_)
    case BG=>(exact fun p q h=>hb8.cell (p:=⟨p,q,none⟩) (Nat.lt_of_lt_of_le h hsz))
    clear hK K
    try simp only [Act.put,la,lz,ls]
    refine tk 5 ?_;refine tu 6 ?_;refine tu 7 ?_;refine tu 8 ?_;refine tk 9 ?_;refine tk 10 ?_;refine wpAnyH_done (by kernel_rfl) ?_ _;go_wp2;go_ret;exact ⟨aH (by have h1:=HY1.out;have h2:=HY2.out;simp [Sk.eU,h1,h2]),hB.bw.trans (hb8.mono hB.bw.size)⟩
  · refine wp_region_held_drew (S:=(fun w':World=>∀ p q,p<w.heap.size+2→w'.cell? ⟨p,q,none⟩=wc.cell? ⟨p,q,none⟩)) (by kernel_rfl) ?bV (fun hHeld=>?_)
    case bV=>exact fun p q h=>rfl
    refine tk 0 ?_;refine tk 1 ?_;refine wpAnyH_take (i:=2) (oi:=_) (v:=_) (ga rfl) (by kernel_rfl) (by kernel_rfl) (by kernel_rfl) (fun _ _ _ h=>h) (yieldsIf_load_mid (by rfl) _ _ (by rfl) _ _ (by rfl) _ _ yu Tryz.underlying26 rfl (by kernel_rfl)) (by assumption) ?_
    try simp only [Act.put,la,lz,ls]
    refine tr 3 fun K hK=>?_;go_simp
    (go_at_call 91;refine (zH s ht _).mono ?_;rintro e1 w1 ⟨rfl,hb1⟩;have hb8:Below wc.heap.size wc w1:=⟨hb1.os,hb1.tape,hb1.output,hb1.size,hb1.block⟩)
    refine hK.out _ _ ?Q9 (fun hHeld=>?_)
    case Q9=>(exact fun p q h=>hb8.cell (p:=⟨p,q,none⟩) (Nat.lt_of_lt_of_le h hsz))
    clear hK K
    try simp only [Act.put,la,lz,ls]
    refine tr 4 fun K hK=>?_;go_simp
    (go_at_call 68;refine (HH1.out _ hb8).mono ?_;rintro e1 w2 ⟨rfl,rfl⟩)
    refine hK.out _ _ ?G5 (fun hHeld=>?_)
    case G5=>(exact fun p q h=>hb8.cell (p:=⟨p,q,none⟩) (Nat.lt_of_lt_of_le h hsz))
    clear hK K
    try simp only [Act.put,la,lz,ls]
    refine tk 5 ?_;refine tk 6 ?_;refine tk 7 ?_;refine tr 8 fun K hK=>?_;go_simp
    (go_at_call 68;refine (HH2.out _ hb8).mono ?_;rintro e1 w2 ⟨rfl,rfl⟩)
    refine hK.out _ _ ?agT (fun hHeld=>?_)
    case agT=>(exact fun p q h=>hb8.cell (p:=⟨p,q,none⟩) (Nat.lt_of_lt_of_le h hsz))
    clear hK K
    try simp only [Act.put,la,lz,ls]
    refine tk 9 ?_;refine tk 10 ?_;refine wpAnyH_done (by kernel_rfl) ?_ _;go_wp2;go_ret;exact ⟨aH (by have h1:=HY1.out;have h2:=HY2.out;simp [Sk.eU,h1,h2]),hB.bw.trans (hb8.mono hB.bw.size)⟩
theorem Am (S:Nat→Prop) (s:Sk.State) (e:En) (w:World) (ht:s.turn=0∨s.turn=1) (he:iL w S e):Calls Tryz.prog 120 #[jE s,rU e] w fun e_ w'=>e_= .returned (FD (Sk.gG s e.x))∧Below w.heap.size w w':=by
 go_enter Tryz.func120,Tryz.ntmps120
 go_upto_region 0 with (fail)
 go_cut [2,3,4] (fun v2 v3 v4 wx=>v2=ptr w.heap.size∧v3=ptr (w.heap.size+1)∧v4=ptr (w.heap.size+2)∧aG w wx [(aC s,26),(dn e,83),(dV ⟨0,0,0,false⟩,78)])
 case first=>
  go_wp2;go_meet;exact ⟨rfl,rfl,rfl,((((aG.nil w).new (by simp) (aC s) _).new (by simp) (dn e) _).new (by simp) (dV ⟨0,0,0,false⟩) _)⟩
 case rest=>
  obtain ⟨rfl,rfl,rfl,hB⟩:=hcut;have hbD:=hB.bw;have hb8:Below wc.heap.size wc wc:=Below.refl _ _;have hcn:=fun W (hb:Below wc.heap.size wc W)=>rW S s e W ht ((he.below hbD).below hb);obtain ⟨yc,wC⟩:∃ y,Sk.eU s e.x=y:=⟨_,rfl⟩
  simp only [wC] at hcn
  have yj:=hide hcn;have Ku:=hide wC;clear hcn wC
  cases yc
  · have HM:=hide (show Sk.gG s e.x=⟨0,0,0,false⟩ by unfold Sk.gG;rw [Ku.out];simp)
    go_wp2_with (first | ((with_reducible refine bJ 26 2 ?_);refine dW (hB.au rfl) Tryz.underlying26 aj ?_) | ((with_reducible refine bJ 83 3 ?_);refine dW (hB.get 1 rfl) Tryz.underlying83 bI ?_) | (go_at_call 176;refine (yj.out _ hb8).mono ?_;rintro e1 w1 ⟨rfl,hb1⟩;have hb8:=hb8.trans (hb1.mono hb8.size);have hB:=hB.call (by simp) hb1;have hX:=hB.get 1 rfl;have x4:=hX.cell (j:=4) rfl;have xf4:=hX.frozen 4) | ((with_reducible refine isS 78 4 14 ?_);refine fU (hB.get 2 rfl) (dV ⟨0,0,0,false⟩) dS (fZ _) ?_))
    have hZ:=hB.put 2 rfl (dV ⟨0,0,0,false⟩) rfl;refine bodyPost_ret (aI (p:=4) (hZ.get 2 rfl) Tryz.underlying78 rfl dS rfl _ rfl) rfl ⟨?_,hZ.bw⟩;rw [HM.out];rfl
  · by_cases h3:3≤e.x.aX
    · have h31:decide (3≤e.x.aX)=true:=decide_eq_true h3
      have HM:=hide (show Sk.gG s e.x=⟨1,0,0,true⟩ by unfold Sk.gG;rw [Ku.out];simp [h3]);clear h3
      go_wp2_with (first | ((with_reducible refine bJ 26 2 ?_);refine dW (hB.au rfl) Tryz.underlying26 aj ?_) | ((with_reducible refine bJ 83 3 ?_);refine dW (hB.get 1 rfl) Tryz.underlying83 bI ?_) | (go_at_call 176;refine (yj.out _ hb8).mono ?_;rintro e1 w1 ⟨rfl,hb1⟩;have hb8:=hb8.trans (hb1.mono hb8.size);have hB:=hB.call (by simp) hb1;have hX:=hB.get 1 rfl;have x4:=hX.cell (j:=4) rfl;have xf4:=hX.frozen 4) | ((with_reducible refine isS 78 4 13 ?_);refine fU (hB.get 2 rfl) (dV ⟨1,0,0,true⟩) dS (fZ _) ?_))
      have hZ:=hB.put 2 rfl (dV ⟨1,0,0,true⟩) rfl;refine bodyPost_ret (aI (p:=4) (hZ.get 2 rfl) Tryz.underlying78 rfl dS rfl _ rfl) rfl ⟨?_,hZ.bw⟩;rw [HM.out];rfl
    · have h31:decide (3≤e.x.aX)=false:=decide_eq_false h3
      have HM:=hide (show Sk.gG s e.x=⟨0,0,0,false⟩ by unfold Sk.gG;rw [Ku.out];simp [h3]);clear h3
      go_wp2_with (first | ((with_reducible refine bJ 26 2 ?_);refine dW (hB.au rfl) Tryz.underlying26 aj ?_) | ((with_reducible refine bJ 83 3 ?_);refine dW (hB.get 1 rfl) Tryz.underlying83 bI ?_) | (go_at_call 176;refine (yj.out _ hb8).mono ?_;rintro e1 w1 ⟨rfl,hb1⟩;have hb8:=hb8.trans (hb1.mono hb8.size);have hB:=hB.call (by simp) hb1;have hX:=hB.get 1 rfl;have x4:=hX.cell (j:=4) rfl;have xf4:=hX.frozen 4) | ((with_reducible refine isS 78 4 14 ?_);refine fU (hB.get 2 rfl) (dV ⟨0,0,0,false⟩) dS (fZ _) ?_))
      have hZ:=hB.put 2 rfl (dV ⟨0,0,0,false⟩) rfl;refine bodyPost_ret (aI (p:=4) (hZ.get 2 rfl) Tryz.underlying78 rfl dS rfl _ rfl) rfl ⟨?_,hZ.bw⟩;rw [HM.out];rfl
def lK (s:Sk.State) (e:Sk.Entry):Bool:=decide (e.aF≠[]∧Sk.eU s e=false∧s.aO=5)
theorem BD (s:Sk.State) (e:Sk.Entry) {l:List ByteArray} {k:Nat} (hk:k<l.length) (m:Int):Sk.lT s e m (l.drop k)=Sk.lT s e (m+(if l[k]=Sk.bG∨(l[k]=Sk.own s∧e.hits.headD Sk.bU=Sk.bG) then 3 else 2)) (l.drop (k+1)):=by
 rw [List.drop_eq_getElem_cons hk,Sk.lT]
theorem vV (S:Nat→Prop) (s:Sk.State) (e:En) (w:World) (ht:s.turn=0∨s.turn=1) (he:iL w S e):Calls Tryz.prog 116 #[jE s,rU e] w fun e_ w'=>e_= .returned (FD (Sk.bC s e.x))∧Below w.heap.size w w':=by
 obtain ⟨p1,p2,p3⟩:=he.hits.bd;obtain ⟨p4,p5,p6⟩:=he.aF.bd
 go_enter Tryz.func116,Tryz.ntmps116
 go_upto_region 0 with (fail)
 go_cut [2,3,4] (fun v2 v3 v4 wx=>v2=ptr w.heap.size∧v3=ptr (w.heap.size+1)∧v4=ptr (w.heap.size+2)∧aG w wx [(aC s,26),(dn e,83),(dV ⟨0,0,0,false⟩,78)])
 case first=>
  go_wp2;go_meet;exact ⟨rfl,rfl,rfl,((((aG.nil w).new (by simp) (aC s) _).new (by simp) (dn e) _).new (by simp) (dV ⟨0,0,0,false⟩) _)⟩
 case rest=>
  obtain ⟨rfl,rfl,rfl,hB⟩:=hcut;have hbD:=hB.bw;have hb8:Below wc.heap.size wc wc:=Below.refl _ _;have hcn:=fun W (hb:Below wc.heap.size wc W)=>rW S s e W ht ((he.below hbD).below hb);obtain ⟨yc,wC⟩:∃ y,Sk.eU s e.x=y:=⟨_,rfl⟩
  simp only [wC] at hcn
  have yj:=hide hcn;have Ku:=hide wC;clear hcn wC
  by_cases hn:e.x.hits=[]
  · have hn1:((e.x.hits.length:Int) == 0)=true:=by simp [hn]
    have HM:=hide (show Sk.bC s e.x=⟨0,1,2,false⟩ by unfold Sk.bC;rw [if_pos hn]);clear hn
    go_wp2_with (first | ((with_reducible refine bJ 26 2 ?_);refine dW (hB.au rfl) Tryz.underlying26 aj ?_) | ((with_reducible refine bJ 83 3 ?_);refine dW (hB.get 1 rfl) Tryz.underlying83 bI ?_) | (go_at_call 176;refine (yj.out _ hb8).mono ?_;rintro e1 w1 ⟨rfl,hb1⟩;have zq:=hb8.trans (hb1.mono hb8.size);have kC:=hB.call (by simp) hb1;have hX:=kC.get 1 rfl;have hS:=kC.au rfl;have x2:=hX.cell (j:=2) rfl;have CO:=hX.frozen 2;have x3:=hX.cell (j:=3) rfl;have Aa:=hX.frozen 3;have s9:=hS.cell (j:=9) rfl;have Ij:=hS.frozen 9) | ((with_reducible refine isS 78 4 17 ?_);refine fU (kC.get 2 rfl) (dV ⟨0,1,2,false⟩) dS (fZ _) ?_))
    have hZ:=kC.put 2 rfl (dV ⟨0,1,2,false⟩) rfl;refine bodyPost_ret (aI (p:=4) (hZ.get 2 rfl) Tryz.underlying78 rfl dS rfl _ rfl) rfl ⟨?_,hZ.bw⟩;rw [HM.out];rfl
  · have hpos:0<e.x.hits.length:=List.length_pos_iff.2 hn
    have hn1:((e.x.hits.length:Int) == 0)=false:=by simp [hn]
    have HN:=hide hn;clear hn
    go_upto_region 4 with (first | ((with_reducible refine bJ 26 2 ?_);refine dW (hB.au rfl) Tryz.underlying26 aj ?_) | ((with_reducible refine bJ 83 3 ?_);refine dW (hB.get 1 rfl) Tryz.underlying83 bI ?_) | (go_at_call 176;refine (yj.out _ hb8).mono ?_;rintro e1 w1 ⟨rfl,hb1⟩;have zq:=hb8.trans (hb1.mono hb8.size);have kC:=hB.call (by simp) hb1;have hX:=kC.get 1 rfl;have hS:=kC.au rfl;have x2:=hX.cell (j:=2) rfl;have CO:=hX.frozen 2;have x3:=hX.cell (j:=3) rfl;have Aa:=hX.frozen 3;have s9:=hS.cell (j:=9) rfl;have Ij:=hS.frozen 9))
    go_cut [18] (fun v wx=>v= .bool (lK s e.x)∧wx=w1)
    case first=>
     by_cases h1:0<e.x.aF.length
     · have O7:=(show decide (0<(e.x.aF.length:Int))=true by simpa using h1)
       have Z8:=(show decide (0<e.x.aF.length)=true by simpa using h1)
       cases yc
       · by_cases h2:s.aO=5
         · have O9:=(show (s.aO == 5)=true by simp [h2])
           have ayL:=(show (s.aO != 5)=false by simp [h2]);have HH:=hide (And.intro h1 (And.intro h2 trivial));clear h1 h2;go_wp2;go_meet;exact ⟨dO (by have h9:=Ku.out;obtain ⟨h1,h2,_⟩:=HH.out;have hne:=@List.length_pos_iff _ e.x.aF;simp_all [lK]),rfl⟩
         · have O8:=(show (s.aO == 5)=false by simp [h2])
           have ayE:=(show (s.aO != 5)=true by simp [h2]);have HH:=hide (And.intro h1 (And.intro h2 trivial));clear h1 h2;go_wp2;go_meet;exact ⟨dO (by have h9:=Ku.out;obtain ⟨h1,h2,_⟩:=HH.out;have hne:=@List.length_pos_iff _ e.x.aF;simp_all [lK]),rfl⟩
       · have HH:=hide (And.intro h1 trivial)
         clear h1;go_wp2;go_meet;exact ⟨dO (by have h9:=Ku.out;obtain ⟨h1,_⟩:=HH.out;have hne:=@List.length_pos_iff _ e.x.aF;simp_all [lK]),rfl⟩
     · have O6:=(show decide (0<(e.x.aF.length:Int))=false by simpa using h1)
       have Z7:=(show decide (0<e.x.aF.length)=false by simpa using h1);have HH:=hide (And.intro h1 trivial);clear h1;go_wp2;go_meet;exact ⟨dO (by have h9:=Ku.out;obtain ⟨h1,_⟩:=HH.out;have hne:=@List.length_pos_iff _ e.x.aF;simp_all [lK]),rfl⟩
    case rest=>
     obtain ⟨rfl,rfl⟩:=hcut;obtain ⟨yst,Yf⟩:∃ y,lK s e.x=y:=⟨_,rfl⟩;have ZT:=hide Yf;rw [Yf];clear Yf
     cases yst with
     | true=>
       have HM:=hide (show Sk.bC s e.x=⟨0,5,2,false⟩ by unfold Sk.bC;rw [if_neg HN.out,if_pos (by have h:=ZT.out;unfold lK at h;simpa using h)])
       go_wp2_with (first | ((with_reducible refine isS 78 4 32 ?_);refine fU (kC.get 2 rfl) (dV ⟨0,5,2,false⟩) dS (fZ _) ?_))
       have hZ:=kC.put 2 rfl (dV ⟨0,5,2,false⟩) rfl;refine bodyPost_ret (aI (p:=4) (hZ.get 2 rfl) Tryz.underlying78 rfl dS rfl _ rfl) rfl ⟨?_,hZ.bw⟩;rw [HM.out];rfl
     | false=>
       go_upto_if 33 with (fail)
       go_cut [6] (fun v wx=>v= .int .i64 (if yc=true then 2 else 0)∧wx=wc)
       case first=>
        cases yc
        all_goals
         go_wp2;go_meet;exact ⟨rfl,rfl⟩
       case rest=>
        obtain ⟨rfl,rfl⟩:=hcut;have PW:=(he.aF.below hbD).below zq;obtain ⟨PB,Pj⟩:∃ A,e.B=A:=⟨_,rfl⟩;rw [Pj] at x3 PW;have HPB:=hide Pj;clear Pj;obtain ⟨b0,o0,hA0,_,EH,hcc⟩:=((he.hits.below hbD).below zq).at_ 0 hpos;have h00:=hcc 0 hpos;rw [Nat.add_zero] at h00;have hhd:=xC hpos;obtain ⟨h0,hh0⟩:∃ h,e.x.hits[0]=h:=⟨_,rfl⟩;rw [hh0] at h00 hhd;have HA0:=hide hA0;have VZ:=hide EH;have Oo:=hide h00;have Uf:=hide hhd;clear hA0 EH h00 hhd hh0 hcc;obtain ⟨m0,hm0⟩:∃ m:Int,(if yc=true then 2 else 0)=m:=⟨_,rfl⟩;have Ot:=hide hm0
        have hm2:0≤m0∧m0≤2:=by rw [← hm0];split <;> omega
        rw [hm0];clear hm0;go_wp2
        go_loopw [6,8,39] (fun v6 _ i wr=>∃ (k:Nat) (m:Int),k≤e.x.aF.length∧i= .int .i64 k∧v6= .int .i64 m∧Aside (Sk.bW s e.x=Sk.lT s e.x m (e.x.aF.drop k))∧0≤m∧m≤2+3*k∧aG w wr [(aC s,26),(dn e,83),(dV ⟨0,0,0,false⟩,78)]∧Below wc.heap.size wc wr) (fun _ _ i _=>e.x.aF.length - (intOf i).toNat)
        case atStart=>exact ⟨0,m0,Nat.zero_le _,rfl,rfl,by show _=_;unfold Sk.bW;rw [Ku.out,show (if yc=true then (2:Int) else 0)=m0 from Ot.out];rfl,by omega,by omega,kC,Below.refl _ _⟩
        case round=>
         obtain ⟨k,m,hk,rfl,rfl,hx,hm0,hm1,hBr,hbr⟩:=hrel;have hXr:=hBr.get 1 rfl
         by_cases hlt:k<e.x.aF.length
         · have hst:=BD s e.x hlt m
           obtain ⟨bp,op,rfl,_,hbp,hcp⟩:=PW.at_ k hlt;have hck:wr.cell? ⟨bp,op+k,none⟩=some (.string e.x.aF[k]):=(hbr.cell (p:=⟨bp,op+k,none⟩) hbp).trans (hcp k hlt);obtain ⟨b,hb⟩:∃ b,e.x.aF[k]=b:=⟨_,rfl⟩;rw [hb] at hck hst;have HST:=hide hst;have HX:=hide hx.out;clear hst hb hcp hx
           by_cases h3:b=Sk.bG
           · have LK:=wt h3
             have HH:=hide (And.intro h3 trivial);clear h3
             go_wp2_with (first | ((with_reducible refine bJ 26 2 ?_);refine dW (hBr.au rfl) Tryz.underlying26 aj ?_) | ((with_reducible refine iy 26 2 ?_);refine oq (hBr.au rfl) Tryz.underlying26 aj ?_) | (go_at_call 175;refine (rO s ht _).mono ?_;rintro e1 w5 ⟨rfl,hb5⟩;have hBr:=hBr.call (by simp) hb5;have hbr:=hbr.trans (hb5.mono hbr.size);have hX:=hBr.get 1 rfl;have CO:=hX.frozen 2;have x2:w5.cell? ⟨w.heap.size+1,2,none⟩=some (.slice (some ⟨b0,o0,none⟩) e.x.hits.length e.a):=(hX.cell (j:=2) rfl).trans (by rw [HA0.out]);have h05:w5.cell? ⟨b0,o0,none⟩=some (.string h0):=(hbr.cell (p:=⟨b0,o0,none⟩) VZ.out).trans Oo.out))
             go_roundw
             case rel=>exact ⟨k+1,m+3,by omega,by go_num,by go_num,by obtain ⟨h3,_⟩:=HH.out;have hst5:=HST.out;show _=_;rw [HX.out,hst5,Uf.out,if_pos (.inl h3)],by omega,by omega,hBr,hbr⟩
             case measure=>simp [intOf];omega
           · have LJ:=wf h3
             by_cases h4:b=Sk.own s
             · have LP:=ku h4
               have al1:=ku h4.symm
               by_cases h5:h0=Sk.bG
               · have UK:=wt h5
                 have HH:=hide (And.intro h3 (And.intro h4 (And.intro h5 trivial)));clear h3 h4 h5
                 go_wp2_with (first | ((with_reducible refine bJ 26 2 ?_);refine dW (hBr.au rfl) Tryz.underlying26 aj ?_) | ((with_reducible refine iy 26 2 ?_);refine oq (hBr.au rfl) Tryz.underlying26 aj ?_) | (go_at_call 175;refine (rO s ht _).mono ?_;rintro e1 w5 ⟨rfl,hb5⟩;have hBr:=hBr.call (by simp) hb5;have hbr:=hbr.trans (hb5.mono hbr.size);have hX:=hBr.get 1 rfl;have CO:=hX.frozen 2;have x2:w5.cell? ⟨w.heap.size+1,2,none⟩=some (.slice (some ⟨b0,o0,none⟩) e.x.hits.length e.a):=(hX.cell (j:=2) rfl).trans (by rw [HA0.out]);have h05:w5.cell? ⟨b0,o0,none⟩=some (.string h0):=(hbr.cell (p:=⟨b0,o0,none⟩) VZ.out).trans Oo.out))
                 go_roundw
                 case rel=>exact ⟨k+1,m+3,by omega,by go_num,by go_num,by obtain ⟨h3,h4,h5,_⟩:=HH.out;have hst5:=HST.out;show _=_;rw [HX.out,hst5,Uf.out,if_pos (.inr ⟨h4,h5⟩)],by omega,by omega,hBr,hbr⟩
                 case measure=>simp [intOf];omega
               · have UJ:=wf h5
                 have HH:=hide (And.intro h3 (And.intro h4 (And.intro h5 trivial)));clear h3 h4 h5
                 go_wp2_with (first | ((with_reducible refine bJ 26 2 ?_);refine dW (hBr.au rfl) Tryz.underlying26 aj ?_) | ((with_reducible refine iy 26 2 ?_);refine oq (hBr.au rfl) Tryz.underlying26 aj ?_) | (go_at_call 175;refine (rO s ht _).mono ?_;rintro e1 w5 ⟨rfl,hb5⟩;have hBr:=hBr.call (by simp) hb5;have hbr:=hbr.trans (hb5.mono hbr.size);have hX:=hBr.get 1 rfl;have CO:=hX.frozen 2;have x2:w5.cell? ⟨w.heap.size+1,2,none⟩=some (.slice (some ⟨b0,o0,none⟩) e.x.hits.length e.a):=(hX.cell (j:=2) rfl).trans (by rw [HA0.out]);have h05:w5.cell? ⟨b0,o0,none⟩=some (.string h0):=(hbr.cell (p:=⟨b0,o0,none⟩) VZ.out).trans Oo.out))
                 go_roundw
                 case rel=>exact ⟨k+1,m+2,by omega,by go_num,by go_num,by obtain ⟨h3,h4,h5,_⟩:=HH.out;have hst5:=HST.out;show _=_;rw [HX.out,hst5,Uf.out,if_neg (by rintro (h | ⟨_,h⟩);exact h3 h;exact h5 h)],by omega,by omega,hBr,hbr⟩
                 case measure=>simp [intOf];omega
             · have LM:=jM h4
               have alU:=jM (fun e=>h4 e.symm);have HH:=hide (And.intro h3 (And.intro h4 trivial));clear h3 h4
               go_wp2_with (first | ((with_reducible refine bJ 26 2 ?_);refine dW (hBr.au rfl) Tryz.underlying26 aj ?_) | ((with_reducible refine iy 26 2 ?_);refine oq (hBr.au rfl) Tryz.underlying26 aj ?_) | (go_at_call 175;refine (rO s ht _).mono ?_;rintro e1 w5 ⟨rfl,hb5⟩;have hBr:=hBr.call (by simp) hb5;have hbr:=hbr.trans (hb5.mono hbr.size);have hX:=hBr.get 1 rfl;have CO:=hX.frozen 2;have x2:w5.cell? ⟨w.heap.size+1,2,none⟩=some (.slice (some ⟨b0,o0,none⟩) e.x.hits.length e.a):=(hX.cell (j:=2) rfl).trans (by rw [HA0.out]);have h05:w5.cell? ⟨b0,o0,none⟩=some (.string h0):=(hbr.cell (p:=⟨b0,o0,none⟩) VZ.out).trans Oo.out))
               go_roundw
               case rel=>exact ⟨k+1,m+2,by omega,by go_num,by go_num,by obtain ⟨h3,h4,_⟩:=HH.out;have hst5:=HST.out;show _=_;rw [HX.out,hst5,Uf.out,if_neg (by rintro (h | ⟨h,_⟩);exact h3 h;exact h4 h)],by omega,by omega,hBr,hbr⟩
               case measure=>simp [intOf];omega
         · have hz:=hx.out
           rw [List.drop_of_length_le (by omega),Sk.lT] at hz;have HZ:=hide hz;have HM:=hide (show Sk.bC s e.x=⟨m,0,0,decide (0<m)⟩ by unfold Sk.bC;rw [if_neg HN.out,if_neg (by have h:=ZT.out;unfold lK at h;simpa using h),hz]);clear hz hx
           go_wp2_with (first | ((with_reducible refine isS 78 4 66 ?_);refine fU (hBr.get 2 rfl) (dV ⟨m,0,0,decide (0<m)⟩) dS (fZ _) ?_))
           all_goals
            have hZ:=hBr.put 2 rfl (dV ⟨m,0,0,decide (0<m)⟩) rfl;refine bodyPost_ret (aI (p:=4) (hZ.get 2 rfl) Tryz.underlying78 rfl dS rfl _ rfl) rfl ⟨?_,hZ.bw⟩;rw [HM.out];rfl
theorem MJ (s:Sk.State) (e:Sk.Entry) {l:List ByteArray} {k:Nat} (hk:k<l.length) (m:Int):Sk.most s e m (l.drop k)=Sk.most s e (if Sk.wanted s e l[k] then m else max m (Sk.value l[k])) (l.drop (k+1)):=by
 rw [List.drop_eq_getElem_cons hk,Sk.most]
theorem yE (l:List ByteArray) (x:ByteArray):0≤Sk.count l x∧Sk.count l x≤l.length:=by
 have h:=DC l x l.length
 rwa [List.take_length] at h
theorem OY {s:Sk.State} {e:Sk.Entry} (h:Sk.cu s e=2):e.hits≠[]:=by
 intro h0
 unfold Sk.cu at h
 rw [if_pos h0] at h
 cases h
theorem yY (S:Nat→Prop) (s:Sk.State) (e:En) (w:World) (hc:0≤s.colour∧s.colour≤7) (he:iL w S e):Calls Tryz.prog 111 #[jE s,rU e] w fun e_ w'=>e_= .returned (FD (Sk.eF s e.x))∧Below w.heap.size w w':=by
 obtain ⟨p1,p2,p3⟩:=he.hits.bd;obtain ⟨p4,p5,p6⟩:=he.aF.bd
 go_enter Tryz.func111,Tryz.ntmps111
 go_upto_region 0 with (fail)
 go_cut [2,3,4] (fun v2 v3 v4 wx=>v2=ptr w.heap.size∧v3=ptr (w.heap.size+1)∧v4=ptr (w.heap.size+2)∧aG w wx [(aC s,26),(dn e,83),(dV ⟨0,0,0,false⟩,78)])
 case first=>
  go_wp2;go_meet;exact ⟨rfl,rfl,rfl,((((aG.nil w).new (by simp) (aC s) _).new (by simp) (dn e) _).new (by simp) (dV ⟨0,0,0,false⟩) _)⟩
 case rest=>
  obtain ⟨rfl,rfl,rfl,hB⟩:=hcut;have hfo:=fun W (hb:Below w.heap.size w W)=>J6 S s e W hc (he.below hb);obtain ⟨f,hf⟩:∃ y,Sk.cu s e.x=y:=⟨_,rfl⟩
  simp only [hf] at hfo
  have Ie:=hide hfo;have HF:=hide hf;clear hfo
  by_cases hpf:0<f
  · have EK:decide (0<f)=true:=decide_eq_true hpf
    have HPF:=hide hpf;clear hpf
    go_upto_region 3 with (first | ((with_reducible refine bJ 26 2 ?_);refine dW (hB.au rfl) Tryz.underlying26 aj ?_) | ((with_reducible refine bJ 83 3 ?_);refine dW (hB.get 1 rfl) Tryz.underlying83 bI ?_) | (go_at_call 170;refine (Ie.out _ hB.bw).mono ?_;rintro e1 w1 ⟨rfl,hb1⟩;have hB:=hB.call (by simp) hb1))
    go_cut [6] (fun v wx=>v= .int .i64 (max 4 (Sk.worth s e.x))∧aG w wx [(aC s,26),(dn e,83),(dV ⟨0,0,0,false⟩,78)])
    case first=>
     go_wp2_with (first | ((with_reducible refine bJ 26 2 ?_);refine dW (hB.au rfl) Tryz.underlying26 aj ?_) | ((with_reducible refine bJ 83 3 ?_);refine dW (hB.get 1 rfl) Tryz.underlying83 bI ?_) | (go_at_call 171;refine (y8 s e _).mono ?_;rintro e1 w1 ⟨rfl,hb1⟩;have hB:=hB.call (by simp) hb1))
     all_goals
      go_meet;exact ⟨congrArg (Value.int .i64) (by omega),hB⟩
    case rest=>
     obtain ⟨rfl,hB1⟩:=hcut;obtain ⟨m0,hm0⟩:∃ m,(if f=2 then max (max 4 (Sk.worth s e.x)) (Sk.value (e.x.hits.headD Sk.bU)) else max 4 (Sk.worth s e.x))=m:=⟨_,rfl⟩;obtain ⟨mw,hmw⟩:∃ m,max 4 (Sk.worth s e.x)=m:=⟨_,rfl⟩;rw [hmw] at hm0 ⊢;have HMW:=hide hmw;have hB:=hB1;clear hmw hB1
     rcases Bool.eq_false_or_eq_true (f == 2) with h2 | h2
     all_goals
      go_upto_if 21 with (fail)
      go_cut [6] (fun v wx=>v= .int .i64 m0∧aG w wx [(aC s,26),(dn e,83),(dV ⟨0,0,0,false⟩,78)])
      case rest=>
       obtain ⟨rfl,hB1⟩:=hcut;have Ot:=hide hm0;have hB:=hB1;clear hB1 hm0 h2;have hX:=hB.get 1 rfl;have x3:=hX.cell (j:=3) rfl;have Aa:=hX.frozen 3;have PW:=he.aF;obtain ⟨PB,Pj⟩:∃ A,e.B=A:=⟨_,rfl⟩;rw [Pj] at x3 PW;have HPB:=hide Pj;clear Pj;go_wp2
       go_loopw [6,8,32] (fun v6 _ i wr=>∃ (k:Nat) (m:Int),k≤e.x.aF.length∧i= .int .i64 k∧v6= .int .i64 m∧Aside (Sk.most s e.x m0 e.x.aF=Sk.most s e.x m (e.x.aF.drop k))∧aG w wr [(aC s,26),(dn e,83),(dV ⟨0,0,0,false⟩,78)]) (fun _ _ i _=>e.x.aF.length - (intOf i).toNat)
       case atStart=>exact ⟨0,m0,Nat.zero_le _,rfl,rfl,(show _=_ from rfl),hB⟩
       case round=>
        obtain ⟨k,m,hk,rfl,rfl,hx,hBr⟩:=hrel
        by_cases hlt:k<e.x.aF.length
        · have hst:=MJ s e.x hlt m
          obtain ⟨bp,op,rfl,_,hbp,hcp⟩:=PW.at_ k hlt;have hck:wr.cell? ⟨bp,op+k,none⟩=some (.string e.x.aF[k]):=(hBr.bw.cell (p:=⟨bp,op+k,none⟩) hbp).trans (hcp k hlt);obtain ⟨b,hb⟩:∃ b,e.x.aF[k]=b:=⟨_,rfl⟩;rw [hb] at hck hst;have hwa:=fun W=>CJ s e b hc W;obtain ⟨yw,Vh⟩:∃ y,Sk.wanted s e.x b=y:=⟨_,rfl⟩
          simp only [Vh] at hwa
          rw [Vh] at hst;have HWA:=hide hwa;have HX:=hide hx.out;clear hb hcp hx hwa Vh
          cases yw with
          | true=>
            have HST:=hide hst;clear hst
            go_wp2_with (first | ((with_reducible refine bJ 26 2 ?_);refine dW (hBr.au rfl) Tryz.underlying26 aj ?_) | ((with_reducible refine bJ 83 3 ?_);refine dW (hBr.get 1 rfl) Tryz.underlying83 bI ?_) | (go_at_call 172;refine (HWA.out _).mono ?_;rintro e1 w5 ⟨rfl,hb5⟩;have hBr:=hBr.call (by simp) hb5))
            go_roundw
            case rel=>exact ⟨k+1,m,by omega,by go_num,rfl,(show _=_ from by rw [HX.out,HST.out];rfl),hBr⟩
            case measure=>simp [intOf];omega
          | false=>
            have HST:=hide hst;clear hst
            go_wp2_with (first | ((with_reducible refine bJ 26 2 ?_);refine dW (hBr.au rfl) Tryz.underlying26 aj ?_) | ((with_reducible refine bJ 83 3 ?_);refine dW (hBr.get 1 rfl) Tryz.underlying83 bI ?_) | (go_at_call 172;refine (HWA.out _).mono ?_;rintro e1 w5 ⟨rfl,hb5⟩;have hBr:=hBr.call (by simp) hb5) | (go_at_call 90;refine (dY _ _).mono ?_;rintro e1 w6 ⟨rfl,hb6⟩;have hBr:=hBr.call (by simp) hb6))
            all_goals
             go_roundw
             case rel=>exact ⟨k+1,_,by omega,by go_num,rfl,(show _=_ from by rw [HX.out,HST.out];exact congrArg (fun z=>Sk.most s e.x z _) (by rw [if_neg (by decide)];omega)),hBr⟩
             case measure=>simp [intOf];omega
        · have hz:=hx.out
          rw [List.drop_of_length_le (by omega),Sk.most] at hz;have HM:=hide (show Sk.eF s e.x=⟨0,f,m,false⟩ by unfold Sk.eF;rw [HF.out,if_pos HPF.out,HMW.out,Ot.out,hz]);clear hz hx
          go_wp2_with (first | ((with_reducible refine isS 78 4 48 ?_);refine fU (hBr.get 2 rfl) (dV ⟨0,f,m,false⟩) dS (fZ _) ?_))
          have hZ:=hBr.put 2 rfl (dV ⟨0,f,m,false⟩) rfl;refine bodyPost_ret (aI (p:=4) (hZ.get 2 rfl) Tryz.underlying78 rfl dS rfl _ rfl) rfl ⟨?_,hZ.bw⟩;rw [HM.out];rfl
     · case first=>
        have h22:f=2:=by simpa using h2
        have hne:e.x.hits≠[]:=OY (HF.out.trans h22);have hpos:0<e.x.hits.length:=List.length_pos_iff.2 hne;obtain ⟨b0,o0,hA0,_,EH,hcc⟩:=he.hits.at_ 0 hpos;have acO:=hcc 0 hpos;rw [Nat.add_zero] at acO;have h00:=(hB.bw.cell (p:=⟨b0,o0,none⟩) EH).trans acO;have hhd:=xC hpos;obtain ⟨h0,hh0⟩:∃ h,e.x.hits[0]=h:=⟨_,rfl⟩;rw [hh0] at h00 hhd;rw [hhd,if_pos h22] at hm0;have hX:=hB.get 1 rfl;have x2:wc.cell? ⟨w.heap.size+1,2,none⟩=some (.slice (some ⟨b0,o0,none⟩) e.x.hits.length e.a):=(hX.cell (j:=2) rfl).trans (by rw [hA0]);have CO:=hX.frozen 2;have HM:=hide hm0;clear hm0 hA0 hcc hhd hh0 hne h22 h2
        go_wp2_with (first | (go_at_call 90;refine (dY _ _).mono ?_;rintro e1 w5 ⟨rfl,hb5⟩;have hB:=hB.call (by simp) hb5))
        all_goals
         go_meet;exact ⟨congrArg (Value.int .i64) (by have:=HM.out;omega),hB⟩
     · case first=>
        have h22:¬ f=2:=by simpa using h2
        rw [if_neg h22] at hm0;have HM:=hide hm0;clear hm0 h22;go_wp2;go_meet;exact ⟨congrArg (Value.int .i64) HM.out,hB⟩
  · have EK:decide (0<f)=false:=decide_eq_false hpf
    have HJ:=hide (show Sk.eF s e.x=⟨Sk.dB s e.x,0,0,decide (0<Sk.dB s e.x)⟩ by unfold Sk.eF;rw [HF.out,if_neg hpf]);clear hpf
    go_upto_region 14 with (first | ((with_reducible refine bJ 26 2 ?_);refine dW (hB.au rfl) Tryz.underlying26 aj ?_) | ((with_reducible refine bJ 83 3 ?_);refine dW (hB.get 1 rfl) Tryz.underlying83 bI ?_) | (go_at_call 170;refine (Ie.out _ hB.bw).mono ?_;rintro e1 w1 ⟨rfl,hb1⟩;have hB:=hB.call (by simp) hb1))
    go_cut [10] (fun v wx=>v= .bool (Sk.called e.x)∧aG w wx [(aC s,26),(dn e,83),(dV ⟨0,0,0,false⟩,78)])
    case first=>
     have hhc:=fun W (hb:Below w.heap.size w W)=>iF S e.B e.b e.x.aF e.x.called W (he.aF.below hb);obtain ⟨yc,wC⟩:∃ y,Sk.has e.x.aF e.x.called=y:=⟨_,rfl⟩
     simp only [wC] at hhc
     have HHC:=hide hhc;have Ku:=hide wC;clear hhc wC;have hX:=hB.get 1 rfl;have x1:=hX.cell (j:=1) rfl;have xf1:=hX.frozen 1;have x3:=hX.cell (j:=3) rfl;have Aa:=hX.frozen 3
     by_cases hcl:e.x.called=Sk.bU
     · have hc1:=wt hcl
       have hc2:=ZM hcl;have HH:=hide hcl;clear hcl;go_wp2;go_meet;exact ⟨dO (by unfold Sk.called;simp [HH.out]),hB⟩
     · have hc1:=wf hcl
       have hc2:=ZL hcl;have HH:=hide hcl;clear hcl
       go_wp2_with (first | (go_at_call 68;refine (HHC.out _ hB.bw).mono ?_;rintro e1 w9 ⟨rfl,rfl⟩))
       go_meet;exact ⟨dO (by unfold Sk.called;rw [Ku.out];simp [HH.out]),hB⟩
    case rest=>
     obtain ⟨rfl,hB1⟩:=hcut;have hB:=hB1;clear hB1;obtain ⟨yk,hyk⟩:∃ y,Sk.called e.x=y:=⟨_,rfl⟩;have Zj:=hide hyk;rw [hyk];clear hyk;have hS:=hB.au rfl;have hX:=hB.get 1 rfl;have x3:=hX.cell (j:=3) rfl;have Aa:=hX.frozen 3;have s4:=hS.cell (j:=4) rfl;have sf4:=hS.frozen 4;have hcb:=yE e.x.aF Sk.bG
     by_cases CQ:s.phase=Sk.fM
     · have hp1:=wt CQ
       cases yk
       · have HM:=hide (show Sk.eF s e.x=⟨Sk.count e.x.aF Sk.bG,0,0,decide (0<Sk.count e.x.aF Sk.bG)⟩ by rw [HJ.out,show Sk.dB s e.x=Sk.count e.x.aF Sk.bG by unfold Sk.dB;rw [if_pos CQ,Zj.out];simp])
         clear CQ
         go_wp2_with (first | ((with_reducible refine bJ 26 2 ?_);refine dW (hB.au rfl) Tryz.underlying26 aj ?_) | ((with_reducible refine bJ 83 3 ?_);refine dW (hB.get 1 rfl) Tryz.underlying83 bI ?_) | (go_at_call 168;refine (iV S e.B e.b e.x.aF Sk.bG _ (he.aF.below hB.bw)).mono ?_;rintro e1 w9 ⟨rfl,rfl⟩) | ((with_reducible refine isS 78 4 91 ?_);refine fU (hB.get 2 rfl) (dV ⟨Sk.count e.x.aF Sk.bG,0,0,decide (0<Sk.count e.x.aF Sk.bG)⟩) dS (fZ _) ?_))
         have hZ:=hB.put 2 rfl (dV ⟨Sk.count e.x.aF Sk.bG,0,0,decide (0<Sk.count e.x.aF Sk.bG)⟩) rfl;refine bodyPost_ret (aI (p:=4) (hZ.get 2 rfl) Tryz.underlying78 rfl dS rfl _ rfl) rfl ⟨?_,hZ.bw⟩;rw [HM.out];rfl
       · have HM:=hide (show Sk.eF s e.x=⟨(Sk.count e.x.aF Sk.bG+1),0,0,decide (0<(Sk.count e.x.aF Sk.bG+1))⟩ by rw [HJ.out,show Sk.dB s e.x=(Sk.count e.x.aF Sk.bG+1) by unfold Sk.dB;rw [if_pos CQ,Zj.out];simp])
         clear CQ
         go_wp2_with (first | ((with_reducible refine bJ 26 2 ?_);refine dW (hB.au rfl) Tryz.underlying26 aj ?_) | ((with_reducible refine bJ 83 3 ?_);refine dW (hB.get 1 rfl) Tryz.underlying83 bI ?_) | (go_at_call 168;refine (iV S e.B e.b e.x.aF Sk.bG _ (he.aF.below hB.bw)).mono ?_;rintro e1 w9 ⟨rfl,rfl⟩) | ((with_reducible refine isS 78 4 91 ?_);refine fU (hB.get 2 rfl) (dV ⟨(Sk.count e.x.aF Sk.bG+1),0,0,decide (0<(Sk.count e.x.aF Sk.bG+1))⟩) dS (fZ _) ?_))
         have hZ:=hB.put 2 rfl (dV ⟨(Sk.count e.x.aF Sk.bG+1),0,0,decide (0<(Sk.count e.x.aF Sk.bG+1))⟩) rfl;refine bodyPost_ret (aI (p:=4) (hZ.get 2 rfl) Tryz.underlying78 rfl dS rfl _ rfl) rfl ⟨?_,hZ.bw⟩;rw [HM.out];rfl
     · have hp1:=wf CQ
       have hsz:=hB.size (by simp)
       simp only [List.length_cons,List.length_nil] at hsz
       cases yk
       · have hho:=fun W (hb:Below w.heap.size w W)=>iF S e.B e.b e.x.aF ((Sk.on s)[0]'(kT s)) W (he.aF.below hb)
         have hhd:=La s;obtain ⟨yh,WL⟩:∃ y,Sk.has e.x.aF ((Sk.on s)[0]'(kT s))=y:=⟨_,rfl⟩
         simp only [WL] at hho
         rw [← hhd] at WL;have V4:=hide hho;have Xm:=hide WL
         have yu:∀ W:World,(fun w':World=>∀ p q,p<w.heap.size+3→w'.cell? ⟨p,q,none⟩=wc.cell? ⟨p,q,none⟩) W→W.rangeAt w.heap.size 0 (aC s):=fun W h j v hj=>by rw [h _ _ (by omega)];exact (hB.au rfl).range j v hj
         clear hho WL hhd
         cases yh
         · have HM:=hide (show Sk.eF s e.x=⟨0,0,0,false⟩ by rw [HJ.out,show Sk.dB s e.x=0 by unfold Sk.dB;rw [if_neg CQ,Zj.out,Xm.out];simp];rfl)
           clear CQ
           go_upto_region 19 with (fail)
           refine wp_region_held_drew (S:=(fun w':World=>∀ p q,p<w.heap.size+3→w'.cell? ⟨p,q,none⟩=wc.cell? ⟨p,q,none⟩)) (by kernel_rfl) ?dJ (fun hHeld=>?_)
           case dJ=>exact fun p q h=>rfl
           refine aA 0 ?_;refine aA 1 ?_;refine aA 2 ?_;refine aA 3 ?_;refine bD 4 yu Tryz.underlying26 ?_;refine aB 5 fun K hK=>?_;go_simp
           (go_at_call 93;refine (kV s hc _).mono ?_;rintro e1 w1 ⟨A1,c1,rfl,hr1,hb1⟩;have hB:=hB.drew.call (by simp) hb1;obtain ⟨b1,o1,rfl,_,_,hc1⟩:=hr1.at_ 0 (kT s);have hon:=hc1 0 (kT s);have X5:=kT s;rw [Nat.add_zero] at hon;have hb8:Below wc.heap.size wc w1:=⟨hb1.os,hb1.tape,hb1.output,hb1.size,hb1.block⟩)
           refine ak hK (fun p q h=>hb8.cell (p:=⟨p,q,none⟩) (Nat.lt_of_lt_of_le h hsz)) fun hHeld=>?_;clear hK K;refine aA 6 ?_;refine aB 7 fun K hK=>?_;go_simp;refine ak hK (by first | exact fun p q h=>hb8.cell (p:=⟨p,q,none⟩) (Nat.lt_of_lt_of_le h hsz) | exact fun p q h=>rfl) fun hHeld=>?_;clear hK K;refine aB 8 fun K hK=>?_;go_simp
           (go_at_call 68;refine (V4.out _ hB.bw).mono ?_;rintro e1 w9 ⟨rfl,rfl⟩)
           refine ak hK (fun p q h=>hb8.cell (p:=⟨p,q,none⟩) (Nat.lt_of_lt_of_le h hsz)) fun hHeld=>?_;clear hK K;refine aA 9 ?_;refine iP 10 ?_;refine iP 11 ?_;refine iP 12 ?_;refine aA 13 ?_;refine aA 14 ?_;refine aA 15 ?_;refine wpAnyH_done (by kernel_rfl) ?_ _
           go_wp2_with (first | ((with_reducible refine isS 78 4 91 ?_);refine fU (hB.get 2 rfl) (dV ⟨0,0,0,false⟩) dS (fZ _) ?_))
           have hZ:=hB.put 2 rfl (dV ⟨0,0,0,false⟩) rfl;refine bodyPost_ret (aI (p:=4) (hZ.get 2 rfl) Tryz.underlying78 rfl dS rfl _ rfl) rfl ⟨?_,hZ.bw⟩;rw [HM.out];rfl
         · by_cases hfi:s.phase=Sk.bH
           · have aoC:=wt hfi
             have HM:=hide (show Sk.eF s e.x=⟨(Sk.worth s e.x),0,0,decide (0<(Sk.worth s e.x))⟩ by rw [HJ.out,show Sk.dB s e.x=(Sk.worth s e.x) by unfold Sk.dB;rw [if_neg CQ,Zj.out,Xm.out,if_pos (.inr ⟨rfl,hfi⟩)]]);clear CQ hfi
             go_upto_region 19 with (fail)
             refine wp_region_held_drew (S:=(fun w':World=>∀ p q,p<w.heap.size+3→w'.cell? ⟨p,q,none⟩=wc.cell? ⟨p,q,none⟩)) (by kernel_rfl) ?gW (fun hHeld=>?_)
             case gW=>exact fun p q h=>rfl
             refine aA 0 ?_;refine aA 1 ?_;refine aA 2 ?_;refine aA 3 ?_;refine bD 4 yu Tryz.underlying26 ?_;refine aB 5 fun K hK=>?_;go_simp
             (go_at_call 93;refine (kV s hc _).mono ?_;rintro e1 w1 ⟨A1,c1,rfl,hr1,hb1⟩;have hB:=hB.drew.call (by simp) hb1;obtain ⟨b1,o1,rfl,_,_,hc1⟩:=hr1.at_ 0 (kT s);have hon:=hc1 0 (kT s);have X5:=kT s;rw [Nat.add_zero] at hon;have hb8:Below wc.heap.size wc w1:=⟨hb1.os,hb1.tape,hb1.output,hb1.size,hb1.block⟩)
             refine ak hK (fun p q h=>hb8.cell (p:=⟨p,q,none⟩) (Nat.lt_of_lt_of_le h hsz)) fun hHeld=>?_;clear hK K;refine aA 6 ?_;refine aB 7 fun K hK=>?_;go_simp;refine ak hK (by first | exact fun p q h=>hb8.cell (p:=⟨p,q,none⟩) (Nat.lt_of_lt_of_le h hsz) | exact fun p q h=>rfl) fun hHeld=>?_;clear hK K;refine aB 8 fun K hK=>?_;go_simp
             (go_at_call 68;refine (V4.out _ hB.bw).mono ?_;rintro e1 w9 ⟨rfl,rfl⟩)
             refine ak hK (fun p q h=>hb8.cell (p:=⟨p,q,none⟩) (Nat.lt_of_lt_of_le h hsz)) fun hHeld=>?_;clear hK K;refine aA 9 ?_;refine aA 10 ?_;refine aA 11 ?_;refine aA 12 ?_;refine aA 13 ?_;refine aA 14 ?_;refine aA 15 ?_;refine wpAnyH_done (by kernel_rfl) ?_ _
             go_wp2_with (first | ((with_reducible refine bJ 26 2 ?_);refine dW (hB.au rfl) Tryz.underlying26 aj ?_) | ((with_reducible refine bJ 83 3 ?_);refine dW (hB.get 1 rfl) Tryz.underlying83 bI ?_) | (go_at_call 171;refine (y8 s e _).mono ?_;rintro e1 w5 ⟨rfl,hb5⟩;have hB:=hB.call (by simp) hb5) | ((with_reducible refine isS 78 4 91 ?_);refine fU (hB.get 2 rfl) (dV ⟨(Sk.worth s e.x),0,0,decide (0<(Sk.worth s e.x))⟩) dS (fZ _) ?_))
             have hZ:=hB.put 2 rfl (dV ⟨(Sk.worth s e.x),0,0,decide (0<(Sk.worth s e.x))⟩) rfl;refine bodyPost_ret (aI (p:=4) (hZ.get 2 rfl) Tryz.underlying78 rfl dS rfl _ rfl) rfl ⟨?_,hZ.bw⟩;rw [HM.out];rfl
           · have aoC:=wf hfi
             have HM:=hide (show Sk.eF s e.x=⟨0,0,0,false⟩ by rw [HJ.out,show Sk.dB s e.x=0 by unfold Sk.dB;rw [if_neg CQ,Zj.out,Xm.out,if_neg (by rintro (h | ⟨_,h⟩);cases h;exact hfi h)]];rfl);clear CQ hfi
             go_upto_region 19 with (fail)
             refine wp_region_held_drew (S:=(fun w':World=>∀ p q,p<w.heap.size+3→w'.cell? ⟨p,q,none⟩=wc.cell? ⟨p,q,none⟩)) (by kernel_rfl) ?mG (fun hHeld=>?_)
             case mG=>exact fun p q h=>rfl
             refine aA 0 ?_;refine aA 1 ?_;refine aA 2 ?_;refine aA 3 ?_;refine bD 4 yu Tryz.underlying26 ?_;refine aB 5 fun K hK=>?_;go_simp
             (go_at_call 93;refine (kV s hc _).mono ?_;rintro e1 w1 ⟨A1,c1,rfl,hr1,hb1⟩;have hB:=hB.drew.call (by simp) hb1;obtain ⟨b1,o1,rfl,_,_,hc1⟩:=hr1.at_ 0 (kT s);have hon:=hc1 0 (kT s);have X5:=kT s;rw [Nat.add_zero] at hon;have hb8:Below wc.heap.size wc w1:=⟨hb1.os,hb1.tape,hb1.output,hb1.size,hb1.block⟩)
             refine ak hK (fun p q h=>hb8.cell (p:=⟨p,q,none⟩) (Nat.lt_of_lt_of_le h hsz)) fun hHeld=>?_;clear hK K;refine aA 6 ?_;refine aB 7 fun K hK=>?_;go_simp;refine ak hK (by first | exact fun p q h=>hb8.cell (p:=⟨p,q,none⟩) (Nat.lt_of_lt_of_le h hsz) | exact fun p q h=>rfl) fun hHeld=>?_;clear hK K;refine aB 8 fun K hK=>?_;go_simp
             (go_at_call 68;refine (V4.out _ hB.bw).mono ?_;rintro e1 w9 ⟨rfl,rfl⟩)
             refine ak hK (fun p q h=>hb8.cell (p:=⟨p,q,none⟩) (Nat.lt_of_lt_of_le h hsz)) fun hHeld=>?_;clear hK K;refine aA 9 ?_;refine aA 10 ?_;refine aA 11 ?_;refine aA 12 ?_;refine aA 13 ?_;refine aA 14 ?_;refine aA 15 ?_;refine wpAnyH_done (by kernel_rfl) ?_ _
             go_wp2_with (first | ((with_reducible refine isS 78 4 91 ?_);refine fU (hB.get 2 rfl) (dV ⟨0,0,0,false⟩) dS (fZ _) ?_))
             have hZ:=hB.put 2 rfl (dV ⟨0,0,0,false⟩) rfl;refine bodyPost_ret (aI (p:=4) (hZ.get 2 rfl) Tryz.underlying78 rfl dS rfl _ rfl) rfl ⟨?_,hZ.bw⟩;rw [HM.out];rfl
       · have yu:∀ W:World,(fun w':World=>∀ p q,p<w.heap.size+3→w'.cell? ⟨p,q,none⟩=wc.cell? ⟨p,q,none⟩) W→W.rangeAt w.heap.size 0 (aC s):=fun W h j v hj=>by rw [h _ _ (by omega)];exact (hB.au rfl).range j v hj
         have HM:=hide (show Sk.eF s e.x=⟨(Sk.worth s e.x),0,0,decide (0<(Sk.worth s e.x))⟩ by rw [HJ.out,show Sk.dB s e.x=(Sk.worth s e.x) by unfold Sk.dB;rw [if_neg CQ,Zj.out,if_pos (.inl rfl)]]);clear CQ
         go_upto_region 19 with (fail)
         refine wp_region_held_drew (S:=(fun w':World=>∀ p q,p<w.heap.size+3→w'.cell? ⟨p,q,none⟩=wc.cell? ⟨p,q,none⟩)) (by kernel_rfl) ?mJ (fun hHeld=>?_)
         case mJ=>exact fun p q h=>rfl
         refine aA 0 ?_;refine aA 1 ?_;refine iP 2 ?_;refine iP 3 ?_;refine iP 4 ?_;refine iP 5 ?_;refine iP 6 ?_;refine aB 7 fun K hK=>?_;go_simp;refine ak hK (by first | exact fun p q h=>hb8.cell (p:=⟨p,q,none⟩) (Nat.lt_of_lt_of_le h hsz) | exact fun p q h=>rfl) fun hHeld=>?_;clear hK K;refine iP 8 ?_;refine iP 9 ?_;refine iP 10 ?_;refine iP 11 ?_;refine iP 12 ?_;refine iP 13 ?_;refine aA 14 ?_;refine aA 15 ?_;refine wpAnyH_done (by kernel_rfl) ?_ _;have hB:=hB.drew
         go_wp2_with (first | ((with_reducible refine bJ 26 2 ?_);refine dW (hB.au rfl) Tryz.underlying26 aj ?_) | ((with_reducible refine bJ 83 3 ?_);refine dW (hB.get 1 rfl) Tryz.underlying83 bI ?_) | (go_at_call 171;refine (y8 s e _).mono ?_;rintro e1 w5 ⟨rfl,hb5⟩;have hB:=hB.call (by simp) hb5) | ((with_reducible refine isS 78 4 91 ?_);refine fU (hB.get 2 rfl) (dV ⟨(Sk.worth s e.x),0,0,decide (0<(Sk.worth s e.x))⟩) dS (fZ _) ?_))
         have hZ:=hB.put 2 rfl (dV ⟨(Sk.worth s e.x),0,0,decide (0<(Sk.worth s e.x))⟩) rfl;refine bodyPost_ret (aI (p:=4) (hZ.get 2 rfl) Tryz.underlying78 rfl dS rfl _ rfl) rfl ⟨?_,hZ.bw⟩;rw [HM.out];rfl
def sS (s:Sk.State) (k:Int):Sk.State:=⟨s.turn,s.s0,s.s1,s.brk,s.phase,s.aY,s.colour,s.free,s.aN,k,s.t0,s.t1,s.ay⟩
def zW (s:Sk.State) (k wi:Int):Sk.State:=⟨s.turn,s.s0,s.s1,s.brk,s.phase,s.aY,s.colour,s.free,s.aN,k,s.t0,s.t1,wi⟩
def yB (s:Sk.State) (e:Sk.Entry) (v:Sk.dI):Int:=if v.stays∧Sk.eU {Sk.zero with turn:=if v.stays then s.turn else 1 - s.turn } e then 0 else if v.stays then s.aO+1 else s.aO
theorem iH (g:Sk.Game) (s:Sk.State) (e:Sk.Entry) (v:Sk.dI):Sk.dD g s e v= {s with aO:=yB s e v,ay:=if g.target≤max s.s0 s.s1 then Sk.leader s else s.ay }:=rfl
theorem vU (S:Nat→Prop) (g:Sk.Game) (s:Sk.State) (e:En) (v:Sk.dI) (w:World) (ht:s.turn=0∨s.turn=1) (hk5:0≤s.aO∧s.aO≤5) (he:iL w S e):Calls Tryz.prog 117 #[lX g,jE s,rU e,FD v] w fun e_ w'=>e_= .returned (jE (Sk.dD g s e.x v))∧Below w.heap.size w w':=by
 go_enter Tryz.func117,Tryz.ntmps117
 go_upto_region 0 with (fail)
 go_cut [4,5,6,7,8] (fun v4 v5 v6 v7 v8 wx=>v4=ptr w.heap.size∧v5=ptr (w.heap.size+1)∧v6=ptr (w.heap.size+2)∧v7=ptr (w.heap.size+3)∧v8=ptr (w.heap.size+4)∧wx.heap.size=w.heap.size+5∧aG w wx [(bK g,23),(aC s,26),(dn e,83),(dV v,78),(aC Sk.zero,26)])
 case first=>
  go_wp2;go_meet;exact ⟨rfl,rfl,rfl,rfl,rfl,by simp,((((((aG.nil w).new (by simp) (bK g) _).new (by simp) (aC s) _).new (by simp) (dn e) _).new (by simp) (dV v) _).new (by simp) (aC Sk.zero) _)⟩
 case rest=>
  obtain ⟨rfl,rfl,rfl,rfl,rfl,hBs,hB⟩:=hcut;have hS:=hB.get 1 rfl;have k0:=hS.cell (j:=0) rfl;have hV:=hB.get 3 rfl;have u3:=hV.cell (j:=3) rfl;have uf3:=hV.frozen 3
  rcases ht with ht | ht
  all_goals
   have ht':=ht;rw [ht] at k0
   rcases Bool.eq_false_or_eq_true v.stays with hst | hst
   all_goals rw [hst] at u3
  · go_upto_region 4 with (fail)
    go_cut [10] (fun v10 wx=>v10=ptr (w.heap.size+5)∧aG w wx [(bK g,23),(aC s,26),(dn e,83),(dV v,78),(aC Sk.zero,26),(aC {Sk.zero with turn:=0 },26)])
    case first=>
     have hZ:=Held.newAt (g:=w.heap.size+5) wc (aC Sk.zero) 26 hBs;have kC:=hB.new (by have h:=hBs;simpa using h) (aC Sk.zero) 26
     go_wp2_with (first | ((with_reducible refine isS 26 10 19 ?_);refine fU (hZ) (aC {Sk.zero with turn:=0 }) aj (aT _) ?_))
     go_meet;exact ⟨rfl,kC.put 5 rfl (aC {Sk.zero with turn:=0 }) rfl⟩
    case rest=>
     obtain ⟨rfl,hB2⟩:=hcut;have hcn:=fun W (hb:Below w.heap.size w W)=>rW S {Sk.zero with turn:=0 } e W (by simp) (he.below hb);have hV2:=hB2.get 3 rfl;have v3:=hV2.cell (j:=3) rfl;have TF:=hV2.frozen 3;rw [hst] at v3;obtain ⟨yc,wC⟩:∃ y,Sk.eU {Sk.zero with turn:=0 } e.x=y:=⟨_,rfl⟩
     simp only [wC] at hcn
     have yj:=hide hcn;clear hcn
     cases yc
     · have HK:=hide (show yB s e.x v=(s.aO+1) by unfold yB;rw [hst];simp only [if_true];rw [ht',wC];simp)
       clear wC
       by_cases hm:g.target≤max s.s0 s.s1
       · have hm1:decide (g.target≤max s.s0 s.s1)=true:=decide_eq_true hm
         have HM:=hide (show Sk.dD g s e.x v=(zW s (s.aO+1) (Sk.leader (sS s (s.aO+1)))) by rw [iH,HK.out,if_pos hm];rfl);have rQ:=hide hm;clear hm
         go_wp2_with (first | ((with_reducible refine bJ 26 10 ?_);refine dW (hB2.get 5 rfl) Tryz.underlying26 aj ?_) | ((with_reducible refine iy 26 10 ?_);refine oq (hB2.get 5 rfl) Tryz.underlying26 aj ?_) | ((with_reducible refine bJ 83 6 ?_);refine dW (hB2.get 2 rfl) Tryz.underlying83 bI ?_) | ((with_reducible refine iy 83 6 ?_);refine oq (hB2.get 2 rfl) Tryz.underlying83 bI ?_) | (go_at_call 176;refine (yj.out _ hB2.bw).mono ?_;rintro e1 w1 ⟨rfl,hb1⟩;have lS:=hB2.call (by simp) hb1;have hS3:=lS.get 1 rfl;have hG3:=lS.au rfl;have vS:=lS.get 3 rfl;have z1:=hS3.cell (j:=1) rfl;have TK:=hS3.frozen 1;have z2:=hS3.cell (j:=2) rfl;have TL:=hS3.frozen 2;have z9:=hS3.cell (j:=9) rfl;have VT:=hS3.frozen 9;have g2:=hG3.cell (j:=2) rfl;have zo:=hG3.frozen 2;have v3:=vS.cell (j:=3) rfl;have TF:=vS.frozen 3;rw [hst] at v3;have hB3:aG w (w1.setCell ⟨w.heap.size+1,9,none⟩ (.int .i64 (s.aO+1))) [(bK g,23),(aC (sS s (s.aO+1)),26),(dn e,83),(dV v,78),(aC Sk.zero,26),(aC {Sk.zero with turn:=0 },26)]:=lS.set 1 rfl 9 _) | ((with_reducible refine bJ 26 5 ?_);refine dW (hB3.get 1 rfl) Tryz.underlying26 aj ?_) | (go_at_call 173;refine (iC ((sS s (s.aO+1))) _).mono ?_;rintro e1 w5 ⟨rfl,hb5⟩;have jc:=hB3.call (by simp) hb5;have h12:=(jc.get 1 rfl).cell (j:=12) rfl;have xE:=(jc.get 1 rfl).frozen 12;have hE:aG w (w5.setCell ⟨w.heap.size+1,12,none⟩ (.int .i64 (Sk.leader ((sS s (s.aO+1)))))) [(bK g,23),(aC (zW s (s.aO+1) (Sk.leader (sS s (s.aO+1)))),26),(dn e,83),(dV v,78),(aC Sk.zero,26),(aC {Sk.zero with turn:=0 },26)]:=jc.set 1 rfl 12 _) | ((with_reducible refine bJ 26 5 ?_);refine dW (hE.get 1 rfl) Tryz.underlying26 aj ?_) | ((with_reducible refine isS 26 8 49 ?_);refine fU (hE.get 4 rfl) (aC ((zW s (s.aO+1) (Sk.leader (sS s (s.aO+1)))))) aj (aT _) ?_))
         all_goals first | (exfalso;have:=rQ.out;omega) | skip
         all_goals
          have hZ:=hE.put 4 rfl (aC ((zW s (s.aO+1) (Sk.leader (sS s (s.aO+1)))))) rfl;refine bodyPost_ret (aI (p:=8) (hZ.get 4 rfl) Tryz.underlying26 rfl aj rfl _ rfl) rfl ⟨?_,hZ.bw⟩;rw [HM.out];rfl
       · have hm1:decide (g.target≤max s.s0 s.s1)=false:=decide_eq_false hm
         have HM:=hide (show Sk.dD g s e.x v=(sS s (s.aO+1)) by rw [iH,HK.out,if_neg hm];rfl);have rQ:=hide hm;clear hm
         go_wp2_with (first | ((with_reducible refine bJ 26 10 ?_);refine dW (hB2.get 5 rfl) Tryz.underlying26 aj ?_) | ((with_reducible refine iy 26 10 ?_);refine oq (hB2.get 5 rfl) Tryz.underlying26 aj ?_) | ((with_reducible refine bJ 83 6 ?_);refine dW (hB2.get 2 rfl) Tryz.underlying83 bI ?_) | ((with_reducible refine iy 83 6 ?_);refine oq (hB2.get 2 rfl) Tryz.underlying83 bI ?_) | (go_at_call 176;refine (yj.out _ hB2.bw).mono ?_;rintro e1 w1 ⟨rfl,hb1⟩;have lS:=hB2.call (by simp) hb1;have hS3:=lS.get 1 rfl;have hG3:=lS.au rfl;have vS:=lS.get 3 rfl;have z1:=hS3.cell (j:=1) rfl;have TK:=hS3.frozen 1;have z2:=hS3.cell (j:=2) rfl;have TL:=hS3.frozen 2;have z9:=hS3.cell (j:=9) rfl;have VT:=hS3.frozen 9;have g2:=hG3.cell (j:=2) rfl;have zo:=hG3.frozen 2;have v3:=vS.cell (j:=3) rfl;have TF:=vS.frozen 3;rw [hst] at v3;have hB3:aG w (w1.setCell ⟨w.heap.size+1,9,none⟩ (.int .i64 (s.aO+1))) [(bK g,23),(aC (sS s (s.aO+1)),26),(dn e,83),(dV v,78),(aC Sk.zero,26),(aC {Sk.zero with turn:=0 },26)]:=lS.set 1 rfl 9 _) | ((with_reducible refine bJ 26 5 ?_);refine dW (hB3.get 1 rfl) Tryz.underlying26 aj ?_) | ((with_reducible refine isS 26 8 49 ?_);refine fU (hB3.get 4 rfl) (aC ((sS s (s.aO+1)))) aj (aT _) ?_))
         all_goals first | (exfalso;have:=rQ.out;omega) | skip
         all_goals
          have hZ:=hB3.put 4 rfl (aC ((sS s (s.aO+1)))) rfl;refine bodyPost_ret (aI (p:=8) (hZ.get 4 rfl) Tryz.underlying26 rfl aj rfl _ rfl) rfl ⟨?_,hZ.bw⟩;rw [HM.out];rfl
     · have HK:=hide (show yB s e.x v=0 by unfold yB;rw [hst];simp only [if_true];rw [ht',wC];simp)
       clear wC
       by_cases hm:g.target≤max s.s0 s.s1
       · have hm1:decide (g.target≤max s.s0 s.s1)=true:=decide_eq_true hm
         have HM:=hide (show Sk.dD g s e.x v=(zW s 0 (Sk.leader (sS s 0))) by rw [iH,HK.out,if_pos hm];rfl);have rQ:=hide hm;clear hm
         go_wp2_with (first | ((with_reducible refine bJ 26 10 ?_);refine dW (hB2.get 5 rfl) Tryz.underlying26 aj ?_) | ((with_reducible refine iy 26 10 ?_);refine oq (hB2.get 5 rfl) Tryz.underlying26 aj ?_) | ((with_reducible refine bJ 83 6 ?_);refine dW (hB2.get 2 rfl) Tryz.underlying83 bI ?_) | ((with_reducible refine iy 83 6 ?_);refine oq (hB2.get 2 rfl) Tryz.underlying83 bI ?_) | (go_at_call 176;refine (yj.out _ hB2.bw).mono ?_;rintro e1 w1 ⟨rfl,hb1⟩;have lS:=hB2.call (by simp) hb1;have hS3:=lS.get 1 rfl;have hG3:=lS.au rfl;have vS:=lS.get 3 rfl;have z1:=hS3.cell (j:=1) rfl;have TK:=hS3.frozen 1;have z2:=hS3.cell (j:=2) rfl;have TL:=hS3.frozen 2;have z9:=hS3.cell (j:=9) rfl;have VT:=hS3.frozen 9;have g2:=hG3.cell (j:=2) rfl;have zo:=hG3.frozen 2;have v3:=vS.cell (j:=3) rfl;have TF:=vS.frozen 3;rw [hst] at v3;have hB3:aG w (w1.setCell ⟨w.heap.size+1,9,none⟩ (.int .i64 0)) [(bK g,23),(aC (sS s 0),26),(dn e,83),(dV v,78),(aC Sk.zero,26),(aC {Sk.zero with turn:=0 },26)]:=lS.set 1 rfl 9 _) | ((with_reducible refine bJ 26 5 ?_);refine dW (hB3.get 1 rfl) Tryz.underlying26 aj ?_) | (go_at_call 173;refine (iC ((sS s 0)) _).mono ?_;rintro e1 w5 ⟨rfl,hb5⟩;have jc:=hB3.call (by simp) hb5;have h12:=(jc.get 1 rfl).cell (j:=12) rfl;have xE:=(jc.get 1 rfl).frozen 12;have hE:aG w (w5.setCell ⟨w.heap.size+1,12,none⟩ (.int .i64 (Sk.leader ((sS s 0))))) [(bK g,23),(aC (zW s 0 (Sk.leader (sS s 0))),26),(dn e,83),(dV v,78),(aC Sk.zero,26),(aC {Sk.zero with turn:=0 },26)]:=jc.set 1 rfl 12 _) | ((with_reducible refine bJ 26 5 ?_);refine dW (hE.get 1 rfl) Tryz.underlying26 aj ?_) | ((with_reducible refine isS 26 8 49 ?_);refine fU (hE.get 4 rfl) (aC ((zW s 0 (Sk.leader (sS s 0))))) aj (aT _) ?_))
         all_goals first | (exfalso;have:=rQ.out;omega) | skip
         all_goals
          have hZ:=hE.put 4 rfl (aC ((zW s 0 (Sk.leader (sS s 0))))) rfl;refine bodyPost_ret (aI (p:=8) (hZ.get 4 rfl) Tryz.underlying26 rfl aj rfl _ rfl) rfl ⟨?_,hZ.bw⟩;rw [HM.out];rfl
       · have hm1:decide (g.target≤max s.s0 s.s1)=false:=decide_eq_false hm
         have HM:=hide (show Sk.dD g s e.x v=(sS s 0) by rw [iH,HK.out,if_neg hm];rfl);have rQ:=hide hm;clear hm
         go_wp2_with (first | ((with_reducible refine bJ 26 10 ?_);refine dW (hB2.get 5 rfl) Tryz.underlying26 aj ?_) | ((with_reducible refine iy 26 10 ?_);refine oq (hB2.get 5 rfl) Tryz.underlying26 aj ?_) | ((with_reducible refine bJ 83 6 ?_);refine dW (hB2.get 2 rfl) Tryz.underlying83 bI ?_) | ((with_reducible refine iy 83 6 ?_);refine oq (hB2.get 2 rfl) Tryz.underlying83 bI ?_) | (go_at_call 176;refine (yj.out _ hB2.bw).mono ?_;rintro e1 w1 ⟨rfl,hb1⟩;have lS:=hB2.call (by simp) hb1;have hS3:=lS.get 1 rfl;have hG3:=lS.au rfl;have vS:=lS.get 3 rfl;have z1:=hS3.cell (j:=1) rfl;have TK:=hS3.frozen 1;have z2:=hS3.cell (j:=2) rfl;have TL:=hS3.frozen 2;have z9:=hS3.cell (j:=9) rfl;have VT:=hS3.frozen 9;have g2:=hG3.cell (j:=2) rfl;have zo:=hG3.frozen 2;have v3:=vS.cell (j:=3) rfl;have TF:=vS.frozen 3;rw [hst] at v3;have hB3:aG w (w1.setCell ⟨w.heap.size+1,9,none⟩ (.int .i64 0)) [(bK g,23),(aC (sS s 0),26),(dn e,83),(dV v,78),(aC Sk.zero,26),(aC {Sk.zero with turn:=0 },26)]:=lS.set 1 rfl 9 _) | ((with_reducible refine bJ 26 5 ?_);refine dW (hB3.get 1 rfl) Tryz.underlying26 aj ?_) | ((with_reducible refine isS 26 8 49 ?_);refine fU (hB3.get 4 rfl) (aC ((sS s 0))) aj (aT _) ?_))
         all_goals first | (exfalso;have:=rQ.out;omega) | skip
         all_goals
          have hZ:=hB3.put 4 rfl (aC ((sS s 0))) rfl;refine bodyPost_ret (aI (p:=8) (hZ.get 4 rfl) Tryz.underlying26 rfl aj rfl _ rfl) rfl ⟨?_,hZ.bw⟩;rw [HM.out];rfl
  · go_upto_region 4 with (fail)
    go_cut [10] (fun v10 wx=>v10=ptr (w.heap.size+5)∧aG w wx [(bK g,23),(aC s,26),(dn e,83),(dV v,78),(aC Sk.zero,26),(aC {Sk.zero with turn:=1 },26)])
    case first=>
     have hZ:=Held.newAt (g:=w.heap.size+5) wc (aC Sk.zero) 26 hBs;have kC:=hB.new (by have h:=hBs;simpa using h) (aC Sk.zero) 26
     go_wp2_with (first | ((with_reducible refine isS 26 10 19 ?_);refine fU (hZ) (aC {Sk.zero with turn:=1 }) aj (aT _) ?_))
     go_meet;exact ⟨rfl,kC.put 5 rfl (aC {Sk.zero with turn:=1 }) rfl⟩
    case rest=>
     obtain ⟨rfl,hB2⟩:=hcut;have HK:=hide (show yB s e.x v=s.aO by unfold yB;rw [hst];simp);have hB3:aG w wc [(bK g,23),(aC (sS s s.aO),26),(dn e,83),(dV v,78),(aC Sk.zero,26),(aC {Sk.zero with turn:=1 },26)]:=hB2;have hS3:=hB2.get 1 rfl;have hG3:=hB2.au rfl;have vS:=hB2.get 3 rfl;have z1:=hS3.cell (j:=1) rfl;have TK:=hS3.frozen 1;have z2:=hS3.cell (j:=2) rfl;have TL:=hS3.frozen 2;have z9:=hS3.cell (j:=9) rfl;have VT:=hS3.frozen 9;have g2:=hG3.cell (j:=2) rfl;have zo:=hG3.frozen 2;have v3:=vS.cell (j:=3) rfl;have TF:=vS.frozen 3;rw [hst] at v3
     by_cases hm:g.target≤max s.s0 s.s1
     · have hm1:decide (g.target≤max s.s0 s.s1)=true:=decide_eq_true hm
       have HM:=hide (show Sk.dD g s e.x v=(zW s s.aO (Sk.leader (sS s s.aO))) by rw [iH,HK.out,if_pos hm];rfl);have rQ:=hide hm;clear hm
       go_wp2_with (first | ((with_reducible refine bJ 26 5 ?_);refine dW (hB3.get 1 rfl) Tryz.underlying26 aj ?_) | (go_at_call 173;refine (iC ((sS s s.aO)) _).mono ?_;rintro e1 w5 ⟨rfl,hb5⟩;have jc:=hB3.call (by simp) hb5;have h12:=(jc.get 1 rfl).cell (j:=12) rfl;have xE:=(jc.get 1 rfl).frozen 12;have hE:aG w (w5.setCell ⟨w.heap.size+1,12,none⟩ (.int .i64 (Sk.leader ((sS s s.aO))))) [(bK g,23),(aC (zW s s.aO (Sk.leader (sS s s.aO))),26),(dn e,83),(dV v,78),(aC Sk.zero,26),(aC {Sk.zero with turn:=1 },26)]:=jc.set 1 rfl 12 _) | ((with_reducible refine bJ 26 5 ?_);refine dW (hE.get 1 rfl) Tryz.underlying26 aj ?_) | ((with_reducible refine isS 26 8 49 ?_);refine fU (hE.get 4 rfl) (aC ((zW s s.aO (Sk.leader (sS s s.aO))))) aj (aT _) ?_))
       all_goals first | (exfalso;have:=rQ.out;omega) | skip
       all_goals
        have hZ:=hE.put 4 rfl (aC ((zW s s.aO (Sk.leader (sS s s.aO))))) rfl;refine bodyPost_ret (aI (p:=8) (hZ.get 4 rfl) Tryz.underlying26 rfl aj rfl _ rfl) rfl ⟨?_,hZ.bw⟩;rw [HM.out];rfl
     · have hm1:decide (g.target≤max s.s0 s.s1)=false:=decide_eq_false hm
       have HM:=hide (show Sk.dD g s e.x v=(sS s s.aO) by rw [iH,HK.out,if_neg hm];rfl);have rQ:=hide hm;clear hm
       go_wp2_with (first | ((with_reducible refine bJ 26 5 ?_);refine dW (hB3.get 1 rfl) Tryz.underlying26 aj ?_) | ((with_reducible refine isS 26 8 49 ?_);refine fU (hB3.get 4 rfl) (aC ((sS s s.aO))) aj (aT _) ?_))
       all_goals first | (exfalso;have:=rQ.out;omega) | skip
       all_goals
        have hZ:=hB3.put 4 rfl (aC ((sS s s.aO))) rfl;refine bodyPost_ret (aI (p:=8) (hZ.get 4 rfl) Tryz.underlying26 rfl aj rfl _ rfl) rfl ⟨?_,hZ.bw⟩;rw [HM.out];rfl
  · go_upto_region 4 with (fail)
    go_cut [10] (fun v10 wx=>v10=ptr (w.heap.size+5)∧aG w wx [(bK g,23),(aC s,26),(dn e,83),(dV v,78),(aC Sk.zero,26),(aC {Sk.zero with turn:=1 },26)])
    case first=>
     have hZ:=Held.newAt (g:=w.heap.size+5) wc (aC Sk.zero) 26 hBs;have kC:=hB.new (by have h:=hBs;simpa using h) (aC Sk.zero) 26
     go_wp2_with (first | ((with_reducible refine isS 26 10 19 ?_);refine fU (hZ) (aC {Sk.zero with turn:=1 }) aj (aT _) ?_))
     go_meet;exact ⟨rfl,kC.put 5 rfl (aC {Sk.zero with turn:=1 }) rfl⟩
    case rest=>
     obtain ⟨rfl,hB2⟩:=hcut;have hcn:=fun W (hb:Below w.heap.size w W)=>rW S {Sk.zero with turn:=1 } e W (by simp) (he.below hb);have hV2:=hB2.get 3 rfl;have v3:=hV2.cell (j:=3) rfl;have TF:=hV2.frozen 3;rw [hst] at v3;obtain ⟨yc,wC⟩:∃ y,Sk.eU {Sk.zero with turn:=1 } e.x=y:=⟨_,rfl⟩
     simp only [wC] at hcn
     have yj:=hide hcn;clear hcn
     cases yc
     · have HK:=hide (show yB s e.x v=(s.aO+1) by unfold yB;rw [hst];simp only [if_true];rw [ht',wC];simp)
       clear wC
       by_cases hm:g.target≤max s.s0 s.s1
       · have hm1:decide (g.target≤max s.s0 s.s1)=true:=decide_eq_true hm
         have HM:=hide (show Sk.dD g s e.x v=(zW s (s.aO+1) (Sk.leader (sS s (s.aO+1)))) by rw [iH,HK.out,if_pos hm];rfl);have rQ:=hide hm;clear hm
         go_wp2_with (first | ((with_reducible refine bJ 26 10 ?_);refine dW (hB2.get 5 rfl) Tryz.underlying26 aj ?_) | ((with_reducible refine iy 26 10 ?_);refine oq (hB2.get 5 rfl) Tryz.underlying26 aj ?_) | ((with_reducible refine bJ 83 6 ?_);refine dW (hB2.get 2 rfl) Tryz.underlying83 bI ?_) | ((with_reducible refine iy 83 6 ?_);refine oq (hB2.get 2 rfl) Tryz.underlying83 bI ?_) | (go_at_call 176;refine (yj.out _ hB2.bw).mono ?_;rintro e1 w1 ⟨rfl,hb1⟩;have lS:=hB2.call (by simp) hb1;have hS3:=lS.get 1 rfl;have hG3:=lS.au rfl;have vS:=lS.get 3 rfl;have z1:=hS3.cell (j:=1) rfl;have TK:=hS3.frozen 1;have z2:=hS3.cell (j:=2) rfl;have TL:=hS3.frozen 2;have z9:=hS3.cell (j:=9) rfl;have VT:=hS3.frozen 9;have g2:=hG3.cell (j:=2) rfl;have zo:=hG3.frozen 2;have v3:=vS.cell (j:=3) rfl;have TF:=vS.frozen 3;rw [hst] at v3;have hB3:aG w (w1.setCell ⟨w.heap.size+1,9,none⟩ (.int .i64 (s.aO+1))) [(bK g,23),(aC (sS s (s.aO+1)),26),(dn e,83),(dV v,78),(aC Sk.zero,26),(aC {Sk.zero with turn:=1 },26)]:=lS.set 1 rfl 9 _) | ((with_reducible refine bJ 26 5 ?_);refine dW (hB3.get 1 rfl) Tryz.underlying26 aj ?_) | (go_at_call 173;refine (iC ((sS s (s.aO+1))) _).mono ?_;rintro e1 w5 ⟨rfl,hb5⟩;have jc:=hB3.call (by simp) hb5;have h12:=(jc.get 1 rfl).cell (j:=12) rfl;have xE:=(jc.get 1 rfl).frozen 12;have hE:aG w (w5.setCell ⟨w.heap.size+1,12,none⟩ (.int .i64 (Sk.leader ((sS s (s.aO+1)))))) [(bK g,23),(aC (zW s (s.aO+1) (Sk.leader (sS s (s.aO+1)))),26),(dn e,83),(dV v,78),(aC Sk.zero,26),(aC {Sk.zero with turn:=1 },26)]:=jc.set 1 rfl 12 _) | ((with_reducible refine bJ 26 5 ?_);refine dW (hE.get 1 rfl) Tryz.underlying26 aj ?_) | ((with_reducible refine isS 26 8 49 ?_);refine fU (hE.get 4 rfl) (aC ((zW s (s.aO+1) (Sk.leader (sS s (s.aO+1)))))) aj (aT _) ?_))
         all_goals first | (exfalso;have:=rQ.out;omega) | skip
         all_goals
          have hZ:=hE.put 4 rfl (aC ((zW s (s.aO+1) (Sk.leader (sS s (s.aO+1)))))) rfl;refine bodyPost_ret (aI (p:=8) (hZ.get 4 rfl) Tryz.underlying26 rfl aj rfl _ rfl) rfl ⟨?_,hZ.bw⟩;rw [HM.out];rfl
       · have hm1:decide (g.target≤max s.s0 s.s1)=false:=decide_eq_false hm
         have HM:=hide (show Sk.dD g s e.x v=(sS s (s.aO+1)) by rw [iH,HK.out,if_neg hm];rfl);have rQ:=hide hm;clear hm
         go_wp2_with (first | ((with_reducible refine bJ 26 10 ?_);refine dW (hB2.get 5 rfl) Tryz.underlying26 aj ?_) | ((with_reducible refine iy 26 10 ?_);refine oq (hB2.get 5 rfl) Tryz.underlying26 aj ?_) | ((with_reducible refine bJ 83 6 ?_);refine dW (hB2.get 2 rfl) Tryz.underlying83 bI ?_) | ((with_reducible refine iy 83 6 ?_);refine oq (hB2.get 2 rfl) Tryz.underlying83 bI ?_) | (go_at_call 176;refine (yj.out _ hB2.bw).mono ?_;rintro e1 w1 ⟨rfl,hb1⟩;have lS:=hB2.call (by simp) hb1;have hS3:=lS.get 1 rfl;have hG3:=lS.au rfl;have vS:=lS.get 3 rfl;have z1:=hS3.cell (j:=1) rfl;have TK:=hS3.frozen 1;have z2:=hS3.cell (j:=2) rfl;have TL:=hS3.frozen 2;have z9:=hS3.cell (j:=9) rfl;have VT:=hS3.frozen 9;have g2:=hG3.cell (j:=2) rfl;have zo:=hG3.frozen 2;have v3:=vS.cell (j:=3) rfl;have TF:=vS.frozen 3;rw [hst] at v3;have hB3:aG w (w1.setCell ⟨w.heap.size+1,9,none⟩ (.int .i64 (s.aO+1))) [(bK g,23),(aC (sS s (s.aO+1)),26),(dn e,83),(dV v,78),(aC Sk.zero,26),(aC {Sk.zero with turn:=1 },26)]:=lS.set 1 rfl 9 _) | ((with_reducible refine bJ 26 5 ?_);refine dW (hB3.get 1 rfl) Tryz.underlying26 aj ?_) | ((with_reducible refine isS 26 8 49 ?_);refine fU (hB3.get 4 rfl) (aC ((sS s (s.aO+1)))) aj (aT _) ?_))
         all_goals first | (exfalso;have:=rQ.out;omega) | skip
         all_goals
          have hZ:=hB3.put 4 rfl (aC ((sS s (s.aO+1)))) rfl;refine bodyPost_ret (aI (p:=8) (hZ.get 4 rfl) Tryz.underlying26 rfl aj rfl _ rfl) rfl ⟨?_,hZ.bw⟩;rw [HM.out];rfl
     · have HK:=hide (show yB s e.x v=0 by unfold yB;rw [hst];simp only [if_true];rw [ht',wC];simp)
       clear wC
       by_cases hm:g.target≤max s.s0 s.s1
       · have hm1:decide (g.target≤max s.s0 s.s1)=true:=decide_eq_true hm
         have HM:=hide (show Sk.dD g s e.x v=(zW s 0 (Sk.leader (sS s 0))) by rw [iH,HK.out,if_pos hm];rfl);have rQ:=hide hm;clear hm
         go_wp2_with (first | ((with_reducible refine bJ 26 10 ?_);refine dW (hB2.get 5 rfl) Tryz.underlying26 aj ?_) | ((with_reducible refine iy 26 10 ?_);refine oq (hB2.get 5 rfl) Tryz.underlying26 aj ?_) | ((with_reducible refine bJ 83 6 ?_);refine dW (hB2.get 2 rfl) Tryz.underlying83 bI ?_) | ((with_reducible refine iy 83 6 ?_);refine oq (hB2.get 2 rfl) Tryz.underlying83 bI ?_) | (go_at_call 176;refine (yj.out _ hB2.bw).mono ?_;rintro e1 w1 ⟨rfl,hb1⟩;have lS:=hB2.call (by simp) hb1;have hS3:=lS.get 1 rfl;have hG3:=lS.au rfl;have vS:=lS.get 3 rfl;have z1:=hS3.cell (j:=1) rfl;have TK:=hS3.frozen 1;have z2:=hS3.cell (j:=2) rfl;have TL:=hS3.frozen 2;have z9:=hS3.cell (j:=9) rfl;have VT:=hS3.frozen 9;have g2:=hG3.cell (j:=2) rfl;have zo:=hG3.frozen 2;have v3:=vS.cell (j:=3) rfl;have TF:=vS.frozen 3;rw [hst] at v3;have hB3:aG w (w1.setCell ⟨w.heap.size+1,9,none⟩ (.int .i64 0)) [(bK g,23),(aC (sS s 0),26),(dn e,83),(dV v,78),(aC Sk.zero,26),(aC {Sk.zero with turn:=1 },26)]:=lS.set 1 rfl 9 _) | ((with_reducible refine bJ 26 5 ?_);refine dW (hB3.get 1 rfl) Tryz.underlying26 aj ?_) | (go_at_call 173;refine (iC ((sS s 0)) _).mono ?_;rintro e1 w5 ⟨rfl,hb5⟩;have jc:=hB3.call (by simp) hb5;have h12:=(jc.get 1 rfl).cell (j:=12) rfl;have xE:=(jc.get 1 rfl).frozen 12;have hE:aG w (w5.setCell ⟨w.heap.size+1,12,none⟩ (.int .i64 (Sk.leader ((sS s 0))))) [(bK g,23),(aC (zW s 0 (Sk.leader (sS s 0))),26),(dn e,83),(dV v,78),(aC Sk.zero,26),(aC {Sk.zero with turn:=1 },26)]:=jc.set 1 rfl 12 _) | ((with_reducible refine bJ 26 5 ?_);refine dW (hE.get 1 rfl) Tryz.underlying26 aj ?_) | ((with_reducible refine isS 26 8 49 ?_);refine fU (hE.get 4 rfl) (aC ((zW s 0 (Sk.leader (sS s 0))))) aj (aT _) ?_))
         all_goals first | (exfalso;have:=rQ.out;omega) | skip
         all_goals
          have hZ:=hE.put 4 rfl (aC ((zW s 0 (Sk.leader (sS s 0))))) rfl;refine bodyPost_ret (aI (p:=8) (hZ.get 4 rfl) Tryz.underlying26 rfl aj rfl _ rfl) rfl ⟨?_,hZ.bw⟩;rw [HM.out];rfl
       · have hm1:decide (g.target≤max s.s0 s.s1)=false:=decide_eq_false hm
         have HM:=hide (show Sk.dD g s e.x v=(sS s 0) by rw [iH,HK.out,if_neg hm];rfl);have rQ:=hide hm;clear hm
         go_wp2_with (first | ((with_reducible refine bJ 26 10 ?_);refine dW (hB2.get 5 rfl) Tryz.underlying26 aj ?_) | ((with_reducible refine iy 26 10 ?_);refine oq (hB2.get 5 rfl) Tryz.underlying26 aj ?_) | ((with_reducible refine bJ 83 6 ?_);refine dW (hB2.get 2 rfl) Tryz.underlying83 bI ?_) | ((with_reducible refine iy 83 6 ?_);refine oq (hB2.get 2 rfl) Tryz.underlying83 bI ?_) | (go_at_call 176;refine (yj.out _ hB2.bw).mono ?_;rintro e1 w1 ⟨rfl,hb1⟩;have lS:=hB2.call (by simp) hb1;have hS3:=lS.get 1 rfl;have hG3:=lS.au rfl;have vS:=lS.get 3 rfl;have z1:=hS3.cell (j:=1) rfl;have TK:=hS3.frozen 1;have z2:=hS3.cell (j:=2) rfl;have TL:=hS3.frozen 2;have z9:=hS3.cell (j:=9) rfl;have VT:=hS3.frozen 9;have g2:=hG3.cell (j:=2) rfl;have zo:=hG3.frozen 2;have v3:=vS.cell (j:=3) rfl;have TF:=vS.frozen 3;rw [hst] at v3;have hB3:aG w (w1.setCell ⟨w.heap.size+1,9,none⟩ (.int .i64 0)) [(bK g,23),(aC (sS s 0),26),(dn e,83),(dV v,78),(aC Sk.zero,26),(aC {Sk.zero with turn:=1 },26)]:=lS.set 1 rfl 9 _) | ((with_reducible refine bJ 26 5 ?_);refine dW (hB3.get 1 rfl) Tryz.underlying26 aj ?_) | ((with_reducible refine isS 26 8 49 ?_);refine fU (hB3.get 4 rfl) (aC ((sS s 0))) aj (aT _) ?_))
         all_goals first | (exfalso;have:=rQ.out;omega) | skip
         all_goals
          have hZ:=hB3.put 4 rfl (aC ((sS s 0))) rfl;refine bodyPost_ret (aI (p:=8) (hZ.get 4 rfl) Tryz.underlying26 rfl aj rfl _ rfl) rfl ⟨?_,hZ.bw⟩;rw [HM.out];rfl
  · go_upto_region 4 with (fail)
    go_cut [10] (fun v10 wx=>v10=ptr (w.heap.size+5)∧aG w wx [(bK g,23),(aC s,26),(dn e,83),(dV v,78),(aC Sk.zero,26),(aC {Sk.zero with turn:=0 },26)])
    case first=>
     have hZ:=Held.newAt (g:=w.heap.size+5) wc (aC Sk.zero) 26 hBs;have kC:=hB.new (by have h:=hBs;simpa using h) (aC Sk.zero) 26
     go_wp2_with (first | ((with_reducible refine isS 26 10 19 ?_);refine fU (hZ) (aC {Sk.zero with turn:=0 }) aj (aT _) ?_))
     go_meet;exact ⟨rfl,kC.put 5 rfl (aC {Sk.zero with turn:=0 }) rfl⟩
    case rest=>
     obtain ⟨rfl,hB2⟩:=hcut;have HK:=hide (show yB s e.x v=s.aO by unfold yB;rw [hst];simp);have hB3:aG w wc [(bK g,23),(aC (sS s s.aO),26),(dn e,83),(dV v,78),(aC Sk.zero,26),(aC {Sk.zero with turn:=0 },26)]:=hB2;have hS3:=hB2.get 1 rfl;have hG3:=hB2.au rfl;have vS:=hB2.get 3 rfl;have z1:=hS3.cell (j:=1) rfl;have TK:=hS3.frozen 1;have z2:=hS3.cell (j:=2) rfl;have TL:=hS3.frozen 2;have z9:=hS3.cell (j:=9) rfl;have VT:=hS3.frozen 9;have g2:=hG3.cell (j:=2) rfl;have zo:=hG3.frozen 2;have v3:=vS.cell (j:=3) rfl;have TF:=vS.frozen 3;rw [hst] at v3
     by_cases hm:g.target≤max s.s0 s.s1
     · have hm1:decide (g.target≤max s.s0 s.s1)=true:=decide_eq_true hm
       have HM:=hide (show Sk.dD g s e.x v=(zW s s.aO (Sk.leader (sS s s.aO))) by rw [iH,HK.out,if_pos hm];rfl);have rQ:=hide hm;clear hm
       go_wp2_with (first | ((with_reducible refine bJ 26 5 ?_);refine dW (hB3.get 1 rfl) Tryz.underlying26 aj ?_) | (go_at_call 173;refine (iC ((sS s s.aO)) _).mono ?_;rintro e1 w5 ⟨rfl,hb5⟩;have jc:=hB3.call (by simp) hb5;have h12:=(jc.get 1 rfl).cell (j:=12) rfl;have xE:=(jc.get 1 rfl).frozen 12;have hE:aG w (w5.setCell ⟨w.heap.size+1,12,none⟩ (.int .i64 (Sk.leader ((sS s s.aO))))) [(bK g,23),(aC (zW s s.aO (Sk.leader (sS s s.aO))),26),(dn e,83),(dV v,78),(aC Sk.zero,26),(aC {Sk.zero with turn:=0 },26)]:=jc.set 1 rfl 12 _) | ((with_reducible refine bJ 26 5 ?_);refine dW (hE.get 1 rfl) Tryz.underlying26 aj ?_) | ((with_reducible refine isS 26 8 49 ?_);refine fU (hE.get 4 rfl) (aC ((zW s s.aO (Sk.leader (sS s s.aO))))) aj (aT _) ?_))
       all_goals first | (exfalso;have:=rQ.out;omega) | skip
       all_goals
        have hZ:=hE.put 4 rfl (aC ((zW s s.aO (Sk.leader (sS s s.aO))))) rfl;refine bodyPost_ret (aI (p:=8) (hZ.get 4 rfl) Tryz.underlying26 rfl aj rfl _ rfl) rfl ⟨?_,hZ.bw⟩;rw [HM.out];rfl
     · have hm1:decide (g.target≤max s.s0 s.s1)=false:=decide_eq_false hm
       have HM:=hide (show Sk.dD g s e.x v=(sS s s.aO) by rw [iH,HK.out,if_neg hm];rfl);have rQ:=hide hm;clear hm
       go_wp2_with (first | ((with_reducible refine bJ 26 5 ?_);refine dW (hB3.get 1 rfl) Tryz.underlying26 aj ?_) | ((with_reducible refine isS 26 8 49 ?_);refine fU (hB3.get 4 rfl) (aC ((sS s s.aO))) aj (aT _) ?_))
       all_goals first | (exfalso;have:=rQ.out;omega) | skip
       all_goals
        have hZ:=hB3.put 4 rfl (aC ((sS s s.aO))) rfl;refine bodyPost_ret (aI (p:=8) (hZ.get 4 rfl) Tryz.underlying26 rfl aj rfl _ rfl) rfl ⟨?_,hZ.bw⟩;rw [HM.out];rfl
def FP (s:Sk.State):Sk.State:=⟨s.turn,s.s0,s.s1,s.brk,s.phase,s.aY,s.colour,s.free,s.aN,s.aO,s.t0+1,s.t1,s.ay⟩
def cT1 (s:Sk.State):Sk.State:=⟨s.turn,s.s0,s.s1,s.brk,s.phase,s.aY,s.colour,s.free,s.aN,s.aO,s.t0,s.t1+1,s.ay⟩
def cW (s:Sk.State) (wi:Int):Sk.State:=⟨s.turn,s.s0,s.s1,s.brk,s.phase,s.aY,s.colour,s.free,s.aN,s.aO,s.t0,s.t1,wi⟩
theorem Ak (g:Sk.Game) (s:Sk.State) (e:En) (v:Sk.dI) (w:World) (ht:s.turn=0∨s.turn=1) (hb0:0≤s.t0∧s.t0≤100) (hb1':0≤s.t1∧s.t1≤100):Calls Tryz.prog 121 #[lX g,jE s,rU e,FD v] w fun e_ w'=>e_= .returned (jE (Sk.dK g s v))∧Below w.heap.size w w':=by
 go_enter Tryz.func121,Tryz.ntmps121
 go_upto_region 0 with (fail)
 go_cut [4,5,6,7,8] (fun v4 v5 v6 v7 v8 wx=>v4=ptr w.heap.size∧v5=ptr (w.heap.size+1)∧v6=ptr (w.heap.size+2)∧v7=ptr (w.heap.size+3)∧v8=ptr (w.heap.size+4)∧aG w wx [(bK g,23),(aC s,26),(dn e,83),(dV v,78),(aC Sk.zero,26)])
 case first=>
  go_wp2;go_meet;exact ⟨rfl,rfl,rfl,rfl,rfl,((((((aG.nil w).new (by simp) (bK g) _).new (by simp) (aC s) _).new (by simp) (dn e) _).new (by simp) (dV v) _).new (by simp) (aC Sk.zero) _)⟩
 case rest=>
  obtain ⟨rfl,rfl,rfl,rfl,rfl,hB⟩:=hcut;have k0:=(hB.get 1 rfl).cell (j:=0) rfl;have u3:=(hB.get 3 rfl).cell (j:=3) rfl;have uf3:=(hB.get 3 rfl).frozen 3
  rcases ht with ht | ht
  all_goals
   have ht':=ht;rw [ht] at k0
   rcases Bool.eq_false_or_eq_true v.stays with hst | hst
   all_goals
    have hst':=hst;rw [hst] at u3
  · have z1:_=some (Value.int .i64 s.s0):=(hB.get 1 rfl).cell (j:=1) rfl
    have Ik:=(hB.get 1 rfl).frozen 1;have z2:_=some (Value.int .i64 s.s1):=(hB.get 1 rfl).cell (j:=2) rfl;have Il:=(hB.get 1 rfl).frozen 2;have z10:_=some (Value.int .i64 s.t0):=(hB.get 1 rfl).cell (j:=10) rfl;have vM:=(hB.get 1 rfl).frozen 10;have z11:_=some (Value.int .i64 s.t1):=(hB.get 1 rfl).cell (j:=11) rfl;have vN:=(hB.get 1 rfl).frozen 11;have g2:_=some (Value.int .i64 g.target):=(hB.au rfl).cell (j:=2) rfl;have Uz:=(hB.au rfl).frozen 2;have g3:_=some (Value.int .i64 g.turns):=(hB.au rfl).cell (j:=3) rfl;have UA:=(hB.au rfl).frozen 3
    go_upto_region 4 with (fail)
    by_cases hl:s.s0<g.target
    · have hl1:decide (s.s0<g.target)=true:=decide_eq_true hl
      have HM:=hide (show Sk.dK g s v=s by unfold Sk.dK;rw [if_neg (by rw [hst'];decide),if_pos (by unfold Sk.score;rw [if_pos ht'];exact hl)]);clear hl
      go_quiet (fail)
      have hB:=hB.drewN nq
      go_wp2_with (first | ((with_reducible refine bJ 26 5 ?_);refine dW (hB.get 1 rfl) Tryz.underlying26 aj ?_) | ((with_reducible refine isS 26 8 24 ?_);refine fU (hB.get 4 rfl) (aC s) aj (aT _) ?_))
      all_goals
       have hZ:=hB.put 4 rfl (aC s) rfl
      refine bodyPost_ret (aI (p:=8) (hZ.get 4 rfl) Tryz.underlying26 rfl aj rfl _ rfl) rfl ⟨?_,hZ.bw⟩;rw [HM.out];rfl
    · have hl1:decide (s.s0<g.target)=false:=decide_eq_false hl
      have hl':=hl;have HL:=hide hl;clear hl
      go_quiet (fail)
      have hB:=hB.drewN nq;clear z1 Ik z2 Il z10 vM z11 vN g2 Uz g3 UA;have HM:=hide (show Sk.dK g s v=(FP (Sk.pass s)) by unfold Sk.dK;rw [if_neg (by rw [hst'];decide),if_neg (by unfold Sk.score;rw [if_pos ht'];exact HL.out),ht'];rfl)
      go_wp2_with (first | ((with_reducible refine bJ 26 5 ?_);refine dW (hB3.get 1 rfl) Tryz.underlying26 aj ?_) | ((with_reducible refine bJ 26 5 ?_);refine dW (hB.get 1 rfl) Tryz.underlying26 aj ?_) | (go_at_call 140;refine (nN s (by omega) _).mono ?_;rintro e1 w1 ⟨rfl,hb1⟩;have lS:=hB.call (by simp) hb1;have hB2:=lS.put 1 rfl (aC (Sk.pass s)) rfl) | ((with_reducible (refine fF 26 (.tmp 5) (.tmp 26) ?lx ?_));(case lx=>rfl);refine dU (lS.get 1 rfl) (aC (Sk.pass s)) rfl aj (aT _) rfl (.tmp 5) (.tmp 26) rfl rfl rfl ?_;obtain ⟨W2,hW2⟩:∃ W2,w1.setCells (w.heap.size+1) 0 (aC (Sk.pass s))=W2:=⟨_,rfl⟩;rw [hW2];rw [hW2] at hB2;have z1:_=some (Value.int .i64 s.s0):=(hB2.get 1 rfl).cell (j:=1) rfl;have Ik:=(hB2.get 1 rfl).frozen 1;have z2:_=some (Value.int .i64 s.s1):=(hB2.get 1 rfl).cell (j:=2) rfl;have Il:=(hB2.get 1 rfl).frozen 2;have z10:_=some (Value.int .i64 s.t0):=(hB2.get 1 rfl).cell (j:=10) rfl;have vM:=(hB2.get 1 rfl).frozen 10;have z11:_=some (Value.int .i64 s.t1):=(hB2.get 1 rfl).cell (j:=11) rfl;have vN:=(hB2.get 1 rfl).frozen 11;have g2:_=some (Value.int .i64 g.target):=(hB2.au rfl).cell (j:=2) rfl;have Uz:=(hB2.au rfl).frozen 2;have g3:_=some (Value.int .i64 g.turns):=(hB2.au rfl).cell (j:=3) rfl;have UA:=(hB2.au rfl).frozen 3;have hB3:aG w (W2.setCell ⟨w.heap.size+1,10,none⟩ (.int .i64 (s.t0+1))) [(bK g,23),(aC (FP (Sk.pass s)),26),(dn e,83),(dV v,78),(aC Sk.zero,26)]:=hB2.set 1 rfl 10 _;clear hW2) | ((with_reducible refine isS 26 8 59 ?_);refine fU (hB3.get 4 rfl) (aC (FP (Sk.pass s))) aj (aT _) ?_))
      all_goals
       have hZ:=hB3.put 4 rfl (aC (FP (Sk.pass s))) rfl;refine bodyPost_ret (aI (p:=8) (hZ.get 4 rfl) Tryz.underlying26 rfl aj rfl _ rfl) rfl ⟨?_,hZ.bw⟩;rw [HM.out];rfl
  · have z1:_=some (Value.int .i64 s.s0):=(hB.get 1 rfl).cell (j:=1) rfl
    have Ik:=(hB.get 1 rfl).frozen 1;have z2:_=some (Value.int .i64 s.s1):=(hB.get 1 rfl).cell (j:=2) rfl;have Il:=(hB.get 1 rfl).frozen 2;have z10:_=some (Value.int .i64 s.t0):=(hB.get 1 rfl).cell (j:=10) rfl;have vM:=(hB.get 1 rfl).frozen 10;have z11:_=some (Value.int .i64 s.t1):=(hB.get 1 rfl).cell (j:=11) rfl;have vN:=(hB.get 1 rfl).frozen 11;have g2:_=some (Value.int .i64 g.target):=(hB.au rfl).cell (j:=2) rfl;have Uz:=(hB.au rfl).frozen 2;have g3:_=some (Value.int .i64 g.turns):=(hB.au rfl).cell (j:=3) rfl;have UA:=(hB.au rfl).frozen 3;have hB3:aG w (wc.setCell ⟨w.heap.size+1,11,none⟩ (.int .i64 (s.t1+1))) [(bK g,23),(aC (cT1 s),26),(dn e,83),(dV v,78),(aC Sk.zero,26)]:=hB.set 1 rfl 11 _
    by_cases hm:g.target≤max s.s0 s.s1
    · have hm1:decide (g.target≤max s.s0 s.s1)=true:=decide_eq_true hm
      have HM:=hide (show Sk.dK g s v=(cW (cT1 s) (Sk.leader (cT1 s))) by unfold Sk.dK;rw [if_pos hst',ht'];unfold Sk.jf;rw [if_pos ⟨rfl,.inl hm⟩];rfl);have rQ:=hide (And.intro hm trivial);clear hm
      go_wp2_with (first | ((with_reducible refine bJ 26 5 ?_);refine dW (hE.get 1 rfl) Tryz.underlying26 aj ?_) | ((with_reducible refine bJ 26 5 ?_);refine dW (hB3.get 1 rfl) Tryz.underlying26 aj ?_) | (go_at_call 173;refine (iC (cT1 s) _).mono ?_;rintro e1 w5 ⟨rfl,hb5⟩;have jc:=hB3.call (by simp) hb5;have h12:=(jc.get 1 rfl).cell (j:=12) rfl;have xE:=(jc.get 1 rfl).frozen 12;have hE:aG w (w5.setCell ⟨w.heap.size+1,12,none⟩ (.int .i64 (Sk.leader (cT1 s)))) [(bK g,23),(aC (cW (cT1 s) (Sk.leader (cT1 s))),26),(dn e,83),(dV v,78),(aC Sk.zero,26)]:=jc.set 1 rfl 12 _) | ((with_reducible refine isS 26 8 59 ?_);refine fU (hE.get 4 rfl) (aC (cW (cT1 s) (Sk.leader (cT1 s)))) aj (aT _) ?_))
      all_goals first | (exfalso;have:=rQ.out.1;omega) | skip
      all_goals
       have hZ:=hE.put 4 rfl (aC (cW (cT1 s) (Sk.leader (cT1 s)))) rfl;refine bodyPost_ret (aI (p:=8) (hZ.get 4 rfl) Tryz.underlying26 rfl aj rfl _ rfl) rfl ⟨?_,hZ.bw⟩;rw [HM.out];rfl
    · have hm1:decide (g.target≤max s.s0 s.s1)=false:=decide_eq_false hm
      by_cases hq:s.t1+1=g.turns
      · have hq1:(s.t1+1 == g.turns)=true:=by simp [hq]
        have HM:=hide (show Sk.dK g s v=(cW (cT1 s) (Sk.leader (cT1 s))) by unfold Sk.dK;rw [if_pos hst',ht'];unfold Sk.jf;rw [if_pos ⟨rfl,.inr hq⟩];rfl);have rQ:=hide (And.intro hm trivial);clear hm hq
        go_wp2_with (first | ((with_reducible refine bJ 26 5 ?_);refine dW (hE.get 1 rfl) Tryz.underlying26 aj ?_) | ((with_reducible refine bJ 26 5 ?_);refine dW (hB3.get 1 rfl) Tryz.underlying26 aj ?_) | (go_at_call 173;refine (iC (cT1 s) _).mono ?_;rintro e1 w5 ⟨rfl,hb5⟩;have jc:=hB3.call (by simp) hb5;have h12:=(jc.get 1 rfl).cell (j:=12) rfl;have xE:=(jc.get 1 rfl).frozen 12;have hE:aG w (w5.setCell ⟨w.heap.size+1,12,none⟩ (.int .i64 (Sk.leader (cT1 s)))) [(bK g,23),(aC (cW (cT1 s) (Sk.leader (cT1 s))),26),(dn e,83),(dV v,78),(aC Sk.zero,26)]:=jc.set 1 rfl 12 _) | ((with_reducible refine isS 26 8 59 ?_);refine fU (hE.get 4 rfl) (aC (cW (cT1 s) (Sk.leader (cT1 s)))) aj (aT _) ?_))
        all_goals first | (exfalso;have:=rQ.out.1;omega) | skip
        all_goals
         have hZ:=hE.put 4 rfl (aC (cW (cT1 s) (Sk.leader (cT1 s)))) rfl;refine bodyPost_ret (aI (p:=8) (hZ.get 4 rfl) Tryz.underlying26 rfl aj rfl _ rfl) rfl ⟨?_,hZ.bw⟩;rw [HM.out];rfl
      · have hq1:(s.t1+1 == g.turns)=false:=by simp [hq]
        have HM:=hide (show Sk.dK g s v=(cT1 s) by unfold Sk.dK;rw [if_pos hst',ht'];unfold Sk.jf;rw [if_neg (by rintro ⟨_,h | h⟩;exact hm h;exact hq h)];rfl);have rQ:=hide (And.intro hm trivial);clear hm hq
        go_wp2_with (first | ((with_reducible refine bJ 26 5 ?_);refine dW (hB3.get 1 rfl) Tryz.underlying26 aj ?_) | ((with_reducible refine isS 26 8 59 ?_);refine fU (hB3.get 4 rfl) (aC (cT1 s)) aj (aT _) ?_))
        all_goals first | (exfalso;have:=rQ.out.1;omega) | skip
        all_goals
         have hZ:=hB3.put 4 rfl (aC (cT1 s)) rfl;refine bodyPost_ret (aI (p:=8) (hZ.get 4 rfl) Tryz.underlying26 rfl aj rfl _ rfl) rfl ⟨?_,hZ.bw⟩;rw [HM.out];rfl
  · have z1:_=some (Value.int .i64 s.s0):=(hB.get 1 rfl).cell (j:=1) rfl
    have Ik:=(hB.get 1 rfl).frozen 1;have z2:_=some (Value.int .i64 s.s1):=(hB.get 1 rfl).cell (j:=2) rfl;have Il:=(hB.get 1 rfl).frozen 2;have z10:_=some (Value.int .i64 s.t0):=(hB.get 1 rfl).cell (j:=10) rfl;have vM:=(hB.get 1 rfl).frozen 10;have z11:_=some (Value.int .i64 s.t1):=(hB.get 1 rfl).cell (j:=11) rfl;have vN:=(hB.get 1 rfl).frozen 11;have g2:_=some (Value.int .i64 g.target):=(hB.au rfl).cell (j:=2) rfl;have Uz:=(hB.au rfl).frozen 2;have g3:_=some (Value.int .i64 g.turns):=(hB.au rfl).cell (j:=3) rfl;have UA:=(hB.au rfl).frozen 3
    go_upto_region 4 with (fail)
    by_cases hl:s.s1<g.target
    · have hl1:decide (s.s1<g.target)=true:=decide_eq_true hl
      have HM:=hide (show Sk.dK g s v=s by unfold Sk.dK;rw [if_neg (by rw [hst'];decide),if_pos (by unfold Sk.score;rw [if_neg (by rw [ht'];decide)];exact hl)]);clear hl
      go_quiet (fail)
      have hB:=hB.drewN nq
      go_wp2_with (first | ((with_reducible refine bJ 26 5 ?_);refine dW (hB.get 1 rfl) Tryz.underlying26 aj ?_) | ((with_reducible refine isS 26 8 24 ?_);refine fU (hB.get 4 rfl) (aC s) aj (aT _) ?_))
      all_goals
       have hZ:=hB.put 4 rfl (aC s) rfl
      refine bodyPost_ret (aI (p:=8) (hZ.get 4 rfl) Tryz.underlying26 rfl aj rfl _ rfl) rfl ⟨?_,hZ.bw⟩;rw [HM.out];rfl
    · have hl1:decide (s.s1<g.target)=false:=decide_eq_false hl
      have hl':=hl;have HL:=hide hl;clear hl
      go_quiet (fail)
      have hB:=hB.drewN nq;clear z1 Ik z2 Il z10 vM z11 vN g2 Uz g3 UA
      by_cases hm:g.target≤max s.s0 s.s1
      · have hm1:decide (g.target≤max s.s0 s.s1)=true:=decide_eq_true hm
        have HM:=hide (show Sk.dK g s v=(cW (cT1 (Sk.pass s)) (Sk.leader (cT1 (Sk.pass s)))) by unfold Sk.dK;rw [if_neg (by rw [hst'];decide),if_neg (by unfold Sk.score;rw [if_neg (by rw [ht'];decide)];exact HL.out),ht'];unfold Sk.jf;rw [if_pos ⟨rfl,.inl hm⟩];rfl);have rQ:=hide (And.intro hm trivial);clear hm
        go_wp2_with (first | ((with_reducible refine bJ 26 5 ?_);refine dW (hE.get 1 rfl) Tryz.underlying26 aj ?_) | ((with_reducible refine bJ 26 5 ?_);refine dW (hB3.get 1 rfl) Tryz.underlying26 aj ?_) | ((with_reducible refine bJ 26 5 ?_);refine dW (hB.get 1 rfl) Tryz.underlying26 aj ?_) | (go_at_call 140;refine (nN s (by omega) _).mono ?_;rintro e1 w1 ⟨rfl,hb1⟩;have lS:=hB.call (by simp) hb1;have hB2:=lS.put 1 rfl (aC (Sk.pass s)) rfl) | ((with_reducible (refine fF 26 (.tmp 5) (.tmp 26) ?lx ?_));(case lx=>rfl);refine dU (lS.get 1 rfl) (aC (Sk.pass s)) rfl aj (aT _) rfl (.tmp 5) (.tmp 26) rfl rfl rfl ?_;obtain ⟨W2,hW2⟩:∃ W2,w1.setCells (w.heap.size+1) 0 (aC (Sk.pass s))=W2:=⟨_,rfl⟩;rw [hW2];rw [hW2] at hB2;have z1:_=some (Value.int .i64 s.s0):=(hB2.get 1 rfl).cell (j:=1) rfl;have Ik:=(hB2.get 1 rfl).frozen 1;have z2:_=some (Value.int .i64 s.s1):=(hB2.get 1 rfl).cell (j:=2) rfl;have Il:=(hB2.get 1 rfl).frozen 2;have z10:_=some (Value.int .i64 s.t0):=(hB2.get 1 rfl).cell (j:=10) rfl;have vM:=(hB2.get 1 rfl).frozen 10;have z11:_=some (Value.int .i64 s.t1):=(hB2.get 1 rfl).cell (j:=11) rfl;have vN:=(hB2.get 1 rfl).frozen 11;have g2:_=some (Value.int .i64 g.target):=(hB2.au rfl).cell (j:=2) rfl;have Uz:=(hB2.au rfl).frozen 2;have g3:_=some (Value.int .i64 g.turns):=(hB2.au rfl).cell (j:=3) rfl;have UA:=(hB2.au rfl).frozen 3;have hB3:aG w (W2.setCell ⟨w.heap.size+1,11,none⟩ (.int .i64 (s.t1+1))) [(bK g,23),(aC (cT1 (Sk.pass s)),26),(dn e,83),(dV v,78),(aC Sk.zero,26)]:=hB2.set 1 rfl 11 _;clear hW2) | (go_at_call 173;refine (iC (cT1 (Sk.pass s)) _).mono ?_;rintro e1 w5 ⟨rfl,hb5⟩;have jc:=hB3.call (by simp) hb5;have h12:=(jc.get 1 rfl).cell (j:=12) rfl;have xE:=(jc.get 1 rfl).frozen 12;have hE:aG w (w5.setCell ⟨w.heap.size+1,12,none⟩ (.int .i64 (Sk.leader (cT1 (Sk.pass s))))) [(bK g,23),(aC (cW (cT1 (Sk.pass s)) (Sk.leader (cT1 (Sk.pass s)))),26),(dn e,83),(dV v,78),(aC Sk.zero,26)]:=jc.set 1 rfl 12 _) | ((with_reducible refine isS 26 8 59 ?_);refine fU (hE.get 4 rfl) (aC (cW (cT1 (Sk.pass s)) (Sk.leader (cT1 (Sk.pass s))))) aj (aT _) ?_))
        all_goals first | (exfalso;have:=rQ.out.1;omega) | skip
        all_goals
         have hZ:=hE.put 4 rfl (aC (cW (cT1 (Sk.pass s)) (Sk.leader (cT1 (Sk.pass s))))) rfl;refine bodyPost_ret (aI (p:=8) (hZ.get 4 rfl) Tryz.underlying26 rfl aj rfl _ rfl) rfl ⟨?_,hZ.bw⟩;rw [HM.out];rfl
      · have hm1:decide (g.target≤max s.s0 s.s1)=false:=decide_eq_false hm
        by_cases hq:s.t1+1=g.turns
        · have hq1:(s.t1+1 == g.turns)=true:=by simp [hq]
          have HM:=hide (show Sk.dK g s v=(cW (cT1 (Sk.pass s)) (Sk.leader (cT1 (Sk.pass s)))) by unfold Sk.dK;rw [if_neg (by rw [hst'];decide),if_neg (by unfold Sk.score;rw [if_neg (by rw [ht'];decide)];exact HL.out),ht'];unfold Sk.jf;rw [if_pos ⟨rfl,.inr hq⟩];rfl);have rQ:=hide (And.intro hm trivial);clear hm hq
          go_wp2_with (first | ((with_reducible refine bJ 26 5 ?_);refine dW (hE.get 1 rfl) Tryz.underlying26 aj ?_) | ((with_reducible refine bJ 26 5 ?_);refine dW (hB3.get 1 rfl) Tryz.underlying26 aj ?_) | ((with_reducible refine bJ 26 5 ?_);refine dW (hB.get 1 rfl) Tryz.underlying26 aj ?_) | (go_at_call 140;refine (nN s (by omega) _).mono ?_;rintro e1 w1 ⟨rfl,hb1⟩;have lS:=hB.call (by simp) hb1;have hB2:=lS.put 1 rfl (aC (Sk.pass s)) rfl) | ((with_reducible (refine fF 26 (.tmp 5) (.tmp 26) ?lx ?_));(case lx=>rfl);refine dU (lS.get 1 rfl) (aC (Sk.pass s)) rfl aj (aT _) rfl (.tmp 5) (.tmp 26) rfl rfl rfl ?_;obtain ⟨W2,hW2⟩:∃ W2,w1.setCells (w.heap.size+1) 0 (aC (Sk.pass s))=W2:=⟨_,rfl⟩;rw [hW2];rw [hW2] at hB2;have z1:_=some (Value.int .i64 s.s0):=(hB2.get 1 rfl).cell (j:=1) rfl;have Ik:=(hB2.get 1 rfl).frozen 1;have z2:_=some (Value.int .i64 s.s1):=(hB2.get 1 rfl).cell (j:=2) rfl;have Il:=(hB2.get 1 rfl).frozen 2;have z10:_=some (Value.int .i64 s.t0):=(hB2.get 1 rfl).cell (j:=10) rfl;have vM:=(hB2.get 1 rfl).frozen 10;have z11:_=some (Value.int .i64 s.t1):=(hB2.get 1 rfl).cell (j:=11) rfl;have vN:=(hB2.get 1 rfl).frozen 11;have g2:_=some (Value.int .i64 g.target):=(hB2.au rfl).cell (j:=2) rfl;have Uz:=(hB2.au rfl).frozen 2;have g3:_=some (Value.int .i64 g.turns):=(hB2.au rfl).cell (j:=3) rfl;have UA:=(hB2.au rfl).frozen 3;have hB3:aG w (W2.setCell ⟨w.heap.size+1,11,none⟩ (.int .i64 (s.t1+1))) [(bK g,23),(aC (cT1 (Sk.pass s)),26),(dn e,83),(dV v,78),(aC Sk.zero,26)]:=hB2.set 1 rfl 11 _;clear hW2) | (go_at_call 173;refine (iC (cT1 (Sk.pass s)) _).mono ?_;rintro e1 w5 ⟨rfl,hb5⟩;have jc:=hB3.call (by simp) hb5;have h12:=(jc.get 1 rfl).cell (j:=12) rfl;have xE:=(jc.get 1 rfl).frozen 12;have hE:aG w (w5.setCell ⟨w.heap.size+1,12,none⟩ (.int .i64 (Sk.leader (cT1 (Sk.pass s))))) [(bK g,23),(aC (cW (cT1 (Sk.pass s)) (Sk.leader (cT1 (Sk.pass s)))),26),(dn e,83),(dV v,78),(aC Sk.zero,26)]:=jc.set 1 rfl 12 _) | ((with_reducible refine isS 26 8 59 ?_);refine fU (hE.get 4 rfl) (aC (cW (cT1 (Sk.pass s)) (Sk.leader (cT1 (Sk.pass s))))) aj (aT _) ?_))
          all_goals first | (exfalso;have:=rQ.out.1;omega) | skip
          all_goals
           have hZ:=hE.put 4 rfl (aC (cW (cT1 (Sk.pass s)) (Sk.leader (cT1 (Sk.pass s))))) rfl;refine bodyPost_ret (aI (p:=8) (hZ.get 4 rfl) Tryz.underlying26 rfl aj rfl _ rfl) rfl ⟨?_,hZ.bw⟩;rw [HM.out];rfl
        · have hq1:(s.t1+1 == g.turns)=false:=by simp [hq]
          have HM:=hide (show Sk.dK g s v=(cT1 (Sk.pass s)) by unfold Sk.dK;rw [if_neg (by rw [hst'];decide),if_neg (by unfold Sk.score;rw [if_neg (by rw [ht'];decide)];exact HL.out),ht'];unfold Sk.jf;rw [if_neg (by rintro ⟨_,h | h⟩;exact hm h;exact hq h)];rfl);have rQ:=hide (And.intro hm trivial);clear hm hq
          go_wp2_with (first | ((with_reducible refine bJ 26 5 ?_);refine dW (hB3.get 1 rfl) Tryz.underlying26 aj ?_) | ((with_reducible refine bJ 26 5 ?_);refine dW (hB.get 1 rfl) Tryz.underlying26 aj ?_) | (go_at_call 140;refine (nN s (by omega) _).mono ?_;rintro e1 w1 ⟨rfl,hb1⟩;have lS:=hB.call (by simp) hb1;have hB2:=lS.put 1 rfl (aC (Sk.pass s)) rfl) | ((with_reducible (refine fF 26 (.tmp 5) (.tmp 26) ?lx ?_));(case lx=>rfl);refine dU (lS.get 1 rfl) (aC (Sk.pass s)) rfl aj (aT _) rfl (.tmp 5) (.tmp 26) rfl rfl rfl ?_;obtain ⟨W2,hW2⟩:∃ W2,w1.setCells (w.heap.size+1) 0 (aC (Sk.pass s))=W2:=⟨_,rfl⟩;rw [hW2];rw [hW2] at hB2;have z1:_=some (Value.int .i64 s.s0):=(hB2.get 1 rfl).cell (j:=1) rfl;have Ik:=(hB2.get 1 rfl).frozen 1;have z2:_=some (Value.int .i64 s.s1):=(hB2.get 1 rfl).cell (j:=2) rfl;have Il:=(hB2.get 1 rfl).frozen 2;have z10:_=some (Value.int .i64 s.t0):=(hB2.get 1 rfl).cell (j:=10) rfl;have vM:=(hB2.get 1 rfl).frozen 10;have z11:_=some (Value.int .i64 s.t1):=(hB2.get 1 rfl).cell (j:=11) rfl;have vN:=(hB2.get 1 rfl).frozen 11;have g2:_=some (Value.int .i64 g.target):=(hB2.au rfl).cell (j:=2) rfl;have Uz:=(hB2.au rfl).frozen 2;have g3:_=some (Value.int .i64 g.turns):=(hB2.au rfl).cell (j:=3) rfl;have UA:=(hB2.au rfl).frozen 3;have hB3:aG w (W2.setCell ⟨w.heap.size+1,11,none⟩ (.int .i64 (s.t1+1))) [(bK g,23),(aC (cT1 (Sk.pass s)),26),(dn e,83),(dV v,78),(aC Sk.zero,26)]:=hB2.set 1 rfl 11 _;clear hW2) | ((with_reducible refine isS 26 8 59 ?_);refine fU (hB3.get 4 rfl) (aC (cT1 (Sk.pass s))) aj (aT _) ?_))
          all_goals first | (exfalso;have:=rQ.out.1;omega) | skip
          all_goals
           have hZ:=hB3.put 4 rfl (aC (cT1 (Sk.pass s))) rfl;refine bodyPost_ret (aI (p:=8) (hZ.get 4 rfl) Tryz.underlying26 rfl aj rfl _ rfl) rfl ⟨?_,hZ.bw⟩;rw [HM.out];rfl
  · have z1:_=some (Value.int .i64 s.s0):=(hB.get 1 rfl).cell (j:=1) rfl
    have Ik:=(hB.get 1 rfl).frozen 1;have z2:_=some (Value.int .i64 s.s1):=(hB.get 1 rfl).cell (j:=2) rfl;have Il:=(hB.get 1 rfl).frozen 2;have z10:_=some (Value.int .i64 s.t0):=(hB.get 1 rfl).cell (j:=10) rfl;have vM:=(hB.get 1 rfl).frozen 10;have z11:_=some (Value.int .i64 s.t1):=(hB.get 1 rfl).cell (j:=11) rfl;have vN:=(hB.get 1 rfl).frozen 11;have g2:_=some (Value.int .i64 g.target):=(hB.au rfl).cell (j:=2) rfl;have Uz:=(hB.au rfl).frozen 2;have g3:_=some (Value.int .i64 g.turns):=(hB.au rfl).cell (j:=3) rfl;have UA:=(hB.au rfl).frozen 3;have hB3:aG w (wc.setCell ⟨w.heap.size+1,10,none⟩ (.int .i64 (s.t0+1))) [(bK g,23),(aC (FP s),26),(dn e,83),(dV v,78),(aC Sk.zero,26)]:=hB.set 1 rfl 10 _;have HM:=hide (show Sk.dK g s v=(FP s) by unfold Sk.dK;rw [if_pos hst',ht'];rfl)
    go_wp2_with (first | ((with_reducible refine bJ 26 5 ?_);refine dW (hB3.get 1 rfl) Tryz.underlying26 aj ?_) | ((with_reducible refine isS 26 8 59 ?_);refine fU (hB3.get 4 rfl) (aC (FP s)) aj (aT _) ?_))
    all_goals
     have hZ:=hB3.put 4 rfl (aC (FP s)) rfl;refine bodyPost_ret (aI (p:=8) (hZ.get 4 rfl) Tryz.underlying26 rfl aj rfl _ rfl) rfl ⟨?_,hZ.bw⟩;rw [HM.out];rfl
theorem J9 {l m:List ByteArray} {k:Nat} (hk:k<m.length):Sk.twice l (m.drop k)=decide (1<Sk.count l m[k]∨Sk.twice l (m.drop (k+1))=true):=by
 rw [List.drop_eq_getElem_cons hk,Sk.twice]
theorem wY (S:Nat→Prop) (s:Sk.State) (e:En) (w:World) (ht:s.turn=0∨s.turn=1) (he:iL w S e):Calls Tryz.prog 115 #[jE s,rU e] w fun e_ w'=>e_= .returned (.bool (Sk.nJ s e.x))∧Below w.heap.size w w':=by
 go_enter Tryz.func115,Tryz.ntmps115
 go_upto_region 0 with (fail)
 go_cut [2,3,4] (fun v2 v3 v4 wx=>v2=ptr w.heap.size∧v3=ptr (w.heap.size+1)∧v4= .bool false∧aG w wx [(aC s,26),(dn e,83)])
 case first=>
  go_wp2;go_meet;exact ⟨rfl,rfl,rfl,(((aG.nil w).new (by simp) (aC s) _).new (by simp) (dn e) _)⟩
 case rest=>
  obtain ⟨rfl,rfl,rfl,hB⟩:=hcut;have hB0:=hB.alloc (by simp) (.cells ([Sk.bf,Sk.bM,Sk.bG].map Value.string).toArray 9);have hr3:lQ (wc.alloc (.cells ([Sk.bf,Sk.bM,Sk.bG].map Value.string).toArray 9)) (fun _=>True) (some ⟨wc.heap.size,0,none⟩) 3 [Sk.bf,Sk.bM,Sk.bG]:=lQ.lit wc 9 [Sk.bf,Sk.bM,Sk.bG] (by simp) _ trivial;go_wp2;obtain ⟨W0,hW0⟩:∃ W,wc.alloc (.cells ([Sk.bf,Sk.bM,Sk.bG].map Value.string).toArray 9)=W:=⟨_,rfl⟩;have hW0':wc.alloc (.cells #[.string Sk.bf,.string Sk.bM,.string Sk.bG] 9)=W0:=hW0;rw [hW0] at hB0 hr3;rw [hW0'];have hpo:=he.aF.below hB0.bw;have hhi:=he.hits.below hB0.bw;have hsz:=hB0.size (by simp)
  simp only [List.length_cons,List.length_nil] at hsz
  have hX:=hB0.get 1 rfl;have x2:=hX.cell (j:=2) rfl;have CO:=hX.frozen 2;have x3:=hX.cell (j:=3) rfl;have Aa:=hX.frozen 3
  have yu:∀ W:World,(fun w':World=>∀ p q,p<w.heap.size+2→w'.cell? ⟨p,q,none⟩=W0.cell? ⟨p,q,none⟩) W→W.rangeAt w.heap.size 0 (aC s):=fun W h j v hj=>by rw [h _ _ (by omega)];exact (hB0.au rfl).range j v hj
  clear hW0 hW0' hB hX
  go_loop [6,9] (fun _ i=>∃ k:Nat,k≤3∧i= .int .i64 k∧Aside (Sk.twice e.x.aF [Sk.bf,Sk.bM,Sk.bG]=Sk.twice e.x.aF ([Sk.bf,Sk.bM,Sk.bG].drop k))) (fun _ i=>3 - (intOf i).toNat)
  case atStart=>exact ⟨0,by omega,rfl,(show _=_ from rfl)⟩
  case round=>
   obtain ⟨k,hk,rfl,hx⟩:=hrel
   by_cases hlt:k<3
   · obtain ⟨bp,op,hA,_,hbp,hcp⟩:=hr3.at_ k hlt
     cases hA
     have hck:=hcp k hlt;rw [Nat.zero_add] at hck;have hst:=J9 (l:=e.x.aF) (m:=[Sk.bf,Sk.bM,Sk.bG]) (k:=k) hlt;obtain ⟨b,hb⟩:∃ b,([Sk.bf,Sk.bM,Sk.bG]:List ByteArray)[k]=b:=⟨_,rfl⟩;rw [hb] at hck hst;have HX:=hide hx.out;clear hb hcp hx
     by_cases hc:1<Sk.count e.x.aF b
     · have hc1:decide (1<Sk.count e.x.aF b)=true:=decide_eq_true hc
       have HM:=hide (show Sk.nJ s e.x=false by unfold Sk.nJ;rw [HX.out,hst,if_pos (by simp [hc])]);clear hc hst
       go_wp2_with (first | (go_at_call 168;refine (iV S e.B e.b e.x.aF b _ hpo).mono ?_;rintro e1 w9 ⟨rfl,rfl⟩))
       go_ret;exact ⟨aH HM.out.symm,hB0.bw⟩
     · have hc1:decide (1<Sk.count e.x.aF b)=false:=decide_eq_false hc
       have HS:=hide (show Sk.twice e.x.aF ([Sk.bf,Sk.bM,Sk.bG].drop k)=Sk.twice e.x.aF ([Sk.bf,Sk.bM,Sk.bG].drop (k+1)) by rw [hst];simp [hc]);clear hc hst
       go_wp2_with (first | (go_at_call 168;refine (iV S e.B e.b e.x.aF b _ hpo).mono ?_;rintro e1 w9 ⟨rfl,rfl⟩))
       go_round
       case rel=>exact ⟨k+1,by omega,by go_num,(show _=_ from by rw [HX.out,HS.out])⟩
       case measure=>simp [intOf];omega
   · obtain rfl:k=3:=by omega
     have HM:=hide (show Sk.nJ s e.x= !Sk.has e.x.hits (Sk.own s) by unfold Sk.nJ;rw [hx.out,if_neg (by simp [Sk.twice])];cases Sk.has e.x.hits (Sk.own s) <;> rfl);clear hx
     go_upto_region 7 with (fail)
     refine wp_region_held_drew (S:=(fun w':World=>∀ p q,p<w.heap.size+2→w'.cell? ⟨p,q,none⟩=W0.cell? ⟨p,q,none⟩)) (by kernel_rfl) ?bg (fun hHeld=>?_)
     case bg=>exact fun p q h=>rfl
     refine aA 0 ?_;refine aA 1 ?_;refine bD 2 yu Tryz.underlying26 ?_;refine aB 3 fun K hK=>?_;go_simp
     (go_at_call 175;refine (rO s ht _).mono ?_;rintro e1 w5 ⟨rfl,hb5⟩;have hb8:Below W0.heap.size W0 w5:=⟨hb5.os,hb5.tape,hb5.output,hb5.size,hb5.block⟩)
     refine ak hK (fun p q h=>hb8.cell (p:=⟨p,q,none⟩) (Nat.lt_of_lt_of_le h hsz)) fun hHeld=>?_;clear hK K;refine aB 4 fun K hK=>?_;go_simp
     (go_at_call 68;refine (iF S e.A e.a e.x.hits (Sk.own s) _ (hhi.below hb8)).mono ?_;rintro e1 w6 ⟨rfl,rfl⟩)
     refine ak hK (fun p q h=>hb8.cell (p:=⟨p,q,none⟩) (Nat.lt_of_lt_of_le h hsz)) fun hHeld=>?_;clear hK K;refine aA 5 ?_;refine aA 6 ?_;refine wpAnyH_done (by kernel_rfl) ?_ _;go_wp2;go_ret;exact ⟨aH HM.out.symm,hB0.bw.trans (hb8.mono hB0.bw.size)⟩
theorem DJ (s:Sk.State) (l:List ByteArray) (w:World) (D:Nat) (hD:Held w D (aC s) 26):Says 169 #[ptr D] l (Sk.gone s) w:=by
 refine ⟨enters_of Tryz.func169 (by kernel_rfl) rfl,fun W0 x _ hb=>?_⟩;have hS:=hD.below hb;have k4:=hS.cell (j:=4) rfl;have TU:=hS.frozen 4;have k6:=hS.cell (j:=6) rfl;have Vq:=hS.frozen 6
 show Calls Tryz.prog 169 #[.string x,ptr D] W0 fun e_ w'=>e_= .returned (.bool (Sk.gone s x))∧Below w.heap.size w w'
 by_cases h1:s.phase=Sk.bH
 · have h11:=wt h1
   by_cases h2:2≤Sk.value x
   · have h21:decide (2≤Sk.value x)=true:=decide_eq_true h2
     have HM:=hide (show Sk.gone s x=decide (Sk.value x<s.colour) by unfold Sk.gone;simp [h1,h2]);clear h1 h2
     go_enter Tryz.func169,Tryz.ntmps169
     go_upto_region 1 with (fail)
     refine wp_region_held_drew (S:=(fun w':World=>∀ q,w'.cell? ⟨D,q,none⟩=W0.cell? ⟨D,q,none⟩)) (by kernel_rfl) ?bV (fun hHeld=>?_)
     case bV=>exact fun q=>rfl
     refine aA 0 ?_;refine aA 1 ?_;refine aA 2 ?_;refine aA 3 ?_;refine aA 4 ?_;refine aB 5 fun K hK=>?_;go_simp
     (go_at_call 90;refine (dY _ _).mono ?_;rintro e1 w5 ⟨rfl,hb5⟩;have hb8:Below W0.heap.size W0 w5:=⟨hb5.os,hb5.tape,hb5.output,hb5.size,hb5.block⟩)
     refine ak hK (fun q=>hb8.cell (p:=⟨D,q,none⟩) hS.lt) fun hHeld=>?_;clear hK K;refine aA 6 ?_;refine aA 7 ?_;refine aA 8 ?_;refine aA 9 ?_;refine aA 11 ?_;refine aA 12 ?_;refine aB 10 fun K hK=>?_;go_simp
     (go_at_call 90;refine (dY _ _).mono ?_;rintro e1 w6 ⟨rfl,hb6⟩;have zq:=hb8.trans (hb6.mono hb8.size))
     refine ak hK (fun q=>zq.cell (p:=⟨D,q,none⟩) hS.lt) fun hHeld=>?_;clear hK K;refine aA 13 ?_;refine aA 14 ?_;refine aA 15 ?_;refine wpAnyH_done (by kernel_rfl) ?_ _;go_wp2;go_ret;exact ⟨aH HM.out.symm,hb.trans (zq.mono hb.size)⟩
   · have h21:decide (2≤Sk.value x)=false:=decide_eq_false h2
     have HM:=hide (show Sk.gone s x=false by unfold Sk.gone;simp [h1,h2]);clear h1 h2
     go_enter Tryz.func169,Tryz.ntmps169
     go_upto_region 1 with (fail)
     refine wp_region_held_drew (S:=(fun w':World=>∀ q,w'.cell? ⟨D,q,none⟩=W0.cell? ⟨D,q,none⟩)) (by kernel_rfl) ?dJ (fun hHeld=>?_)
     case dJ=>exact fun q=>rfl
     refine aA 0 ?_;refine aA 1 ?_;refine aA 2 ?_;refine aA 3 ?_;refine aA 4 ?_;refine aB 5 fun K hK=>?_;go_simp
     (go_at_call 90;refine (dY _ _).mono ?_;rintro e1 w5 ⟨rfl,hb5⟩;have hb8:Below W0.heap.size W0 w5:=⟨hb5.os,hb5.tape,hb5.output,hb5.size,hb5.block⟩)
     refine ak hK (fun q=>hb8.cell (p:=⟨D,q,none⟩) hS.lt) fun hHeld=>?_;clear hK K;refine aA 6 ?_;refine aA 7 ?_;refine aA 8 ?_;refine iP 9 ?_;refine iP 10 ?_;refine iP 11 ?_;refine iP 12 ?_;refine iP 13 ?_;refine aA 14 ?_;refine aA 15 ?_;refine wpAnyH_done (by kernel_rfl) ?_ _;go_wp2;go_ret;exact ⟨aH HM.out.symm,hb.trans (hb8.mono hb.size)⟩
 · have h11:=wf h1
   have HM:=hide (show Sk.gone s x=false by unfold Sk.gone;simp [h1]);clear h1
   go_enter Tryz.func169,Tryz.ntmps169
   go_upto_region 1 with (fail)
   refine wp_region_held_drew (S:=(fun w':World=>∀ q,w'.cell? ⟨D,q,none⟩=W0.cell? ⟨D,q,none⟩)) (by kernel_rfl) ?gW (fun hHeld=>?_)
   case gW=>exact fun q=>rfl
   refine aA 0 ?_;refine aA 1 ?_;refine aA 2 ?_;refine aA 3 ?_;refine iP 4 ?_;refine iP 5 ?_;refine iP 6 ?_;refine aA 7 ?_;refine aA 8 ?_;refine iP 9 ?_;refine iP 10 ?_;refine iP 11 ?_;refine iP 12 ?_;refine iP 13 ?_;refine aA 14 ?_;refine aA 15 ?_;refine wpAnyH_done (by kernel_rfl) ?_ _;go_wp2;go_ret;exact ⟨aH HM.out.symm,below_drewN hb 1⟩
theorem Gf (k:Nat) (hk:k<8) (W:World):(Instr.index 155 (.agg #[.string Sk.bf,.string Sk.bG,.string Sk.bM,.string Sk.jJ,.string Sk.nY,.string Sk.zh,.string Sk.zi,.string Sk.nX]) (.int .i64 (k:Int))).run Tryz.prog W= .ok (.string (Sk.dX[k]'hk)) W:=by
 obtain rfl | rfl | rfl | rfl | rfl | rfl | rfl | rfl:k=0∨k=1∨k=2∨k=3∨k=4∨k=5∨k=6∨k=7:=by omega
 all_goals kernel_rfl
def others (k:Nat):List ByteArray:=(Sk.dX.drop k).filter (· ≠Sk.bG)
theorem GN {l:List ByteArray} {k:Nat} (hk:k<8):Sk.twice l (others k)=decide ((Sk.dX[k]'hk≠Sk.bG∧1<Sk.count l (Sk.dX[k]'hk))∨Sk.twice l (others (k+1))=true):=by
 obtain ⟨b,hb⟩:∃ b,Sk.dX[k]'hk=b:=⟨_,rfl⟩
 have hd:Sk.dX.drop k=b::Sk.dX.drop (k+1):=by rw [List.drop_eq_getElem_cons (show k<Sk.dX.length from hk)];exact congrArg (· ::_) hb
 simp only [hb]
 unfold others
 rw [hd]
 by_cases h:b=Sk.bG
 · rw [List.filter_cons_of_neg (by simp [h])];simp [h]
 · rw [List.filter_cons_of_pos (by simp [h]),Sk.twice];simp [h]
def oP (s:Sk.State) (e:Sk.Entry):Bool:=decide (s.aY<Sk.count e.aF Sk.bG∨(s.aY=0∧Sk.has e.hits Sk.bG=true))
theorem wL (s:Sk.State) (e:Sk.Entry):Sk.gY s e=if oP s e then false else if Sk.twice e.aF (others 0) then false else decide (e.hits.any (Sk.gone s)=false∧e.aF.any (Sk.gone s)=false):=by
 unfold Sk.gY oP others
 simp only [decide_eq_true_eq]
 rfl
theorem yX (S:Nat→Prop) (s:Sk.State) (e:En) (w:World) (he:iL w S e):Calls Tryz.prog 110 #[jE s,rU e] w fun e_ w'=>e_= .returned (.bool (Sk.gY s e.x))∧Below w.heap.size w w':=by
 go_enter Tryz.func110,Tryz.ntmps110
 go_upto_region 0 with (fail)
 go_cut [2,3,4] (fun v2 v3 v4 wx=>v2=ptr w.heap.size∧v3=ptr (w.heap.size+1)∧v4= .bool false∧aG w wx [(aC s,26),(dn e,83)])
 case first=>
  go_wp2;go_meet;exact ⟨rfl,rfl,rfl,(((aG.nil w).new (by simp) (aC s) _).new (by simp) (dn e) _)⟩
 case rest=>
  obtain ⟨rfl,rfl,rfl,hB⟩:=hcut;have hpo:=he.aF.below hB.bw;have hhi:=he.hits.below hB.bw;have hsz:=hB.size (by simp)
  simp only [List.length_cons,List.length_nil] at hsz
  have hX:=hB.get 1 rfl;have hS:=hB.au rfl;have x2:=hX.cell (j:=2) rfl;have CO:=hX.frozen 2;have x3:=hX.cell (j:=3) rfl;have Aa:=hX.frozen 3;have s5:=hS.cell (j:=5) rfl;have sf5:=hS.frozen 5
  go_upto_region 1 with (fail)
  go_cut [23] (fun v wx=>v= .bool (oP s e.x)∧aG w wx [(aC s,26),(dn e,83)])
  case first=>
   by_cases hc:s.aY<Sk.count e.x.aF Sk.bG
   · have hc1:decide (s.aY<Sk.count e.x.aF Sk.bG)=true:=decide_eq_true hc
     have HC:=hide hc;clear hc;refine wp_region_held_drew (S:=(fun w':World=>∀ p q,p<w.heap.size+2→w'.cell? ⟨p,q,none⟩=wc.cell? ⟨p,q,none⟩)) (by kernel_rfl) ?bg (fun hHeld=>?_)
     case bg=>exact fun p q h=>rfl
     refine tk 0 ?_;refine tk 1 ?_;refine tk 3 ?_;refine tk 4 ?_;refine tr 2 fun K hK=>?_;go_simp
     (go_at_call 168;refine (iV S e.B e.b e.x.aF Sk.bG _ (hpo.drewN 1)).mono ?_;rintro e1 w9 ⟨rfl,rfl⟩)
     refine hK.out _ _ ?Qw (fun hHeld=>?_)
     case Qw=>(exact fun p q h=>rfl)
     clear hK K
     try simp only [Act.put,la,lz,ls]
     refine tk 5 ?_;refine tk 6 ?_;refine tu 7 ?_;refine tu 8 ?_;refine tu 9 ?_;refine tu 10 ?_;refine tu 11 ?_;refine tu 12 ?_;refine tu 13 ?_;refine tu 14 ?_;refine tk 15 ?_;refine wpAnyH_done (by kernel_rfl) ?_ _;go_wp2;go_meet;exact ⟨dO (by unfold oP;have h:=HC.out;simp [h]),hB.drew⟩
   · have hc1:decide (s.aY<Sk.count e.x.aF Sk.bG)=false:=decide_eq_false hc
     have HC:=hide hc;clear hc
     by_cases h0:s.aY=0
     · have h01:(s.aY == 0)=true:=by simp [h0]
       have Oo:=hide h0;clear h0;have hhr:=fun W=>(show Calls Tryz.prog 68 #[.slice e.A e.x.hits.length e.a,.string Sk.bG] (wc.drewN W) fun e1 w'=>e1= .returned (.bool (Sk.has e.x.hits Sk.bG))∧wc.drewN W=w' from iF S e.A e.a e.x.hits Sk.bG _ (hhi.drewN W));obtain ⟨yr,hyr⟩:∃ y,Sk.has e.x.hits Sk.bG=y:=⟨_,rfl⟩
       simp only [hyr] at hhr
       have HHR:=hide hhr;have HYR:=hide hyr;clear hhr hyr;refine wp_region_held_drew (S:=(fun w':World=>∀ p q,p<w.heap.size+2→w'.cell? ⟨p,q,none⟩=wc.cell? ⟨p,q,none⟩)) (by kernel_rfl) ?bV (fun hHeld=>?_)
       case bV=>exact fun p q h=>rfl
       refine tk 0 ?_;refine tk 1 ?_;refine tk 3 ?_;refine tk 4 ?_;refine tr 2 fun K hK=>?_;go_simp
       (go_at_call 168;refine (iV S e.B e.b e.x.aF Sk.bG _ (hpo.drewN 1)).mono ?_;rintro e1 w9 ⟨rfl,rfl⟩)
       refine hK.out _ _ ?QZ (fun hHeld=>?_)
       case QZ=>(exact fun p q h=>rfl)
       clear hK K
       try simp only [Act.put,la,lz,ls]
       refine tk 5 ?_;refine tk 6 ?_;refine tk 7 ?_;refine tk 8 ?_;refine tk 9 ?_;refine tk 10 ?_;refine tk 11 ?_;refine tk 12 ?_;refine tr 13 fun K hK=>?_;go_simp
       (go_at_call 68;refine (HHR.out 1).mono ?_;rintro e1 w9 ⟨rfl,rfl⟩)
       refine hK.out _ _ ?Yy (fun hHeld=>?_)
       case Yy=>(exact fun p q h=>rfl)
       clear hK K
       try simp only [Act.put,la,lz,ls]
       refine tk 14 ?_;refine tk 15 ?_;refine wpAnyH_done (by kernel_rfl) ?_ _;go_wp2;go_meet;exact ⟨dO (by unfold oP;have h1:=HC.out;have h2:=Oo.out;have h3:=HYR.out;simp [h2,h3];omega),hB.drew⟩
     · have h01:(s.aY == 0)=false:=by simp [h0]
       have Oo:=hide h0;clear h0;refine wp_region_held_drew (S:=(fun w':World=>∀ p q,p<w.heap.size+2→w'.cell? ⟨p,q,none⟩=wc.cell? ⟨p,q,none⟩)) (by kernel_rfl) ?dJ (fun hHeld=>?_)
       case dJ=>exact fun p q h=>rfl
       refine tk 0 ?_;refine tk 1 ?_;refine tk 3 ?_;refine tk 4 ?_;refine tr 2 fun K hK=>?_;go_simp
       (go_at_call 168;refine (iV S e.B e.b e.x.aF Sk.bG _ (hpo.drewN 1)).mono ?_;rintro e1 w9 ⟨rfl,rfl⟩)
       refine hK.out _ _ ?Rl (fun hHeld=>?_)
       case Rl=>(exact fun p q h=>rfl)
       clear hK K
       try simp only [Act.put,la,lz,ls]
       refine tk 5 ?_;refine tk 6 ?_;refine tk 7 ?_;refine tk 8 ?_;refine tk 9 ?_;refine tk 10 ?_;refine tu 11 ?_;refine tu 12 ?_;refine tu 13 ?_;refine tk 14 ?_;refine tk 15 ?_;refine wpAnyH_done (by kernel_rfl) ?_ _;go_wp2;go_meet;exact ⟨dO (by unfold oP;have h1:=HC.out;have h2:=Oo.out;simp [h2];omega),hB.drew⟩
  case rest=>
   obtain ⟨rfl,hB1⟩:=hcut;have hB:=hB1;clear hB1 hX hS x2 CO x3 Aa s5 sf5 hpo hhi hsz;obtain ⟨yb,hyb⟩:∃ y,oP s e.x=y:=⟨_,rfl⟩;have Zi:=hide hyb;rw [hyb];clear hyb
   cases yb with
   | true=>
     have HM:=hide (show Sk.gY s e.x=false by rw [wL,Zi.out];rfl);go_wp2;go_ret;exact ⟨aH HM.out.symm,hB.bw⟩
   | false=>
     go_upto_region 3 with (fail)
     go_cut [24,25] (fun v24 v25 wx=>v24= .agg #[.string Sk.bf,.string Sk.bG,.string Sk.bM,.string Sk.jJ,.string Sk.nY,.string Sk.zh,.string Sk.zi,.string Sk.nX]∧v25= .int .i64 0∧aG w wx [(aC s,26),(dn e,83)])
     case first=>
      go_wp2_with (first | (go_at_call 94;refine (qg _).mono ?_;rintro e1 w1 ⟨rfl,hb1⟩;have hB2:=hB.call (by simp) hb1))
      go_meet;exact ⟨rfl,rfl,hB2⟩
     case rest=>
      obtain ⟨rfl,rfl,hB1⟩:=hcut;have kC:=hB1;clear hB1 hB;have ac9:=he.aF.below kC.bw;have hX:=kC.get 1 rfl;have x2:=hX.cell (j:=2) rfl;have CO:=hX.frozen 2;have x3:=hX.cell (j:=3) rfl;have Aa:=hX.frozen 3;go_wp2
      go_loop [6,25] (fun _ i=>∃ k:Nat,k≤8∧i= .int .i64 k∧Aside (Sk.twice e.x.aF (others 0)=Sk.twice e.x.aF (others k))) (fun _ i=>8 - (intOf i).toNat)
      case atStart=>exact ⟨0,by omega,rfl,(show _=_ from rfl)⟩
      case round=>
       obtain ⟨k,hk,rfl,hx⟩:=hrel
       by_cases hlt:k<8
       · have hix:=Gf k hlt
         have hst:=GN (l:=e.x.aF) hlt;obtain ⟨b,hb⟩:∃ b,Sk.dX[k]'hlt=b:=⟨_,rfl⟩;rw [hb] at hst
         simp only [hb] at hix
         have HX:=hide hx.out;clear hb hx
         by_cases hr:b=Sk.bG
         · have hr1:=wt hr
           have hr2:(b.toList != [114,101,100])=false:=by rw [bne,hr1];rfl
           have HS:=hide (show Sk.twice e.x.aF (others k)=Sk.twice e.x.aF (others (k+1)) by rw [hst];simp [hr]);clear hr hst;go_wp2
           go_round
           case rel=>exact ⟨k+1,by omega,by go_num,(show _=_ from by rw [HX.out,HS.out])⟩
           case measure=>simp [intOf];omega
         · have hr1:=wf hr
           have hr2:(b.toList != [114,101,100])=true:=by rw [bne,hr1];rfl
           by_cases hc:1<Sk.count e.x.aF b
           · have hc1:decide (1<Sk.count e.x.aF b)=true:=decide_eq_true hc
             have HM:=hide (show Sk.gY s e.x=false by rw [wL,Zi.out,HX.out,hst];simp [hr,hc]);clear hc hst hr
             go_wp2_with (first | (go_at_call 168;refine (iV S e.B e.b e.x.aF b _ ac9).mono ?_;rintro e1 w9 ⟨rfl,rfl⟩))
             go_ret;exact ⟨aH HM.out.symm,kC.bw⟩
           · have hc1:decide (1<Sk.count e.x.aF b)=false:=decide_eq_false hc
             have HS:=hide (show Sk.twice e.x.aF (others k)=Sk.twice e.x.aF (others (k+1)) by rw [hst];simp [hc]);clear hc hst hr
             go_wp2_with (first | (go_at_call 168;refine (iV S e.B e.b e.x.aF b _ ac9).mono ?_;rintro e1 w9 ⟨rfl,rfl⟩))
             go_round
             case rel=>exact ⟨k+1,by omega,by go_num,(show _=_ from by rw [HX.out,HS.out])⟩
             case measure=>simp [intOf];omega
       · obtain rfl:k=8:=by omega
         have hg1:=fun W (hb:Below w.heap.size w W) (hD:Held W w.heap.size (aC s) 26)=>oL S e.A e.a e.x.hits _ _ (Sk.gone s) W (he.hits.below hb) (DJ s e.x.hits W w.heap.size hD);have hg2:=fun W (hb:Below w.heap.size w W) (hD:Held W w.heap.size (aC s) 26)=>oL S e.B e.b e.x.aF _ _ (Sk.gone s) W (he.aF.below hb) (DJ s e.x.aF W w.heap.size hD);obtain ⟨y1,hy1⟩:∃ y,e.x.hits.any (Sk.gone s)=y:=⟨_,rfl⟩;obtain ⟨y2,hy2⟩:∃ y,e.x.aF.any (Sk.gone s)=y:=⟨_,rfl⟩;have HM:=hide (show Sk.gY s e.x=(!y1 && !y2) by rw [wL,Zi.out,hx.out,hy1,hy2,show Sk.twice e.x.aF (others 8)=false from rfl];cases y1 <;> cases y2 <;> rfl)
         simp only [hy1] at hg1
         simp only [hy2] at hg2
         have HG1:=hide hg1;have HG2:=hide hg2;clear hg1 hg2 hy1 hy2 hx
         cases y1
         all_goals
          go_wp2_with (first | (go_at_call_of 125 (Value.slice e.A e.x.hits.length e.a);refine (HG1.out _ kC.bw (kC.au rfl)).mono ?_;rintro e1 w5 ⟨rfl,hb5⟩;have kC:=kC.call (by simp) hb5;have hX:=kC.get 1 rfl;have x3:=hX.cell (j:=3) rfl;have Aa:=hX.frozen 3) | (go_at_call_of 125 (Value.slice e.B e.x.aF.length e.b);refine (HG2.out _ kC.bw (kC.au rfl)).mono ?_;rintro e1 w5 ⟨rfl,hb5⟩;have kC:=kC.call (by simp) hb5;have hX:=kC.get 1 rfl;have x3:=hX.cell (j:=3) rfl;have Aa:=hX.frozen 3))
          go_ret;exact ⟨aH (by rw [HM.out];simp),kC.bw⟩
end Go.Proofs.YtjbbfmofpjflmaaGreatDoor
