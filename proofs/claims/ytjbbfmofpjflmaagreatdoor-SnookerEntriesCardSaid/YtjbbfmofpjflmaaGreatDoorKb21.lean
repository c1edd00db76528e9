/- Parts of a proof. -/
import Derived.Test.YtjbbfmofpjflmaaGreatDoorKb15
set_option maxHeartbeats 4000000
set_option maxRecDepth 100000
set_option linter.unusedVariables false
set_option linter.unusedSimpArgs false
namespace Go.Proofs.YtjbbfmofpjflmaaGreatDoor
open Go.RowKit
theorem LC (k:ByteArray):Sk.has [Sk.dJ,Sk.jI,Sk.kL,Sk.eU] k=Sk.isKind k:=by
 unfold Sk.has Sk.isKind
 rw [Bool.eq_iff_iff]
 simp only [List.any_cons,List.any_nil,Bool.or_false,Bool.or_eq_true,decide_eq_true_eq,eq_comm (b:=k)]
def rJ (g:Sk.Game) (e:Sk.Entry):Bool:=decide (e.called≠Sk.dH∧Sk.value e.called<2) || e.hits.any (fun b=>Sk.fB g b true=false) || e.aV.any (fun b=>Sk.fB g b false=false)
def fP (g:Sk.Game) (e:Sk.Entry):Bool:=decide ((g.kind≠Sk.aW∧e.called≠Sk.dH)∨(g.kind=Sk.dZ∧0<e.aV.length)∨(g.kind≠Sk.dZ∧e.bD≠0))
theorem NU (g:Sk.Game) (e:Sk.Entry) (h1:Sk.isKind e.kind=true) (h2:e.kind=Sk.dJ) (h3:¬ (22<e.hits.length∨22<e.aV.length)):Sk.dV g e=fst [iL (rJ g e) 10,iL (Sk.out e.bD 0 99) 3,iL (fP g e) 1]:=by
 unfold Sk.dV
 rw [if_neg (by rw [h1];decide),if_neg (by simpa using h2),if_neg h3]
 have hu:((e.called≠Sk.dH∧Sk.value e.called<2)∨e.hits.any (fun b=>Sk.fB g b true=false)=true∨e.aV.any (fun b=>Sk.fB g b false=false)=true)↔rJ g e=true:=by
  unfold rJ
  simp only [Bool.or_eq_true,decide_eq_true_eq,or_assoc]
 have hf:((g.kind≠Sk.aW∧e.called≠Sk.dH)∨(g.kind=Sk.dZ∧0<e.aV.length)∨(g.kind≠Sk.dZ∧e.bD≠0))↔fP g e=true:=by
  unfold fP
  rw [decide_eq_true_eq]
 simp only [hu,hf]
 cases rJ g e <;> cases Sk.out e.bD 0 99 <;> cases fP g e <;> rfl
theorem uo (S:Nat→Prop) (g:Sk.Game) (e:En) (w:World) (he:iW w S e):Calls Tryz.prog 72 #[lZ g,wF e] w fun e_ w'=>e_= .returned (.int .i64 (Sk.dV g e.x))∧Below w.heap.size w w':=by
 obtain ⟨p1,p2,p3⟩:=he.hits.bd;obtain ⟨p4,p5,p6⟩:=he.aV.bd
 go_enter Tryz.func72,Tryz.ntmps72
 go_upto_region 0 with (fail)
 go_cut [2,3,4] (fun v2 v3 v4 wx=>v2=ptr w.heap.size∧v3=ptr (w.heap.size+1)∧v4= .int .i64 0∧aJ w wx [(bT g,23),(dU e,83)])
 case first=>
  go_wp2;go_meet;exact ⟨rfl,rfl,rfl,(((aJ.nil w).new (by simp) (bT g) _).new (by simp) (dU e) _)⟩
 case rest=>
  obtain ⟨rfl,rfl,rfl,hB⟩:=hcut;have hX:=hB.get 1 rfl;have k0:=hX.cell (j:=0) rfl;have K0:=hB.keeps 2 rfl (by omega)
  go_upto_region 1 with (fail)
  go_cut [12] (fun v wx=>v= .bool (!Sk.isKind e.x.kind)∧aJ w wx [(bT g,23),(dU e,83)])
  case first=>
   go_region_held3 (fun w':World=>∀ p q,p<w.heap.size+2→w'.cell? ⟨p,q,none⟩=wc.cell? ⟨p,q,none⟩) (first | exact K0.cell | exact (K0.drew.alloc _).cell) (first | (go_at_call 123;refine (LV _).mono ?_;rintro e1 w1 ⟨rfl,rfl⟩) | (go_at_call 68;refine (gV (fun _=>True) _ 4 [Sk.dJ,Sk.jI,Sk.kL,Sk.eU] e.x.kind _ (lT.lit wc.drew 9 [Sk.dJ,Sk.jI,Sk.kL,Sk.eU] (by simp) _ trivial)).mono ?_;rintro e1 w1 ⟨rfl,rfl⟩))
   go_wp2;go_meet;exact ⟨dP (by rw [LC]),hB.drew.alloc (by simp) _⟩
  case rest=>
   obtain ⟨rfl,hB1⟩:=hcut;clear hX k0 K0 hB;have hB:=hB1;clear hB1;have hX:=hB.get 1 rfl;have hG:=hB.aA rfl;have x0:=hX.cell (j:=0) rfl;have xf0:=hX.frozen 0;have x1:=hX.cell (j:=1) rfl;have xf1:=hX.frozen 1;have x2:=hX.cell (j:=2) rfl;have BJ:=hX.frozen 2;have x3:=hX.cell (j:=3) rfl;have zH:=hX.frozen 3;have x4:=hX.cell (j:=4) rfl;have xf4:=hX.frozen 4;have g0:=hG.cell (j:=0) rfl;have YU:=hG.frozen 0
   cases hk:Sk.isKind e.x.kind with
   | false=>
     have pq:=hide (show Sk.dV g e.x=13 by unfold Sk.dV;rw [if_pos hk]);clear hk;go_wp2;go_ret;exact ⟨bf pq.out.symm,hB.bw⟩
   | true=>
     by_cases hs:e.x.kind=Sk.dJ
     · have hs1:=wt hs
       have hs2:(e.x.kind.toList != [115,104,111,116])=false:=by rw [bne,hs1];rfl
       by_cases hl:22<(e.x.hits.length:Int)
       · have hl1:decide (22<(e.x.hits.length:Int))=true:=decide_eq_true hl
         have pq:=hide (show Sk.dV g e.x=5 by unfold Sk.dV;rw [if_neg (by rw [hk];decide),if_neg (by simpa using hs),if_pos (.inl (by omega))]);clear hk hs hl;go_wp2;go_ret;exact ⟨bf pq.out.symm,hB.bw⟩
       · have hl1:decide (22<(e.x.hits.length:Int))=false:=decide_eq_false hl
         by_cases hm:22<(e.x.aV.length:Int)
         · have hm1:decide (22<(e.x.aV.length:Int))=true:=decide_eq_true hm
           have pq:=hide (show Sk.dV g e.x=5 by unfold Sk.dV;rw [if_neg (by rw [hk];decide),if_neg (by simpa using hs),if_pos (.inr (by omega))]);clear hk hs hl hm;go_wp2;go_ret;exact ⟨bf pq.out.symm,hB.bw⟩
         · have hm1:decide (22<(e.x.aV.length:Int))=false:=decide_eq_false hm
           have pq:=hide (NU g e.x hk hs (by omega));clear hk hs hl hm;have hbD:=hB.bw;have hwh:=fun W (hb:Below wc.heap.size wc W)=>DF S g true e.x.hits e.A e.a W w.heap.size ((hB.aA rfl).below hb) ((he.hits.below hbD).below hb);have hwp:=fun W (hb:Below wc.heap.size wc W)=>DF S g false e.x.aV e.B e.b W w.heap.size ((hB.aA rfl).below hb) ((he.aV.below hbD).below hb);obtain ⟨yh,VE⟩:∃ y,e.x.hits.any (fun b=>Sk.fB g b true=false)=y:=⟨_,rfl⟩;obtain ⟨yp,hyp⟩:∃ y,e.x.aV.any (fun b=>Sk.fB g b false=false)=y:=⟨_,rfl⟩
           simp only [VE] at hwh
           simp only [hyp] at hwp
           have HWH:=hide hwh;have HWP:=hide hwp;have Wj:=hide VE;have HYP:=hide hyp;clear hwh hwp VE hyp;have hb8:Below wc.heap.size wc wc:=Below.refl _ _;have hl0:w.heap.size<wc.heap.size:=(hB.aA rfl).lt;have hl1:w.heap.size+1<wc.heap.size:=(hB.get 1 rfl).lt
           go_upto_region 8 with (fail)
           go_cut [5,6] (fun v5 v wx=>v5= .func (.func 124) #[] #[ptr w.heap.size]∧v= .bool (rJ g e.x)∧Below wc.heap.size wc wx)
           case first=>
            by_cases h4:e.x.called=Sk.dH
            · have Ll:=wt h4
              cases yh
              all_goals
               have HH:=hide (And.intro h4 trivial);clear h4
               go_wp2_with (first | (go_at_call 90;refine (dX _ _).mono ?_;rintro e1 w1 ⟨rfl,hb1⟩;have hb8:=hb8.trans (hb1.mono hb8.size);have hB:=hB.call (by simp) hb1;have hX:=hB.get 1 rfl;have x2:=hX.cell (j:=2) rfl;have BJ:=hX.frozen 2;have x3:=hX.cell (j:=3) rfl;have zH:=hX.frozen 3) | (go_at_call_of 124 (Value.slice e.A e.x.hits.length e.a);refine (HWH.out _ hb8).mono ?_;rintro e1 w1 ⟨rfl,hb1⟩;have hb8:=hb8.trans (hb1.mono hb8.size);have hB:=hB.call (by simp) hb1;have hX:=hB.get 1 rfl;have x2:=hX.cell (j:=2) rfl;have BJ:=hX.frozen 2;have x3:=hX.cell (j:=3) rfl;have zH:=hX.frozen 3) | (go_at_call_of 124 (Value.slice e.B e.x.aV.length e.b);refine (HWP.out _ hb8).mono ?_;rintro e1 w1 ⟨rfl,hb1⟩;have hb8:=hb8.trans (hb1.mono hb8.size);have hB:=hB.call (by simp) hb1;have hX:=hB.get 1 rfl;have x2:=hX.cell (j:=2) rfl;have BJ:=hX.frozen 2;have x3:=hX.cell (j:=3) rfl;have zH:=hX.frozen 3))
               go_meet;exact ⟨rfl,dP (by have hh1:=Wj.out;have hh2:=HYP.out;obtain ⟨h4,_⟩:=HH.out;unfold rJ;rw [hh1,hh2];first | (simp [if_true,h4];done) | (simp [if_true,h4];omega) | (rw [Bool.eq_iff_iff];simp [if_true,h4];omega)),hb8⟩
            · have Lj:=wf h4
              by_cases h5:Sk.value e.x.called<2
              · have TF:=(show decide (Sk.value e.x.called<2)=true from decide_eq_true h5)
                have HH:=hide (And.intro h4 (And.intro h5 trivial));clear h4 h5
                go_wp2_with (first | (go_at_call 90;refine (dX _ _).mono ?_;rintro e1 w1 ⟨rfl,hb1⟩;have hb8:=hb8.trans (hb1.mono hb8.size);have hB:=hB.call (by simp) hb1;have hX:=hB.get 1 rfl;have x2:=hX.cell (j:=2) rfl;have BJ:=hX.frozen 2;have x3:=hX.cell (j:=3) rfl;have zH:=hX.frozen 3) | (go_at_call_of 124 (Value.slice e.A e.x.hits.length e.a);refine (HWH.out _ hb8).mono ?_;rintro e1 w1 ⟨rfl,hb1⟩;have hb8:=hb8.trans (hb1.mono hb8.size);have hB:=hB.call (by simp) hb1;have hX:=hB.get 1 rfl;have x2:=hX.cell (j:=2) rfl;have BJ:=hX.frozen 2;have x3:=hX.cell (j:=3) rfl;have zH:=hX.frozen 3) | (go_at_call_of 124 (Value.slice e.B e.x.aV.length e.b);refine (HWP.out _ hb8).mono ?_;rintro e1 w1 ⟨rfl,hb1⟩;have hb8:=hb8.trans (hb1.mono hb8.size);have hB:=hB.call (by simp) hb1;have hX:=hB.get 1 rfl;have x2:=hX.cell (j:=2) rfl;have BJ:=hX.frozen 2;have x3:=hX.cell (j:=3) rfl;have zH:=hX.frozen 3))
                go_meet;exact ⟨rfl,dP (by have hh1:=Wj.out;have hh2:=HYP.out;obtain ⟨h4,h5,_⟩:=HH.out;unfold rJ;rw [hh1,hh2];first | (simp [if_true,h4,h5];done) | (simp [if_true,h4,h5];omega) | (rw [Bool.eq_iff_iff];simp [if_true,h4,h5];omega)),hb8⟩
              · have TD:=(show decide (Sk.value e.x.called<2)=false from decide_eq_false h5)
                cases yh
                all_goals
                 have HH:=hide (And.intro h4 (And.intro h5 trivial));clear h4 h5
                 go_wp2_with (first | (go_at_call 90;refine (dX _ _).mono ?_;rintro e1 w1 ⟨rfl,hb1⟩;have hb8:=hb8.trans (hb1.mono hb8.size);have hB:=hB.call (by simp) hb1;have hX:=hB.get 1 rfl;have x2:=hX.cell (j:=2) rfl;have BJ:=hX.frozen 2;have x3:=hX.cell (j:=3) rfl;have zH:=hX.frozen 3) | (go_at_call_of 124 (Value.slice e.A e.x.hits.length e.a);refine (HWH.out _ hb8).mono ?_;rintro e1 w1 ⟨rfl,hb1⟩;have hb8:=hb8.trans (hb1.mono hb8.size);have hB:=hB.call (by simp) hb1;have hX:=hB.get 1 rfl;have x2:=hX.cell (j:=2) rfl;have BJ:=hX.frozen 2;have x3:=hX.cell (j:=3) rfl;have zH:=hX.frozen 3) | (go_at_call_of 124 (Value.slice e.B e.x.aV.length e.b);refine (HWP.out _ hb8).mono ?_;rintro e1 w1 ⟨rfl,hb1⟩;have hb8:=hb8.trans (hb1.mono hb8.size);have hB:=hB.call (by simp) hb1;have hX:=hB.get 1 rfl;have x2:=hX.cell (j:=2) rfl;have BJ:=hX.frozen 2;have x3:=hX.cell (j:=3) rfl;have zH:=hX.frozen 3))
                 go_meet;exact ⟨rfl,dP (by have hh1:=Wj.out;have hh2:=HYP.out;obtain ⟨h4,h5,_⟩:=HH.out;unfold rJ;rw [hh1,hh2];first | (simp [if_true,h4,h5];done) | (simp [if_true,h4,h5];omega) | (rw [Bool.eq_iff_iff];simp [if_true,h4,h5];omega)),hb8⟩
           case rest=>
            obtain ⟨rfl,rfl,yS⟩:=hcut;have W9:=(hB.get 1 rfl).below yS;have hG9:=(hB.aA rfl).below yS;have kC:=hB.call (by simp) yS;clear x0 xf0 x1 xf1 x2 BJ x3 zH x4 xf4 g0 YU;have x1:=W9.cell (j:=1) rfl;have xf1:=W9.frozen 1;have x3:=W9.cell (j:=3) rfl;have zH:=W9.frozen 3;have x4:=W9.cell (j:=4) rfl;have xf4:=W9.frozen 4;have g0:=hG9.cell (j:=0) rfl;have YU:=hG9.frozen 0;have hl0:w.heap.size<wc.heap.size:=hG9.lt;have hl1:w.heap.size+1<wc.heap.size:=W9.lt
            go_upto_region 9 with (fail)
            go_cut [7] (fun v wx=>v= .bool (fP g e.x)∧wx=wc)
            case first=>
             by_cases h6:g.kind=Sk.aW
             · have TI:=wt h6
               by_cases h7:g.kind=Sk.dZ
               · have TK:=wt h7
                 exact absurd (h6.symm.trans h7) (by decide)
               · have TJ:=wf h7
                 by_cases h8:e.x.bD=0
                 · have Y2:=(show (e.x.bD == 0)=true by simp [h8])
                   have as6:=(show (e.x.bD != 0)=false by simp [h8]);have HH:=hide (And.intro h6 (And.intro h7 (And.intro h8 trivial)));clear h6 h7 h8;go_wp2;go_meet;exact ⟨dP (by obtain ⟨h6,h7,h8,_⟩:=HH.out;first | (simp [fP,h6,h7,h8];done) | (simp [fP,h6,h7,h8];omega) | (rw [Bool.eq_iff_iff];simp [fP,h6,h7,h8];omega)),rfl⟩
                 · have Y1:=(show (e.x.bD == 0)=false by simp [h8])
                   have asY:=(show (e.x.bD != 0)=true by simp [h8]);have HH:=hide (And.intro h6 (And.intro h7 (And.intro h8 trivial)));clear h6 h7 h8;go_wp2;go_meet;exact ⟨dP (by obtain ⟨h6,h7,h8,_⟩:=HH.out;first | (simp [fP,h6,h7,h8];done) | (simp [fP,h6,h7,h8];omega) | (rw [Bool.eq_iff_iff];simp [fP,h6,h7,h8];omega)),rfl⟩
             · have TG:=wf h6
               by_cases h9:e.x.called=Sk.dH
               · have Y4:=wt h9
                 by_cases h10:g.kind=Sk.dZ
                 · have Vk:=wt h10
                   by_cases h11:0<e.x.aV.length
                   · have Vm:=(show decide (0<(e.x.aV.length:Int))=true by simpa using h11)
                     have anP:=(show decide (0<e.x.aV.length)=true by simpa using h11);have HH:=hide (And.intro h6 (And.intro h9 (And.intro h10 (And.intro h11 trivial))));clear h6 h9 h10 h11;go_wp2;go_meet;exact ⟨dP (by obtain ⟨h6,h9,h10,h11,_⟩:=HH.out;first | (simp [fP,h6,h9,h10,h11];done) | (simp [fP,h6,h9,h10,h11];omega) | (rw [Bool.eq_iff_iff];simp [fP,h6,h9,h10,h11];omega)),rfl⟩
                   · have Vl:=(show decide (0<(e.x.aV.length:Int))=false by simpa using h11)
                     have anI:=(show decide (0<e.x.aV.length)=false by simpa using h11);have HH:=hide (And.intro h6 (And.intro h9 (And.intro h10 (And.intro h11 trivial))));clear h6 h9 h10 h11;go_wp2;go_meet;exact ⟨dP (by obtain ⟨h6,h9,h10,h11,_⟩:=HH.out;first | (simp [fP,h6,h9,h10,h11];done) | (simp [fP,h6,h9,h10,h11];omega) | (rw [Bool.eq_iff_iff];simp [fP,h6,h9,h10,h11];omega)),rfl⟩
                 · have Vj:=wf h10
                   by_cases h12:e.x.bD=0
                   · have Vp:=(show (e.x.bD == 0)=true by simp [h12])
                     have YW:=(show (e.x.bD != 0)=false by simp [h12]);have HH:=hide (And.intro h6 (And.intro h9 (And.intro h10 (And.intro h12 trivial))));clear h6 h9 h10 h12;go_wp2;go_meet;exact ⟨dP (by obtain ⟨h6,h9,h10,h12,_⟩:=HH.out;first | (simp [fP,h6,h9,h10,h12];done) | (simp [fP,h6,h9,h10,h12];omega) | (rw [Bool.eq_iff_iff];simp [fP,h6,h9,h10,h12];omega)),rfl⟩
                   · have Vo:=(show (e.x.bD == 0)=false by simp [h12])
                     have YV:=(show (e.x.bD != 0)=true by simp [h12]);have HH:=hide (And.intro h6 (And.intro h9 (And.intro h10 (And.intro h12 trivial))));clear h6 h9 h10 h12;go_wp2;go_meet;exact ⟨dP (by obtain ⟨h6,h9,h10,h12,_⟩:=HH.out;first | (simp [fP,h6,h9,h10,h12];done) | (simp [fP,h6,h9,h10,h12];omega) | (rw [Bool.eq_iff_iff];simp [fP,h6,h9,h10,h12];omega)),rfl⟩
               · have Y3:=wf h9
                 have HH:=hide (And.intro h6 (And.intro h9 trivial));clear h6 h9;go_wp2;go_meet;exact ⟨dP (by obtain ⟨h6,h9,_⟩:=HH.out;first | (simp [fP,h6,h9];done) | (simp [fP,h6,h9];omega) | (rw [Bool.eq_iff_iff];simp [fP,h6,h9];omega)),rfl⟩
            case rest=>
             obtain ⟨rfl,rfl⟩:=hcut;clear x1 xf1 x3 zH g0 YU;obtain ⟨z1,hz1⟩:∃ z,rJ g e.x=z:=⟨_,rfl⟩;obtain ⟨z3,hz3⟩:∃ z,fP g e.x=z:=⟨_,rfl⟩;rw [hz1,hz3] at pq ⊢;clear hz1 hz3
             go_upto_region 10 with (fail)
             go_region_held3 (fun w':World=>∀ p q,p<wc.heap.size→w'.cell? ⟨p,q,none⟩=wc.cell? ⟨p,q,none⟩) (first | exact fun p q h=>rfl | exact (fun p q h=>((Below.refl wc.heap.size wc).alloc (Nat.le_refl _) _).cell (p:=⟨p,q,none⟩) h)) (first | (go_at_call 64;refine (dF _ _ _).mono ?_;rintro e pz ⟨rfl,rfl⟩) | (go_at_call 66;refine (ji _ _ _ _).mono ?_;rintro e pz ⟨rfl,rfl⟩) | (go_at_call 67;refine (fZ (fun _=>True) _ _ [iL (z1) 10,iL (Sk.out e.x.bD 0 99) 3,iL (z3) 1] _ (jV.row _ _ [iL (z1) 10,iL (Sk.out e.x.bD 0 99) 3,iL (z3) 1] (by simp) _ trivial)).mono ?_;rintro e pz ⟨rfl,rfl⟩) | (go_at_call 67;refine (fZ (fun _=>True) _ _ [iL (z1) 10,iL (Sk.out e.x.bD 0 99) 3,iL (z3) 1] _ (jV.drewN (jV.row wc 34 [iL (z1) 10,iL (Sk.out e.x.bD 0 99) 3,iL (z3) 1] (by simp) _ trivial) 1)).mono ?_;rintro e pz ⟨rfl,rfl⟩))
             go_wp2;go_ret;exact ⟨bf pq.out.symm,kC.bw.trans (((below_drewN (Below.refl wc.heap.size wc) 1).alloc (Nat.le_refl _) _).mono kC.bw.size)⟩
     · have hs1:=wf hs
       have hs2:(e.x.kind.toList != [115,104,111,116])=true:=by rw [bne,hs1];rfl
       have pq:=hide (show Sk.dV g e.x=if e.x.called≠Sk.dH∨0<e.x.hits.length+e.x.aV.length∨e.x.bD≠0 then 1 else 0 by unfold Sk.dV;rw [if_neg (by rw [hk];decide),if_pos hs]);clear hk hs
       by_cases h1:e.x.called=Sk.dH
       · have Oj:=wt h1
         by_cases h2:0<(e.x.hits.length:Int)+(e.x.aV.length:Int)
         · have Om:=(show decide (0<(e.x.hits.length:Int)+(e.x.aV.length:Int))=true from decide_eq_true h2)
           have HH:=hide (And.intro h1 (And.intro h2 trivial));clear h1 h2
           go_wp2_with (first | (go_at_call 64;refine (dF _ _ _).mono ?_;rintro e pz ⟨rfl,rfl⟩))
           go_ret;exact ⟨bf (by rw [pq.out];obtain ⟨h1,h2,_⟩:=HH.out;rw [if_pos (.inr (.inl (by omega)))];rfl),hB.bw⟩
         · have Ol:=(show decide (0<(e.x.hits.length:Int)+(e.x.aV.length:Int))=false from decide_eq_false h2)
           by_cases h3:e.x.bD=0
           · have Lh:=(show (e.x.bD == 0)=true by simp [h3])
             have agy:=(show (e.x.bD != 0)=false by simp [h3]);have HH:=hide (And.intro h1 (And.intro h2 (And.intro h3 trivial)));clear h1 h2 h3
             go_wp2_with (first | (go_at_call 64;refine (dF _ _ _).mono ?_;rintro e pz ⟨rfl,rfl⟩))
             go_ret;exact ⟨bf (by rw [pq.out];obtain ⟨h1,h2,h3,_⟩:=HH.out;rw [if_neg (by rintro (h | h | h);exact h h1;exact absurd h (by omega);exact h h3)];rfl),hB.bw⟩
           · have Le:=(show (e.x.bD == 0)=false by simp [h3])
             have agr:=(show (e.x.bD != 0)=true by simp [h3]);have HH:=hide (And.intro h1 (And.intro h2 (And.intro h3 trivial)));clear h1 h2 h3
             go_wp2_with (first | (go_at_call 64;refine (dF _ _ _).mono ?_;rintro e pz ⟨rfl,rfl⟩))
             go_ret;exact ⟨bf (by rw [pq.out];obtain ⟨h1,h2,h3,_⟩:=HH.out;rw [if_pos (.inr (.inr h3))];rfl),hB.bw⟩
       · have Oi:=wf h1
         have HH:=hide (And.intro h1 trivial);clear h1
         go_wp2_with (first | (go_at_call 64;refine (dF _ _ _).mono ?_;rintro e pz ⟨rfl,rfl⟩))
         go_ret;exact ⟨bf (by rw [pq.out];obtain ⟨h1,_⟩:=HH.out;rw [if_pos (.inl h1)];rfl),hB.bw⟩
def iU (g:Sk.Game) (s:Sk.State) (e:Sk.Entry):Int:=if Sk.bP g s≠0 then Sk.bP g s else Sk.dV g e
theorem um (S:Nat→Prop) (g:Sk.Game) (s:Sk.State) (e:En) (w:World) (he:iW w S e):Calls Tryz.prog 79 #[lZ g,kW s,wF e] w fun e_ w'=>e_= .returned (.int .i64 (iU g s e.x))∧Below w.heap.size w w':=by
 go_enter Tryz.func79,Tryz.ntmps79
 go_upto_region 0 with (fail)
 go_cut [3,4,5,6] (fun v3 v4 v5 v6 wx=>v3=ptr w.heap.size∧v4=ptr (w.heap.size+1)∧v5=ptr (w.heap.size+2)∧v6= .int .i64 0∧aJ w wx [(bT g,23),(aO s,26),(dU e,83)])
 case first=>
  go_wp2;go_meet;exact ⟨rfl,rfl,rfl,rfl,((((aJ.nil w).new (by simp) (bT g) _).new (by simp) (aO s) _).new (by simp) (dU e) _)⟩
 case rest=>
  obtain ⟨rfl,rfl,rfl,rfl,hB⟩:=hcut
  by_cases hz:Sk.bP g s=0
  · have hz':(Sk.bP g s != 0)=false:=by simp [hz]
    have pq:=hide (show iU g s e.x=Sk.dV g e.x by unfold iU;rw [if_neg (by simpa using hz)]);clear hz
    go_wp2_with (first | ((with_reducible (refine ah 23 (.tmp 3) ?lx ?_));(case lx=>rfl);refine au (hB.aA rfl) Tryz.underlying23 rfl cZ rfl (.tmp 3) rfl rfl ?_) | ((with_reducible (refine ah 26 (.tmp 4) ?lx ?_));(case lx=>rfl);refine au (hB.get 1 rfl) Tryz.underlying26 rfl ak rfl (.tmp 4) rfl rfl ?_) | ((with_reducible (refine ah 83 (.tmp 5) ?lx ?_));(case lx=>rfl);refine au (hB.get 2 rfl) Tryz.underlying83 rfl bF rfl (.tmp 5) rfl rfl ?_) | (go_at_call 18;refine (jl g s _).mono ?_;rintro e1 w1 ⟨rfl,hb1⟩;have hB:=hB.call (by simp) hb1) | (go_at_call 72;refine (uo S g e _ (he.below hB.bw)).mono ?_;rintro e1 w1 ⟨rfl,hb1⟩;have hB:=hB.call (by simp) hb1))
    go_ret;exact ⟨bf pq.out.symm,hB.bw⟩
  · have hz':(Sk.bP g s != 0)=true:=by simp [hz]
    have pq:=hide (show iU g s e.x=Sk.bP g s by unfold iU;rw [if_pos hz]);clear hz
    go_wp2_with (first | ((with_reducible (refine ah 23 (.tmp 3) ?lx ?_));(case lx=>rfl);refine au (hB.aA rfl) Tryz.underlying23 rfl cZ rfl (.tmp 3) rfl rfl ?_) | ((with_reducible (refine ah 26 (.tmp 4) ?lx ?_));(case lx=>rfl);refine au (hB.get 1 rfl) Tryz.underlying26 rfl ak rfl (.tmp 4) rfl rfl ?_) | (go_at_call 18;refine (jl g s _).mono ?_;rintro e1 w1 ⟨rfl,hb1⟩;have hB:=hB.call (by simp) hb1))
    go_ret;exact ⟨bf pq.out.symm,hB.bw⟩
theorem yO (g:Sk.Game) (l:List En) {k:Nat} (hk:k<l.length):Sk.lu g (bare (l.drop k))=if Sk.dV g l[k].x≠0 then Sk.dV g l[k].x else Sk.lu g (bare (l.drop (k+1))):=by
 rw [List.drop_eq_getElem_cons hk,bare,List.map_cons,Sk.lu]
 rfl
def zeroE:List Value:=[.string ⟨#[]⟩,.string ⟨#[]⟩,.slice none 0 0,.slice none 0 0,.int .i64 0]
theorem Ih (e:En):∀ v∈dU e,v.oneCell'=true:=by simp [dU,Value.oneCell']
theorem VJ {ops:Array Oper} {rest:List Oper} {op:Oper} {a:Act} {W:World} {Q:Exit→Act→World→Prop} {g o:Nat} {cs:List Value} {t:TypeId} {d:TypeDesc} (h:W.rangeAt g o cs) (hu:Tryz.prog.underlying t=some d) (hd:d.isRow=true) (hi:(Tryz.prog.info? t).map (·.size)=some cs.length) (hgd:op.guard=none) (x:Operand) (ho:op.op= .load t x) (hx:a.eval x= .pointer (some ⟨g,o,none⟩))
 (k:wpList Tryz.prog ops Q rest (a.put op.dst (.agg cs.toArray)) W):qY Tryz.prog ops Q op rest a W:=
 wpList_load_mid hgd t x ho g o hx cs d h hu hd hi k
theorem tC {S:Nat→Prop} {l:List En} {A:Option Addr} {c k b o:Nat} {w W:World} (hl:qh w S A c l) (hk:k<l.length) (hb:Below w.heap.size w W) (hA:A=some ⟨b,o,none⟩):W.rangeAt b (o+k*5) (dU l[k]):=by
 obtain ⟨b',o',e,_,hbl,hc⟩:=Reads.at_ hl.1 (by omega);rw [hA] at e
 cases e
 intro j v hj;have hj5:j<5:=(List.getElem?_eq_some_iff.1 hj).1
 have:=hc (k*5+j) v (by rw [rM l k hk j hj5];exact hj)
 rw [Nat.add_assoc];exact (hb.cell (p:=⟨b,o+(k*5+j),none⟩) hbl).trans this
theorem pW (S:Nat→Prop) (g:Sk.Game) (l:List En) (A:Option Addr) (c:Nat) (w:World) (hl:qh w S A c l):Calls Tryz.prog 20 #[lZ g,.slice A l.length c] w fun e_ w'=>e_= .returned (.int .i64 (Sk.iq g (bare l)))∧Below w.heap.size w w':=by
 obtain ⟨b1,b2,b3⟩:=hl.bd
 go_enter Tryz.func20,Tryz.ntmps20
 go_upto_region 0 with (fail)
 go_cut [2,4] (fun v2 v4 wx=>v2=ptr w.heap.size∧v4= .int .i64 0∧aJ w wx [(bT g,23)])
 case first=>
  go_wp2;go_meet;exact ⟨rfl,rfl,((aJ.nil w).new (by simp) (bT g) _)⟩
 case rest=>
  obtain ⟨rfl,rfl,hB⟩:=hcut;have hB0:=hB
  go_upto_region 1 with (fail)
  go_cut [5] (fun v wx=>v= .int .i64 (fst [Sk.dn g,iL (decide (1000<(l.length:Int))) 5])∧aJ w wx [(bT g,23)])
  case first=>
   go_wp2_with (first | ((with_reducible (refine ah 23 (.tmp 2) ?lx ?_));(case lx=>rfl);refine au (hB.aA rfl) Tryz.underlying23 rfl cZ rfl (.tmp 2) rfl rfl ?_) | (go_at_call 16;refine (rH g _).mono ?_;rintro e1 w1 ⟨rfl,hb1⟩;have hB:=hB.call (by simp) hb1) | (go_at_call 64;refine (dF _ _ _).mono ?_;rintro e pz ⟨rfl,rfl⟩) | (go_at_call 67;refine (fZ (fun _=>True) _ _ [Sk.dn g,iL (decide (1000<(l.length:Int))) 5] _ (jV.row _ _ [Sk.dn g,iL (decide (1000<(l.length:Int))) 5] (by simp) _ trivial)).mono ?_;rintro e pz ⟨rfl,rfl⟩))
   go_meet;exact ⟨rfl,hB.alloc (by simp) _⟩
  case rest=>
   obtain ⟨rfl,hB⟩:=hcut
   by_cases hz:Sk.dn g=0
   · by_cases hn:1000<l.length
     · have Vw:fst [Sk.dn g,iL (decide (1000<(l.length:Int))) 5]=5:=by rw [hz,decide_eq_true (by omega)];rfl
       have pq:=hide (show Sk.iq g (bare l)=5 by unfold Sk.iq;rw [if_neg (by simpa using hz),if_pos (by rw [kQ];exact hn)]);rw [Vw];clear Vw hz hn;go_wp2;go_ret;exact ⟨bf pq.out.symm,hB.bw⟩
     · have Vw:fst [Sk.dn g,iL (decide (1000<(l.length:Int))) 5]=0:=by rw [hz,decide_eq_false (by omega)];rfl
       have pq:=hide (show Sk.iq g (bare l)=Sk.lu g (bare l) by unfold Sk.iq;rw [if_neg (by simpa using hz),if_neg (by rw [kQ];exact hn)]);rw [Vw];clear Vw hz;have kC:=hB;go_wp2
       go_loopw [7,8,22] (fun _ _ i wr=>∃ k:Nat,k≤l.length∧i= .int .i64 k∧Aside (Sk.lu g (bare l)=Sk.lu g (bare (l.drop k)))∧aJ w wr [(bT g,23)]∧Below wc.heap.size wc wr) (fun _ _ i _=>l.length - (intOf i).toNat)
       case atStart=>exact ⟨0,Nat.zero_le _,rfl,by simp [Aside],hB,Below.refl _ _⟩
       case round=>
        obtain ⟨k,hk,rfl,hx,hB,hbw⟩:=hrel
        by_cases hlt:k<l.length
        · obtain ⟨b,o,rfl,_,hbl,hc⟩:=hl.at_ k hlt
          have hrg:=tC hl hlt hB.bw rfl;have Vx:=(hl.ent k hlt);have hst:=yO g l hlt;obtain ⟨ek,hek⟩:∃ e,l[k]=e:=⟨_,rfl⟩;rw [hek] at hrg Vx hst;have hZ:=Held.new wr zeroE 83;have hE:=hZ.whole (dU ek) rfl;have Yw:aJ w ((wr.alloc (.cells zeroE.toArray 83)).setCells wr.heap.size 0 (dU ek)) [(bT g,23)]:=(hB.alloc (by simp) _).fM (by have:=hB.size (by simp);simpa using this) _ _;have TW:Below wc.heap.size wc ((wr.alloc (.cells zeroE.toArray 83)).setCells wr.heap.size 0 (dU ek)):=below_setCells _ hbw.size _ _ _ _ (hbw.alloc hbw.size _);have hx2:=hx.out;rw [hst] at hx2;clear hc hst hek hx
          by_cases hz2:Sk.dV g ek.x=0
          · have hz':(Sk.dV g ek.x != 0)=false:=by simp [hz2]
            rw [if_neg (by simpa using hz2)] at hx2;have HX:=hide hx2;clear hx2 hz2
            go_wp2_with (first | ((with_reducible (refine ah 83 (.tmp 24) ?lx ?_));(case lx=>rfl);refine VJ hrg Tryz.underlying83 rfl bF rfl (.tmp 24) rfl rfl ?_) | ((with_reducible (refine aH 83 (.tmp 7) (.tmp 25) ?lx ?_));(case lx=>rfl);refine aC (hZ) (dU ek) rfl bF (Ih _) rfl (.tmp 7) (.tmp 25) rfl rfl rfl ?_) | ((with_reducible (refine ah 23 (.tmp 2) ?lx ?_));(case lx=>rfl);refine au (Yw.aA rfl) Tryz.underlying23 rfl cZ rfl (.tmp 2) rfl rfl ?_) | ((with_reducible (refine ah 83 (.tmp 7) ?lx ?_));(case lx=>rfl);refine au (hE) Tryz.underlying83 rfl bF rfl (.tmp 7) rfl rfl ?_) | (go_at_call 72;refine (uo S g ek _ (Vx.below Yw.bw)).mono ?_;rintro e1 w1 ⟨rfl,hb1⟩;have hB2:=Yw.call (by simp) hb1;have hbw2:=TW.trans (hb1.mono TW.size)))
            go_roundw
            case rel=>exact ⟨k+1,by omega,by go_num,HX.out,hB2,hbw2⟩
            case measure=>simp [intOf];omega
          · have hz':(Sk.dV g ek.x != 0)=true:=by simp [hz2]
            rw [if_pos hz2] at hx2;have HX:=hide hx2;clear hx2 hz2
            go_wp2_with (first | ((with_reducible (refine ah 83 (.tmp 24) ?lx ?_));(case lx=>rfl);refine VJ hrg Tryz.underlying83 rfl bF rfl (.tmp 24) rfl rfl ?_) | ((with_reducible (refine aH 83 (.tmp 7) (.tmp 25) ?lx ?_));(case lx=>rfl);refine aC (hZ) (dU ek) rfl bF (Ih _) rfl (.tmp 7) (.tmp 25) rfl rfl rfl ?_) | ((with_reducible (refine ah 23 (.tmp 2) ?lx ?_));(case lx=>rfl);refine au (Yw.aA rfl) Tryz.underlying23 rfl cZ rfl (.tmp 2) rfl rfl ?_) | ((with_reducible (refine ah 83 (.tmp 7) ?lx ?_));(case lx=>rfl);refine au (hE) Tryz.underlying83 rfl bF rfl (.tmp 7) rfl rfl ?_) | (go_at_call 72;refine (uo S g ek _ (Vx.below Yw.bw)).mono ?_;rintro e1 w1 ⟨rfl,hb1⟩;have hB2:=Yw.call (by simp) hb1;have hbw2:=TW.trans (hb1.mono TW.size)))
            go_ret;exact ⟨bf (by rw [pq.out,HX.out]),hB2.bw⟩
        · have hz2:Sk.lu g (bare l)=0:=by rw [hx.out,List.drop_of_length_le (by omega)];rfl
          have HX:=hide hz2;clear hx hz2;go_wp2;go_ret;exact ⟨bf (by rw [pq.out,HX.out]),hB.bw⟩
   · have Vw:fst [Sk.dn g,iL (decide (1000<(l.length:Int))) 5]=Sk.dn g:=by unfold fst;rw [if_pos hz]
     have hz':(Sk.dn g != 0)=true:=by simp [hz]
     have pq:=hide (show Sk.iq g (bare l)=Sk.dn g by unfold Sk.iq;rw [if_pos hz]);rw [Vw];clear Vw hz;go_wp2;go_ret;exact ⟨bf pq.out.symm,hB.bw⟩
theorem CJ (s:Sk.State) (e:En) (hc:0≤s.colour∧s.colour≤7) (l:List ByteArray) (w:World) (D H:Nat) (hD:Held w D (aO s) 26) (hH:Held w H (dU e) 83):Says 211 #[ptr D,ptr H] l (fun b=>Sk.wanted s e.x b=false) w:=by
 refine ⟨enters_of Tryz.func211 (by kernel_rfl) rfl,fun W x _ hb=>?_⟩;have hS:=hD.below hb;have hE:=hH.below hb;have hI:=fun W=>BI s e x hc W
 have hdec:decide (Sk.wanted s e.x x=false)= !Sk.wanted s e.x x:=by cases Sk.wanted s e.x x <;> rfl
 show Calls Tryz.prog 211 #[.string x,ptr D,ptr H] W fun e_ w'=>e_= .returned (.bool (decide (Sk.wanted s e.x x=false)))∧Below w.heap.size w w'
 rw [hdec];obtain ⟨y,hy⟩:∃ y,Sk.wanted s e.x x=y:=⟨_,rfl⟩
 simp only [hy] at hI ⊢
 have HI:=hide hI;clear hI hy hdec
 go_enter Tryz.func211,Tryz.ntmps211
 go_wp2_with (first | ((with_reducible (refine ah 26 (.tmp 1) ?lx ?_));(case lx=>rfl);refine au (hS) Tryz.underlying26 rfl ak rfl (.tmp 1) rfl rfl ?_) | ((with_reducible (refine ah 83 (.tmp 2) ?lx ?_));(case lx=>rfl);refine au (hE) Tryz.underlying83 rfl bF rfl (.tmp 2) rfl rfl ?_) | (go_at_call 172;refine (HI.out _).mono ?_;rintro e1 w1 ⟨rfl,hb1⟩))
 go_ret;exact ⟨rfl,hb.trans (hb1.mono hb.size)⟩
theorem wtE {b:ByteArray} (h:b=Sk.dH):b.toList.isEmpty=true:=by subst h;rw [ByteArray.toList_eq];rfl
theorem wfE {b:ByteArray} (h:¬ b=Sk.dH):b.toList.isEmpty=false:=by
 cases hh:b.toList.isEmpty
 · rfl
 · exact absurd (qH (by rw [List.isEmpty_iff.1 hh,ByteArray.toList_eq])) h
theorem kT (s:Sk.State):0<(Sk.on s).length:=by
 unfold Sk.on Sk.cO
 split
 · simp
 · split <;> simp
theorem KE (s:Sk.State):(Sk.on s).headD Sk.dH=(Sk.on s)[0]'(kT s):=by
 rw [List.headD_eq_head?_getD,List.head?_eq_getElem?,List.getElem?_eq_getElem (kT s)];rfl
theorem JJ (S:Nat→Prop) (s:Sk.State) (e:En) (w:World) (hc:0≤s.colour∧s.colour≤7) (he:iW w S e):Calls Tryz.prog 170 #[kW s,wF e] w fun e_ w'=>e_= .returned (.int .i64 (Sk.dY s e.x))∧Below w.heap.size w w':=by
 obtain ⟨p1,p2,p3⟩:=he.hits.bd
 go_enter Tryz.func170,Tryz.ntmps170
 go_upto_region 0 with (fail)
 go_cut [2,3,4] (fun v2 v3 v4 wx=>v2=ptr w.heap.size∧v3=ptr (w.heap.size+1)∧v4= .int .i64 0∧aJ w wx [(aO s,26),(dU e,83)])
 case first=>
  go_wp2;go_meet;exact ⟨rfl,rfl,rfl,(((aJ.nil w).new (by simp) (aO s) _).new (by simp) (dU e) _)⟩
 case rest=>
  obtain ⟨rfl,rfl,rfl,hB⟩:=hcut;have hX:=hB.get 1 rfl;have x1:=hX.cell (j:=1) rfl;have xf1:=hX.frozen 1;obtain ⟨yb,hyb⟩:∃ y,e.x.called.toList.isEmpty=y:=⟨_,rfl⟩;have Yu:=hide hyb
  go_upto_if 10 with (fail)
  clear hyb
  go_cut [5] (fun v wx=>v= .string (Sk.due s e.x)∧aJ w wx [(aO s,26),(dU e,83)])
  case first=>
   cases yb
   · have HH:=hide (show Sk.due s e.x=e.x.called by unfold Sk.due;rw [if_neg (fun h=>by have:=Yu.out;rw [wtE h] at this;cases this)])
     go_wp2;go_meet;exact ⟨by rw [HH.out],hB⟩
   · have HH:=hide (show Sk.due s e.x=(Sk.on s)[0]'(kT s) by unfold Sk.due;rw [if_pos (by by_cases h:e.x.called=Sk.dH;exact h;have:=Yu.out;rw [wfE h] at this;cases this),KE])
     go_wp2_with (first | ((with_reducible (refine ah 26 (.tmp 2) ?lx ?_));(case lx=>rfl);refine au (hB.aA rfl) Tryz.underlying26 rfl ak rfl (.tmp 2) rfl rfl ?_) | (go_at_call 93;refine (kX s hc _).mono ?_;rintro e1 w1 ⟨A1,c1,rfl,hr1,hb1⟩;have hB:=hB.call (by simp) hb1;obtain ⟨b1,o1,rfl,_,_,hc1⟩:=hr1.at_ 0 (kT s);have hon:=hc1 0 (kT s);have Xi:=kT s;rw [Nat.add_zero] at hon))
     go_meet;exact ⟨by rw [HH.out],hB⟩
  case rest=>
   obtain ⟨rfl,hB1⟩:=hcut;clear hX x1 xf1 hB;have hB:=hB1;clear hB1;have hX:=hB.get 1 rfl;have x2:=hX.cell (j:=2) rfl;have BJ:=hX.frozen 2;have x3:=hX.cell (j:=3) rfl;have zH:=hX.frozen 3;have hbD:=hB.bw;have hhw:=fun W (hb:Below wc.heap.size wc W)=>gV S e.B e.b e.x.aV Sk.bQ W ((he.aV.below hbD).below hb);have hhf:=fun W (hb:Below wc.heap.size wc W)=>oz S e.B e.b e.x.aV _ _ _ W ((he.aV.below hbD).below hb) (CJ s e hc e.x.aV W w.heap.size (w.heap.size+1) ((hB.aA rfl).below hb) ((hB.get 1 rfl).below hb));obtain ⟨yw,Ul⟩:∃ y,Sk.has e.x.aV Sk.bQ=y:=⟨_,rfl⟩;obtain ⟨yf,Xn⟩:∃ y,e.x.aV.any (fun b=>Sk.wanted s e.x b=false)=y:=⟨_,rfl⟩
   simp only [Ul] at hhw
   simp only [Xn] at hhf
   have HHW:=hide hhw;have HHF:=hide hhf;have HYW:=hide Ul;have HYF:=hide Xn;obtain ⟨d,hd⟩:∃ d,Sk.due s e.x=d:=⟨_,rfl⟩;have HD:=hide hd;rw [hd];have hb8:Below wc.heap.size wc wc:=Below.refl _ _;clear hhw hhf Ul Xn hd
   by_cases hn:e.x.hits=[]
   · have hn1:((e.x.hits.length:Int) == 0)=true:=by simp [hn]
     have HF:=hide (show Sk.dY s e.x=1 by unfold Sk.dY;rw [if_pos hn]);clear hn;go_wp2;go_ret;exact ⟨bf HF.out.symm,hbD⟩
   · have hpos:0<e.x.hits.length:=List.length_pos_iff.2 hn
     have hn1:((e.x.hits.length:Int) == 0)=false:=by simp [hn]
     obtain ⟨b0,o0,hA,_,hbl,hcc⟩:=(he.hits.below hbD).at_ 0 hpos;have h00:=hcc 0 hpos;rw [Nat.add_zero] at h00
     have hhd:e.x.hits.headD Sk.dH=e.x.hits[0]:=by rw [List.headD_eq_head?_getD,List.head?_eq_getElem?,List.getElem?_eq_getElem hpos];rfl
     obtain ⟨h0,hh0⟩:∃ h,e.x.hits[0]=h:=⟨_,rfl⟩;rw [hh0] at h00 hhd;rw [hA] at x2;have HN:=hide hn;have V9:=hide hhd;clear hn hcc hh0 hhd
     by_cases hq:h0=d
     · have hq1:(h0.toList == d.toList)=true:=lq hq
       have hq2:(h0.toList != d.toList)=false:=by rw [bne,hq1];rfl
       have HF:=hide (show Sk.dY s e.x=if yw then 3 else if yf then 4 else 0 by unfold Sk.dY;rw [if_neg HN.out,if_neg (by rw [V9.out,HD.out];simpa using hq),HYW.out,HYF.out]);clear hq
       cases yw
       · cases yf
         all_goals
          go_wp2_with (first | (go_at_call 68;refine (HHW.out _ hb8).mono ?_;rintro e1 w1 ⟨rfl,rfl⟩) | (go_at_call 125;refine (HHF.out _ hb8).mono ?_;rintro e1 w1 ⟨rfl,hb1⟩;have hb8:=hb8.trans (hb1.mono hb8.size)))
          go_ret;exact ⟨bf HF.out.symm,hbD.trans (hb8.mono hbD.size)⟩
       · go_wp2_with (first | (go_at_call 68;refine (HHW.out _ hb8).mono ?_;rintro e1 w1 ⟨rfl,rfl⟩))
         go_ret;exact ⟨bf HF.out.symm,hbD⟩
     · have hq1:(h0.toList == d.toList)=false:=kZ hq
       have hq2:(h0.toList != d.toList)=true:=by rw [bne,hq1];rfl
       have HF:=hide (show Sk.dY s e.x=2 by unfold Sk.dY;rw [if_neg HN.out,if_pos (by rw [V9.out,HD.out];exact hq)]);clear hq;go_wp2;go_ret;exact ⟨bf HF.out.symm,hbD⟩
theorem CG (g:Sk.Game) (s:Sk.State) (w:World):Calls Tryz.prog 18 #[lZ g,kW s] w fun e w'=>e= .returned (.int .i64 (Sk.bP g s))∧Below w.heap.size w w':=jl g s w
def fG (v:Sk.fF):List Value:=[.int .i64 v.points,.int .i64 v.gB,.int .i64 v.penalty,.bool v.stays]
theorem jd (v:Sk.fF):∀ x∈fG v,x.oneCell'=true:=by simp [fG,Value.oneCell']
theorem FM {l:List ByteArray} (h:0<l.length):l.headD Sk.dH=l[0]:=by rw [List.headD_eq_head?_getD,List.head?_eq_getElem?,List.getElem?_eq_getElem h];rfl
theorem rE (S:Nat→Prop) (s:Sk.State) (e:En) (w:World) (ht:s.turn=0∨s.turn=1) (he:iW w S e):Calls Tryz.prog 176 #[kW s,wF e] w fun e_ w'=>e_= .returned (.bool (Sk.jc s e.x))∧Below w.heap.size w w':=by
 go_enter Tryz.func176,Tryz.ntmps176
 go_upto_region 0 with (fail)
 go_cut [2,3,4] (fun v2 v3 v4 wx=>v2=ptr w.heap.size∧v3=ptr (w.heap.size+1)∧v4= .bool false∧aJ w wx [(aO s,26),(dU e,83)])
 case first=>
  go_wp2;go_meet;exact ⟨rfl,rfl,rfl,(((aJ.nil w).new (by simp) (aO s) _).new (by simp) (dU e) _)⟩
 case rest=>
  obtain ⟨rfl,rfl,rfl,hB⟩:=hcut;have hsz:=hB.size (by simp)
  simp only [List.length_cons,List.length_nil] at hsz
  have hX:=hB.get 1 rfl;have x2:=hX.cell (j:=2) rfl;have BJ:=hX.frozen 2;have hhd:=he.hits.below hB.bw;have hh1:=fun W (hb:Below wc.heap.size wc W)=>gV S e.A e.a e.x.hits (Sk.theirs s) W (hhd.below hb);have hh2:=fun W (hb:Below wc.heap.size wc W)=>gV S e.A e.a e.x.hits Sk.dw W (hhd.below hb)
  have xK:∀ W:World,(fun w':World=>∀ p q,p<w.heap.size+2→w'.cell? ⟨p,q,none⟩=wc.cell? ⟨p,q,none⟩) W→W.rangeAt w.heap.size 0 (aO s):=fun W h j v hj=>by rw [h _ _ (by omega)];exact (hB.aA rfl).range j v hj
  obtain ⟨y1,hy1⟩:∃ y,Sk.has e.x.hits (Sk.theirs s)=y:=⟨_,rfl⟩;obtain ⟨y2,hy2⟩:∃ y,Sk.has e.x.hits Sk.dw=y:=⟨_,rfl⟩
  simp only [hy1] at hh1
  simp only [hy2] at hh2
  have HH1:=hide hh1;have HH2:=hide hh2;have HY1:=hide hy1;have HY2:=hide hy2;clear hh1 hh2 hy1 hy2 hX
  go_upto_region 1 with (fail)
  cases y1
  · refine wp_region_held_drew (S:=(fun w':World=>∀ p q,p<w.heap.size+2→w'.cell? ⟨p,q,none⟩=wc.cell? ⟨p,q,none⟩)) (by kernel_rfl) ?bW (fun hHeld=>?_)
    case bW=>exact fun p q h=>rfl
    refine tk 0 ?_;refine tk 1 ?_;refine wpAnyH_take (i:=2) (oi:=_) (v:=_) (ga rfl) (by kernel_rfl) (by kernel_rfl) (by kernel_rfl) (fun _ _ _ h=>h) (yieldsIf_load_mid (by rfl) _ _ (by rfl) _ _ (by rfl) _ _ xK Tryz.underlying26 rfl (by kernel_rfl)) (by assumption) ?_
    try simp only [Act.put,la,lz,ls]
    refine tr 3 fun K hK=>?_;go_simp
    (go_at_call 91;refine (zi s ht _).mono ?_;rintro e1 w1 ⟨rfl,hb1⟩;have hb8:Below wc.heap.size wc w1:=⟨hb1.os,hb1.tape,hb1.output,hb1.size,hb1.block⟩)
    refine hK.out _ _ ?Gx (fun hHeld=>?_)
    case Gx=>(exact fun p q h=>hb8.cell (p:=⟨p,q,none⟩) (Nat.lt_of_lt_of_le h hsz))
    clear hK K
    try simp only [Act.put,la,lz,ls]
    refine tr 4 fun K hK=>?_;go_simp
    (go_at_call 68;refine (HH1.out _ hb8).mono ?_;rintro e1 w2 ⟨rfl,rfl⟩)
    refine hK.out _ _ ?PZ (fun hHeld=>?_)
    case PZ=>(exact fun p q h=>hb8.cell (p:=⟨p,q,none⟩) (Nat.lt_of_lt_of_le h hsz))
    clear hK K
    try simp only [Act.put,la,lz,ls]
    refine tk 5 ?_;refine tu 6 ?_;refine tu 7 ?_;refine tu 8 ?_;refine tk 9 ?_;refine tk 10 ?_;refine wpAnyH_done (by kernel_rfl) ?_ _;go_wp2;go_ret;exact ⟨aN (by have h1:=HY1.out;have h2:=HY2.out;simp [Sk.jc,h1,h2]),hB.bw.trans (hb8.mono hB.bw.size)⟩
  · refine wp_region_held_drew (S:=(fun w':World=>∀ p q,p<w.heap.size+2→w'.cell? ⟨p,q,none⟩=wc.cell? ⟨p,q,none⟩)) (by kernel_rfl) ?dI (fun hHeld=>?_)
    case dI=>exact fun p q h=>rfl
    refine tk 0 ?_;refine tk 1 ?_;refine wpAnyH_take (i:=2) (oi:=_) (v:=_) (ga rfl) (by kernel_rfl) (by kernel_rfl) (by kernel_rfl) (fun _ _ _ h=>h) (yieldsIf_load_mid (by rfl) _ _ (by rfl) _ _ (by rfl) _ _ xK Tryz.underlying26 rfl (by kernel_rfl)) (by assumption) ?_
    try simp only [Act.put,la,lz,ls]
    refine tr 3 fun K hK=>?_;go_simp
    (go_at_call 91;refine (zi s ht _).mono ?_;rintro e1 w1 ⟨rfl,hb1⟩;have hb8:Below wc.heap.size wc w1:=⟨hb1.os,hb1.tape,hb1.output,hb1.size,hb1.block⟩)
    refine hK.out _ _ ?Ql (fun hHeld=>?_)
    case Ql=>(exact fun p q h=>hb8.cell (p:=⟨p,q,none⟩) (Nat.lt_of_lt_of_le h hsz))
    clear hK K
    try simp only [Act.put,la,lz,ls]
    refine tr 4 fun K hK=>?_;go_simp
    (go_at_call 68;refine (HH1.out _ hb8).mono ?_;rintro e1 w2 ⟨rfl,rfl⟩)
    refine hK.out _ _ ?Qp (fun hHeld=>?_)
    case Qp=>(exact fun p q h=>hb8.cell (p:=⟨p,q,none⟩) (Nat.lt_of_lt_of_le h hsz))
    clear hK K
    try simp only [Act.put,la,lz,ls]
    refine tk 5 ?_;refine tk 6 ?_;refine tk 7 ?_;refine tr 8 fun K hK=>?_;go_simp
    (go_at_call 68;refine (HH2.out _ hb8).mono ?_;rintro e1 w2 ⟨rfl,rfl⟩)
    refine hK.out _ _ ?aaS (fun hHeld=>?_)
    case aaS=>(exact fun p q h=>hb8.cell (p:=⟨p,q,none⟩) (Nat.lt_of_lt_of_le h hsz))
    clear hK K
    try simp only [Act.put,la,lz,ls]
    refine tk 9 ?_;refine tk 10 ?_;refine wpAnyH_done (by kernel_rfl) ?_ _;go_wp2;go_ret;exact ⟨aN (by have h1:=HY1.out;have h2:=HY2.out;simp [Sk.jc,h1,h2]),hB.bw.trans (hb8.mono hB.bw.size)⟩
theorem zQ (S:Nat→Prop) (s:Sk.State) (e:En) (w:World) (ht:s.turn=0∨s.turn=1) (he:iW w S e):Calls Tryz.prog 120 #[kW s,wF e] w fun e_ w'=>e_= .returned (RH (Sk.iD s e.x))∧Below w.heap.size w w':=by
 go_enter Tryz.func120,Tryz.ntmps120
 go_upto_region 0 with (fail)
 go_cut [2,3,4] (fun v2 v3 v4 wx=>v2=ptr w.heap.size∧v3=ptr (w.heap.size+1)∧v4=ptr (w.heap.size+2)∧aJ w wx [(aO s,26),(dU e,83),(fG ⟨0,0,0,false⟩,78)])
 case first=>
  go_wp2;go_meet;exact ⟨rfl,rfl,rfl,((((aJ.nil w).new (by simp) (aO s) _).new (by simp) (dU e) _).new (by simp) (fG ⟨0,0,0,false⟩) _)⟩
 case rest=>
  obtain ⟨rfl,rfl,rfl,hB⟩:=hcut;have hbD:=hB.bw;have hb8:Below wc.heap.size wc wc:=Below.refl _ _;have hcn:=fun W (hb:Below wc.heap.size wc W)=>rE S s e W ht ((he.below hbD).below hb);obtain ⟨yc,x9⟩:∃ y,Sk.jc s e.x=y:=⟨_,rfl⟩
  simp only [x9] at hcn
  have Hg:=hide hcn;have Nw:=hide x9;clear hcn x9
  cases yc
  · have HM:=hide (show Sk.iD s e.x=⟨0,0,0,false⟩ by unfold Sk.iD;rw [Nw.out];simp)
    go_wp2_with (first | ((with_reducible (refine ah 26 (.tmp 2) ?lx ?_));(case lx=>rfl);refine au (hB.aA rfl) Tryz.underlying26 rfl ak rfl (.tmp 2) rfl rfl ?_) | ((with_reducible (refine ah 83 (.tmp 3) ?lx ?_));(case lx=>rfl);refine au (hB.get 1 rfl) Tryz.underlying83 rfl bF rfl (.tmp 3) rfl rfl ?_) | (go_at_call 176;refine (Hg.out _ hb8).mono ?_;rintro e1 w1 ⟨rfl,hb1⟩;have hb8:=hb8.trans (hb1.mono hb8.size);have hB:=hB.call (by simp) hb1;have hX:=hB.get 1 rfl;have x4:=hX.cell (j:=4) rfl;have xf4:=hX.frozen 4) | ((with_reducible (refine aH 78 (.tmp 4) (.tmp 14) ?lx ?_));(case lx=>rfl);refine aC (hB.get 2 rfl) (fG ⟨0,0,0,false⟩) rfl dQ (jd _) rfl (.tmp 4) (.tmp 14) rfl rfl rfl ?_))
    have hZ:=hB.put 2 rfl (fG ⟨0,0,0,false⟩) rfl;refine bodyPost_ret (aX (p:=4) (hZ.get 2 rfl) Tryz.underlying78 rfl dQ rfl _ rfl) rfl ⟨?_,hZ.bw⟩;rw [HM.out];rfl
  · by_cases h3:3≤e.x.bD
    · have h31:decide (3≤e.x.bD)=true:=decide_eq_true h3
      have HM:=hide (show Sk.iD s e.x=⟨1,0,0,true⟩ by unfold Sk.iD;rw [Nw.out];simp [h3]);clear h3
      go_wp2_with (first | ((with_reducible (refine ah 26 (.tmp 2) ?lx ?_));(case lx=>rfl);refine au (hB.aA rfl) Tryz.underlying26 rfl ak rfl (.tmp 2) rfl rfl ?_) | ((with_reducible (refine ah 83 (.tmp 3) ?lx ?_));(case lx=>rfl);refine au (hB.get 1 rfl) Tryz.underlying83 rfl bF rfl (.tmp 3) rfl rfl ?_) | (go_at_call 176;refine (Hg.out _ hb8).mono ?_;rintro e1 w1 ⟨rfl,hb1⟩;have hb8:=hb8.trans (hb1.mono hb8.size);have hB:=hB.call (by simp) hb1;have hX:=hB.get 1 rfl;have x4:=hX.cell (j:=4) rfl;have xf4:=hX.frozen 4) | ((with_reducible (refine aH 78 (.tmp 4) (.tmp 13) ?lx ?_));(case lx=>rfl);refine aC (hB.get 2 rfl) (fG ⟨1,0,0,true⟩) rfl dQ (jd _) rfl (.tmp 4) (.tmp 13) rfl rfl rfl ?_))
      have hZ:=hB.put 2 rfl (fG ⟨1,0,0,true⟩) rfl;refine bodyPost_ret (aX (p:=4) (hZ.get 2 rfl) Tryz.underlying78 rfl dQ rfl _ rfl) rfl ⟨?_,hZ.bw⟩;rw [HM.out];rfl
    · have h31:decide (3≤e.x.bD)=false:=decide_eq_false h3
      have HM:=hide (show Sk.iD s e.x=⟨0,0,0,false⟩ by unfold Sk.iD;rw [Nw.out];simp [h3]);clear h3
      go_wp2_with (first | ((with_reducible (refine ah 26 (.tmp 2) ?lx ?_));(case lx=>rfl);refine au (hB.aA rfl) Tryz.underlying26 rfl ak rfl (.tmp 2) rfl rfl ?_) | ((with_reducible (refine ah 83 (.tmp 3) ?lx ?_));(case lx=>rfl);refine au (hB.get 1 rfl) Tryz.underlying83 rfl bF rfl (.tmp 3) rfl rfl ?_) | (go_at_call 176;refine (Hg.out _ hb8).mono ?_;rintro e1 w1 ⟨rfl,hb1⟩;have hb8:=hb8.trans (hb1.mono hb8.size);have hB:=hB.call (by simp) hb1;have hX:=hB.get 1 rfl;have x4:=hX.cell (j:=4) rfl;have xf4:=hX.frozen 4) | ((with_reducible (refine aH 78 (.tmp 4) (.tmp 14) ?lx ?_));(case lx=>rfl);refine aC (hB.get 2 rfl) (fG ⟨0,0,0,false⟩) rfl dQ (jd _) rfl (.tmp 4) (.tmp 14) rfl rfl rfl ?_))
      have hZ:=hB.put 2 rfl (fG ⟨0,0,0,false⟩) rfl;refine bodyPost_ret (aX (p:=4) (hZ.get 2 rfl) Tryz.underlying78 rfl dQ rfl _ rfl) rfl ⟨?_,hZ.bw⟩;rw [HM.out];rfl
def pJ (s:Sk.State) (e:Sk.Entry):Bool:=decide (e.aV≠[]∧Sk.jc s e=false∧s.aP=5)
theorem Ju (s:Sk.State) (e:Sk.Entry) {l:List ByteArray} {k:Nat} (hk:k<l.length) (m:Int):Sk.sK s e m (l.drop k)=Sk.sK s e (m+(if l[k]=Sk.dw∨(l[k]=Sk.own s∧e.hits.headD Sk.dH=Sk.dw) then 3 else 2)) (l.drop (k+1)):=by
 rw [List.drop_eq_getElem_cons hk,Sk.sK]
theorem vJ (S:Nat→Prop) (s:Sk.State) (e:En) (w:World) (ht:s.turn=0∨s.turn=1) (he:iW w S e):Calls Tryz.prog 116 #[kW s,wF e] w fun e_ w'=>e_= .returned (RH (Sk.eP s e.x))∧Below w.heap.size w w':=by
 obtain ⟨p1,p2,p3⟩:=he.hits.bd;obtain ⟨p4,p5,p6⟩:=he.aV.bd
 go_enter Tryz.func116,Tryz.ntmps116
 go_upto_region 0 with (fail)
 go_cut [2,3,4] (fun v2 v3 v4 wx=>v2=ptr w.heap.size∧v3=ptr (w.heap.size+1)∧v4=ptr (w.heap.size+2)∧aJ w wx [(aO s,26),(dU e,83),(fG ⟨0,0,0,false⟩,78)])
 case first=>
  go_wp2;go_meet;exact ⟨rfl,rfl,rfl,((((aJ.nil w).new (by simp) (aO s) _).new (by simp) (dU e) _).new (by simp) (fG ⟨0,0,0,false⟩) _)⟩
 case rest=>
  obtain ⟨rfl,rfl,rfl,hB⟩:=hcut;have hbD:=hB.bw;have hb8:Below wc.heap.size wc wc:=Below.refl _ _;have hcn:=fun W (hb:Below wc.heap.size wc W)=>rE S s e W ht ((he.below hbD).below hb);obtain ⟨yc,x9⟩:∃ y,Sk.jc s e.x=y:=⟨_,rfl⟩
  simp only [x9] at hcn
  have Hg:=hide hcn;have Nw:=hide x9;clear hcn x9
  by_cases hn:e.x.hits=[]
  · have hn1:((e.x.hits.length:Int) == 0)=true:=by simp [hn]
    have HM:=hide (show Sk.eP s e.x=⟨0,1,2,false⟩ by unfold Sk.eP;rw [if_pos hn]);clear hn
    go_wp2_with (first | ((with_reducible (refine ah 26 (.tmp 2) ?lx ?_));(case lx=>rfl);refine au (hB.aA rfl) Tryz.underlying26 rfl ak rfl (.tmp 2) rfl rfl ?_) | ((with_reducible (refine ah 83 (.tmp 3) ?lx ?_));(case lx=>rfl);refine au (hB.get 1 rfl) Tryz.underlying83 rfl bF rfl (.tmp 3) rfl rfl ?_) | (go_at_call 176;refine (Hg.out _ hb8).mono ?_;rintro e1 w1 ⟨rfl,hb1⟩;have yS:=hb8.trans (hb1.mono hb8.size);have kC:=hB.call (by simp) hb1;have hX:=kC.get 1 rfl;have hS:=kC.aA rfl;have x2:=hX.cell (j:=2) rfl;have BJ:=hX.frozen 2;have x3:=hX.cell (j:=3) rfl;have zH:=hX.frozen 3;have s9:=hS.cell (j:=9) rfl;have Ht:=hS.frozen 9) | ((with_reducible (refine aH 78 (.tmp 4) (.tmp 17) ?lx ?_));(case lx=>rfl);refine aC (kC.get 2 rfl) (fG ⟨0,1,2,false⟩) rfl dQ (jd _) rfl (.tmp 4) (.tmp 17) rfl rfl rfl ?_))
    have hZ:=kC.put 2 rfl (fG ⟨0,1,2,false⟩) rfl;refine bodyPost_ret (aX (p:=4) (hZ.get 2 rfl) Tryz.underlying78 rfl dQ rfl _ rfl) rfl ⟨?_,hZ.bw⟩;rw [HM.out];rfl
  · have hpos:0<e.x.hits.length:=List.length_pos_iff.2 hn
    have hn1:((e.x.hits.length:Int) == 0)=false:=by simp [hn]
    have HN:=hide hn;clear hn
    go_upto_region 4 with (first | ((with_reducible (refine ah 26 (.tmp 2) ?lx ?_));(case lx=>rfl);refine au (hB.aA rfl) Tryz.underlying26 rfl ak rfl (.tmp 2) rfl rfl ?_) | ((with_reducible (refine ah 83 (.tmp 3) ?lx ?_));(case lx=>rfl);refine au (hB.get 1 rfl) Tryz.underlying83 rfl bF rfl (.tmp 3) rfl rfl ?_) | (go_at_call 176;refine (Hg.out _ hb8).mono ?_;rintro e1 w1 ⟨rfl,hb1⟩;have yS:=hb8.trans (hb1.mono hb8.size);have kC:=hB.call (by simp) hb1;have hX:=kC.get 1 rfl;have hS:=kC.aA rfl;have x2:=hX.cell (j:=2) rfl;have BJ:=hX.frozen 2;have x3:=hX.cell (j:=3) rfl;have zH:=hX.frozen 3;have s9:=hS.cell (j:=9) rfl;have Ht:=hS.frozen 9))
    go_cut [18] (fun v wx=>v= .bool (pJ s e.x)∧wx=w1)
    case first=>
     by_cases h1:0<e.x.aV.length
     · have Oj:=(show decide (0<(e.x.aV.length:Int))=true by simpa using h1)
       have YZ:=(show decide (0<e.x.aV.length)=true by simpa using h1)
       cases yc
       · by_cases h2:s.aP=5
         · have Om:=(show (s.aP == 5)=true by simp [h2])
           have asj:=(show (s.aP != 5)=false by simp [h2]);have HH:=hide (And.intro h1 (And.intro h2 trivial));clear h1 h2;go_wp2;go_meet;exact ⟨dP (by have h9:=Nw.out;obtain ⟨h1,h2,_⟩:=HH.out;have hne:=@List.length_pos_iff _ e.x.aV;simp_all [pJ]),rfl⟩
         · have Ol:=(show (s.aP == 5)=false by simp [h2])
           have asb:=(show (s.aP != 5)=true by simp [h2]);have HH:=hide (And.intro h1 (And.intro h2 trivial));clear h1 h2;go_wp2;go_meet;exact ⟨dP (by have h9:=Nw.out;obtain ⟨h1,h2,_⟩:=HH.out;have hne:=@List.length_pos_iff _ e.x.aV;simp_all [pJ]),rfl⟩
       · have HH:=hide (And.intro h1 trivial)
         clear h1;go_wp2;go_meet;exact ⟨dP (by have h9:=Nw.out;obtain ⟨h1,_⟩:=HH.out;have hne:=@List.length_pos_iff _ e.x.aV;simp_all [pJ]),rfl⟩
     · have Oi:=(show decide (0<(e.x.aV.length:Int))=false by simpa using h1)
       have YX:=(show decide (0<e.x.aV.length)=false by simpa using h1);have HH:=hide (And.intro h1 trivial);clear h1;go_wp2;go_meet;exact ⟨dP (by have h9:=Nw.out;obtain ⟨h1,_⟩:=HH.out;have hne:=@List.length_pos_iff _ e.x.aV;simp_all [pJ]),rfl⟩
    case rest=>
     obtain ⟨rfl,rfl⟩:=hcut;obtain ⟨yst,Xp⟩:∃ y,pJ s e.x=y:=⟨_,rfl⟩;have YP:=hide Xp;rw [Xp];clear Xp
     cases yst with
     | true=>
       have HM:=hide (show Sk.eP s e.x=⟨0,5,2,false⟩ by unfold Sk.eP;rw [if_neg HN.out,if_pos (by have h:=YP.out;unfold pJ at h;simpa using h)])
       go_wp2_with (first | ((with_reducible (refine aH 78 (.tmp 4) (.tmp 32) ?lx ?_));(case lx=>rfl);refine aC (kC.get 2 rfl) (fG ⟨0,5,2,false⟩) rfl dQ (jd _) rfl (.tmp 4) (.tmp 32) rfl rfl rfl ?_))
       have hZ:=kC.put 2 rfl (fG ⟨0,5,2,false⟩) rfl;refine bodyPost_ret (aX (p:=4) (hZ.get 2 rfl) Tryz.underlying78 rfl dQ rfl _ rfl) rfl ⟨?_,hZ.bw⟩;rw [HM.out];rfl
     | false=>
       go_upto_if 33 with (fail)
       go_cut [6] (fun v wx=>v= .int .i64 (if yc=true then 2 else 0)∧wx=wc)
       case first=>
        cases yc
        all_goals
         go_wp2;go_meet;exact ⟨rfl,rfl⟩
       case rest=>
        obtain ⟨rfl,rfl⟩:=hcut;have OT:=(he.aV.below hbD).below yS;obtain ⟨PB,WS⟩:∃ A,e.B=A:=⟨_,rfl⟩;rw [WS] at x3 OT;have HPB:=hide WS;clear WS;obtain ⟨b0,o0,hA0,_,TV,hcc⟩:=((he.hits.below hbD).below yS).at_ 0 hpos;have h00:=hcc 0 hpos;rw [Nat.add_zero] at h00;have hhd:=FM hpos;obtain ⟨h0,hh0⟩:∃ h,e.x.hits[0]=h:=⟨_,rfl⟩;rw [hh0] at h00 hhd;have HA0:=hide hA0;have HBL:=hide TV;have U9:=hide h00;have V9:=hide hhd;clear hA0 TV h00 hhd hh0 hcc;obtain ⟨m0,hm0⟩:∃ m:Int,(if yc=true then 2 else 0)=m:=⟨_,rfl⟩;have HM0:=hide hm0
        have hm2:0≤m0∧m0≤2:=by rw [← hm0];split <;> omega
        rw [hm0];clear hm0;go_wp2
        go_loopw [6,8,39] (fun v6 _ i wr=>∃ (k:Nat) (m:Int),k≤e.x.aV.length∧i= .int .i64 k∧v6= .int .i64 m∧Aside (Sk.fO s e.x=Sk.sK s e.x m (e.x.aV.drop k))∧0≤m∧m≤2+3*k∧aJ w wr [(aO s,26),(dU e,83),(fG ⟨0,0,0,false⟩,78)]∧Below wc.heap.size wc wr) (fun _ _ i _=>e.x.aV.length - (intOf i).toNat)
        case atStart=>exact ⟨0,m0,Nat.zero_le _,rfl,rfl,by show _=_;unfold Sk.fO;rw [Nw.out,show (if yc=true then (2:Int) else 0)=m0 from HM0.out];rfl,by omega,by omega,kC,Below.refl _ _⟩
        case round=>
         obtain ⟨k,m,hk,rfl,rfl,hx,hm0,hm1,hBr,hbr⟩:=hrel;have hXr:=hBr.get 1 rfl
         by_cases hlt:k<e.x.aV.length
         · have hst:=Ju s e.x hlt m
           obtain ⟨bp,op,rfl,_,hbp,hcp⟩:=OT.at_ k hlt;have hck:wr.cell? ⟨bp,op+k,none⟩=some (.string e.x.aV[k]):=(hbr.cell (p:=⟨bp,op+k,none⟩) hbp).trans (hcp k hlt);obtain ⟨b,hb⟩:∃ b,e.x.aV[k]=b:=⟨_,rfl⟩;rw [hb] at hck hst;have HST:=hide hst;have HX:=hide hx.out;clear hst hb hcp hx
           by_cases h3:b=Sk.dw
           · have Lh:=wt h3
             have HH:=hide (And.intro h3 trivial);clear h3
             go_wp2_with (first | ((with_reducible (refine ah 26 (.tmp 2) ?lx ?_));(case lx=>rfl);refine au (hBr.aA rfl) Tryz.underlying26 rfl ak rfl (.tmp 2) rfl rfl ?_) | ((with_reducible (refine ah 26 (.tmp 2) ?lx ?_));(case lx=>rfl);refine bg (hBr.aA rfl) Tryz.underlying26 rfl ak rfl (.tmp 2) rfl rfl ?_) | ((with_reducible (refine aI 26 (.tmp 2) ?lx ?_));(case lx=>rfl);refine bC (hBr.aA rfl) Tryz.underlying26 rfl ak (.tmp 2) rfl rfl ?_) | (go_at_call 175;refine (qW s ht _).mono ?_;rintro e1 w5 ⟨rfl,hb5⟩;have hBr:=hBr.call (by simp) hb5;have hbr:=hbr.trans (hb5.mono hbr.size);have hX:=hBr.get 1 rfl;have BJ:=hX.frozen 2;have x2:w5.cell? ⟨w.heap.size+1,2,none⟩=some (.slice (some ⟨b0,o0,none⟩) e.x.hits.length e.a):=(hX.cell (j:=2) rfl).trans (by rw [HA0.out]);have h05:w5.cell? ⟨b0,o0,none⟩=some (.string h0):=(hbr.cell (p:=⟨b0,o0,none⟩) HBL.out).trans U9.out))
             go_roundw
             case rel=>exact ⟨k+1,m+3,by omega,by go_num,by go_num,by obtain ⟨h3,_⟩:=HH.out;have hst5:=HST.out;show _=_;rw [HX.out,hst5,V9.out,if_pos (.inl h3)],by omega,by omega,hBr,hbr⟩
             case measure=>simp [intOf];omega
           · have Le:=wf h3
             by_cases h4:b=Sk.own s
             · have Ll:=lq h4
               have agM:=lq h4.symm
               by_cases h5:h0=Sk.dw
               · have TF:=wt h5
                 have HH:=hide (And.intro h3 (And.intro h4 (And.intro h5 trivial)));clear h3 h4 h5
                 go_wp2_with (first | ((with_reducible (refine ah 26 (.tmp 2) ?lx ?_));(case lx=>rfl);refine au (hBr.aA rfl) Tryz.underlying26 rfl ak rfl (.tmp 2) rfl rfl ?_) | ((with_reducible (refine ah 26 (.tmp 2) ?lx ?_));(case lx=>rfl);refine bg (hBr.aA rfl) Tryz.underlying26 rfl ak rfl (.tmp 2) rfl rfl ?_) | ((with_reducible (refine aI 26 (.tmp 2) ?lx ?_));(case lx=>rfl);refine bC (hBr.aA rfl) Tryz.underlying26 rfl ak (.tmp 2) rfl rfl ?_) | (go_at_call 175;refine (qW s ht _).mono ?_;rintro e1 w5 ⟨rfl,hb5⟩;have hBr:=hBr.call (by simp) hb5;have hbr:=hbr.trans (hb5.mono hbr.size);have hX:=hBr.get 1 rfl;have BJ:=hX.frozen 2;have x2:w5.cell? ⟨w.heap.size+1,2,none⟩=some (.slice (some ⟨b0,o0,none⟩) e.x.hits.length e.a):=(hX.cell (j:=2) rfl).trans (by rw [HA0.out]);have h05:w5.cell? ⟨b0,o0,none⟩=some (.string h0):=(hbr.cell (p:=⟨b0,o0,none⟩) HBL.out).trans U9.out))
                 go_roundw
                 case rel=>exact ⟨k+1,m+3,by omega,by go_num,by go_num,by obtain ⟨h3,h4,h5,_⟩:=HH.out;have hst5:=HST.out;show _=_;rw [HX.out,hst5,V9.out,if_pos (.inr ⟨h4,h5⟩)],by omega,by omega,hBr,hbr⟩
                 case measure=>simp [intOf];omega
               · have TD:=wf h5
                 have HH:=hide (And.intro h3 (And.intro h4 (And.intro h5 trivial)));clear h3 h4 h5
                 go_wp2_with (first | ((with_reducible (refine ah 26 (.tmp 2) ?lx ?_));(case lx=>rfl);refine au (hBr.aA rfl) Tryz.underlying26 rfl ak rfl (.tmp 2) rfl rfl ?_) | ((with_reducible (refine ah 26 (.tmp 2) ?lx ?_));(case lx=>rfl);refine bg (hBr.aA rfl) Tryz.underlying26 rfl ak rfl (.tmp 2) rfl rfl ?_) | ((with_reducible (refine aI 26 (.tmp 2) ?lx ?_));(case lx=>rfl);refine bC (hBr.aA rfl) Tryz.underlying26 rfl ak (.tmp 2) rfl rfl ?_) | (go_at_call 175;refine (qW s ht _).mono ?_;rintro e1 w5 ⟨rfl,hb5⟩;have hBr:=hBr.call (by simp) hb5;have hbr:=hbr.trans (hb5.mono hbr.size);have hX:=hBr.get 1 rfl;have BJ:=hX.frozen 2;have x2:w5.cell? ⟨w.heap.size+1,2,none⟩=some (.slice (some ⟨b0,o0,none⟩) e.x.hits.length e.a):=(hX.cell (j:=2) rfl).trans (by rw [HA0.out]);have h05:w5.cell? ⟨b0,o0,none⟩=some (.string h0):=(hbr.cell (p:=⟨b0,o0,none⟩) HBL.out).trans U9.out))
                 go_roundw
                 case rel=>exact ⟨k+1,m+2,by omega,by go_num,by go_num,by obtain ⟨h3,h4,h5,_⟩:=HH.out;have hst5:=HST.out;show _=_;rw [HX.out,hst5,V9.out,if_neg (by rintro (h | ⟨_,h⟩);exact h3 h;exact h5 h)],by omega,by omega,hBr,hbr⟩
                 case measure=>simp [intOf];omega
             · have Lj:=kZ h4
               have agF:=kZ (fun e=>h4 e.symm);have HH:=hide (And.intro h3 (And.intro h4 trivial));clear h3 h4
               go_wp2_with (first | ((with_reducible (refine ah 26 (.tmp 2) ?lx ?_));(case lx=>rfl);refine au (hBr.aA rfl) Tryz.underlying26 rfl ak rfl (.tmp 2) rfl rfl ?_) | ((with_reducible (refine ah 26 (.tmp 2) ?lx ?_));(case lx=>rfl);refine bg (hBr.aA rfl) Tryz.underlying26 rfl ak rfl (.tmp 2) rfl rfl ?_) | ((with_reducible (refine aI 26 (.tmp 2) ?lx ?_));(case lx=>rfl);refine bC (hBr.aA rfl) Tryz.underlying26 rfl ak (.tmp 2) rfl rfl ?_) | (go_at_call 175;refine (qW s ht _).mono ?_;rintro e1 w5 ⟨rfl,hb5⟩;have hBr:=hBr.call (by simp) hb5;have hbr:=hbr.trans (hb5.mono hbr.size);have hX:=hBr.get 1 rfl;have BJ:=hX.frozen 2;have x2:w5.cell? ⟨w.heap.size+1,2,none⟩=some (.slice (some ⟨b0,o0,none⟩) e.x.hits.length e.a):=(hX.cell (j:=2) rfl).trans (by rw [HA0.out]);have h05:w5.cell? ⟨b0,o0,none⟩=some (.string h0):=(hbr.cell (p:=⟨b0,o0,none⟩) HBL.out).trans U9.out))
               go_roundw
               case rel=>exact ⟨k+1,m+2,by omega,by go_num,by go_num,by obtain ⟨h3,h4,_⟩:=HH.out;have hst5:=HST.out;show _=_;rw [HX.out,hst5,V9.out,if_neg (by rintro (h | ⟨h,_⟩);exact h3 h;exact h4 h)],by omega,by omega,hBr,hbr⟩
               case measure=>simp [intOf];omega
         · have hz:=hx.out
           rw [List.drop_of_length_le (by omega),Sk.sK] at hz;have HZ:=hide hz;have HM:=hide (show Sk.eP s e.x=⟨m,0,0,decide (0<m)⟩ by unfold Sk.eP;rw [if_neg HN.out,if_neg (by have h:=YP.out;unfold pJ at h;simpa using h),hz]);clear hz hx
           go_wp2_with (first | ((with_reducible (refine aH 78 (.tmp 4) (.tmp 66) ?lx ?_));(case lx=>rfl);refine aC (hBr.get 2 rfl) (fG ⟨m,0,0,decide (0<m)⟩) rfl dQ (jd _) rfl (.tmp 4) (.tmp 66) rfl rfl rfl ?_))
           all_goals
            have hZ:=hBr.put 2 rfl (fG ⟨m,0,0,decide (0<m)⟩) rfl;refine bodyPost_ret (aX (p:=4) (hZ.get 2 rfl) Tryz.underlying78 rfl dQ rfl _ rfl) rfl ⟨?_,hZ.bw⟩;rw [HM.out];rfl
theorem L6 (s:Sk.State) (e:Sk.Entry) {l:List ByteArray} {k:Nat} (hk:k<l.length) (m:Int):Sk.most s e m (l.drop k)=Sk.most s e (if Sk.wanted s e l[k] then m else max m (Sk.value l[k])) (l.drop (k+1)):=by
 rw [List.drop_eq_getElem_cons hk,Sk.most]
theorem CS (l:List ByteArray) (x:ByteArray):0≤Sk.count l x∧Sk.count l x≤l.length:=by
 have h:=CU l x l.length
 rwa [List.take_length] at h
theorem Ob {s:Sk.State} {e:Sk.Entry} (h:Sk.dY s e=2):e.hits≠[]:=by
 intro h0
 unfold Sk.dY at h
 rw [if_pos h0] at h
 cases h
theorem yH (S:Nat→Prop) (s:Sk.State) (e:En) (w:World) (hc:0≤s.colour∧s.colour≤7) (he:iW w S e):Calls Tryz.prog 111 #[kW s,wF e] w fun e_ w'=>e_= .returned (RH (Sk.fD s e.x))∧Below w.heap.size w w':=by
 obtain ⟨p1,p2,p3⟩:=he.hits.bd;obtain ⟨p4,p5,p6⟩:=he.aV.bd
 go_enter Tryz.func111,Tryz.ntmps111
 go_upto_region 0 with (fail)
 go_cut [2,3,4] (fun v2 v3 v4 wx=>v2=ptr w.heap.size∧v3=ptr (w.heap.size+1)∧v4=ptr (w.heap.size+2)∧aJ w wx [(aO s,26),(dU e,83),(fG ⟨0,0,0,false⟩,78)])
 case first=>
  go_wp2;go_meet;exact ⟨rfl,rfl,rfl,((((aJ.nil w).new (by simp) (aO s) _).new (by simp) (dU e) _).new (by simp) (fG ⟨0,0,0,false⟩) _)⟩
 case rest=>
  obtain ⟨rfl,rfl,rfl,hB⟩:=hcut;have hfo:=fun W (hb:Below w.heap.size w W)=>JJ S s e W hc (he.below hb);obtain ⟨f,hf⟩:∃ y,Sk.dY s e.x=y:=⟨_,rfl⟩
  simp only [hf] at hfo
  have Hl:=hide hfo;have HF:=hide hf;clear hfo
  by_cases hpf:0<f
  · have OQ:decide (0<f)=true:=decide_eq_true hpf
    have HPF:=hide hpf;clear hpf
    go_upto_region 3 with (first | ((with_reducible (refine ah 26 (.tmp 2) ?lx ?_));(case lx=>rfl);refine au (hB.aA rfl) Tryz.underlying26 rfl ak rfl (.tmp 2) rfl rfl ?_) | ((with_reducible (refine ah 83 (.tmp 3) ?lx ?_));(case lx=>rfl);refine au (hB.get 1 rfl) Tryz.underlying83 rfl bF rfl (.tmp 3) rfl rfl ?_) | (go_at_call 170;refine (Hl.out _ hB.bw).mono ?_;rintro e1 w1 ⟨rfl,hb1⟩;have hB:=hB.call (by simp) hb1))
    go_cut [6] (fun v wx=>v= .int .i64 (max 4 (Sk.worth s e.x))∧aJ w wx [(aO s,26),(dU e,83),(fG ⟨0,0,0,false⟩,78)])
    case first=>
     go_wp2_with (first | ((with_reducible (refine ah 26 (.tmp 2) ?lx ?_));(case lx=>rfl);refine au (hB.aA rfl) Tryz.underlying26 rfl ak rfl (.tmp 2) rfl rfl ?_) | ((with_reducible (refine ah 83 (.tmp 3) ?lx ?_));(case lx=>rfl);refine au (hB.get 1 rfl) Tryz.underlying83 rfl bF rfl (.tmp 3) rfl rfl ?_) | (go_at_call 171;refine (yK s e _).mono ?_;rintro e1 w1 ⟨rfl,hb1⟩;have hB:=hB.call (by simp) hb1))
     all_goals
      go_meet;exact ⟨congrArg (Value.int .i64) (by omega),hB⟩
    case rest=>
     obtain ⟨rfl,hB1⟩:=hcut;obtain ⟨m0,hm0⟩:∃ m,(if f=2 then max (max 4 (Sk.worth s e.x)) (Sk.value (e.x.hits.headD Sk.dH)) else max 4 (Sk.worth s e.x))=m:=⟨_,rfl⟩;obtain ⟨mw,hmw⟩:∃ m,max 4 (Sk.worth s e.x)=m:=⟨_,rfl⟩;rw [hmw] at hm0 ⊢;have HMW:=hide hmw;have hB:=hB1;clear hmw hB1
     rcases Bool.eq_false_or_eq_true (f == 2) with h2 | h2
     all_goals
      go_upto_if 21 with (fail)
      go_cut [6] (fun v wx=>v= .int .i64 m0∧aJ w wx [(aO s,26),(dU e,83),(fG ⟨0,0,0,false⟩,78)])
      case rest=>
       obtain ⟨rfl,hB1⟩:=hcut;have HM0:=hide hm0;have hB:=hB1;clear hB1 hm0 h2;have hX:=hB.get 1 rfl;have x3:=hX.cell (j:=3) rfl;have zH:=hX.frozen 3;have OT:=he.aV;obtain ⟨PB,WS⟩:∃ A,e.B=A:=⟨_,rfl⟩;rw [WS] at x3 OT;have HPB:=hide WS;clear WS;go_wp2
       go_loopw [6,8,32] (fun v6 _ i wr=>∃ (k:Nat) (m:Int),k≤e.x.aV.length∧i= .int .i64 k∧v6= .int .i64 m∧Aside (Sk.most s e.x m0 e.x.aV=Sk.most s e.x m (e.x.aV.drop k))∧aJ w wr [(aO s,26),(dU e,83),(fG ⟨0,0,0,false⟩,78)]) (fun _ _ i _=>e.x.aV.length - (intOf i).toNat)
       case atStart=>exact ⟨0,m0,Nat.zero_le _,rfl,rfl,(show _=_ from rfl),hB⟩
       case round=>
        obtain ⟨k,m,hk,rfl,rfl,hx,hBr⟩:=hrel
        by_cases hlt:k<e.x.aV.length
        · have hst:=L6 s e.x hlt m
          obtain ⟨bp,op,rfl,_,hbp,hcp⟩:=OT.at_ k hlt;have hck:wr.cell? ⟨bp,op+k,none⟩=some (.string e.x.aV[k]):=(hBr.bw.cell (p:=⟨bp,op+k,none⟩) hbp).trans (hcp k hlt);obtain ⟨b,hb⟩:∃ b,e.x.aV[k]=b:=⟨_,rfl⟩;rw [hb] at hck hst;have hwa:=fun W=>BI s e b hc W;obtain ⟨yw,Ul⟩:∃ y,Sk.wanted s e.x b=y:=⟨_,rfl⟩
          simp only [Ul] at hwa
          rw [Ul] at hst;have HWA:=hide hwa;have HX:=hide hx.out;clear hb hcp hx hwa Ul
          cases yw with
          | true=>
            have HST:=hide hst;clear hst
            go_wp2_with (first | ((with_reducible (refine ah 26 (.tmp 2) ?lx ?_));(case lx=>rfl);refine au (hBr.aA rfl) Tryz.underlying26 rfl ak rfl (.tmp 2) rfl rfl ?_) | ((with_reducible (refine ah 83 (.tmp 3) ?lx ?_));(case lx=>rfl);refine au (hBr.get 1 rfl) Tryz.underlying83 rfl bF rfl (.tmp 3) rfl rfl ?_) | (go_at_call 172;refine (HWA.out _).mono ?_;rintro e1 w5 ⟨rfl,hb5⟩;have hBr:=hBr.call (by simp) hb5))
            go_roundw
            case rel=>exact ⟨k+1,m,by omega,by go_num,rfl,(show _=_ from by rw [HX.out,HST.out];rfl),hBr⟩
            case measure=>simp [intOf];omega
          | false=>
            have HST:=hide hst;clear hst
            go_wp2_with (first | ((with_reducible (refine ah 26 (.tmp 2) ?lx ?_));(case lx=>rfl);refine au (hBr.aA rfl) Tryz.underlying26 rfl ak rfl (.tmp 2) rfl rfl ?_) | ((with_reducible (refine ah 83 (.tmp 3) ?lx ?_));(case lx=>rfl);refine au (hBr.get 1 rfl) Tryz.underlying83 rfl bF rfl (.tmp 3) rfl rfl ?_) | (go_at_call 172;refine (HWA.out _).mono ?_;rintro e1 w5 ⟨rfl,hb5⟩;have hBr:=hBr.call (by simp) hb5) | (go_at_call 90;refine (dX _ _).mono ?_;rintro e1 w6 ⟨rfl,hb6⟩;have hBr:=hBr.call (by simp) hb6))
            all_goals
             go_roundw
             case rel=>exact ⟨k+1,_,by omega,by go_num,rfl,(show _=_ from by rw [HX.out,HST.out];exact congrArg (fun z=>Sk.most s e.x z _) (by rw [if_neg (by decide)];omega)),hBr⟩
             case measure=>simp [intOf];omega
        · have hz:=hx.out
          rw [List.drop_of_length_le (by omega),Sk.most] at hz;have HM:=hide (show Sk.fD s e.x=⟨0,f,m,false⟩ by unfold Sk.fD;rw [HF.out,if_pos HPF.out,HMW.out,HM0.out,hz]);clear hz hx
          go_wp2_with (first | ((with_reducible (refine aH 78 (.tmp 4) (.tmp 48) ?lx ?_));(case lx=>rfl);refine aC (hBr.get 2 rfl) (fG ⟨0,f,m,false⟩) rfl dQ (jd _) rfl (.tmp 4) (.tmp 48) rfl rfl rfl ?_))
          have hZ:=hBr.put 2 rfl (fG ⟨0,f,m,false⟩) rfl;refine bodyPost_ret (aX (p:=4) (hZ.get 2 rfl) Tryz.underlying78 rfl dQ rfl _ rfl) rfl ⟨?_,hZ.bw⟩;rw [HM.out];rfl
     · case first=>
        have h22:f=2:=by simpa using h2
        have hne:e.x.hits≠[]:=Ob (HF.out.trans h22);have hpos:0<e.x.hits.length:=List.length_pos_iff.2 hne;obtain ⟨b0,o0,hA0,_,TV,hcc⟩:=he.hits.at_ 0 hpos;have Zt:=hcc 0 hpos;rw [Nat.add_zero] at Zt;have h00:=(hB.bw.cell (p:=⟨b0,o0,none⟩) TV).trans Zt;have hhd:=FM hpos;obtain ⟨h0,hh0⟩:∃ h,e.x.hits[0]=h:=⟨_,rfl⟩;rw [hh0] at h00 hhd;rw [hhd,if_pos h22] at hm0;have hX:=hB.get 1 rfl;have x2:wc.cell? ⟨w.heap.size+1,2,none⟩=some (.slice (some ⟨b0,o0,none⟩) e.x.hits.length e.a):=(hX.cell (j:=2) rfl).trans (by rw [hA0]);have BJ:=hX.frozen 2;have HM:=hide hm0;clear hm0 hA0 hcc hhd hh0 hne h22 h2
        go_wp2_with (first | (go_at_call 90;refine (dX _ _).mono ?_;rintro e1 w5 ⟨rfl,hb5⟩;have hB:=hB.call (by simp) hb5))
        all_goals
         go_meet;exact ⟨congrArg (Value.int .i64) (by have:=HM.out;omega),hB⟩
     · case first=>
        have h22:¬ f=2:=by simpa using h2
        rw [if_neg h22] at hm0;have HM:=hide hm0;clear hm0 h22;go_wp2;go_meet;exact ⟨congrArg (Value.int .i64) HM.out,hB⟩
  · have OQ:decide (0<f)=false:=decide_eq_false hpf
    have HJ:=hide (show Sk.fD s e.x=⟨Sk.dL s e.x,0,0,decide (0<Sk.dL s e.x)⟩ by unfold Sk.fD;rw [HF.out,if_neg hpf]);clear hpf
    go_upto_region 14 with (first | ((with_reducible (refine ah 26 (.tmp 2) ?lx ?_));(case lx=>rfl);refine au (hB.aA rfl) Tryz.underlying26 rfl ak rfl (.tmp 2) rfl rfl ?_) | ((with_reducible (refine ah 83 (.tmp 3) ?lx ?_));(case lx=>rfl);refine au (hB.get 1 rfl) Tryz.underlying83 rfl bF rfl (.tmp 3) rfl rfl ?_) | (go_at_call 170;refine (Hl.out _ hB.bw).mono ?_;rintro e1 w1 ⟨rfl,hb1⟩;have hB:=hB.call (by simp) hb1))
    go_cut [10] (fun v wx=>v= .bool (Sk.called e.x)∧aJ w wx [(aO s,26),(dU e,83),(fG ⟨0,0,0,false⟩,78)])
    case first=>
     have hhc:=fun W (hb:Below w.heap.size w W)=>gV S e.B e.b e.x.aV e.x.called W (he.aV.below hb);obtain ⟨yc,x9⟩:∃ y,Sk.has e.x.aV e.x.called=y:=⟨_,rfl⟩
     simp only [x9] at hhc
     have HHC:=hide hhc;have Nw:=hide x9;clear hhc x9;have hX:=hB.get 1 rfl;have x1:=hX.cell (j:=1) rfl;have xf1:=hX.frozen 1;have x3:=hX.cell (j:=3) rfl;have zH:=hX.frozen 3
     by_cases hcl:e.x.called=Sk.dH
     · have hc1:=wt hcl
       have hc2:=wtE hcl;have HH:=hide hcl;clear hcl;go_wp2;go_meet;exact ⟨dP (by unfold Sk.called;simp [HH.out]),hB⟩
     · have hc1:=wf hcl
       have hc2:=wfE hcl;have HH:=hide hcl;clear hcl
       go_wp2_with (first | (go_at_call 68;refine (HHC.out _ hB.bw).mono ?_;rintro e1 w9 ⟨rfl,rfl⟩))
       go_meet;exact ⟨dP (by unfold Sk.called;rw [Nw.out];simp [HH.out]),hB⟩
    case rest=>
     obtain ⟨rfl,hB1⟩:=hcut;have hB:=hB1;clear hB1;obtain ⟨yk,hyk⟩:∃ y,Sk.called e.x=y:=⟨_,rfl⟩;have Yv:=hide hyk;rw [hyk];clear hyk;have hS:=hB.aA rfl;have hX:=hB.get 1 rfl;have x3:=hX.cell (j:=3) rfl;have zH:=hX.frozen 3;have s4:=hS.cell (j:=4) rfl;have sf4:=hS.frozen 4;have hcb:=CS e.x.aV Sk.dw
     by_cases xJ:s.phase=Sk.iI
     · have hp1:=wt xJ
       cases yk
       · have HM:=hide (show Sk.fD s e.x=⟨Sk.count e.x.aV Sk.dw,0,0,decide (0<Sk.count e.x.aV Sk.dw)⟩ by rw [HJ.out,show Sk.dL s e.x=Sk.count e.x.aV Sk.dw by unfold Sk.dL;rw [if_pos xJ,Yv.out];simp])
         clear xJ
         go_wp2_with (first | ((with_reducible (refine ah 26 (.tmp 2) ?lx ?_));(case lx=>rfl);refine au (hB.aA rfl) Tryz.underlying26 rfl ak rfl (.tmp 2) rfl rfl ?_) | ((with_reducible (refine ah 83 (.tmp 3) ?lx ?_));(case lx=>rfl);refine au (hB.get 1 rfl) Tryz.underlying83 rfl bF rfl (.tmp 3) rfl rfl ?_) | (go_at_call 168;refine (iK S e.B e.b e.x.aV Sk.dw _ (he.aV.below hB.bw)).mono ?_;rintro e1 w9 ⟨rfl,rfl⟩) | ((with_reducible (refine aH 78 (.tmp 4) (.tmp 91) ?lx ?_));(case lx=>rfl);refine aC (hB.get 2 rfl) (fG ⟨Sk.count e.x.aV Sk.dw,0,0,decide (0<Sk.count e.x.aV Sk.dw)⟩) rfl dQ (jd _) rfl (.tmp 4) (.tmp 91) rfl rfl rfl ?_))
         have hZ:=hB.put 2 rfl (fG ⟨Sk.count e.x.aV Sk.dw,0,0,decide (0<Sk.count e.x.aV Sk.dw)⟩) rfl;refine bodyPost_ret (aX (p:=4) (hZ.get 2 rfl) Tryz.underlying78 rfl dQ rfl _ rfl) rfl ⟨?_,hZ.bw⟩;rw [HM.out];rfl
       · have HM:=hide (show Sk.fD s e.x=⟨(Sk.count e.x.aV Sk.dw+1),0,0,decide (0<(Sk.count e.x.aV Sk.dw+1))⟩ by rw [HJ.out,show Sk.dL s e.x=(Sk.count e.x.aV Sk.dw+1) by unfold Sk.dL;rw [if_pos xJ,Yv.out];simp])
         clear xJ
         go_wp2_with (first | ((with_reducible (refine ah 26 (.tmp 2) ?lx ?_));(case lx=>rfl);refine au (hB.aA rfl) Tryz.underlying26 rfl ak rfl (.tmp 2) rfl rfl ?_) | ((with_reducible (refine ah 83 (.tmp 3) ?lx ?_));(case lx=>rfl);refine au (hB.get 1 rfl) Tryz.underlying83 rfl bF rfl (.tmp 3) rfl rfl ?_) | (go_at_call 168;refine (iK S e.B e.b e.x.aV Sk.dw _ (he.aV.below hB.bw)).mono ?_;rintro e1 w9 ⟨rfl,rfl⟩) | ((with_reducible (refine aH 78 (.tmp 4) (.tmp 91) ?lx ?_));(case lx=>rfl);refine aC (hB.get 2 rfl) (fG ⟨(Sk.count e.x.aV Sk.dw+1),0,0,decide (0<(Sk.count e.x.aV Sk.dw+1))⟩) rfl dQ (jd _) rfl (.tmp 4) (.tmp 91) rfl rfl rfl ?_))
         have hZ:=hB.put 2 rfl (fG ⟨(Sk.count e.x.aV Sk.dw+1),0,0,decide (0<(Sk.count e.x.aV Sk.dw+1))⟩) rfl;refine bodyPost_ret (aX (p:=4) (hZ.get 2 rfl) Tryz.underlying78 rfl dQ rfl _ rfl) rfl ⟨?_,hZ.bw⟩;rw [HM.out];rfl
     · have hp1:=wf xJ
       have hsz:=hB.size (by simp)
       simp only [List.length_cons,List.length_nil] at hsz
       cases yk
       · have hho:=fun W (hb:Below w.heap.size w W)=>gV S e.B e.b e.x.aV ((Sk.on s)[0]'(kT s)) W (he.aV.below hb)
         have hhd:=KE s;obtain ⟨yh,VE⟩:∃ y,Sk.has e.x.aV ((Sk.on s)[0]'(kT s))=y:=⟨_,rfl⟩
         simp only [VE] at hho
         rw [← hhd] at VE;have HHO:=hide hho;have Wj:=hide VE
         have xK:∀ W:World,(fun w':World=>∀ p q,p<w.heap.size+3→w'.cell? ⟨p,q,none⟩=wc.cell? ⟨p,q,none⟩) W→W.rangeAt w.heap.size 0 (aO s):=fun W h j v hj=>by rw [h _ _ (by omega)];exact (hB.aA rfl).range j v hj
         clear hho VE hhd
         cases yh
         · have HM:=hide (show Sk.fD s e.x=⟨0,0,0,false⟩ by rw [HJ.out,show Sk.dL s e.x=0 by unfold Sk.dL;rw [if_neg xJ,Yv.out,Wj.out];simp];rfl)
           clear xJ
           go_upto_region 19 with (fail)
           refine wp_region_held_drew (S:=(fun w':World=>∀ p q,p<w.heap.size+3→w'.cell? ⟨p,q,none⟩=wc.cell? ⟨p,q,none⟩)) (by kernel_rfl) ?dS (fun hHeld=>?_)
           case dS=>exact fun p q h=>rfl
           refine aF 0 ?_;refine aF 1 ?_;refine aF 2 ?_;refine aF 3 ?_;refine bJ 4 xK Tryz.underlying26 ?_;refine aG 5 fun K hK=>?_;go_simp
           (go_at_call 93;refine (kX s hc _).mono ?_;rintro e1 w1 ⟨A1,c1,rfl,hr1,hb1⟩;have hB:=hB.drew.call (by simp) hb1;obtain ⟨b1,o1,rfl,_,_,hc1⟩:=hr1.at_ 0 (kT s);have hon:=hc1 0 (kT s);have Xi:=kT s;rw [Nat.add_zero] at hon;have hb8:Below wc.heap.size wc w1:=⟨hb1.os,hb1.tape,hb1.output,hb1.size,hb1.block⟩)
           refine ay hK (fun p q h=>hb8.cell (p:=⟨p,q,none⟩) (Nat.lt_of_lt_of_le h hsz)) fun hHeld=>?_;clear hK K;refine aF 6 ?_;refine aG 7 fun K hK=>?_;go_simp;refine ay hK (by first | exact fun p q h=>hb8.cell (p:=⟨p,q,none⟩) (Nat.lt_of_lt_of_le h hsz) | exact fun p q h=>rfl) fun hHeld=>?_;clear hK K;refine aG 8 fun K hK=>?_;go_simp
           (go_at_call 68;refine (HHO.out _ hB.bw).mono ?_;rintro e1 w9 ⟨rfl,rfl⟩)
           refine ay hK (fun p q h=>hb8.cell (p:=⟨p,q,none⟩) (Nat.lt_of_lt_of_le h hsz)) fun hHeld=>?_;clear hK K;refine aF 9 ?_;refine iC 10 ?_;refine iC 11 ?_;refine iC 12 ?_;refine aF 13 ?_;refine aF 14 ?_;refine aF 15 ?_;refine wpAnyH_done (by kernel_rfl) ?_ _
           go_wp2_with (first | ((with_reducible (refine aH 78 (.tmp 4) (.tmp 91) ?lx ?_));(case lx=>rfl);refine aC (hB.get 2 rfl) (fG ⟨0,0,0,false⟩) rfl dQ (jd _) rfl (.tmp 4) (.tmp 91) rfl rfl rfl ?_))
           have hZ:=hB.put 2 rfl (fG ⟨0,0,0,false⟩) rfl;refine bodyPost_ret (aX (p:=4) (hZ.get 2 rfl) Tryz.underlying78 rfl dQ rfl _ rfl) rfl ⟨?_,hZ.bw⟩;rw [HM.out];rfl
         · by_cases hfi:s.phase=Sk.dG
           · have ajk:=wt hfi
             have HM:=hide (show Sk.fD s e.x=⟨(Sk.worth s e.x),0,0,decide (0<(Sk.worth s e.x))⟩ by rw [HJ.out,show Sk.dL s e.x=(Sk.worth s e.x) by unfold Sk.dL;rw [if_neg xJ,Yv.out,Wj.out,if_pos (.inr ⟨rfl,hfi⟩)]]);clear xJ hfi
             go_upto_region 19 with (fail)
             refine wp_region_held_drew (S:=(fun w':World=>∀ p q,p<w.heap.size+3→w'.cell? ⟨p,q,none⟩=wc.cell? ⟨p,q,none⟩)) (by kernel_rfl) ?iJ (fun hHeld=>?_)
             case iJ=>exact fun p q h=>rfl
             refine aF 0 ?_;refine aF 1 ?_;refine aF 2 ?_;refine aF 3 ?_;refine bJ 4 xK Tryz.underlying26 ?_;refine aG 5 fun K hK=>?_;go_simp
             (go_at_call 93;refine (kX s hc _).mono ?_;rintro e1 w1 ⟨A1,c1,rfl,hr1,hb1⟩;have hB:=hB.drew.call (by simp) hb1;obtain ⟨b1,o1,rfl,_,_,hc1⟩:=hr1.at_ 0 (kT s);have hon:=hc1 0 (kT s);have Xi:=kT s;rw [Nat.add_zero] at hon;have hb8:Below wc.heap.size wc w1:=⟨hb1.os,hb1.tape,hb1.output,hb1.size,hb1.block⟩)
             refine ay hK (fun p q h=>hb8.cell (p:=⟨p,q,none⟩) (Nat.lt_of_lt_of_le h hsz)) fun hHeld=>?_;clear hK K;refine aF 6 ?_;refine aG 7 fun K hK=>?_;go_simp;refine ay hK (by first | exact fun p q h=>hb8.cell (p:=⟨p,q,none⟩) (Nat.lt_of_lt_of_le h hsz) | exact fun p q h=>rfl) fun hHeld=>?_;clear hK K;refine aG 8 fun K hK=>?_;go_simp
             (go_at_call 68;refine (HHO.out _ hB.bw).mono ?_;rintro e1 w9 ⟨rfl,rfl⟩)
             refine ay hK (fun p q h=>hb8.cell (p:=⟨p,q,none⟩) (Nat.lt_of_lt_of_le h hsz)) fun hHeld=>?_;clear hK K;refine aF 9 ?_;refine aF 10 ?_;refine aF 11 ?_;refine aF 12 ?_;refine aF 13 ?_;refine aF 14 ?_;refine aF 15 ?_;refine wpAnyH_done (by kernel_rfl) ?_ _
             go_wp2_with (first | ((with_reducible (refine ah 26 (.tmp 2) ?lx ?_));(case lx=>rfl);refine au (hB.aA rfl) Tryz.underlying26 rfl ak rfl (.tmp 2) rfl rfl ?_) | ((with_reducible (refine ah 83 (.tmp 3) ?lx ?_));(case lx=>rfl);refine au (hB.get 1 rfl) Tryz.underlying83 rfl bF rfl (.tmp 3) rfl rfl ?_) | (go_at_call 171;refine (yK s e _).mono ?_;rintro e1 w5 ⟨rfl,hb5⟩;have hB:=hB.call (by simp) hb5) | ((with_reducible (refine aH 78 (.tmp 4) (.tmp 91) ?lx ?_));(case lx=>rfl);refine aC (hB.get 2 rfl) (fG ⟨(Sk.worth s e.x),0,0,decide (0<(Sk.worth s e.x))⟩) rfl dQ (jd _) rfl (.tmp 4) (.tmp 91) rfl rfl rfl ?_))
             have hZ:=hB.put 2 rfl (fG ⟨(Sk.worth s e.x),0,0,decide (0<(Sk.worth s e.x))⟩) rfl;refine bodyPost_ret (aX (p:=4) (hZ.get 2 rfl) Tryz.underlying78 rfl dQ rfl _ rfl) rfl ⟨?_,hZ.bw⟩;rw [HM.out];rfl
           · have ajk:=wf hfi
             have HM:=hide (show Sk.fD s e.x=⟨0,0,0,false⟩ by rw [HJ.out,show Sk.dL s e.x=0 by unfold Sk.dL;rw [if_neg xJ,Yv.out,Wj.out,if_neg (by rintro (h | ⟨_,h⟩);cases h;exact hfi h)]];rfl);clear xJ hfi
             go_upto_region 19 with (fail)
             refine wp_region_held_drew (S:=(fun w':World=>∀ p q,p<w.heap.size+3→w'.cell? ⟨p,q,none⟩=wc.cell? ⟨p,q,none⟩)) (by kernel_rfl) ?mJ (fun hHeld=>?_)
             case mJ=>exact fun p q h=>rfl
             refine aF 0 ?_;refine aF 1 ?_;refine aF 2 ?_;refine aF 3 ?_;refine bJ 4 xK Tryz.underlying26 ?_;refine aG 5 fun K hK=>?_;go_simp
             (go_at_call 93;refine (kX s hc _).mono ?_;rintro e1 w1 ⟨A1,c1,rfl,hr1,hb1⟩;have hB:=hB.drew.call (by simp) hb1;obtain ⟨b1,o1,rfl,_,_,hc1⟩:=hr1.at_ 0 (kT s);have hon:=hc1 0 (kT s);have Xi:=kT s;rw [Nat.add_zero] at hon;have hb8:Below wc.heap.size wc w1:=⟨hb1.os,hb1.tape,hb1.output,hb1.size,hb1.block⟩)
             refine ay hK (fun p q h=>hb8.cell (p:=⟨p,q,none⟩) (Nat.lt_of_lt_of_le h hsz)) fun hHeld=>?_;clear hK K;refine aF 6 ?_;refine aG 7 fun K hK=>?_;go_simp;refine ay hK (by first | exact fun p q h=>hb8.cell (p:=⟨p,q,none⟩) (Nat.lt_of_lt_of_le h hsz) | exact fun p q h=>rfl) fun hHeld=>?_;clear hK K;refine aG 8 fun K hK=>?_;go_simp
             (go_at_call 68;refine (HHO.out _ hB.bw).mono ?_;rintro e1 w9 ⟨rfl,rfl⟩)
             refine ay hK (fun p q h=>hb8.cell (p:=⟨p,q,none⟩) (Nat.lt_of_lt_of_le h hsz)) fun hHeld=>?_;clear hK K;refine aF 9 ?_;refine aF 10 ?_;refine aF 11 ?_;refine aF 12 ?_;refine aF 13 ?_;refine aF 14 ?_;refine aF 15 ?_;refine wpAnyH_done (by kernel_rfl) ?_ _
             go_wp2_with (first | ((with_reducible (refine aH 78 (.tmp 4) (.tmp 91) ?lx ?_));(case lx=>rfl);refine aC (hB.get 2 rfl) (fG ⟨0,0,0,false⟩) rfl dQ (jd _) rfl (.tmp 4) (.tmp 91) rfl rfl rfl ?_))
             have hZ:=hB.put 2 rfl (fG ⟨0,0,0,false⟩) rfl;refine bodyPost_ret (aX (p:=4) (hZ.get 2 rfl) Tryz.underlying78 rfl dQ rfl _ rfl) rfl ⟨?_,hZ.bw⟩;rw [HM.out];rfl
       · have xK:∀ W:World,(fun w':World=>∀ p q,p<w.heap.size+3→w'.cell? ⟨p,q,none⟩=wc.cell? ⟨p,q,none⟩) W→W.rangeAt w.heap.size 0 (aO s):=fun W h j v hj=>by rw [h _ _ (by omega)];exact (hB.aA rfl).range j v hj
         have HM:=hide (show Sk.fD s e.x=⟨(Sk.worth s e.x),0,0,decide (0<(Sk.worth s e.x))⟩ by rw [HJ.out,show Sk.dL s e.x=(Sk.worth s e.x) by unfold Sk.dL;rw [if_neg xJ,Yv.out,if_pos (.inl rfl)]]);clear xJ
         go_upto_region 19 with (fail)
         refine wp_region_held_drew (S:=(fun w':World=>∀ p q,p<w.heap.size+3→w'.cell? ⟨p,q,none⟩=wc.cell? ⟨p,q,none⟩)) (by kernel_rfl) ?mM (fun hHeld=>?_)
         case mM=>exact fun p q h=>rfl
         refine aF 0 ?_;refine aF 1 ?_;refine iC 2 ?_;refine iC 3 ?_;refine iC 4 ?_;refine iC 5 ?_;refine iC 6 ?_;refine aG 7 fun K hK=>?_;go_simp;refine ay hK (by first | exact fun p q h=>hb8.cell (p:=⟨p,q,none⟩) (Nat.lt_of_lt_of_le h hsz) | exact fun p q h=>rfl) fun hHeld=>?_;clear hK K;refine iC 8 ?_;refine iC 9 ?_;refine iC 10 ?_;refine iC 11 ?_;refine iC 12 ?_;refine iC 13 ?_;refine aF 14 ?_;refine aF 15 ?_;refine wpAnyH_done (by kernel_rfl) ?_ _;have hB:=hB.drew
         go_wp2_with (first | ((with_reducible (refine ah 26 (.tmp 2) ?lx ?_));(case lx=>rfl);refine au (hB.aA rfl) Tryz.underlying26 rfl ak rfl (.tmp 2) rfl rfl ?_) | ((with_reducible (refine ah 83 (.tmp 3) ?lx ?_));(case lx=>rfl);refine au (hB.get 1 rfl) Tryz.underlying83 rfl bF rfl (.tmp 3) rfl rfl ?_) | (go_at_call 171;refine (yK s e _).mono ?_;rintro e1 w5 ⟨rfl,hb5⟩;have hB:=hB.call (by simp) hb5) | ((with_reducible (refine aH 78 (.tmp 4) (.tmp 91) ?lx ?_));(case lx=>rfl);refine aC (hB.get 2 rfl) (fG ⟨(Sk.worth s e.x),0,0,decide (0<(Sk.worth s e.x))⟩) rfl dQ (jd _) rfl (.tmp 4) (.tmp 91) rfl rfl rfl ?_))
         have hZ:=hB.put 2 rfl (fG ⟨(Sk.worth s e.x),0,0,decide (0<(Sk.worth s e.x))⟩) rfl;refine bodyPost_ret (aX (p:=4) (hZ.get 2 rfl) Tryz.underlying78 rfl dQ rfl _ rfl) rfl ⟨?_,hZ.bw⟩;rw [HM.out];rfl
def sS (s:Sk.State) (k:Int):Sk.State:=⟨s.turn,s.s0,s.s1,s.brk,s.phase,s.bI,s.colour,s.free,s.aT,k,s.t0,s.t1,s.aB⟩
def zD (s:Sk.State) (k wi:Int):Sk.State:=⟨s.turn,s.s0,s.s1,s.brk,s.phase,s.bI,s.colour,s.free,s.aT,k,s.t0,s.t1,wi⟩
def xP (s:Sk.State) (e:Sk.Entry) (v:Sk.fF):Int:=if v.stays∧Sk.jc {Sk.zero with turn:=if v.stays then s.turn else 1 - s.turn } e then 0 else if v.stays then s.aP+1 else s.aP
theorem ig (g:Sk.Game) (s:Sk.State) (e:Sk.Entry) (v:Sk.fF):Sk.dM g s e v= {s with aP:=xP s e v,aB:=if g.target≤max s.s0 s.s1 then Sk.leader s else s.aB }:=rfl
theorem vI (S:Nat→Prop) (g:Sk.Game) (s:Sk.State) (e:En) (v:Sk.fF) (w:World) (ht:s.turn=0∨s.turn=1) (hk5:0≤s.aP∧s.aP≤5) (he:iW w S e):Calls Tryz.prog 117 #[lZ g,kW s,wF e,RH v] w fun e_ w'=>e_= .returned (kW (Sk.dM g s e.x v))∧Below w.heap.size w w':=by
 go_enter Tryz.func117,Tryz.ntmps117
 go_upto_region 0 with (fail)
 go_cut [4,5,6,7,8] (fun v4 v5 v6 v7 v8 wx=>v4=ptr w.heap.size∧v5=ptr (w.heap.size+1)∧v6=ptr (w.heap.size+2)∧v7=ptr (w.heap.size+3)∧v8=ptr (w.heap.size+4)∧wx.heap.size=w.heap.size+5∧aJ w wx [(bT g,23),(aO s,26),(dU e,83),(fG v,78),(aO Sk.zero,26)])
 case first=>
  go_wp2;go_meet;exact ⟨rfl,rfl,rfl,rfl,rfl,by simp,((((((aJ.nil w).new (by simp) (bT g) _).new (by simp) (aO s) _).new (by simp) (dU e) _).new (by simp) (fG v) _).new (by simp) (aO Sk.zero) _)⟩
 case rest=>
  obtain ⟨rfl,rfl,rfl,rfl,rfl,hBs,hB⟩:=hcut;have hS:=hB.get 1 rfl;have k0:=hS.cell (j:=0) rfl;have hV:=hB.get 3 rfl;have u3:=hV.cell (j:=3) rfl;have uf3:=hV.frozen 3
  rcases ht with ht | ht
  all_goals
   have ht':=ht;rw [ht] at k0
   rcases Bool.eq_false_or_eq_true v.stays with hst | hst
   all_goals rw [hst] at u3
  · go_upto_region 4 with (fail)
    go_cut [10] (fun v10 wx=>v10=ptr (w.heap.size+5)∧aJ w wx [(bT g,23),(aO s,26),(dU e,83),(fG v,78),(aO Sk.zero,26),(aO {Sk.zero with turn:=0 },26)])
    case first=>
     have hZ:=Held.newAt (g:=w.heap.size+5) wc (aO Sk.zero) 26 hBs;have kC:=hB.new (by have h:=hBs;simpa using h) (aO Sk.zero) 26
     go_wp2_with (first | ((with_reducible (refine aH 26 (.tmp 10) (.tmp 19) ?lx ?_));(case lx=>rfl);refine aC (hZ) (aO {Sk.zero with turn:=0 }) rfl ak (bH _) rfl (.tmp 10) (.tmp 19) rfl rfl rfl ?_))
     go_meet;exact ⟨rfl,kC.put 5 rfl (aO {Sk.zero with turn:=0 }) rfl⟩
    case rest=>
     obtain ⟨rfl,hB2⟩:=hcut;have hcn:=fun W (hb:Below w.heap.size w W)=>rE S {Sk.zero with turn:=0 } e W (by simp) (he.below hb);have hV2:=hB2.get 3 rfl;have v3:=hV2.cell (j:=3) rfl;have RI:=hV2.frozen 3;rw [hst] at v3;obtain ⟨yc,x9⟩:∃ y,Sk.jc {Sk.zero with turn:=0 } e.x=y:=⟨_,rfl⟩
     simp only [x9] at hcn
     have Hg:=hide hcn;clear hcn
     cases yc
     · have HK:=hide (show xP s e.x v=(s.aP+1) by unfold xP;rw [hst];simp only [if_true];rw [ht',x9];simp)
       clear x9
       by_cases hm:g.target≤max s.s0 s.s1
       · have hm1:decide (g.target≤max s.s0 s.s1)=true:=decide_eq_true hm
         have HM:=hide (show Sk.dM g s e.x v=(zD s (s.aP+1) (Sk.leader (sS s (s.aP+1)))) by rw [ig,HK.out,if_pos hm];rfl);have qX:=hide hm;clear hm
         go_wp2_with (first | ((with_reducible (refine ah 26 (.tmp 10) ?lx ?_));(case lx=>rfl);refine au (hB2.get 5 rfl) Tryz.underlying26 rfl ak rfl (.tmp 10) rfl rfl ?_) | ((with_reducible (refine ah 26 (.tmp 10) ?lx ?_));(case lx=>rfl);refine bg (hB2.get 5 rfl) Tryz.underlying26 rfl ak rfl (.tmp 10) rfl rfl ?_) | ((with_reducible (refine aI 26 (.tmp 10) ?lx ?_));(case lx=>rfl);refine bC (hB2.get 5 rfl) Tryz.underlying26 rfl ak (.tmp 10) rfl rfl ?_) | ((with_reducible (refine ah 83 (.tmp 6) ?lx ?_));(case lx=>rfl);refine au (hB2.get 2 rfl) Tryz.underlying83 rfl bF rfl (.tmp 6) rfl rfl ?_) | ((with_reducible (refine ah 83 (.tmp 6) ?lx ?_));(case lx=>rfl);refine bg (hB2.get 2 rfl) Tryz.underlying83 rfl bF rfl (.tmp 6) rfl rfl ?_) | ((with_reducible (refine aI 83 (.tmp 6) ?lx ?_));(case lx=>rfl);refine bC (hB2.get 2 rfl) Tryz.underlying83 rfl bF (.tmp 6) rfl rfl ?_) | (go_at_call 176;refine (Hg.out _ hB2.bw).mono ?_;rintro e1 w1 ⟨rfl,hb1⟩;have lV:=hB2.call (by simp) hb1;have hS3:=lV.get 1 rfl;have hG3:=lV.aA rfl;have vG:=lV.get 3 rfl;have z1:=hS3.cell (j:=1) rfl;have RS:=hS3.frozen 1;have z2:=hS3.cell (j:=2) rfl;have RU:=hS3.frozen 2;have z9:=hS3.cell (j:=9) rfl;have U4:=hS3.frozen 9;have g2:=hG3.cell (j:=2) rfl;have yR:=hG3.frozen 2;have v3:=vG.cell (j:=3) rfl;have RI:=vG.frozen 3;rw [hst] at v3;have hB3:aJ w (w1.setCell ⟨w.heap.size+1,9,none⟩ (.int .i64 (s.aP+1))) [(bT g,23),(aO (sS s (s.aP+1)),26),(dU e,83),(fG v,78),(aO Sk.zero,26),(aO {Sk.zero with turn:=0 },26)]:=lV.set 1 rfl 9 _) | ((with_reducible (refine ah 26 (.tmp 5) ?lx ?_));(case lx=>rfl);refine au (hB3.get 1 rfl) Tryz.underlying26 rfl ak rfl (.tmp 5) rfl rfl ?_) | (go_at_call 173;refine (gU ((sS s (s.aP+1))) _).mono ?_;rintro e1 w5 ⟨rfl,hb5⟩;have iP:=hB3.call (by simp) hb5;have h12:=(iP.get 1 rfl).cell (j:=12) rfl;have Ef:=(iP.get 1 rfl).frozen 12;have hE:aJ w (w5.setCell ⟨w.heap.size+1,12,none⟩ (.int .i64 (Sk.leader ((sS s (s.aP+1)))))) [(bT g,23),(aO (zD s (s.aP+1) (Sk.leader (sS s (s.aP+1)))),26),(dU e,83),(fG v,78),(aO Sk.zero,26),(aO {Sk.zero with turn:=0 },26)]:=iP.set 1 rfl 12 _) | ((with_reducible (refine ah 26 (.tmp 5) ?lx ?_));(case lx=>rfl);refine au (hE.get 1 rfl) Tryz.underlying26 rfl ak rfl (.tmp 5) rfl rfl ?_) | ((with_reducible (refine aH 26 (.tmp 8) (.tmp 49) ?lx ?_));(case lx=>rfl);refine aC (hE.get 4 rfl) (aO ((zD s (s.aP+1) (Sk.leader (sS s (s.aP+1)))))) rfl ak (bH _) rfl (.tmp 8) (.tmp 49) rfl rfl rfl ?_))
         all_goals first | (exfalso;have:=qX.out;omega) | skip
         all_goals
          have hZ:=hE.put 4 rfl (aO ((zD s (s.aP+1) (Sk.leader (sS s (s.aP+1)))))) rfl;refine bodyPost_ret (aX (p:=8) (hZ.get 4 rfl) Tryz.underlying26 rfl ak rfl _ rfl) rfl ⟨?_,hZ.bw⟩;rw [HM.out];rfl
       · have hm1:decide (g.target≤max s.s0 s.s1)=false:=decide_eq_false hm
         have HM:=hide (show Sk.dM g s e.x v=(sS s (s.aP+1)) by rw [ig,HK.out,if_neg hm];rfl);have qX:=hide hm;clear hm
         go_wp2_with (first | ((with_reducible (refine ah 26 (.tmp 10) ?lx ?_));(case lx=>rfl);refine au (hB2.get 5 rfl) Tryz.underlying26 rfl ak rfl (.tmp 10) rfl rfl ?_) | ((with_reducible (refine ah 26 (.tmp 10) ?lx ?_));(case lx=>rfl);refine bg (hB2.get 5 rfl) Tryz.underlying26 rfl ak rfl (.tmp 10) rfl rfl ?_) | ((with_reducible (refine aI 26 (.tmp 10) ?lx ?_));(case lx=>rfl);refine bC (hB2.get 5 rfl) Tryz.underlying26 rfl ak (.tmp 10) rfl rfl ?_) | ((with_reducible (refine ah 83 (.tmp 6) ?lx ?_));(case lx=>rfl);refine au (hB2.get 2 rfl) Tryz.underlying83 rfl bF rfl (.tmp 6) rfl rfl ?_) | ((with_reducible (refine ah 83 (.tmp 6) ?lx ?_));(case lx=>rfl);refine bg (hB2.get 2 rfl) Tryz.underlying83 rfl bF rfl (.tmp 6) rfl rfl ?_) | ((with_reducible (refine aI 83 (.tmp 6) ?lx ?_));(case lx=>rfl);refine bC (hB2.get 2 rfl) Tryz.underlying83 rfl bF (.tmp 6) rfl rfl ?_) | (go_at_call 176;refine (Hg.out _ hB2.bw).mono ?_;rintro e1 w1 ⟨rfl,hb1⟩;have lV:=hB2.call (by simp) hb1;have hS3:=lV.get 1 rfl;have hG3:=lV.aA rfl;have vG:=lV.get 3 rfl;have z1:=hS3.cell (j:=1) rfl;have RS:=hS3.frozen 1;have z2:=hS3.cell (j:=2) rfl;have RU:=hS3.frozen 2;have z9:=hS3.cell (j:=9) rfl;have U4:=hS3.frozen 9;have g2:=hG3.cell (j:=2) rfl;have yR:=hG3.frozen 2;have v3:=vG.cell (j:=3) rfl;have RI:=vG.frozen 3;rw [hst] at v3;have hB3:aJ w (w1.setCell ⟨w.heap.size+1,9,none⟩ (.int .i64 (s.aP+1))) [(bT g,23),(aO (sS s (s.aP+1)),26),(dU e,83),(fG v,78),(aO Sk.zero,26),(aO {Sk.zero with turn:=0 },26)]:=lV.set 1 rfl 9 _) | ((with_reducible (refine ah 26 (.tmp 5) ?lx ?_));(case lx=>rfl);refine au (hB3.get 1 rfl) Tryz.underlying26 rfl ak rfl (.tmp 5) rfl rfl ?_) | ((with_reducible (refine aH 26 (.tmp 8) (.tmp 49) ?lx ?_));(case lx=>rfl);refine aC (hB3.get 4 rfl) (aO ((sS s (s.aP+1)))) rfl ak (bH _) rfl (.tmp 8) (.tmp 49) rfl rfl rfl ?_))
         all_goals first | (exfalso;have:=qX.out;omega) | skip
         all_goals
          have hZ:=hB3.put 4 rfl (aO ((sS s (s.aP+1)))) rfl;refine bodyPost_ret (aX (p:=8) (hZ.get 4 rfl) Tryz.underlying26 rfl ak rfl _ rfl) rfl ⟨?_,hZ.bw⟩;rw [HM.out];rfl
     · have HK:=hide (show xP s e.x v=0 by unfold xP;rw [hst];simp only [if_true];rw [ht',x9];simp)
       clear x9
       by_cases hm:g.target≤max s.s0 s.s1
       · have hm1:decide (g.target≤max s.s0 s.s1)=true:=decide_eq_true hm
         have HM:=hide (show Sk.dM g s e.x v=(zD s 0 (Sk.leader (sS s 0))) by rw [ig,HK.out,if_pos hm];rfl);have qX:=hide hm;clear hm
         go_wp2_with (first | ((with_reducible (refine ah 26 (.tmp 10) ?lx ?_));(case lx=>rfl);refine au (hB2.get 5 rfl) Tryz.underlying26 rfl ak rfl (.tmp 10) rfl rfl ?_) | ((with_reducible (refine ah 26 (.tmp 10) ?lx ?_));(case lx=>rfl);refine bg (hB2.get 5 rfl) Tryz.underlying26 rfl ak rfl (.tmp 10) rfl rfl ?_) | ((with_reducible (refine aI 26 (.tmp 10) ?lx ?_));(case lx=>rfl);refine bC (hB2.get 5 rfl) Tryz.underlying26 rfl ak (.tmp 10) rfl rfl ?_) | ((with_reducible (refine ah 83 (.tmp 6) ?lx ?_));(case lx=>rfl);refine au (hB2.get 2 rfl) Tryz.underlying83 rfl bF rfl (.tmp 6) rfl rfl ?_) | ((with_reducible (refine ah 83 (.tmp 6) ?lx ?_));(case lx=>rfl);refine bg (hB2.get 2 rfl) Tryz.underlying83 rfl bF rfl (.tmp 6) rfl rfl ?_) | ((with_reducible (refine aI 83 (.tmp 6) ?lx ?_));(case lx=>rfl);refine bC (hB2.get 2 rfl) Tryz.underlying83 rfl bF (.tmp 6) rfl rfl ?_) | (go_at_call 176;refine (Hg.out _ hB2.bw).mono ?_;rintro e1 w1 ⟨rfl,hb1⟩;have lV:=hB2.call (by simp) hb1;have hS3:=lV.get 1 rfl;have hG3:=lV.aA rfl;have vG:=lV.get 3 rfl;have z1:=hS3.cell (j:=1) rfl;have RS:=hS3.frozen 1;have z2:=hS3.cell (j:=2) rfl;have RU:=hS3.frozen 2;have z9:=hS3.cell (j:=9) rfl;have U4:=hS3.frozen 9;have g2:=hG3.cell (j:=2) rfl;have yR:=hG3.frozen 2;have v3:=vG.cell (j:=3) rfl;have RI:=vG.frozen 3;rw [hst] at v3;have hB3:aJ w (w1.setCell ⟨w.heap.size+1,9,none⟩ (.int .i64 0)) [(bT g,23),(aO (sS s 0),26),(dU e,83),(fG v,78),(aO Sk.zero,26),(aO {Sk.zero with turn:=0 },26)]:=lV.set 1 rfl 9 _) | ((with_reducible (refine ah 26 (.tmp 5) ?lx ?_));(case lx=>rfl);refine au (hB3.get 1 rfl) Tryz.underlying26 rfl ak rfl (.tmp 5) rfl rfl ?_) | (go_at_call 173;refine (gU ((sS s 0)) _).mono ?_;rintro e1 w5 ⟨rfl,hb5⟩;have iP:=hB3.call (by simp) hb5;have h12:=(iP.get 1 rfl).cell (j:=12) rfl;have Ef:=(iP.get 1 rfl).frozen 12;have hE:aJ w (w5.setCell ⟨w.heap.size+1,12,none⟩ (.int .i64 (Sk.leader ((sS s 0))))) [(bT g,23),(aO (zD s 0 (Sk.leader (sS s 0))),26),(dU e,83),(fG v,78),(aO Sk.zero,26),(aO {Sk.zero with turn:=0 },26)]:=iP.set 1 rfl 12 _) | ((with_reducible (refine ah 26 (.tmp 5) ?lx ?_));(case lx=>rfl);refine au (hE.get 1 rfl) Tryz.underlying26 rfl ak rfl (.tmp 5) rfl rfl ?_) | ((with_reducible (refine aH 26 (.tmp 8) (.tmp 49) ?lx ?_));(case lx=>rfl);refine aC (hE.get 4 rfl) (aO ((zD s 0 (Sk.leader (sS s 0))))) rfl ak (bH _) rfl (.tmp 8) (.tmp 49) rfl rfl rfl ?_))
         all_goals first | (exfalso;have:=qX.out;omega) | skip
         all_goals
          have hZ:=hE.put 4 rfl (aO ((zD s 0 (Sk.leader (sS s 0))))) rfl;refine bodyPost_ret (aX (p:=8) (hZ.get 4 rfl) Tryz.underlying26 rfl ak rfl _ rfl) rfl ⟨?_,hZ.bw⟩;rw [HM.out];rfl
       · have hm1:decide (g.target≤max s.s0 s.s1)=false:=decide_eq_false hm
         have HM:=hide (show Sk.dM g s e.x v=(sS s 0) by rw [ig,HK.out,if_neg hm];rfl);have qX:=hide hm;clear hm
         go_wp2_with (first | ((with_reducible (refine ah 26 (.tmp 10) ?lx ?_));(case lx=>rfl);refine au (hB2.get 5 rfl) Tryz.underlying26 rfl ak rfl (.tmp 10) rfl rfl ?_) | ((with_reducible (refine ah 26 (.tmp 10) ?lx ?_));(case lx=>rfl);refine bg (hB2.get 5 rfl) Tryz.underlying26 rfl ak rfl (.tmp 10) rfl rfl ?_) | ((with_reducible (refine aI 26 (.tmp 10) ?lx ?_));(case lx=>rfl);refine bC (hB2.get 5 rfl) Tryz.underlying26 rfl ak (.tmp 10) rfl rfl ?_) | ((with_reducible (refine ah 83 (.tmp 6) ?lx ?_));(case lx=>rfl);refine au (hB2.get 2 rfl) Tryz.underlying83 rfl bF rfl (.tmp 6) rfl rfl ?_) | ((with_reducible (refine ah 83 (.tmp 6) ?lx ?_));(case lx=>rfl);refine bg (hB2.get 2 rfl) Tryz.underlying83 rfl bF rfl (.tmp 6) rfl rfl ?_) | ((with_reducible (refine aI 83 (.tmp 6) ?lx ?_));(case lx=>rfl);refine bC (hB2.get 2 rfl) Tryz.underlying83 rfl bF (.tmp 6) rfl rfl ?_) | (go_at_call 176;refine (Hg.out _ hB2.bw).mono ?_;rintro e1 w1 ⟨rfl,hb1⟩;have lV:=hB2.call (by simp) hb1;have hS3:=lV.get 1 rfl;have hG3:=lV.aA rfl;have vG:=lV.get 3 rfl;have z1:=hS3.cell (j:=1) rfl;have RS:=hS3.frozen 1;have z2:=hS3.cell (j:=2) rfl;have RU:=hS3.frozen 2;have z9:=hS3.cell (j:=9) rfl;have U4:=hS3.frozen 9;have g2:=hG3.cell (j:=2) rfl;have yR:=hG3.frozen 2;have v3:=vG.cell (j:=3) rfl;have RI:=vG.frozen 3;rw [hst] at v3;have hB3:aJ w (w1.setCell ⟨w.heap.size+1,9,none⟩ (.int .i64 0)) [(bT g,23),(aO (sS s 0),26),(dU e,83),(fG v,78),(aO Sk.zero,26),(aO {Sk.zero with turn:=0 },26)]:=lV.set 1 rfl 9 _) | ((with_reducible (refine ah 26 (.tmp 5) ?lx ?_));(case lx=>rfl);refine au (hB3.get 1 rfl) Tryz.underlying26 rfl ak rfl (.tmp 5) rfl rfl ?_) | ((with_reducible (refine aH 26 (.tmp 8) (.tmp 49) ?lx ?_));(case lx=>rfl);refine aC (hB3.get 4 rfl) (aO ((sS s 0))) rfl ak (bH _) rfl (.tmp 8) (.tmp 49) rfl rfl rfl ?_))
         all_goals first | (exfalso;have:=qX.out;omega) | skip
         all_goals
          have hZ:=hB3.put 4 rfl (aO ((sS s 0))) rfl;refine bodyPost_ret (aX (p:=8) (hZ.get 4 rfl) Tryz.underlying26 rfl ak rfl _ rfl) rfl ⟨?_,hZ.bw⟩;rw [HM.out];rfl
  · go_upto_region 4 with (fail)
    go_cut [10] (fun v10 wx=>v10=ptr (w.heap.size+5)∧aJ w wx [(bT g,23),(aO s,26),(dU e,83),(fG v,78),(aO Sk.zero,26),(aO {Sk.zero with turn:=1 },26)])
    case first=>
     have hZ:=Held.newAt (g:=w.heap.size+5) wc (aO Sk.zero) 26 hBs;have kC:=hB.new (by have h:=hBs;simpa using h) (aO Sk.zero) 26
     go_wp2_with (first | ((with_reducible (refine aH 26 (.tmp 10) (.tmp 19) ?lx ?_));(case lx=>rfl);refine aC (hZ) (aO {Sk.zero with turn:=1 }) rfl ak (bH _) rfl (.tmp 10) (.tmp 19) rfl rfl rfl ?_))
     go_meet;exact ⟨rfl,kC.put 5 rfl (aO {Sk.zero with turn:=1 }) rfl⟩
    case rest=>
     obtain ⟨rfl,hB2⟩:=hcut;have HK:=hide (show xP s e.x v=s.aP by unfold xP;rw [hst];simp);have hB3:aJ w wc [(bT g,23),(aO (sS s s.aP),26),(dU e,83),(fG v,78),(aO Sk.zero,26),(aO {Sk.zero with turn:=1 },26)]:=hB2;have hS3:=hB2.get 1 rfl;have hG3:=hB2.aA rfl;have vG:=hB2.get 3 rfl;have z1:=hS3.cell (j:=1) rfl;have RS:=hS3.frozen 1;have z2:=hS3.cell (j:=2) rfl;have RU:=hS3.frozen 2;have z9:=hS3.cell (j:=9) rfl;have U4:=hS3.frozen 9;have g2:=hG3.cell (j:=2) rfl;have yR:=hG3.frozen 2;have v3:=vG.cell (j:=3) rfl;have RI:=vG.frozen 3;rw [hst] at v3
     by_cases hm:g.target≤max s.s0 s.s1
     · have hm1:decide (g.target≤max s.s0 s.s1)=true:=decide_eq_true hm
       have HM:=hide (show Sk.dM g s e.x v=(zD s s.aP (Sk.leader (sS s s.aP))) by rw [ig,HK.out,if_pos hm];rfl);have qX:=hide hm;clear hm
       go_wp2_with (first | ((with_reducible (refine ah 26 (.tmp 5) ?lx ?_));(case lx=>rfl);refine au (hB3.get 1 rfl) Tryz.underlying26 rfl ak rfl (.tmp 5) rfl rfl ?_) | (go_at_call 173;refine (gU ((sS s s.aP)) _).mono ?_;rintro e1 w5 ⟨rfl,hb5⟩;have iP:=hB3.call (by simp) hb5;have h12:=(iP.get 1 rfl).cell (j:=12) rfl;have Ef:=(iP.get 1 rfl).frozen 12;have hE:aJ w (w5.setCell ⟨w.heap.size+1,12,none⟩ (.int .i64 (Sk.leader ((sS s s.aP))))) [(bT g,23),(aO (zD s s.aP (Sk.leader (sS s s.aP))),26),(dU e,83),(fG v,78),(aO Sk.zero,26),(aO {Sk.zero with turn:=1 },26)]:=iP.set 1 rfl 12 _) | ((with_reducible (refine ah 26 (.tmp 5) ?lx ?_));(case lx=>rfl);refine au (hE.get 1 rfl) Tryz.underlying26 rfl ak rfl (.tmp 5) rfl rfl ?_) | ((with_reducible (refine aH 26 (.tmp 8) (.tmp 49) ?lx ?_));(case lx=>rfl);refine aC (hE.get 4 rfl) (aO ((zD s s.aP (Sk.leader (sS s s.aP))))) rfl ak (bH _) rfl (.tmp 8) (.tmp 49) rfl rfl rfl ?_))
       all_goals first | (exfalso;have:=qX.out;omega) | skip
       all_goals
        have hZ:=hE.put 4 rfl (aO ((zD s s.aP (Sk.leader (sS s s.aP))))) rfl;refine bodyPost_ret (aX (p:=8) (hZ.get 4 rfl) Tryz.underlying26 rfl ak rfl _ rfl) rfl ⟨?_,hZ.bw⟩;rw [HM.out];rfl
     · have hm1:decide (g.target≤max s.s0 s.s1)=false:=decide_eq_false hm
       have HM:=hide (show Sk.dM g s e.x v=(sS s s.aP) by rw [ig,HK.out,if_neg hm];rfl);have qX:=hide hm;clear hm
       go_wp2_with (first | ((with_reducible (refine ah 26 (.tmp 5) ?lx ?_));(case lx=>rfl);refine au (hB3.get 1 rfl) Tryz.underlying26 rfl ak rfl (.tmp 5) rfl rfl ?_) | ((with_reducible (refine aH 26 (.tmp 8) (.tmp 49) ?lx ?_));(case lx=>rfl);refine aC (hB3.get 4 rfl) (aO ((sS s s.aP))) rfl ak (bH _) rfl (.tmp 8) (.tmp 49) rfl rfl rfl ?_))
       all_goals first | (exfalso;have:=qX.out;omega) | skip
       all_goals
        have hZ:=hB3.put 4 rfl (aO ((sS s s.aP))) rfl;refine bodyPost_ret (aX (p:=8) (hZ.get 4 rfl) Tryz.underlying26 rfl ak rfl _ rfl) rfl ⟨?_,hZ.bw⟩;rw [HM.out];rfl
  · go_upto_region 4 with (fail)
    go_cut [10] (fun v10 wx=>v10=ptr (w.heap.size+5)∧aJ w wx [(bT g,23),(aO s,26),(dU e,83),(fG v,78),(aO Sk.zero,26),(aO {Sk.zero with turn:=1 },26)])
    case first=>
     have hZ:=Held.newAt (g:=w.heap.size+5) wc (aO Sk.zero) 26 hBs;have kC:=hB.new (by have h:=hBs;simpa using h) (aO Sk.zero) 26
     go_wp2_with (first | ((with_reducible (refine aH 26 (.tmp 10) (.tmp 19) ?lx ?_));(case lx=>rfl);refine aC (hZ) (aO {Sk.zero with turn:=1 }) rfl ak (bH _) rfl (.tmp 10) (.tmp 19) rfl rfl rfl ?_))
     go_meet;exact ⟨rfl,kC.put 5 rfl (aO {Sk.zero with turn:=1 }) rfl⟩
    case rest=>
     obtain ⟨rfl,hB2⟩:=hcut;have hcn:=fun W (hb:Below w.heap.size w W)=>rE S {Sk.zero with turn:=1 } e W (by simp) (he.below hb);have hV2:=hB2.get 3 rfl;have v3:=hV2.cell (j:=3) rfl;have RI:=hV2.frozen 3;rw [hst] at v3;obtain ⟨yc,x9⟩:∃ y,Sk.jc {Sk.zero with turn:=1 } e.x=y:=⟨_,rfl⟩
     simp only [x9] at hcn
     have Hg:=hide hcn;clear hcn
     cases yc
     · have HK:=hide (show xP s e.x v=(s.aP+1) by unfold xP;rw [hst];simp only [if_true];rw [ht',x9];simp)
       clear x9
       by_cases hm:g.target≤max s.s0 s.s1
       · have hm1:decide (g.target≤max s.s0 s.s1)=true:=decide_eq_true hm
         have HM:=hide (show Sk.dM g s e.x v=(zD s (s.aP+1) (Sk.leader (sS s (s.aP+1)))) by rw [ig,HK.out,if_pos hm];rfl);have qX:=hide hm;clear hm
         go_wp2_with (first | ((with_reducible (refine ah 26 (.tmp 10) ?lx ?_));(case lx=>rfl);refine au (hB2.get 5 rfl) Tryz.underlying26 rfl ak rfl (.tmp 10) rfl rfl ?_) | ((with_reducible (refine ah 26 (.tmp 10) ?lx ?_));(case lx=>rfl);refine bg (hB2.get 5 rfl) Tryz.underlying26 rfl ak rfl (.tmp 10) rfl rfl ?_) | ((with_reducible (refine aI 26 (.tmp 10) ?lx ?_));(case lx=>rfl);refine bC (hB2.get 5 rfl) Tryz.underlying26 rfl ak (.tmp 10) rfl rfl ?_) | ((with_reducible (refine ah 83 (.tmp 6) ?lx ?_));(case lx=>rfl);refine au (hB2.get 2 rfl) Tryz.underlying83 rfl bF rfl (.tmp 6) rfl rfl ?_) | ((with_reducible (refine ah 83 (.tmp 6) ?lx ?_));(case lx=>rfl);refine bg (hB2.get 2 rfl) Tryz.underlying83 rfl bF rfl (.tmp 6) rfl rfl ?_) | ((with_reducible (refine aI 83 (.tmp 6) ?lx ?_));(case lx=>rfl);refine bC (hB2.get 2 rfl) Tryz.underlying83 rfl bF (.tmp 6) rfl rfl ?_) | (go_at_call 176;refine (Hg.out _ hB2.bw).mono ?_;rintro e1 w1 ⟨rfl,hb1⟩;have lV:=hB2.call (by simp) hb1;have hS3:=lV.get 1 rfl;have hG3:=lV.aA rfl;have vG:=lV.get 3 rfl;have z1:=hS3.cell (j:=1) rfl;have RS:=hS3.frozen 1;have z2:=hS3.cell (j:=2) rfl;have RU:=hS3.frozen 2;have z9:=hS3.cell (j:=9) rfl;have U4:=hS3.frozen 9;have g2:=hG3.cell (j:=2) rfl;have yR:=hG3.frozen 2;have v3:=vG.cell (j:=3) rfl;have RI:=vG.frozen 3;rw [hst] at v3;have hB3:aJ w (w1.setCell ⟨w.heap.size+1,9,none⟩ (.int .i64 (s.aP+1))) [(bT g,23),(aO (sS s (s.aP+1)),26),(dU e,83),(fG v,78),(aO Sk.zero,26),(aO {Sk.zero with turn:=1 },26)]:=lV.set 1 rfl 9 _) | ((with_reducible (refine ah 26 (.tmp 5) ?lx ?_));(case lx=>rfl);refine au (hB3.get 1 rfl) Tryz.underlying26 rfl ak rfl (.tmp 5) rfl rfl ?_) | (go_at_call 173;refine (gU ((sS s (s.aP+1))) _).mono ?_;rintro e1 w5 ⟨rfl,hb5⟩;have iP:=hB3.call (by simp) hb5;have h12:=(iP.get 1 rfl).cell (j:=12) rfl;have Ef:=(iP.get 1 rfl).frozen 12;have hE:aJ w (w5.setCell ⟨w.heap.size+1,12,none⟩ (.int .i64 (Sk.leader ((sS s (s.aP+1)))))) [(bT g,23),(aO (zD s (s.aP+1) (Sk.leader (sS s (s.aP+1)))),26),(dU e,83),(fG v,78),(aO Sk.zero,26),(aO {Sk.zero with turn:=1 },26)]:=iP.set 1 rfl 12 _) | ((with_reducible (refine ah 26 (.tmp 5) ?lx ?_));(case lx=>rfl);refine au (hE.get 1 rfl) Tryz.underlying26 rfl ak rfl (.tmp 5) rfl rfl ?_) | ((with_reducible (refine aH 26 (.tmp 8) (.tmp 49) ?lx ?_));(case lx=>rfl);refine aC (hE.get 4 rfl) (aO ((zD s (s.aP+1) (Sk.leader (sS s (s.aP+1)))))) rfl ak (bH _) rfl (.tmp 8) (.tmp 49) rfl rfl rfl ?_))
         all_goals first | (exfalso;have:=qX.out;omega) | skip
         all_goals
          have hZ:=hE.put 4 rfl (aO ((zD s (s.aP+1) (Sk.leader (sS s (s.aP+1)))))) rfl;refine bodyPost_ret (aX (p:=8) (hZ.get 4 rfl) Tryz.underlying26 rfl ak rfl _ rfl) rfl ⟨?_,hZ.bw⟩;rw [HM.out];rfl
       · have hm1:decide (g.target≤max s.s0 s.s1)=false:=decide_eq_false hm
         have HM:=hide (show Sk.dM g s e.x v=(sS s (s.aP+1)) by rw [ig,HK.out,if_neg hm];rfl);have qX:=hide hm;clear hm
         go_wp2_with (first | ((with_reducible (refine ah 26 (.tmp 10) ?lx ?_));(case lx=>rfl);refine au (hB2.get 5 rfl) Tryz.underlying26 rfl ak rfl (.tmp 10) rfl rfl ?_) | ((with_reducible (refine ah 26 (.tmp 10) ?lx ?_));(case lx=>rfl);refine bg (hB2.get 5 rfl) Tryz.underlying26 rfl ak rfl (.tmp 10) rfl rfl ?_) | ((with_reducible (refine aI 26 (.tmp 10) ?lx ?_));(case lx=>rfl);refine bC (hB2.get 5 rfl) Tryz.underlying26 rfl ak (.tmp 10) rfl rfl ?_) | ((with_reducible (refine ah 83 (.tmp 6) ?lx ?_));(case lx=>rfl);refine au (hB2.get 2 rfl) Tryz.underlying83 rfl bF rfl (.tmp 6) rfl rfl ?_) | ((with_reducible (refine ah 83 (.tmp 6) ?lx ?_));(case lx=>rfl);refine bg (hB2.get 2 rfl) Tryz.underlying83 rfl bF rfl (.tmp 6) rfl rfl ?_) | ((with_reducible (refine aI 83 (.tmp 6) ?lx ?_));(case lx=>rfl);refine bC (hB2.get 2 rfl) Tryz.underlying83 rfl bF (.tmp 6) rfl rfl ?_) | (go_at_call 176;refine (Hg.out _ hB2.bw).mono ?_;rintro e1 w1 ⟨rfl,hb1⟩;have lV:=hB2.call (by simp) hb1;have hS3:=lV.get 1 rfl;have hG3:=lV.aA rfl;have vG:=lV.get 3 rfl;have z1:=hS3.cell (j:=1) rfl;have RS:=hS3.frozen 1;have z2:=hS3.cell (j:=2) rfl;have RU:=hS3.frozen 2;have z9:=hS3.cell (j:=9) rfl;have U4:=hS3.frozen 9;have g2:=hG3.cell (j:=2) rfl;have yR:=hG3.frozen 2;have v3:=vG.cell (j:=3) rfl;have RI:=vG.frozen 3;rw [hst] at v3;have hB3:aJ w (w1.setCell ⟨w.heap.size+1,9,none⟩ (.int .i64 (s.aP+1))) [(bT g,23),(aO (sS s (s.aP+1)),26),(dU e,83),(fG v,78),(aO Sk.zero,26),(aO {Sk.zero with turn:=1 },26)]:=lV.set 1 rfl 9 _) | ((with_reducible (refine ah 26 (.tmp 5) ?lx ?_));(case lx=>rfl);refine au (hB3.get 1 rfl) Tryz.underlying26 rfl ak rfl (.tmp 5) rfl rfl ?_) | ((with_reducible (refine aH 26 (.tmp 8) (.tmp 49) ?lx ?_));(case lx=>rfl);refine aC (hB3.get 4 rfl) (aO ((sS s (s.aP+1)))) rfl ak (bH _) rfl (.tmp 8) (.tmp 49) rfl rfl rfl ?_))
         all_goals first | (exfalso;have:=qX.out;omega) | skip
         all_goals
          have hZ:=hB3.put 4 rfl (aO ((sS s (s.aP+1)))) rfl;refine bodyPost_ret (aX (p:=8) (hZ.get 4 rfl) Tryz.underlying26 rfl ak rfl _ rfl) rfl ⟨?_,hZ.bw⟩;rw [HM.out];rfl
     · have HK:=hide (show xP s e.x v=0 by unfold xP;rw [hst];simp only [if_true];rw [ht',x9];simp)
       clear x9
       by_cases hm:g.target≤max s.s0 s.s1
       · have hm1:decide (g.target≤max s.s0 s.s1)=true:=decide_eq_true hm
         have HM:=hide (show Sk.dM g s e.x v=(zD s 0 (Sk.leader (sS s 0))) by rw [ig,HK.out,if_pos hm];rfl);have qX:=hide hm;clear hm
         go_wp2_with (first | ((with_reducible (refine ah 26 (.tmp 10) ?lx ?_));(case lx=>rfl);refine au (hB2.get 5 rfl) Tryz.underlying26 rfl ak rfl (.tmp 10) rfl rfl ?_) | ((with_reducible (refine ah 26 (.tmp 10) ?lx ?_));(case lx=>rfl);refine bg (hB2.get 5 rfl) Tryz.underlying26 rfl ak rfl (.tmp 10) rfl rfl ?_) | ((with_reducible (refine aI 26 (.tmp 10) ?lx ?_));(case lx=>rfl);refine bC (hB2.get 5 rfl) Tryz.underlying26 rfl ak (.tmp 10) rfl rfl ?_) | ((with_reducible (refine ah 83 (.tmp 6) ?lx ?_));(case lx=>rfl);refine au (hB2.get 2 rfl) Tryz.underlying83 rfl bF rfl (.tmp 6) rfl rfl ?_) | ((with_reducible (refine ah 83 (.tmp 6) ?lx ?_));(case lx=>rfl);refine bg (hB2.get 2 rfl) Tryz.underlying83 rfl bF rfl (.tmp 6) rfl rfl ?_) | ((with_reducible (refine aI 83 (.tmp 6) ?lx ?_));(case lx=>rfl);refine bC (hB2.get 2 rfl) Tryz.underlying83 rfl bF (.tmp 6) rfl rfl ?_) | (go_at_call 176;refine (Hg.out _ hB2.bw).mono ?_;rintro e1 w1 ⟨rfl,hb1⟩;have lV:=hB2.call (by simp) hb1;have hS3:=lV.get 1 rfl;have hG3:=lV.aA rfl;have vG:=lV.get 3 rfl;have z1:=hS3.cell (j:=1) rfl;have RS:=hS3.frozen 1;have z2:=hS3.cell (j:=2) rfl;have RU:=hS3.frozen 2;have z9:=hS3.cell (j:=9) rfl;have U4:=hS3.frozen 9;have g2:=hG3.cell (j:=2) rfl;have yR:=hG3.frozen 2;have v3:=vG.cell (j:=3) rfl;have RI:=vG.frozen 3;rw [hst] at v3;have hB3:aJ w (w1.setCell ⟨w.heap.size+1,9,none⟩ (.int .i64 0)) [(bT g,23),(aO (sS s 0),26),(dU e,83),(fG v,78),(aO Sk.zero,26),(aO {Sk.zero with turn:=1 },26)]:=lV.set 1 rfl 9 _) | ((with_reducible (refine ah 26 (.tmp 5) ?lx ?_));(case lx=>rfl);refine au (hB3.get 1 rfl) Tryz.underlying26 rfl ak rfl (.tmp 5) rfl rfl ?_) | (go_at_call 173;refine (gU ((sS s 0)) _).mono ?_;rintro e1 w5 ⟨rfl,hb5⟩;have iP:=hB3.call (by simp) hb5;have h12:=(iP.get 1 rfl).cell (j:=12) rfl;have Ef:=(iP.get 1 rfl).frozen 12;have hE:aJ w (w5.setCell ⟨w.heap.size+1,12,none⟩ (.int .i64 (Sk.leader ((sS s 0))))) [(bT g,23),(aO (zD s 0 (Sk.leader (sS s 0))),26),(dU e,83),(fG v,78),(aO Sk.zero,26),(aO {Sk.zero with turn:=1 },26)]:=iP.set 1 rfl 12 _) | ((with_reducible (refine ah 26 (.tmp 5) ?lx ?_));(case lx=>rfl);refine au (hE.get 1 rfl) Tryz.underlying26 rfl ak rfl (.tmp 5) rfl rfl ?_) | ((with_reducible (refine aH 26 (.tmp 8) (.tmp 49) ?lx ?_));(case lx=>rfl);refine aC (hE.get 4 rfl) (aO ((zD s 0 (Sk.leader (sS s 0))))) rfl ak (bH _) rfl (.tmp 8) (.tmp 49) rfl rfl rfl ?_))
         all_goals first | (exfalso;have:=qX.out;omega) | skip
         all_goals
          have hZ:=hE.put 4 rfl (aO ((zD s 0 (Sk.leader (sS s 0))))) rfl;refine bodyPost_ret (aX (p:=8) (hZ.get 4 rfl) Tryz.underlying26 rfl ak rfl _ rfl) rfl ⟨?_,hZ.bw⟩;rw [HM.out];rfl
       · have hm1:decide (g.target≤max s.s0 s.s1)=false:=decide_eq_false hm
         have HM:=hide (show Sk.dM g s e.x v=(sS s 0) by rw [ig,HK.out,if_neg hm];rfl);have qX:=hide hm;clear hm
         go_wp2_with (first | ((with_reducible (refine ah 26 (.tmp 10) ?lx ?_));(case lx=>rfl);refine au (hB2.get 5 rfl) Tryz.underlying26 rfl ak rfl (.tmp 10) rfl rfl ?_) | ((with_reducible (refine ah 26 (.tmp 10) ?lx ?_));(case lx=>rfl);refine bg (hB2.get 5 rfl) Tryz.underlying26 rfl ak rfl (.tmp 10) rfl rfl ?_) | ((with_reducible (refine aI 26 (.tmp 10) ?lx ?_));(case lx=>rfl);refine bC (hB2.get 5 rfl) Tryz.underlying26 rfl ak (.tmp 10) rfl rfl ?_) | ((with_reducible (refine ah 83 (.tmp 6) ?lx ?_));(case lx=>rfl);refine au (hB2.get 2 rfl) Tryz.underlying83 rfl bF rfl (.tmp 6) rfl rfl ?_) | ((with_reducible (refine ah 83 (.tmp 6) ?lx ?_));(case lx=>rfl);refine bg (hB2.get 2 rfl) Tryz.underlying83 rfl bF rfl (.tmp 6) rfl rfl ?_) | ((with_reducible (refine aI 83 (.tmp 6) ?lx ?_));(case lx=>rfl);refine bC (hB2.get 2 rfl) Tryz.underlying83 rfl bF (.tmp 6) rfl rfl ?_) | (go_at_call 176;refine (Hg.out _ hB2.bw).mono ?_;rintro e1 w1 ⟨rfl,hb1⟩;have lV:=hB2.call (by simp) hb1;have hS3:=lV.get 1 rfl;have hG3:=lV.aA rfl;have vG:=lV.get 3 rfl;have z1:=hS3.cell (j:=1) rfl;have RS:=hS3.frozen 1;have z2:=hS3.cell (j:=2) rfl;have RU:=hS3.frozen 2;have z9:=hS3.cell (j:=9) rfl;have U4:=hS3.frozen 9;have g2:=hG3.cell (j:=2) rfl;have yR:=hG3.frozen 2;have v3:=vG.cell (j:=3) rfl;have RI:=vG.frozen 3;rw [hst] at v3;have hB3:aJ w (w1.setCell ⟨w.heap.size+1,9,none⟩ (.int .i64 0)) [(bT g,23),(aO (sS s 0),26),(dU e,83),(fG v,78),(aO Sk.zero,26),(aO {Sk.zero with turn:=1 },26)]:=lV.set 1 rfl 9 _) | ((with_reducible (refine ah 26 (.tmp 5) ?lx ?_));(case lx=>rfl);refine au (hB3.get 1 rfl) Tryz.underlying26 rfl ak rfl (.tmp 5) rfl rfl ?_) | ((with_reducible (refine aH 26 (.tmp 8) (.tmp 49) ?lx ?_));(case lx=>rfl);refine aC (hB3.get 4 rfl) (aO ((sS s 0))) rfl ak (bH _) rfl (.tmp 8) (.tmp 49) rfl rfl rfl ?_))
         all_goals first | (exfalso;have:=qX.out;omega) | skip
         all_goals
          have hZ:=hB3.put 4 rfl (aO ((sS s 0))) rfl;refine bodyPost_ret (aX (p:=8) (hZ.get 4 rfl) Tryz.underlying26 rfl ak rfl _ rfl) rfl ⟨?_,hZ.bw⟩;rw [HM.out];rfl
  · go_upto_region 4 with (fail)
    go_cut [10] (fun v10 wx=>v10=ptr (w.heap.size+5)∧aJ w wx [(bT g,23),(aO s,26),(dU e,83),(fG v,78),(aO Sk.zero,26),(aO {Sk.zero with turn:=0 },26)])
    case first=>
     have hZ:=Held.newAt (g:=w.heap.size+5) wc (aO Sk.zero) 26 hBs;have kC:=hB.new (by have h:=hBs;simpa using h) (aO Sk.zero) 26
     go_wp2_with (first | ((with_reducible (refine aH 26 (.tmp 10) (.tmp 19) ?lx ?_));(case lx=>rfl);refine aC (hZ) (aO {Sk.zero with turn:=0 }) rfl ak (bH _) rfl (.tmp 10) (.tmp 19) rfl rfl rfl ?_))
     go_meet;exact ⟨rfl,kC.put 5 rfl (aO {Sk.zero with turn:=0 }) rfl⟩
    case rest=>
     obtain ⟨rfl,hB2⟩:=hcut;have HK:=hide (show xP s e.x v=s.aP by unfold xP;rw [hst];simp);have hB3:aJ w wc [(bT g,23),(aO (sS s s.aP),26),(dU e,83),(fG v,78),(aO Sk.zero,26),(aO {Sk.zero with turn:=0 },26)]:=hB2;have hS3:=hB2.get 1 rfl;have hG3:=hB2.aA rfl;have vG:=hB2.get 3 rfl;have z1:=hS3.cell (j:=1) rfl;have RS:=hS3.frozen 1;have z2:=hS3.cell (j:=2) rfl;have RU:=hS3.frozen 2;have z9:=hS3.cell (j:=9) rfl;have U4:=hS3.frozen 9;have g2:=hG3.cell (j:=2) rfl;have yR:=hG3.frozen 2;have v3:=vG.cell (j:=3) rfl;have RI:=vG.frozen 3;rw [hst] at v3
     by_cases hm:g.target≤max s.s0 s.s1
     · have hm1:decide (g.target≤max s.s0 s.s1)=true:=decide_eq_true hm
       have HM:=hide (show Sk.dM g s e.x v=(zD s s.aP (Sk.leader (sS s s.aP))) by rw [ig,HK.out,if_pos hm];rfl);have qX:=hide hm;clear hm
       go_wp2_with (first | ((with_reducible (refine ah 26 (.tmp 5) ?lx ?_));(case lx=>rfl);refine au (hB3.get 1 rfl) Tryz.underlying26 rfl ak rfl (.tmp 5) rfl rfl ?_) | (go_at_call 173;refine (gU ((sS s s.aP)) _).mono ?_;rintro e1 w5 ⟨rfl,hb5⟩;have iP:=hB3.call (by simp) hb5;have h12:=(iP.get 1 rfl).cell (j:=12) rfl;have Ef:=(iP.get 1 rfl).frozen 12;have hE:aJ w (w5.setCell ⟨w.heap.size+1,12,none⟩ (.int .i64 (Sk.leader ((sS s s.aP))))) [(bT g,23),(aO (zD s s.aP (Sk.leader (sS s s.aP))),26),(dU e,83),(fG v,78),(aO Sk.zero,26),(aO {Sk.zero with turn:=0 },26)]:=iP.set 1 rfl 12 _) | ((with_reducible (refine ah 26 (.tmp 5) ?lx ?_));(case lx=>rfl);refine au (hE.get 1 rfl) Tryz.underlying26 rfl ak rfl (.tmp 5) rfl rfl ?_) | ((with_reducible (refine aH 26 (.tmp 8) (.tmp 49) ?lx ?_));(case lx=>rfl);refine aC (hE.get 4 rfl) (aO ((zD s s.aP (Sk.leader (sS s s.aP))))) rfl ak (bH _) rfl (.tmp 8) (.tmp 49) rfl rfl rfl ?_))
       all_goals first | (exfalso;have:=qX.out;omega) | skip
       all_goals
        have hZ:=hE.put 4 rfl (aO ((zD s s.aP (Sk.leader (sS s s.aP))))) rfl;refine bodyPost_ret (aX (p:=8) (hZ.get 4 rfl) Tryz.underlying26 rfl ak rfl _ rfl) rfl ⟨?_,hZ.bw⟩;rw [HM.out];rfl
     · have hm1:decide (g.target≤max s.s0 s.s1)=false:=decide_eq_false hm
       have HM:=hide (show Sk.dM g s e.x v=(sS s s.aP) by rw [ig,HK.out,if_neg hm];rfl);have qX:=hide hm;clear hm
       go_wp2_with (first | ((with_reducible (refine ah 26 (.tmp 5) ?lx ?_));(case lx=>rfl);refine au (hB3.get 1 rfl) Tryz.underlying26 rfl ak rfl (.tmp 5) rfl rfl ?_) | ((with_reducible (refine aH 26 (.tmp 8) (.tmp 49) ?lx ?_));(case lx=>rfl);refine aC (hB3.get 4 rfl) (aO ((sS s s.aP))) rfl ak (bH _) rfl (.tmp 8) (.tmp 49) rfl rfl rfl ?_))
       all_goals first | (exfalso;have:=qX.out;omega) | skip
       all_goals
        have hZ:=hB3.put 4 rfl (aO ((sS s s.aP))) rfl;refine bodyPost_ret (aX (p:=8) (hZ.get 4 rfl) Tryz.underlying26 rfl ak rfl _ rfl) rfl ⟨?_,hZ.bw⟩;rw [HM.out];rfl
def Vf (s:Sk.State):Sk.State:=⟨s.turn,s.s0,s.s1,s.brk,s.phase,s.bI,s.colour,s.free,s.aT,s.aP,s.t0+1,s.t1,s.aB⟩
def cT1 (s:Sk.State):Sk.State:=⟨s.turn,s.s0,s.s1,s.brk,s.phase,s.bI,s.colour,s.free,s.aT,s.aP,s.t0,s.t1+1,s.aB⟩
def cW (s:Sk.State) (wi:Int):Sk.State:=⟨s.turn,s.s0,s.s1,s.brk,s.phase,s.bI,s.colour,s.free,s.aT,s.aP,s.t0,s.t1,wi⟩
theorem zO (g:Sk.Game) (s:Sk.State) (e:En) (v:Sk.fF) (w:World) (ht:s.turn=0∨s.turn=1) (hb0:0≤s.t0∧s.t0≤100) (hb1':0≤s.t1∧s.t1≤100):Calls Tryz.prog 121 #[lZ g,kW s,wF e,RH v] w fun e_ w'=>e_= .returned (kW (Sk.dR g s v))∧Below w.heap.size w w':=by
 go_enter Tryz.func121,Tryz.ntmps121
 go_upto_region 0 with (fail)
 go_cut [4,5,6,7,8] (fun v4 v5 v6 v7 v8 wx=>v4=ptr w.heap.size∧v5=ptr (w.heap.size+1)∧v6=ptr (w.heap.size+2)∧v7=ptr (w.heap.size+3)∧v8=ptr (w.heap.size+4)∧aJ w wx [(bT g,23),(aO s,26),(dU e,83),(fG v,78),(aO Sk.zero,26)])
 case first=>
  go_wp2;go_meet;exact ⟨rfl,rfl,rfl,rfl,rfl,((((((aJ.nil w).new (by simp) (bT g) _).new (by simp) (aO s) _).new (by simp) (dU e) _).new (by simp) (fG v) _).new (by simp) (aO Sk.zero) _)⟩
 case rest=>
  obtain ⟨rfl,rfl,rfl,rfl,rfl,hB⟩:=hcut;have k0:=(hB.get 1 rfl).cell (j:=0) rfl;have u3:=(hB.get 3 rfl).cell (j:=3) rfl;have uf3:=(hB.get 3 rfl).frozen 3
  rcases ht with ht | ht
  all_goals
   have ht':=ht;rw [ht] at k0
   rcases Bool.eq_false_or_eq_true v.stays with hst | hst
   all_goals
    have hst':=hst;rw [hst] at u3
  · have z1:_=some (Value.int .i64 s.s0):=(hB.get 1 rfl).cell (j:=1) rfl
    have U2:=(hB.get 1 rfl).frozen 1;have z2:_=some (Value.int .i64 s.s1):=(hB.get 1 rfl).cell (j:=2) rfl;have U3:=(hB.get 1 rfl).frozen 2;have z10:_=some (Value.int .i64 s.t0):=(hB.get 1 rfl).cell (j:=10) rfl;have ES:=(hB.get 1 rfl).frozen 10;have z11:_=some (Value.int .i64 s.t1):=(hB.get 1 rfl).cell (j:=11) rfl;have ET:=(hB.get 1 rfl).frozen 11;have g2:_=some (Value.int .i64 g.target):=(hB.aA rfl).cell (j:=2) rfl;have Tj:=(hB.aA rfl).frozen 2;have g3:_=some (Value.int .i64 g.turns):=(hB.aA rfl).cell (j:=3) rfl;have Tm:=(hB.aA rfl).frozen 3
    go_upto_region 4 with (fail)
    by_cases hl:s.s0<g.target
    · have hl1:decide (s.s0<g.target)=true:=decide_eq_true hl
      have HM:=hide (show Sk.dR g s v=s by unfold Sk.dR;rw [if_neg (by rw [hst'];decide),if_pos (by unfold Sk.score;rw [if_pos ht'];exact hl)]);clear hl
      go_quiet (fail)
      have hB:=hB.drewN nq
      go_wp2_with (first | ((with_reducible (refine ah 26 (.tmp 5) ?lx ?_));(case lx=>rfl);refine au (hB.get 1 rfl) Tryz.underlying26 rfl ak rfl (.tmp 5) rfl rfl ?_) | ((with_reducible (refine aH 26 (.tmp 8) (.tmp 24) ?lx ?_));(case lx=>rfl);refine aC (hB.get 4 rfl) (aO s) rfl ak (bH _) rfl (.tmp 8) (.tmp 24) rfl rfl rfl ?_))
      all_goals
       have hZ:=hB.put 4 rfl (aO s) rfl
      refine bodyPost_ret (aX (p:=8) (hZ.get 4 rfl) Tryz.underlying26 rfl ak rfl _ rfl) rfl ⟨?_,hZ.bw⟩;rw [HM.out];rfl
    · have hl1:decide (s.s0<g.target)=false:=decide_eq_false hl
      have hl':=hl;have HL:=hide hl;clear hl
      go_quiet (fail)
      have hB:=hB.drewN nq;clear z1 U2 z2 U3 z10 ES z11 ET g2 Tj g3 Tm;have HM:=hide (show Sk.dR g s v=(Vf (Sk.pass s)) by unfold Sk.dR;rw [if_neg (by rw [hst'];decide),if_neg (by unfold Sk.score;rw [if_pos ht'];exact HL.out),ht'];rfl)
      go_wp2_with (first | ((with_reducible (refine ah 26 (.tmp 5) ?lx ?_));(case lx=>rfl);refine au (hB3.get 1 rfl) Tryz.underlying26 rfl ak rfl (.tmp 5) rfl rfl ?_) | ((with_reducible (refine ah 26 (.tmp 5) ?lx ?_));(case lx=>rfl);refine au (hB.get 1 rfl) Tryz.underlying26 rfl ak rfl (.tmp 5) rfl rfl ?_) | (go_at_call 140;refine (nK s (by omega) _).mono ?_;rintro e1 w1 ⟨rfl,hb1⟩;have lV:=hB.call (by simp) hb1;have hB2:=lV.put 1 rfl (aO (Sk.pass s)) rfl) | ((with_reducible (refine aH 26 (.tmp 5) (.tmp 26) ?lx ?_));(case lx=>rfl);refine aC (lV.get 1 rfl) (aO (Sk.pass s)) rfl ak (bH _) rfl (.tmp 5) (.tmp 26) rfl rfl rfl ?_;obtain ⟨W2,hW2⟩:∃ W2,w1.setCells (w.heap.size+1) 0 (aO (Sk.pass s))=W2:=⟨_,rfl⟩;rw [hW2];rw [hW2] at hB2;have z1:_=some (Value.int .i64 s.s0):=(hB2.get 1 rfl).cell (j:=1) rfl;have U2:=(hB2.get 1 rfl).frozen 1;have z2:_=some (Value.int .i64 s.s1):=(hB2.get 1 rfl).cell (j:=2) rfl;have U3:=(hB2.get 1 rfl).frozen 2;have z10:_=some (Value.int .i64 s.t0):=(hB2.get 1 rfl).cell (j:=10) rfl;have ES:=(hB2.get 1 rfl).frozen 10;have z11:_=some (Value.int .i64 s.t1):=(hB2.get 1 rfl).cell (j:=11) rfl;have ET:=(hB2.get 1 rfl).frozen 11;have g2:_=some (Value.int .i64 g.target):=(hB2.aA rfl).cell (j:=2) rfl;have Tj:=(hB2.aA rfl).frozen 2;have g3:_=some (Value.int .i64 g.turns):=(hB2.aA rfl).cell (j:=3) rfl;have Tm:=(hB2.aA rfl).frozen 3;have hB3:aJ w (W2.setCell ⟨w.heap.size+1,10,none⟩ (.int .i64 (s.t0+1))) [(bT g,23),(aO (Vf (Sk.pass s)),26),(dU e,83),(fG v,78),(aO Sk.zero,26)]:=hB2.set 1 rfl 10 _;clear hW2) | ((with_reducible (refine aH 26 (.tmp 8) (.tmp 59) ?lx ?_));(case lx=>rfl);refine aC (hB3.get 4 rfl) (aO (Vf (Sk.pass s))) rfl ak (bH _) rfl (.tmp 8) (.tmp 59) rfl rfl rfl ?_))
      all_goals
       have hZ:=hB3.put 4 rfl (aO (Vf (Sk.pass s))) rfl;refine bodyPost_ret (aX (p:=8) (hZ.get 4 rfl) Tryz.underlying26 rfl ak rfl _ rfl) rfl ⟨?_,hZ.bw⟩;rw [HM.out];rfl
  · have z1:_=some (Value.int .i64 s.s0):=(hB.get 1 rfl).cell (j:=1) rfl
    have U2:=(hB.get 1 rfl).frozen 1;have z2:_=some (Value.int .i64 s.s1):=(hB.get 1 rfl).cell (j:=2) rfl;have U3:=(hB.get 1 rfl).frozen 2;have z10:_=some (Value.int .i64 s.t0):=(hB.get 1 rfl).cell (j:=10) rfl;have ES:=(hB.get 1 rfl).frozen 10;have z11:_=some (Value.int .i64 s.t1):=(hB.get 1 rfl).cell (j:=11) rfl;have ET:=(hB.get 1 rfl).frozen 11;have g2:_=some (Value.int .i64 g.target):=(hB.aA rfl).cell (j:=2) rfl;have Tj:=(hB.aA rfl).frozen 2;have g3:_=some (Value.int .i64 g.turns):=(hB.aA rfl).cell (j:=3) rfl;have Tm:=(hB.aA rfl).frozen 3;have hB3:aJ w (wc.setCell ⟨w.heap.size+1,11,none⟩ (.int .i64 (s.t1+1))) [(bT g,23),(aO (cT1 s),26),(dU e,83),(fG v,78),(aO Sk.zero,26)]:=hB.set 1 rfl 11 _
    by_cases hm:g.target≤max s.s0 s.s1
    · have hm1:decide (g.target≤max s.s0 s.s1)=true:=decide_eq_true hm
      have HM:=hide (show Sk.dR g s v=(cW (cT1 s) (Sk.leader (cT1 s))) by unfold Sk.dR;rw [if_pos hst',ht'];unfold Sk.jE;rw [if_pos ⟨rfl,.inl hm⟩];rfl);have qX:=hide (And.intro hm trivial);clear hm
      go_wp2_with (first | ((with_reducible (refine ah 26 (.tmp 5) ?lx ?_));(case lx=>rfl);refine au (hE.get 1 rfl) Tryz.underlying26 rfl ak rfl (.tmp 5) rfl rfl ?_) | ((with_reducible (refine ah 26 (.tmp 5) ?lx ?_));(case lx=>rfl);refine au (hB3.get 1 rfl) Tryz.underlying26 rfl ak rfl (.tmp 5) rfl rfl ?_) | (go_at_call 173;refine (gU (cT1 s) _).mono ?_;rintro e1 w5 ⟨rfl,hb5⟩;have iP:=hB3.call (by simp) hb5;have h12:=(iP.get 1 rfl).cell (j:=12) rfl;have Ef:=(iP.get 1 rfl).frozen 12;have hE:aJ w (w5.setCell ⟨w.heap.size+1,12,none⟩ (.int .i64 (Sk.leader (cT1 s)))) [(bT g,23),(aO (cW (cT1 s) (Sk.leader (cT1 s))),26),(dU e,83),(fG v,78),(aO Sk.zero,26)]:=iP.set 1 rfl 12 _) | ((with_reducible (refine aH 26 (.tmp 8) (.tmp 59) ?lx ?_));(case lx=>rfl);refine aC (hE.get 4 rfl) (aO (cW (cT1 s) (Sk.leader (cT1 s)))) rfl ak (bH _) rfl (.tmp 8) (.tmp 59) rfl rfl rfl ?_))
      all_goals first | (exfalso;have:=qX.out.1;omega) | skip
      all_goals
       have hZ:=hE.put 4 rfl (aO (cW (cT1 s) (Sk.leader (cT1 s)))) rfl;refine bodyPost_ret (aX (p:=8) (hZ.get 4 rfl) Tryz.underlying26 rfl ak rfl _ rfl) rfl ⟨?_,hZ.bw⟩;rw [HM.out];rfl
    · have hm1:decide (g.target≤max s.s0 s.s1)=false:=decide_eq_false hm
      by_cases hq:s.t1+1=g.turns
      · have hq1:(s.t1+1 == g.turns)=true:=by simp [hq]
        have HM:=hide (show Sk.dR g s v=(cW (cT1 s) (Sk.leader (cT1 s))) by unfold Sk.dR;rw [if_pos hst',ht'];unfold Sk.jE;rw [if_pos ⟨rfl,.inr hq⟩];rfl);have qX:=hide (And.intro hm trivial);clear hm hq
        go_wp2_with (first | ((with_reducible (refine ah 26 (.tmp 5) ?lx ?_));(case lx=>rfl);refine au (hE.get 1 rfl) Tryz.underlying26 rfl ak rfl (.tmp 5) rfl rfl ?_) | ((with_reducible (refine ah 26 (.tmp 5) ?lx ?_));(case lx=>rfl);refine au (hB3.get 1 rfl) Tryz.underlying26 rfl ak rfl (.tmp 5) rfl rfl ?_) | (go_at_call 173;refine (gU (cT1 s) _).mono ?_;rintro e1 w5 ⟨rfl,hb5⟩;have iP:=hB3.call (by simp) hb5;have h12:=(iP.get 1 rfl).cell (j:=12) rfl;have Ef:=(iP.get 1 rfl).frozen 12;have hE:aJ w (w5.setCell ⟨w.heap.size+1,12,none⟩ (.int .i64 (Sk.leader (cT1 s)))) [(bT g,23),(aO (cW (cT1 s) (Sk.leader (cT1 s))),26),(dU e,83),(fG v,78),(aO Sk.zero,26)]:=iP.set 1 rfl 12 _) | ((with_reducible (refine aH 26 (.tmp 8) (.tmp 59) ?lx ?_));(case lx=>rfl);refine aC (hE.get 4 rfl) (aO (cW (cT1 s) (Sk.leader (cT1 s)))) rfl ak (bH _) rfl (.tmp 8) (.tmp 59) rfl rfl rfl ?_))
        all_goals first | (exfalso;have:=qX.out.1;omega) | skip
        all_goals
         have hZ:=hE.put 4 rfl (aO (cW (cT1 s) (Sk.leader (cT1 s)))) rfl;refine bodyPost_ret (aX (p:=8) (hZ.get 4 rfl) Tryz.underlying26 rfl ak rfl _ rfl) rfl ⟨?_,hZ.bw⟩;rw [HM.out];rfl
      · have hq1:(s.t1+1 == g.turns)=false:=by simp [hq]
        have HM:=hide (show Sk.dR g s v=(cT1 s) by unfold Sk.dR;rw [if_pos hst',ht'];unfold Sk.jE;rw [if_neg (by rintro ⟨_,h | h⟩;exact hm h;exact hq h)];rfl);have qX:=hide (And.intro hm trivial);clear hm hq
        go_wp2_with (first | ((with_reducible (refine ah 26 (.tmp 5) ?lx ?_));(case lx=>rfl);refine au (hB3.get 1 rfl) Tryz.underlying26 rfl ak rfl (.tmp 5) rfl rfl ?_) | ((with_reducible (refine aH 26 (.tmp 8) (.tmp 59) ?lx ?_));(case lx=>rfl);refine aC (hB3.get 4 rfl) (aO (cT1 s)) rfl ak (bH _) rfl (.tmp 8) (.tmp 59) rfl rfl rfl ?_))
        all_goals first | (exfalso;have:=qX.out.1;omega) | skip
        all_goals
         have hZ:=hB3.put 4 rfl (aO (cT1 s)) rfl;refine bodyPost_ret (aX (p:=8) (hZ.get 4 rfl) Tryz.underlying26 rfl ak rfl _ rfl) rfl ⟨?_,hZ.bw⟩;rw [HM.out];rfl
  · have z1:_=some (Value.int .i64 s.s0):=(hB.get 1 rfl).cell (j:=1) rfl
    have U2:=(hB.get 1 rfl).frozen 1;have z2:_=some (Value.int .i64 s.s1):=(hB.get 1 rfl).cell (j:=2) rfl;have U3:=(hB.get 1 rfl).frozen 2;have z10:_=some (Value.int .i64 s.t0):=(hB.get 1 rfl).cell (j:=10) rfl;have ES:=(hB.get 1 rfl).frozen 10;have z11:_=some (Value.int .i64 s.t1):=(hB.get 1 rfl).cell (j:=11) rfl;have ET:=(hB.get 1 rfl).frozen 11;have g2:_=some (Value.int .i64 g.target):=(hB.aA rfl).cell (j:=2) rfl;have Tj:=(hB.aA rfl).frozen 2;have g3:_=some (Value.int .i64 g.turns):=(hB.aA rfl).cell (j:=3) rfl;have Tm:=(hB.aA rfl).frozen 3
    go_upto_region 4 with (fail)
    by_cases hl:s.s1<g.target
    · have hl1:decide (s.s1<g.target)=true:=decide_eq_true hl
      have HM:=hide (show Sk.dR g s v=s by unfold Sk.dR;rw [if_neg (by rw [hst'];decide),if_pos (by unfold Sk.score;rw [if_neg (by rw [ht'];decide)];exact hl)]);clear hl
      go_quiet (fail)
      have hB:=hB.drewN nq
      go_wp2_with (first | ((with_reducible (refine ah 26 (.tmp 5) ?lx ?_));(case lx=>rfl);refine au (hB.get 1 rfl) Tryz.underlying26 rfl ak rfl (.tmp 5) rfl rfl ?_) | ((with_reducible (refine aH 26 (.tmp 8) (.tmp 24) ?lx ?_));(case lx=>rfl);refine aC (hB.get 4 rfl) (aO s) rfl ak (bH _) rfl (.tmp 8) (.tmp 24) rfl rfl rfl ?_))
      all_goals
       have hZ:=hB.put 4 rfl (aO s) rfl
      refine bodyPost_ret (aX (p:=8) (hZ.get 4 rfl) Tryz.underlying26 rfl ak rfl _ rfl) rfl ⟨?_,hZ.bw⟩;rw [HM.out];rfl
    · have hl1:decide (s.s1<g.target)=false:=decide_eq_false hl
      have hl':=hl;have HL:=hide hl;clear hl
      go_quiet (fail)
      have hB:=hB.drewN nq;clear z1 U2 z2 U3 z10 ES z11 ET g2 Tj g3 Tm
      by_cases hm:g.target≤max s.s0 s.s1
      · have hm1:decide (g.target≤max s.s0 s.s1)=true:=decide_eq_true hm
        have HM:=hide (show Sk.dR g s v=(cW (cT1 (Sk.pass s)) (Sk.leader (cT1 (Sk.pass s)))) by unfold Sk.dR;rw [if_neg (by rw [hst'];decide),if_neg (by unfold Sk.score;rw [if_neg (by rw [ht'];decide)];exact HL.out),ht'];unfold Sk.jE;rw [if_pos ⟨rfl,.inl hm⟩];rfl);have qX:=hide (And.intro hm trivial);clear hm
        go_wp2_with (first | ((with_reducible (refine ah 26 (.tmp 5) ?lx ?_));(case lx=>rfl);refine au (hE.get 1 rfl) Tryz.underlying26 rfl ak rfl (.tmp 5) rfl rfl ?_) | ((with_reducible (refine ah 26 (.tmp 5) ?lx ?_));(case lx=>rfl);refine au (hB3.get 1 rfl) Tryz.underlying26 rfl ak rfl (.tmp 5) rfl rfl ?_) | ((with_reducible (refine ah 26 (.tmp 5) ?lx ?_));(case lx=>rfl);refine au (hB.get 1 rfl) Tryz.underlying26 rfl ak rfl (.tmp 5) rfl rfl ?_) | (go_at_call 140;refine (nK s (by omega) _).mono ?_;rintro e1 w1 ⟨rfl,hb1⟩;have lV:=hB.call (by simp) hb1;have hB2:=lV.put 1 rfl (aO (Sk.pass s)) rfl) | ((with_reducible (refine aH 26 (.tmp 5) (.tmp 26) ?lx ?_));(case lx=>rfl);refine aC (lV.get 1 rfl) (aO (Sk.pass s)) rfl ak (bH _) rfl (.tmp 5) (.tmp 26) rfl rfl rfl ?_;obtain ⟨W2,hW2⟩:∃ W2,w1.setCells (w.heap.size+1) 0 (aO (Sk.pass s))=W2:=⟨_,rfl⟩;rw [hW2];rw [hW2] at hB2;have z1:_=some (Value.int .i64 s.s0):=(hB2.get 1 rfl).cell (j:=1) rfl;have U2:=(hB2.get 1 rfl).frozen 1;have z2:_=some (Value.int .i64 s.s1):=(hB2.get 1 rfl).cell (j:=2) rfl;have U3:=(hB2.get 1 rfl).frozen 2;have z10:_=some (Value.int .i64 s.t0):=(hB2.get 1 rfl).cell (j:=10) rfl;have ES:=(hB2.get 1 rfl).frozen 10;have z11:_=some (Value.int .i64 s.t1):=(hB2.get 1 rfl).cell (j:=11) rfl;have ET:=(hB2.get 1 rfl).frozen 11;have g2:_=some (Value.int .i64 g.target):=(hB2.aA rfl).cell (j:=2) rfl;have Tj:=(hB2.aA rfl).frozen 2;have g3:_=some (Value.int .i64 g.turns):=(hB2.aA rfl).cell (j:=3) rfl;have Tm:=(hB2.aA rfl).frozen 3;have hB3:aJ w (W2.setCell ⟨w.heap.size+1,11,none⟩ (.int .i64 (s.t1+1))) [(bT g,23),(aO (cT1 (Sk.pass s)),26),(dU e,83),(fG v,78),(aO Sk.zero,26)]:=hB2.set 1 rfl 11 _;clear hW2) | (go_at_call 173;refine (gU (cT1 (Sk.pass s)) _).mono ?_;rintro e1 w5 ⟨rfl,hb5⟩;have iP:=hB3.call (by simp) hb5;have h12:=(iP.get 1 rfl).cell (j:=12) rfl;have Ef:=(iP.get 1 rfl).frozen 12;have hE:aJ w (w5.setCell ⟨w.heap.size+1,12,none⟩ (.int .i64 (Sk.leader (cT1 (Sk.pass s))))) [(bT g,23),(aO (cW (cT1 (Sk.pass s)) (Sk.leader (cT1 (Sk.pass s)))),26),(dU e,83),(fG v,78),(aO Sk.zero,26)]:=iP.set 1 rfl 12 _) | ((with_reducible (refine aH 26 (.tmp 8) (.tmp 59) ?lx ?_));(case lx=>rfl);refine aC (hE.get 4 rfl) (aO (cW (cT1 (Sk.pass s)) (Sk.leader (cT1 (Sk.pass s))))) rfl ak (bH _) rfl (.tmp 8) (.tmp 59) rfl rfl rfl ?_))
        all_goals first | (exfalso;have:=qX.out.1;omega) | skip
        all_goals
         have hZ:=hE.put 4 rfl (aO (cW (cT1 (Sk.pass s)) (Sk.leader (cT1 (Sk.pass s))))) rfl;refine bodyPost_ret (aX (p:=8) (hZ.get 4 rfl) Tryz.underlying26 rfl ak rfl _ rfl) rfl ⟨?_,hZ.bw⟩;rw [HM.out];rfl
      · have hm1:decide (g.target≤max s.s0 s.s1)=false:=decide_eq_false hm
        by_cases hq:s.t1+1=g.turns
        · have hq1:(s.t1+1 == g.turns)=true:=by simp [hq]
          have HM:=hide (show Sk.dR g s v=(cW (cT1 (Sk.pass s)) (Sk.leader (cT1 (Sk.pass s)))) by unfold Sk.dR;rw [if_neg (by rw [hst'];decide),if_neg (by unfold Sk.score;rw [if_neg (by rw [ht'];decide)];exact HL.out),ht'];unfold Sk.jE;rw [if_pos ⟨rfl,.inr hq⟩];rfl);have qX:=hide (And.intro hm trivial);clear hm hq
          go_wp2_with (first | ((with_reducible (refine ah 26 (.tmp 5) ?lx ?_));(case lx=>rfl);refine au (hE.get 1 rfl) Tryz.underlying26 rfl ak rfl (.tmp 5) rfl rfl ?_) | ((with_reducible (refine ah 26 (.tmp 5) ?lx ?_));(case lx=>rfl);refine au (hB3.get 1 rfl) Tryz.underlying26 rfl ak rfl (.tmp 5) rfl rfl ?_) | ((with_reducible (refine ah 26 (.tmp 5) ?lx ?_));(case lx=>rfl);refine au (hB.get 1 rfl) Tryz.underlying26 rfl ak rfl (.tmp 5) rfl rfl ?_) | (go_at_call 140;refine (nK s (by omega) _).mono ?_;rintro e1 w1 ⟨rfl,hb1⟩;have lV:=hB.call (by simp) hb1;have hB2:=lV.put 1 rfl (aO (Sk.pass s)) rfl) | ((with_reducible (refine aH 26 (.tmp 5) (.tmp 26) ?lx ?_));(case lx=>rfl);refine aC (lV.get 1 rfl) (aO (Sk.pass s)) rfl ak (bH _) rfl (.tmp 5) (.tmp 26) rfl rfl rfl ?_;obtain ⟨W2,hW2⟩:∃ W2,w1.setCells (w.heap.size+1) 0 (aO (Sk.pass s))=W2:=⟨_,rfl⟩;rw [hW2];rw [hW2] at hB2;have z1:_=some (Value.int .i64 s.s0):=(hB2.get 1 rfl).cell (j:=1) rfl;have U2:=(hB2.get 1 rfl).frozen 1;have z2:_=some (Value.int .i64 s.s1):=(hB2.get 1 rfl).cell (j:=2) rfl;have U3:=(hB2.get 1 rfl).frozen 2;have z10:_=some (Value.int .i64 s.t0):=(hB2.get 1 rfl).cell (j:=10) rfl;have ES:=(hB2.get 1 rfl).frozen 10;have z11:_=some (Value.int .i64 s.t1):=(hB2.get 1 rfl).cell (j:=11) rfl;have ET:=(hB2.get 1 rfl).frozen 11;have g2:_=some (Value.int .i64 g.target):=(hB2.aA rfl).cell (j:=2) rfl;have Tj:=(hB2.aA rfl).frozen 2;have g3:_=some (Value.int .i64 g.turns):=(hB2.aA rfl).cell (j:=3) rfl;have Tm:=(hB2.aA rfl).frozen 3;have hB3:aJ w (W2.setCell ⟨w.heap.size+1,11,none⟩ (.int .i64 (s.t1+1))) [(bT g,23),(aO (cT1 (Sk.pass s)),26),(dU e,83),(fG v,78),(aO Sk.zero,26)]:=hB2.set 1 rfl 11 _;clear hW2) | (go_at_call 173;refine (gU (cT1 (Sk.pass s)) _).mono ?_;rintro e1 w5 ⟨rfl,hb5⟩;have iP:=hB3.call (by simp) hb5;have h12:=(iP.get 1 rfl).cell (j:=12) rfl;have Ef:=(iP.get 1 rfl).frozen 12;have hE:aJ w (w5.setCell ⟨w.heap.size+1,12,none⟩ (.int .i64 (Sk.leader (cT1 (Sk.pass s))))) [(bT g,23),(aO (cW (cT1 (Sk.pass s)) (Sk.leader (cT1 (Sk.pass s)))),26),(dU e,83),(fG v,78),(aO Sk.zero,26)]:=iP.set 1 rfl 12 _) | ((with_reducible (refine aH 26 (.tmp 8) (.tmp 59) ?lx ?_));(case lx=>rfl);refine aC (hE.get 4 rfl) (aO (cW (cT1 (Sk.pass s)) (Sk.leader (cT1 (Sk.pass s))))) rfl ak (bH _) rfl (.tmp 8) (.tmp 59) rfl rfl rfl ?_))
          all_goals first | (exfalso;have:=qX.out.1;omega) | skip
          all_goals
           have hZ:=hE.put 4 rfl (aO (cW (cT1 (Sk.pass s)) (Sk.leader (cT1 (Sk.pass s))))) rfl;refine bodyPost_ret (aX (p:=8) (hZ.get 4 rfl) Tryz.underlying26 rfl ak rfl _ rfl) rfl ⟨?_,hZ.bw⟩;rw [HM.out];rfl
        · have hq1:(s.t1+1 == g.turns)=false:=by simp [hq]
          have HM:=hide (show Sk.dR g s v=(cT1 (Sk.pass s)) by unfold Sk.dR;rw [if_neg (by rw [hst'];decide),if_neg (by unfold Sk.score;rw [if_neg (by rw [ht'];decide)];exact HL.out),ht'];unfold Sk.jE;rw [if_neg (by rintro ⟨_,h | h⟩;exact hm h;exact hq h)];rfl);have qX:=hide (And.intro hm trivial);clear hm hq
          go_wp2_with (first | ((with_reducible (refine ah 26 (.tmp 5) ?lx ?_));(case lx=>rfl);refine au (hB3.get 1 rfl) Tryz.underlying26 rfl ak rfl (.tmp 5) rfl rfl ?_) | ((with_reducible (refine ah 26 (.tmp 5) ?lx ?_));(case lx=>rfl);refine au (hB.get 1 rfl) Tryz.underlying26 rfl ak rfl (.tmp 5) rfl rfl ?_) | (go_at_call 140;refine (nK s (by omega) _).mono ?_;rintro e1 w1 ⟨rfl,hb1⟩;have lV:=hB.call (by simp) hb1;have hB2:=lV.put 1 rfl (aO (Sk.pass s)) rfl) | ((with_reducible (refine aH 26 (.tmp 5) (.tmp 26) ?lx ?_));(case lx=>rfl);refine aC (lV.get 1 rfl) (aO (Sk.pass s)) rfl ak (bH _) rfl (.tmp 5) (.tmp 26) rfl rfl rfl ?_;obtain ⟨W2,hW2⟩:∃ W2,w1.setCells (w.heap.size+1) 0 (aO (Sk.pass s))=W2:=⟨_,rfl⟩;rw [hW2];rw [hW2] at hB2;have z1:_=some (Value.int .i64 s.s0):=(hB2.get 1 rfl).cell (j:=1) rfl;have U2:=(hB2.get 1 rfl).frozen 1;have z2:_=some (Value.int .i64 s.s1):=(hB2.get 1 rfl).cell (j:=2) rfl;have U3:=(hB2.get 1 rfl).frozen 2;have z10:_=some (Value.int .i64 s.t0):=(hB2.get 1 rfl).cell (j:=10) rfl;have ES:=(hB2.get 1 rfl).frozen 10;have z11:_=some (Value.int .i64 s.t1):=(hB2.get 1 rfl).cell (j:=11) rfl;have ET:=(hB2.get 1 rfl).frozen 11;have g2:_=some (Value.int .i64 g.target):=(hB2.aA rfl).cell (j:=2) rfl;have Tj:=(hB2.aA rfl).frozen 2;have g3:_=some (Value.int .i64 g.turns):=(hB2.aA rfl).cell (j:=3) rfl;have Tm:=(hB2.aA rfl).frozen 3;have hB3:aJ w (W2.setCell ⟨w.heap.size+1,11,none⟩ (.int .i64 (s.t1+1))) [(bT g,23),(aO (cT1 (Sk.pass s)),26),(dU e,83),(fG v,78),(aO Sk.zero,26)]:=hB2.set 1 rfl 11 _;clear hW2) | ((with_reducible (refine aH 26 (.tmp 8) (.tmp 59) ?lx ?_));(case lx=>rfl);refine aC (hB3.get 4 rfl) (aO (cT1 (Sk.pass s))) rfl ak (bH _) rfl (.tmp 8) (.tmp 59) rfl rfl rfl ?_))
          all_goals first | (exfalso;have:=qX.out.1;omega) | skip
          all_goals
           have hZ:=hB3.put 4 rfl (aO (cT1 (Sk.pass s))) rfl;refine bodyPost_ret (aX (p:=8) (hZ.get 4 rfl) Tryz.underlying26 rfl ak rfl _ rfl) rfl ⟨?_,hZ.bw⟩;rw [HM.out];rfl
  · have z1:_=some (Value.int .i64 s.s0):=(hB.get 1 rfl).cell (j:=1) rfl
    have U2:=(hB.get 1 rfl).frozen 1;have z2:_=some (Value.int .i64 s.s1):=(hB.get 1 rfl).cell (j:=2) rfl;have U3:=(hB.get 1 rfl).frozen 2;have z10:_=some (Value.int .i64 s.t0):=(hB.get 1 rfl).cell (j:=10) rfl;have ES:=(hB.get 1 rfl).frozen 10;have z11:_=some (Value.int .i64 s.t1):=(hB.get 1 rfl).cell (j:=11) rfl;have ET:=(hB.get 1 rfl).frozen 11;have g2:_=some (Value.int .i64 g.target):=(hB.aA rfl).cell (j:=2) rfl;have Tj:=(hB.aA rfl).frozen 2;have g3:_=some (Value.int .i64 g.turns):=(hB.aA rfl).cell (j:=3) rfl;have Tm:=(hB.aA rfl).frozen 3;have hB3:aJ w (wc.setCell ⟨w.heap.size+1,10,none⟩ (.int .i64 (s.t0+1))) [(bT g,23),(aO (Vf s),26),(dU e,83),(fG v,78),(aO Sk.zero,26)]:=hB.set 1 rfl 10 _;have HM:=hide (show Sk.dR g s v=(Vf s) by unfold Sk.dR;rw [if_pos hst',ht'];rfl)
    go_wp2_with (first | ((with_reducible (refine ah 26 (.tmp 5) ?lx ?_));(case lx=>rfl);refine au (hB3.get 1 rfl) Tryz.underlying26 rfl ak rfl (.tmp 5) rfl rfl ?_) | ((with_reducible (refine aH 26 (.tmp 8) (.tmp 59) ?lx ?_));(case lx=>rfl);refine aC (hB3.get 4 rfl) (aO (Vf s)) rfl ak (bH _) rfl (.tmp 8) (.tmp 59) rfl rfl rfl ?_))
    all_goals
     have hZ:=hB3.put 4 rfl (aO (Vf s)) rfl;refine bodyPost_ret (aX (p:=8) (hZ.get 4 rfl) Tryz.underlying26 rfl ak rfl _ rfl) rfl ⟨?_,hZ.bw⟩;rw [HM.out];rfl
theorem JM {l m:List ByteArray} {k:Nat} (hk:k<m.length):Sk.twice l (m.drop k)=decide (1<Sk.count l m[k]∨Sk.twice l (m.drop (k+1))=true):=by
 rw [List.drop_eq_getElem_cons hk,Sk.twice]
theorem wQ (S:Nat→Prop) (s:Sk.State) (e:En) (w:World) (ht:s.turn=0∨s.turn=1) (he:iW w S e):Calls Tryz.prog 115 #[kW s,wF e] w fun e_ w'=>e_= .returned (.bool (Sk.qJ s e.x))∧Below w.heap.size w w':=by
 go_enter Tryz.func115,Tryz.ntmps115
 go_upto_region 0 with (fail)
 go_cut [2,3,4] (fun v2 v3 v4 wx=>v2=ptr w.heap.size∧v3=ptr (w.heap.size+1)∧v4= .bool false∧aJ w wx [(aO s,26),(dU e,83)])
 case first=>
  go_wp2;go_meet;exact ⟨rfl,rfl,rfl,(((aJ.nil w).new (by simp) (aO s) _).new (by simp) (dU e) _)⟩
 case rest=>
  obtain ⟨rfl,rfl,rfl,hB⟩:=hcut;have hB0:=hB.alloc (by simp) (.cells ([Sk.bQ,Sk.cu,Sk.dw].map Value.string).toArray 9);have hr3:lT (wc.alloc (.cells ([Sk.bQ,Sk.cu,Sk.dw].map Value.string).toArray 9)) (fun _=>True) (some ⟨wc.heap.size,0,none⟩) 3 [Sk.bQ,Sk.cu,Sk.dw]:=lT.lit wc 9 [Sk.bQ,Sk.cu,Sk.dw] (by simp) _ trivial;go_wp2;obtain ⟨W0,hW0⟩:∃ W,wc.alloc (.cells ([Sk.bQ,Sk.cu,Sk.dw].map Value.string).toArray 9)=W:=⟨_,rfl⟩;have hW0':wc.alloc (.cells #[.string Sk.bQ,.string Sk.cu,.string Sk.dw] 9)=W0:=hW0;rw [hW0] at hB0 hr3;rw [hW0'];have hpo:=he.aV.below hB0.bw;have hhi:=he.hits.below hB0.bw;have hsz:=hB0.size (by simp)
  simp only [List.length_cons,List.length_nil] at hsz
  have hX:=hB0.get 1 rfl;have x2:=hX.cell (j:=2) rfl;have BJ:=hX.frozen 2;have x3:=hX.cell (j:=3) rfl;have zH:=hX.frozen 3
  have xK:∀ W:World,(fun w':World=>∀ p q,p<w.heap.size+2→w'.cell? ⟨p,q,none⟩=W0.cell? ⟨p,q,none⟩) W→W.rangeAt w.heap.size 0 (aO s):=fun W h j v hj=>by rw [h _ _ (by omega)];exact (hB0.aA rfl).range j v hj
  clear hW0 hW0' hB hX
  go_loop [6,9] (fun _ i=>∃ k:Nat,k≤3∧i= .int .i64 k∧Aside (Sk.twice e.x.aV [Sk.bQ,Sk.cu,Sk.dw]=Sk.twice e.x.aV ([Sk.bQ,Sk.cu,Sk.dw].drop k))) (fun _ i=>3 - (intOf i).toNat)
  case atStart=>exact ⟨0,by omega,rfl,(show _=_ from rfl)⟩
  case round=>
   obtain ⟨k,hk,rfl,hx⟩:=hrel
   by_cases hlt:k<3
   · obtain ⟨bp,op,hA,_,hbp,hcp⟩:=hr3.at_ k hlt
     cases hA
     have hck:=hcp k hlt;rw [Nat.zero_add] at hck;have hst:=JM (l:=e.x.aV) (m:=[Sk.bQ,Sk.cu,Sk.dw]) (k:=k) hlt;obtain ⟨b,hb⟩:∃ b,([Sk.bQ,Sk.cu,Sk.dw]:List ByteArray)[k]=b:=⟨_,rfl⟩;rw [hb] at hck hst;have HX:=hide hx.out;clear hb hcp hx
     by_cases hc:1<Sk.count e.x.aV b
     · have hc1:decide (1<Sk.count e.x.aV b)=true:=decide_eq_true hc
       have HM:=hide (show Sk.qJ s e.x=false by unfold Sk.qJ;rw [HX.out,hst,if_pos (by simp [hc])]);clear hc hst
       go_wp2_with (first | (go_at_call 168;refine (iK S e.B e.b e.x.aV b _ hpo).mono ?_;rintro e1 w9 ⟨rfl,rfl⟩))
       go_ret;exact ⟨aN HM.out.symm,hB0.bw⟩
     · have hc1:decide (1<Sk.count e.x.aV b)=false:=decide_eq_false hc
       have HS:=hide (show Sk.twice e.x.aV ([Sk.bQ,Sk.cu,Sk.dw].drop k)=Sk.twice e.x.aV ([Sk.bQ,Sk.cu,Sk.dw].drop (k+1)) by rw [hst];simp [hc]);clear hc hst
       go_wp2_with (first | (go_at_call 168;refine (iK S e.B e.b e.x.aV b _ hpo).mono ?_;rintro e1 w9 ⟨rfl,rfl⟩))
       go_round
       case rel=>exact ⟨k+1,by omega,by go_num,(show _=_ from by rw [HX.out,HS.out])⟩
       case measure=>simp [intOf];omega
   · obtain rfl:k=3:=by omega
     have HM:=hide (show Sk.qJ s e.x= !Sk.has e.x.hits (Sk.own s) by unfold Sk.qJ;rw [hx.out,if_neg (by simp [Sk.twice])];cases Sk.has e.x.hits (Sk.own s) <;> rfl);clear hx
     go_upto_region 7 with (fail)
     refine wp_region_held_drew (S:=(fun w':World=>∀ p q,p<w.heap.size+2→w'.cell? ⟨p,q,none⟩=W0.cell? ⟨p,q,none⟩)) (by kernel_rfl) ?bW (fun hHeld=>?_)
     case bW=>exact fun p q h=>rfl
     refine aF 0 ?_;refine aF 1 ?_;refine bJ 2 xK Tryz.underlying26 ?_;refine aG 3 fun K hK=>?_;go_simp
     (go_at_call 175;refine (qW s ht _).mono ?_;rintro e1 w5 ⟨rfl,hb5⟩;have hb8:Below W0.heap.size W0 w5:=⟨hb5.os,hb5.tape,hb5.output,hb5.size,hb5.block⟩)
     refine ay hK (fun p q h=>hb8.cell (p:=⟨p,q,none⟩) (Nat.lt_of_lt_of_le h hsz)) fun hHeld=>?_;clear hK K;refine aG 4 fun K hK=>?_;go_simp
     (go_at_call 68;refine (gV S e.A e.a e.x.hits (Sk.own s) _ (hhi.below hb8)).mono ?_;rintro e1 w6 ⟨rfl,rfl⟩)
     refine ay hK (fun p q h=>hb8.cell (p:=⟨p,q,none⟩) (Nat.lt_of_lt_of_le h hsz)) fun hHeld=>?_;clear hK K;refine aF 5 ?_;refine aF 6 ?_;refine wpAnyH_done (by kernel_rfl) ?_ _;go_wp2;go_ret;exact ⟨aN HM.out.symm,hB0.bw.trans (hb8.mono hB0.bw.size)⟩
theorem CW (s:Sk.State) (l:List ByteArray) (w:World) (D:Nat) (hD:Held w D (aO s) 26):Says 169 #[ptr D] l (Sk.gone s) w:=by
 refine ⟨enters_of Tryz.func169 (by kernel_rfl) rfl,fun W0 x _ hb=>?_⟩;have hS:=hD.below hb;have k4:=hS.cell (j:=4) rfl;have Sj:=hS.frozen 4;have k6:=hS.cell (j:=6) rfl;have Uu:=hS.frozen 6
 show Calls Tryz.prog 169 #[.string x,ptr D] W0 fun e_ w'=>e_= .returned (.bool (Sk.gone s x))∧Below w.heap.size w w'
 by_cases h1:s.phase=Sk.dG
 · have h11:=wt h1
   by_cases h2:2≤Sk.value x
   · have h21:decide (2≤Sk.value x)=true:=decide_eq_true h2
     have HM:=hide (show Sk.gone s x=decide (Sk.value x<s.colour) by unfold Sk.gone;simp [h1,h2]);clear h1 h2
     go_enter Tryz.func169,Tryz.ntmps169
     go_upto_region 1 with (fail)
     refine wp_region_held_drew (S:=(fun w':World=>∀ q,w'.cell? ⟨D,q,none⟩=W0.cell? ⟨D,q,none⟩)) (by kernel_rfl) ?dI (fun hHeld=>?_)
     case dI=>exact fun q=>rfl
     refine aF 0 ?_;refine aF 1 ?_;refine aF 2 ?_;refine aF 3 ?_;refine aF 4 ?_;refine aG 5 fun K hK=>?_;go_simp
     (go_at_call 90;refine (dX _ _).mono ?_;rintro e1 w5 ⟨rfl,hb5⟩;have hb8:Below W0.heap.size W0 w5:=⟨hb5.os,hb5.tape,hb5.output,hb5.size,hb5.block⟩)
     refine ay hK (fun q=>hb8.cell (p:=⟨D,q,none⟩) hS.lt) fun hHeld=>?_;clear hK K;refine aF 6 ?_;refine aF 7 ?_;refine aF 8 ?_;refine aF 9 ?_;refine aF 11 ?_;refine aF 12 ?_;refine aG 10 fun K hK=>?_;go_simp
     (go_at_call 90;refine (dX _ _).mono ?_;rintro e1 w6 ⟨rfl,hb6⟩;have yS:=hb8.trans (hb6.mono hb8.size))
     refine ay hK (fun q=>yS.cell (p:=⟨D,q,none⟩) hS.lt) fun hHeld=>?_;clear hK K;refine aF 13 ?_;refine aF 14 ?_;refine aF 15 ?_;refine wpAnyH_done (by kernel_rfl) ?_ _;go_wp2;go_ret;exact ⟨aN HM.out.symm,hb.trans (yS.mono hb.size)⟩
   · have h21:decide (2≤Sk.value x)=false:=decide_eq_false h2
     have HM:=hide (show Sk.gone s x=false by unfold Sk.gone;simp [h1,h2]);clear h1 h2
     go_enter Tryz.func169,Tryz.ntmps169
     go_upto_region 1 with (fail)
     refine wp_region_held_drew (S:=(fun w':World=>∀ q,w'.cell? ⟨D,q,none⟩=W0.cell? ⟨D,q,none⟩)) (by kernel_rfl) ?dS (fun hHeld=>?_)
     case dS=>exact fun q=>rfl
     refine aF 0 ?_;refine aF 1 ?_;refine aF 2 ?_;refine aF 3 ?_;refine aF 4 ?_;refine aG 5 fun K hK=>?_;go_simp
     (go_at_call 90;refine (dX _ _).mono ?_;rintro e1 w5 ⟨rfl,hb5⟩;have hb8:Below W0.heap.size W0 w5:=⟨hb5.os,hb5.tape,hb5.output,hb5.size,hb5.block⟩)
     refine ay hK (fun q=>hb8.cell (p:=⟨D,q,none⟩) hS.lt) fun hHeld=>?_;clear hK K;refine aF 6 ?_;refine aF 7 ?_;refine aF 8 ?_;refine iC 9 ?_;refine iC 10 ?_;refine iC 11 ?_;refine iC 12 ?_;refine iC 13 ?_;refine aF 14 ?_;refine aF 15 ?_;refine wpAnyH_done (by kernel_rfl) ?_ _;go_wp2;go_ret;exact ⟨aN HM.out.symm,hb.trans (hb8.mono hb.size)⟩
 · have h11:=wf h1
   have HM:=hide (show Sk.gone s x=false by unfold Sk.gone;simp [h1]);clear h1
   go_enter Tryz.func169,Tryz.ntmps169
   go_upto_region 1 with (fail)
   refine wp_region_held_drew (S:=(fun w':World=>∀ q,w'.cell? ⟨D,q,none⟩=W0.cell? ⟨D,q,none⟩)) (by kernel_rfl) ?iJ (fun hHeld=>?_)
   case iJ=>exact fun q=>rfl
   refine aF 0 ?_;refine aF 1 ?_;refine aF 2 ?_;refine aF 3 ?_;refine iC 4 ?_;refine iC 5 ?_;refine iC 6 ?_;refine aF 7 ?_;refine aF 8 ?_;refine iC 9 ?_;refine iC 10 ?_;refine iC 11 ?_;refine iC 12 ?_;refine iC 13 ?_;refine aF 14 ?_;refine aF 15 ?_;refine wpAnyH_done (by kernel_rfl) ?_ _;go_wp2;go_ret;exact ⟨aN HM.out.symm,below_drewN hb 1⟩
theorem FQ (k:Nat) (hk:k<8) (W:World):(Instr.index 155 (.agg #[.string Sk.bQ,.string Sk.dw,.string Sk.cu,.string Sk.jZ,.string Sk.ql,.string Sk.CO,.string Sk.CP,.string Sk.qj]) (.int .i64 (k:Int))).run Tryz.prog W= .ok (.string (Sk.cO[k]'hk)) W:=by
 obtain rfl | rfl | rfl | rfl | rfl | rfl | rfl | rfl:k=0∨k=1∨k=2∨k=3∨k=4∨k=5∨k=6∨k=7:=by omega
 all_goals kernel_rfl
def others (k:Nat):List ByteArray:=(Sk.cO.drop k).filter (· ≠Sk.dw)
theorem Gp {l:List ByteArray} {k:Nat} (hk:k<8):Sk.twice l (others k)=decide ((Sk.cO[k]'hk≠Sk.dw∧1<Sk.count l (Sk.cO[k]'hk))∨Sk.twice l (others (k+1))=true):=by
 obtain ⟨b,hb⟩:∃ b,Sk.cO[k]'hk=b:=⟨_,rfl⟩
 have hd:Sk.cO.drop k=b::Sk.cO.drop (k+1):=by rw [List.drop_eq_getElem_cons (show k<Sk.cO.length from hk)];exact congrArg (· ::_) hb
 simp only [hb]
 unfold others
 rw [hd]
 by_cases h:b=Sk.dw
 · rw [List.filter_cons_of_neg (by simp [h])];simp [h]
 · rw [List.filter_cons_of_pos (by simp [h]),Sk.twice];simp [h]
def oK (s:Sk.State) (e:Sk.Entry):Bool:=decide (s.bI<Sk.count e.aV Sk.dw∨(s.bI=0∧Sk.has e.hits Sk.dw=true))
theorem wu (s:Sk.State) (e:Sk.Entry):Sk.gW s e=if oK s e then false else if Sk.twice e.aV (others 0) then false else decide (e.hits.any (Sk.gone s)=false∧e.aV.any (Sk.gone s)=false):=by
 unfold Sk.gW oK others
 simp only [decide_eq_true_eq]
 rfl
theorem yG (S:Nat→Prop) (s:Sk.State) (e:En) (w:World) (he:iW w S e):Calls Tryz.prog 110 #[kW s,wF e] w fun e_ w'=>e_= .returned (.bool (Sk.gW s e.x))∧Below w.heap.size w w':=by
 go_enter Tryz.func110,Tryz.ntmps110
 go_upto_region 0 with (fail)
 go_cut [2,3,4] (fun v2 v3 v4 wx=>v2=ptr w.heap.size∧v3=ptr (w.heap.size+1)∧v4= .bool false∧aJ w wx [(aO s,26),(dU e,83)])
 case first=>
  go_wp2;go_meet;exact ⟨rfl,rfl,rfl,(((aJ.nil w).new (by simp) (aO s) _).new (by simp) (dU e) _)⟩
 case rest=>
  obtain ⟨rfl,rfl,rfl,hB⟩:=hcut;have hpo:=he.aV.below hB.bw;have hhi:=he.hits.below hB.bw;have hsz:=hB.size (by simp)
  simp only [List.length_cons,List.length_nil] at hsz
  have hX:=hB.get 1 rfl;have hS:=hB.aA rfl;have x2:=hX.cell (j:=2) rfl;have BJ:=hX.frozen 2;have x3:=hX.cell (j:=3) rfl;have zH:=hX.frozen 3;have s5:=hS.cell (j:=5) rfl;have sf5:=hS.frozen 5
  go_upto_region 1 with (fail)
  go_cut [23] (fun v wx=>v= .bool (oK s e.x)∧aJ w wx [(aO s,26),(dU e,83)])
  case first=>
   by_cases hc:s.bI<Sk.count e.x.aV Sk.dw
   · have hc1:decide (s.bI<Sk.count e.x.aV Sk.dw)=true:=decide_eq_true hc
     have HC:=hide hc;clear hc;refine wp_region_held_drew (S:=(fun w':World=>∀ p q,p<w.heap.size+2→w'.cell? ⟨p,q,none⟩=wc.cell? ⟨p,q,none⟩)) (by kernel_rfl) ?bW (fun hHeld=>?_)
     case bW=>exact fun p q h=>rfl
     refine tk 0 ?_;refine tk 1 ?_;refine tk 3 ?_;refine tk 4 ?_;refine tr 2 fun K hK=>?_;go_simp
     (go_at_call 168;refine (iK S e.B e.b e.x.aV Sk.dw _ (hpo.drewN 1)).mono ?_;rintro e1 w9 ⟨rfl,rfl⟩)
     refine hK.out _ _ ?PO (fun hHeld=>?_)
     case PO=>(exact fun p q h=>rfl)
     clear hK K
     try simp only [Act.put,la,lz,ls]
     refine tk 5 ?_;refine tk 6 ?_;refine tu 7 ?_;refine tu 8 ?_;refine tu 9 ?_;refine tu 10 ?_;refine tu 11 ?_;refine tu 12 ?_;refine tu 13 ?_;refine tu 14 ?_;refine tk 15 ?_;refine wpAnyH_done (by kernel_rfl) ?_ _;go_wp2;go_meet;exact ⟨dP (by unfold oK;have h:=HC.out;simp [h]),hB.drew⟩
   · have hc1:decide (s.bI<Sk.count e.x.aV Sk.dw)=false:=decide_eq_false hc
     have HC:=hide hc;clear hc
     by_cases h0:s.bI=0
     · have h01:(s.bI == 0)=true:=by simp [h0]
       have U9:=hide h0;clear h0;have hhr:=fun W=>(show Calls Tryz.prog 68 #[.slice e.A e.x.hits.length e.a,.string Sk.dw] (wc.drewN W) fun e1 w'=>e1= .returned (.bool (Sk.has e.x.hits Sk.dw))∧wc.drewN W=w' from gV S e.A e.a e.x.hits Sk.dw _ (hhi.drewN W));obtain ⟨yr,hyr⟩:∃ y,Sk.has e.x.hits Sk.dw=y:=⟨_,rfl⟩
       simp only [hyr] at hhr
       have HHR:=hide hhr;have HYR:=hide hyr;clear hhr hyr;refine wp_region_held_drew (S:=(fun w':World=>∀ p q,p<w.heap.size+2→w'.cell? ⟨p,q,none⟩=wc.cell? ⟨p,q,none⟩)) (by kernel_rfl) ?dI (fun hHeld=>?_)
       case dI=>exact fun p q h=>rfl
       refine tk 0 ?_;refine tk 1 ?_;refine tk 3 ?_;refine tk 4 ?_;refine tr 2 fun K hK=>?_;go_simp
       (go_at_call 168;refine (iK S e.B e.b e.x.aV Sk.dw _ (hpo.drewN 1)).mono ?_;rintro e1 w9 ⟨rfl,rfl⟩)
       refine hK.out _ _ ?Qh (fun hHeld=>?_)
       case Qh=>(exact fun p q h=>rfl)
       clear hK K
       try simp only [Act.put,la,lz,ls]
       refine tk 5 ?_;refine tk 6 ?_;refine tk 7 ?_;refine tk 8 ?_;refine tk 9 ?_;refine tk 10 ?_;refine tk 11 ?_;refine tk 12 ?_;refine tr 13 fun K hK=>?_;go_simp
       (go_at_call 68;refine (HHR.out 1).mono ?_;rintro e1 w9 ⟨rfl,rfl⟩)
       refine hK.out _ _ ?XH (fun hHeld=>?_)
       case XH=>(exact fun p q h=>rfl)
       clear hK K
       try simp only [Act.put,la,lz,ls]
       refine tk 14 ?_;refine tk 15 ?_;refine wpAnyH_done (by kernel_rfl) ?_ _;go_wp2;go_meet;exact ⟨dP (by unfold oK;have h1:=HC.out;have h2:=U9.out;have h3:=HYR.out;simp [h2,h3];omega),hB.drew⟩
     · have h01:(s.bI == 0)=false:=by simp [h0]
       have U9:=hide h0;clear h0;refine wp_region_held_drew (S:=(fun w':World=>∀ p q,p<w.heap.size+2→w'.cell? ⟨p,q,none⟩=wc.cell? ⟨p,q,none⟩)) (by kernel_rfl) ?dS (fun hHeld=>?_)
       case dS=>exact fun p q h=>rfl
       refine tk 0 ?_;refine tk 1 ?_;refine tk 3 ?_;refine tk 4 ?_;refine tr 2 fun K hK=>?_;go_simp
       (go_at_call 168;refine (iK S e.B e.b e.x.aV Sk.dw _ (hpo.drewN 1)).mono ?_;rintro e1 w9 ⟨rfl,rfl⟩)
       refine hK.out _ _ ?Qr (fun hHeld=>?_)
       case Qr=>(exact fun p q h=>rfl)
       clear hK K
       try simp only [Act.put,la,lz,ls]
       refine tk 5 ?_;refine tk 6 ?_;refine tk 7 ?_;refine tk 8 ?_;refine tk 9 ?_;refine tk 10 ?_;refine tu 11 ?_;refine tu 12 ?_;refine tu 13 ?_;refine tk 14 ?_;refine tk 15 ?_;refine wpAnyH_done (by kernel_rfl) ?_ _;go_wp2;go_meet;exact ⟨dP (by unfold oK;have h1:=HC.out;have h2:=U9.out;simp [h2];omega),hB.drew⟩
  case rest=>
   obtain ⟨rfl,hB1⟩:=hcut;have hB:=hB1;clear hB1 hX hS x2 BJ x3 zH s5 sf5 hpo hhi hsz;obtain ⟨yb,hyb⟩:∃ y,oK s e.x=y:=⟨_,rfl⟩;have Yu:=hide hyb;rw [hyb];clear hyb
   cases yb with
   | true=>
     have HM:=hide (show Sk.gW s e.x=false by rw [wu,Yu.out];rfl);go_wp2;go_ret;exact ⟨aN HM.out.symm,hB.bw⟩
   | false=>
     go_upto_region 3 with (fail)
     go_cut [24,25] (fun v24 v25 wx=>v24= .agg #[.string Sk.bQ,.string Sk.dw,.string Sk.cu,.string Sk.jZ,.string Sk.ql,.string Sk.CO,.string Sk.CP,.string Sk.qj]∧v25= .int .i64 0∧aJ w wx [(aO s,26),(dU e,83)])
     case first=>
      go_wp2_with (first | (go_at_call 94;refine (pK _).mono ?_;rintro e1 w1 ⟨rfl,hb1⟩;have hB2:=hB.call (by simp) hb1))
      go_meet;exact ⟨rfl,rfl,hB2⟩
     case rest=>
      obtain ⟨rfl,rfl,hB1⟩:=hcut;have kC:=hB1;clear hB1 hB;have Zx:=he.aV.below kC.bw;have hX:=kC.get 1 rfl;have x2:=hX.cell (j:=2) rfl;have BJ:=hX.frozen 2;have x3:=hX.cell (j:=3) rfl;have zH:=hX.frozen 3;go_wp2
      go_loop [6,25] (fun _ i=>∃ k:Nat,k≤8∧i= .int .i64 k∧Aside (Sk.twice e.x.aV (others 0)=Sk.twice e.x.aV (others k))) (fun _ i=>8 - (intOf i).toNat)
      case atStart=>exact ⟨0,by omega,rfl,(show _=_ from rfl)⟩
      case round=>
       obtain ⟨k,hk,rfl,hx⟩:=hrel
       by_cases hlt:k<8
       · have hix:=FQ k hlt
         have hst:=Gp (l:=e.x.aV) hlt;obtain ⟨b,hb⟩:∃ b,Sk.cO[k]'hlt=b:=⟨_,rfl⟩;rw [hb] at hst
         simp only [hb] at hix
         have HX:=hide hx.out;clear hb hx
         by_cases hr:b=Sk.dw
         · have hr1:=wt hr
           have hr2:(b.toList != [114,101,100])=false:=by rw [bne,hr1];rfl
           have HS:=hide (show Sk.twice e.x.aV (others k)=Sk.twice e.x.aV (others (k+1)) by rw [hst];simp [hr]);clear hr hst;go_wp2
           go_round
           case rel=>exact ⟨k+1,by omega,by go_num,(show _=_ from by rw [HX.out,HS.out])⟩
           case measure=>simp [intOf];omega
         · have hr1:=wf hr
           have hr2:(b.toList != [114,101,100])=true:=by rw [bne,hr1];rfl
           by_cases hc:1<Sk.count e.x.aV b
           · have hc1:decide (1<Sk.count e.x.aV b)=true:=decide_eq_true hc
             have HM:=hide (show Sk.gW s e.x=false by rw [wu,Yu.out,HX.out,hst];simp [hr,hc]);clear hc hst hr
             go_wp2_with (first | (go_at_call 168;refine (iK S e.B e.b e.x.aV b _ Zx).mono ?_;rintro e1 w9 ⟨rfl,rfl⟩))
             go_ret;exact ⟨aN HM.out.symm,kC.bw⟩
           · have hc1:decide (1<Sk.count e.x.aV b)=false:=decide_eq_false hc
             have HS:=hide (show Sk.twice e.x.aV (others k)=Sk.twice e.x.aV (others (k+1)) by rw [hst];simp [hc]);clear hc hst hr
             go_wp2_with (first | (go_at_call 168;refine (iK S e.B e.b e.x.aV b _ Zx).mono ?_;rintro e1 w9 ⟨rfl,rfl⟩))
             go_round
             case rel=>exact ⟨k+1,by omega,by go_num,(show _=_ from by rw [HX.out,HS.out])⟩
             case measure=>simp [intOf];omega
       · obtain rfl:k=8:=by omega
         have hg1:=fun W (hb:Below w.heap.size w W) (hD:Held W w.heap.size (aO s) 26)=>oz S e.A e.a e.x.hits _ _ (Sk.gone s) W (he.hits.below hb) (CW s e.x.hits W w.heap.size hD);have hg2:=fun W (hb:Below w.heap.size w W) (hD:Held W w.heap.size (aO s) 26)=>oz S e.B e.b e.x.aV _ _ (Sk.gone s) W (he.aV.below hb) (CW s e.x.aV W w.heap.size hD);obtain ⟨y1,hy1⟩:∃ y,e.x.hits.any (Sk.gone s)=y:=⟨_,rfl⟩;obtain ⟨y2,hy2⟩:∃ y,e.x.aV.any (Sk.gone s)=y:=⟨_,rfl⟩;have HM:=hide (show Sk.gW s e.x=(!y1 && !y2) by rw [wu,Yu.out,hx.out,hy1,hy2,show Sk.twice e.x.aV (others 8)=false from rfl];cases y1 <;> cases y2 <;> rfl)
         simp only [hy1] at hg1
         simp only [hy2] at hg2
         have HG1:=hide hg1;have HG2:=hide hg2;clear hg1 hg2 hy1 hy2 hx
         cases y1
         all_goals
          go_wp2_with (first | (go_at_call_of 125 (Value.slice e.A e.x.hits.length e.a);refine (HG1.out _ kC.bw (kC.aA rfl)).mono ?_;rintro e1 w5 ⟨rfl,hb5⟩;have kC:=kC.call (by simp) hb5;have hX:=kC.get 1 rfl;have x3:=hX.cell (j:=3) rfl;have zH:=hX.frozen 3) | (go_at_call_of 125 (Value.slice e.B e.x.aV.length e.b);refine (HG2.out _ kC.bw (kC.aA rfl)).mono ?_;rintro e1 w5 ⟨rfl,hb5⟩;have kC:=kC.call (by simp) hb5;have hX:=kC.get 1 rfl;have x3:=hX.cell (j:=3) rfl;have zH:=hX.frozen 3))
          go_ret;exact ⟨aN (by rw [HM.out];simp),kC.bw⟩
end Go.Proofs.YtjbbfmofpjflmaaGreatDoor
