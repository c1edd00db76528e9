/- Parts of a proof. -/
import Derived.Test.YtcjglfbpjkdgiaaGreatDoorKc39
set_option maxHeartbeats 8000000
set_option maxRecDepth 100000
set_option linter.unusedVariables false
set_option linter.unusedSimpArgs false
namespace Go.Proofs.YtcjglfbpjkdgiaaGreatDoor
open Go.RowKit
def dQ (p:Int) (l:List Sh):Nat:=(p % (l.length:Int)).toNat
def IG (s:M.State):M.aV:=⟨s.turn,M.gU,0,0,0,false,[]⟩
structure XF (W0:World) (r:M.Rules) (l:List Sh) (Al:Option Addr) (cl:Nat) (p:Int) (x:Sh) (v1 v3 v5:Value) (W:World):Prop where
 e1:v1= .slice Al l.length cl
 e3:v3=ptr W0.heap.size
 e5:v5=ptr (W0.heap.size+1)
 h3:Held W W0.heap.size ([.string r.game,.int .i64 r.target,.int .i64 r.bG]) 23
 h5:Held W (W0.heap.size+1) ([.int .u8 p,.int .i64 x.x.aN,.string x.x.kind,.int .i64 x.x.aT,.int .i64 x.x.aX,.int .i64 x.x.first,.bool x.x.dK,.slice x.a x.x.aF.length x.c]) 29
 rl:jF W (fun _=>True) Al cl l
 rx:fA W (fun _=>True) x.a x.c x.x.aF
 pl:∀ e∈l,e.x.aF.length*16≤140737488355328
 ll:l.length*80≤140737488355328
 px:x.x.aF.length*16≤140737488355328
 p0:0≤p∧p≤255
 bw:Below W0.heap.size W0 W
theorem XF.below {W0 W W':World} {r:M.Rules} {l:List Sh} {Al:Option Addr} {cl:Nat} {p:Int} {x:Sh} {v1 v3 v5:Value} (h:XF W0 r l Al cl p x v1 v3 v5 W) (hb:Below W.heap.size W W'):XF W0 r l Al cl p x v1 v3 v5 W':=
 ⟨h.e1,h.e3,h.e5,h.h3.below hb,h.h5.below hb,h.rl.below hb,Reads.below h.rx hb,h.pl,h.ll,h.px,h.p0,dD h.bw hb⟩
structure yL (W0:World) (r:M.Rules) (l:List Sh) (Al:Option Addr) (cl:Nat) (p:Int) (x:Sh) (v1 v3 v5:Value) (W:World):Prop where
 a:XF W0 r l Al cl p x v1 v3 v5 W
 ok:CZ r l 20
 sh:M.cZ x.x=0
 k:dQ p l<l.length
theorem yL.below {W0 W W':World} {r:M.Rules} {l:List Sh} {Al:Option Addr} {cl:Nat} {p:Int} {x:Sh} {v1 v3 v5:Value} (h:yL W0 r l Al cl p x v1 v3 v5 W) (hb:Below W.heap.size W W'):yL W0 r l Al cl p x v1 v3 v5 W':=⟨h.a.below hb,h.ok,h.sh,h.k⟩
theorem yL.ck {W0 W:World} {r:M.Rules} {l:List Sh} {Al:Option Addr} {cl:Nat} {p:Int} {x:Sh} {v1 v3 v5:Value} (h:yL W0 r l Al cl p x v1 v3 v5 W):M.dB ((plain l).set (dQ p l) x.x)=0:=M.BI h.ok.log h.sh
noncomputable def iF (n:Nat):Code:=dG n ((Tryz.f3).body.getD .skip)
@[reducible] def qh (W0:World) (r:M.Rules) (l:List Sh) (Al:Option Addr) (cl:Nat) (p:Int) (x:Sh) (F:Value→Value→Value→Value→Value→Value→Value→Value→Value→Value→Value→Value→Value→Value→Value→Value→Value→Value→Value→Value→Value→Value→Value→Value→World→Prop) (n:Nat):Prop:=∀ (z0 z1 z2 z3 z4 z5 z6 z7 z8 z9 z10 z11 z12 z13 pG pI qj z17 qU rY z20 z21 z22 z23 z24 z25 z26 z27 z28 z29 z30 z31 z32 z33 z34 z35 z36 z37 z38 z39 z40 z41 z42 z43 z44 z45 z46 z47 z48 z49 z50 z51 z52 z53 z54 z55 z56 z57 z58 z59 z60 z61 z62 z63 z64 z65 z66 z67 z68 z69 z70 z71 z72 z73 z74 z75 z76 z77 z78 z79 z80 vM z82 z83 z84 z85 z86 z87 vN z89 vO z91 vP z93 vS vT vU vV vW vX kM kN kP kQ kR z105 kS z107 kT z109 kU kV kW kX kY kZ z116 z117 lg z119 lu lC lD lF z124 lG lH z127 lI lJ z130 z131 lK lM lN lQ lS lT z138 z139 lU z141 lV z143 lW z145 z146 lX z148 lY lZ l7 z152 l9 z154 mg z156 z157 mD z159 z160 mF z162 mG z164 mJ mM z167 z168 agX ag4 z171 ahb z173 ahi z175 ahp ahw ahD ahK ahR ahY z182 z183 ah5 aic ain aiu aiB aiI aiP aiW ai3 z193 z194 aja z196 ajh z198 ajo ajv z201 ajC z203 ajJ ajQ z206 ajX z208 aj6 z210 ake z212 z213 akl aks akz akG z218 akN akU ak1 z222 ak8 alf aln z226 z227 z228 z229 alv alD z232 z233 z234 alK z236 alR alY al5 amc amj:Value) (W:World),F z1 z3 z5 z7 z8 z9 z10 z11 z12 z13 pG pI qj z17 qU z20 z21 z23 z24 z25 z26 z28 z29 z31 W→(iF n).wp Tryz.prog (bodyPost Tryz.prog Tryz.f3 (fun e w'=>e= .returned (.bool true)∧Below W0.heap.size W0 w')) {tmps:= #[z0,z1,z2,z3,z4,z5,z6,z7,z8,z9,z10,z11,z12,z13,pG,pI,qj,z17,qU,rY,z20,z21,z22,z23,z24,z25,z26,z27,z28,z29,z30,z31,z32,z33,z34,z35,z36,z37,z38,z39,z40,z41,z42,z43,z44,z45,z46,z47,z48,z49,z50,z51,z52,z53,z54,z55,z56,z57,z58,z59,z60,z61,z62,z63,z64,z65,z66,z67,z68,z69,z70,z71,z72,z73,z74,z75,z76,z77,z78,z79,z80,vM,z82,z83,z84,z85,z86,z87,vN,z89,vO,z91,vP,z93,vS,vT,vU,vV,vW,vX,kM,kN,kP,kQ,kR,z105,kS,z107,kT,z109,kU,kV,kW,kX,kY,kZ,z116,z117,lg,z119,lu,lC,lD,lF,z124,lG,lH,z127,lI,lJ,z130,z131,lK,lM,lN,lQ,lS,lT,z138,z139,lU,z141,lV,z143,lW,z145,z146,lX,z148,lY,lZ,l7,z152,l9,z154,mg,z156,z157,mD,z159,z160,mF,z162,mG,z164,mJ,mM,z167,z168,agX,ag4,z171,ahb,z173,ahi,z175,ahp,ahw,ahD,ahK,ahR,ahY,z182,z183,ah5,aic,ain,aiu,aiB,aiI,aiP,aiW,ai3,z193,z194,aja,z196,ajh,z198,ajo,ajv,z201,ajC,z203,ajJ,ajQ,z206,ajX,z208,aj6,z210,ake,z212,z213,akl,aks,akz,akG,z218,akN,akU,ak1,z222,ak8,alf,aln,z226,z227,z228,z229,alv,alD,z232,z233,z234,alK,z236,alR,alY,al5,amc,amj],defers:=[] } W
@[reducible] def X8 (W0:World) (r:M.Rules) (l:List Sh) (Al:Option Addr) (cl:Nat) (p:Int) (x:Sh):Prop:=qh W0 r l Al cl p x (fun z1 z3 z5 _ _ _ _ _ _ _ _ _ _ _ _ _ _ _ _ _ _ _ _ _ W=>XF W0 r l Al cl p x z1 z3 z5 W) 1
@[reducible] def VR (W0:World) (r:M.Rules) (l:List Sh) (Al:Option Addr) (cl:Nat) (p:Int) (x:Sh):Prop:=qh W0 r l Al cl p x (fun z1 z3 z5 z7 _ _ _ _ _ _ _ _ _ _ _ _ _ _ _ _ _ _ _ _ W=>XF W0 r l Al cl p x z1 z3 z5 W∧Om x.x z7 W) 2
@[reducible] def VT (W0:World) (r:M.Rules) (l:List Sh) (Al:Option Addr) (cl:Nat) (p:Int) (x:Sh):Prop:=qh W0 r l Al cl p x (fun z1 z3 z5 _ _ _ _ _ _ _ _ _ _ _ _ _ _ _ _ _ _ _ _ _ W=>yL W0 r l Al cl p x z1 z3 z5 W) 3
@[reducible] def VU (W0:World) (r:M.Rules) (l:List Sh) (Al:Option Addr) (cl:Nat) (p:Int) (x:Sh):Prop:=qh W0 r l Al cl p x (fun z1 z3 z5 _ z8 _ _ _ _ _ _ _ _ _ _ _ _ _ _ _ _ _ _ _ W=>yL W0 r l Al cl p x z1 z3 z5 W∧z8= .int .i64 ((dQ p l:Int)+1)) 4
@[reducible] def VW (W0:World) (r:M.Rules) (l:List Sh) (Al:Option Addr) (cl:Nat) (p:Int) (x:Sh):Prop:=qh W0 r l Al cl p x (fun z1 z3 z5 _ z8 z9 z10 _ _ _ _ _ _ _ _ _ _ _ _ _ _ _ _ _ W=>yL W0 r l Al cl p x z1 z3 z5 W∧z8= .int .i64 ((dQ p l:Int)+1)∧oJ ((plain l).set (dQ p l) x.x) z9 W∧z10= .int .i64 0) 5
@[reducible] def VX (W0:World) (r:M.Rules) (l:List Sh) (Al:Option Addr) (cl:Nat) (p:Int) (x:Sh):Prop:=qh W0 r l Al cl p x (fun z1 z3 z5 _ z8 z9 _ _ _ _ _ _ _ _ _ _ _ _ _ _ _ _ _ _ W=>yL W0 r l Al cl p x z1 z3 z5 W∧z8= .int .i64 ((dQ p l:Int)+1)∧oJ ((plain l).set (dQ p l) x.x) z9 W) 6
@[reducible] def VY (W0:World) (r:M.Rules) (l:List Sh) (Al:Option Addr) (cl:Nat) (p:Int) (x:Sh):Prop:=qh W0 r l Al cl p x (fun z1 z3 z5 _ z8 z9 _ z11 z12 _ _ _ _ _ _ _ _ _ _ _ _ _ _ _ W=>yL W0 r l Al cl p x z1 z3 z5 W∧z8= .int .i64 ((dQ p l:Int)+1)∧oJ ((plain l).set (dQ p l) x.x) z9 W∧oJ (plain l) z11 W∧z12= .int .i64 0) 7
@[reducible] def NY (W0:World) (r:M.Rules) (l:List Sh) (Al:Option Addr) (cl:Nat) (p:Int) (x:Sh):Prop:=qh W0 r l Al cl p x (fun z1 z3 z5 _ z8 z9 _ z11 z12 z13 pG _ _ _ _ _ _ _ _ _ _ _ _ _ W=>yL W0 r l Al cl p x z1 z3 z5 W∧z8= .int .i64 ((dQ p l:Int)+1)∧oJ ((plain l).set (dQ p l) x.x) z9 W∧oJ (plain l) z11 W∧z12= .int .i64 0∧z13= .int .i64 (M.changed r (plain l) ((plain l).set (dQ p l) x.x))∧pG= .int .i64 0) 8
@[reducible] def NZ (W0:World) (r:M.Rules) (l:List Sh) (Al:Option Addr) (cl:Nat) (p:Int) (x:Sh):Prop:=qh W0 r l Al cl p x (fun z1 z3 z5 _ z8 z9 _ z11 z12 z13 pG pI qj _ _ _ _ _ _ _ _ _ _ _ W=>yL W0 r l Al cl p x z1 z3 z5 W∧z8= .int .i64 ((dQ p l:Int)+1)∧oJ ((plain l).set (dQ p l) x.x) z9 W∧oJ (plain l) z11 W∧z12= .int .i64 0∧(z13= .int .i64 (M.changed r (plain l) ((plain l).set (dQ p l) x.x))∧pG= .int .i64 0)∧C9 (M.notes r (M.start r) 1 (plain l)) pI W∧qj= .int .i64 0) 9
@[reducible] def N7 (W0:World) (r:M.Rules) (l:List Sh) (Al:Option Addr) (cl:Nat) (p:Int) (x:Sh):Prop:=qh W0 r l Al cl p x (fun z1 z3 z5 _ z8 _ _ z11 z12 z13 pG pI qj z17 qU _ _ _ _ _ _ _ _ _ W=>yL W0 r l Al cl p x z1 z3 z5 W∧z8= .int .i64 ((dQ p l:Int)+1)∧oJ (plain l) z11 W∧z12= .int .i64 0∧(z13= .int .i64 (M.changed r (plain l) ((plain l).set (dQ p l) x.x))∧pG= .int .i64 0)∧C9 (M.notes r (M.start r) 1 (plain l)) pI W∧qj= .int .i64 0∧C9 (M.notes r (M.start r) 1 ((plain l).set (dQ p l) x.x)) z17 W∧qU= .int .i64 0) 10
@[reducible] def N8 (W0:World) (r:M.Rules) (l:List Sh) (Al:Option Addr) (cl:Nat) (p:Int) (x:Sh):Prop:=qh W0 r l Al cl p x (fun z1 z3 z5 _ z8 _ _ _ _ _ _ pI _ z17 _ _ _ _ _ _ _ _ _ _ W=>yL W0 r l Al cl p x z1 z3 z5 W∧z8= .int .i64 ((dQ p l:Int)+1)∧C9 (M.notes r (M.start r) 1 (plain l)) pI W∧C9 (M.notes r (M.start r) 1 ((plain l).set (dQ p l) x.x)) z17 W) 11
@[reducible] def N9 (W0:World) (r:M.Rules) (l:List Sh) (Al:Option Addr) (cl:Nat) (p:Int) (x:Sh):Prop:=qh W0 r l Al cl p x (fun z1 z3 z5 _ z8 _ _ _ _ _ _ _ _ _ _ _ _ _ _ _ _ _ _ _ W=>yL W0 r l Al cl p x z1 z3 z5 W∧z8= .int .i64 ((dQ p l:Int)+1)) 12
@[reducible] def Oa (W0:World) (r:M.Rules) (l:List Sh) (Al:Option Addr) (cl:Nat) (p:Int) (x:Sh):Prop:=qh W0 r l Al cl p x (fun z1 z3 z5 _ z8 _ _ _ _ _ _ _ _ _ _ z20 _ _ _ _ _ _ _ _ W=>yL W0 r l Al cl p x z1 z3 z5 W∧z8= .int .i64 ((dQ p l:Int)+1)∧oJ ((plain l).take (dQ p l)++(plain l).drop (dQ p l+1)) z20 W) 13
@[reducible] def Ob (W0:World) (r:M.Rules) (l:List Sh) (Al:Option Addr) (cl:Nat) (p:Int) (x:Sh):Prop:=qh W0 r l Al cl p x (fun z1 z3 z5 _ z8 _ _ _ _ _ _ _ _ _ _ z20 z21 z23 _ _ _ _ _ _ W=>yL W0 r l Al cl p x z1 z3 z5 W∧z8= .int .i64 ((dQ p l:Int)+1)∧oJ ((plain l).take (dQ p l)++(plain l).drop (dQ p l+1)) z20 W∧vZ (M.fH r (plain l) (dQ p l)) 53 z21 W∧z23= .int .i64 0) 14
@[reducible] def Oc (W0:World) (r:M.Rules) (l:List Sh) (Al:Option Addr) (cl:Nat) (p:Int) (x:Sh):Prop:=qh W0 r l Al cl p x (fun z1 z3 z5 _ z8 _ _ _ _ _ _ _ _ _ _ z20 z21 _ _ _ _ _ _ _ W=>yL W0 r l Al cl p x z1 z3 z5 W∧z8= .int .i64 ((dQ p l:Int)+1)∧oJ ((plain l).take (dQ p l)++(plain l).drop (dQ p l+1)) z20 W∧vZ (M.fH r (plain l) (dQ p l)) 53 z21 W) 15
@[reducible] def Oe (W0:World) (r:M.Rules) (l:List Sh) (Al:Option Addr) (cl:Nat) (p:Int) (x:Sh):Prop:=qh W0 r l Al cl p x (fun z1 z3 z5 _ z8 _ _ _ _ _ _ _ _ _ _ z20 z21 _ _ _ _ _ _ _ W=>yL W0 r l Al cl p x z1 z3 z5 W∧z8= .int .i64 ((dQ p l:Int)+1)∧oJ ((plain l).take (dQ p l)++(plain l).drop (dQ p l+1)) z20 W∧vZ (M.fH r (plain l) (dQ p l)) 53 z21 W∧(M.fH r (plain l) (dQ p l)).pushed=false∧(M.fH r (plain l) (dQ p l)).over=false) 16
@[reducible] def Og (W0:World) (r:M.Rules) (l:List Sh) (Al:Option Addr) (cl:Nat) (p:Int) (x:Sh):Prop:=qh W0 r l Al cl p x (fun z1 z3 z5 _ _ _ _ _ _ _ _ _ _ _ _ z20 _ _ z24 z25 _ _ _ _ W=>yL W0 r l Al cl p x z1 z3 z5 W∧oJ ((plain l).take (dQ p l)++(plain l).drop (dQ p l+1)) z20 W∧((M.fH r (plain l) (dQ p l)).pushed=false∧(M.fH r (plain l) (dQ p l)).over=false)∧oJ ((plain l).set (dQ p l) (IG (M.fH r (plain l) (dQ p l)))) z24 W∧z25= .int .i64 0) 17
@[reducible] def Oh (W0:World) (r:M.Rules) (l:List Sh) (Al:Option Addr) (cl:Nat) (p:Int) (x:Sh):Prop:=qh W0 r l Al cl p x (fun z1 z3 z5 _ _ _ _ _ _ _ _ _ _ _ _ z20 _ _ z24 _ _ _ _ _ W=>yL W0 r l Al cl p x z1 z3 z5 W∧oJ ((plain l).take (dQ p l)++(plain l).drop (dQ p l+1)) z20 W∧((M.fH r (plain l) (dQ p l)).pushed=false∧(M.fH r (plain l) (dQ p l)).over=false)∧oJ ((plain l).set (dQ p l) (IG (M.fH r (plain l) (dQ p l)))) z24 W) 18
@[reducible] def Oi (W0:World) (r:M.Rules) (l:List Sh) (Al:Option Addr) (cl:Nat) (p:Int) (x:Sh):Prop:=qh W0 r l Al cl p x (fun z1 z3 z5 _ _ _ _ _ _ _ _ _ _ _ _ z20 _ _ _ _ z26 z28 _ _ W=>yL W0 r l Al cl p x z1 z3 z5 W∧oJ ((plain l).take (dQ p l)++(plain l).drop (dQ p l+1)) z20 W∧vZ (M.final r (M.start r) ((plain l).take (dQ p l)++(plain l).drop (dQ p l+1))) 53 z26 W∧z28= .int .i64 0) 19
@[reducible] def Oj (W0:World) (r:M.Rules) (l:List Sh) (Al:Option Addr) (cl:Nat) (p:Int) (x:Sh):Prop:=qh W0 r l Al cl p x (fun _ _ _ _ _ _ _ _ _ _ _ _ _ _ _ _ _ _ _ _ z26 z28 z29 z31 W=>Below W0.heap.size W0 W∧vZ (M.final r (M.start r) ((plain l).take (dQ p l)++(plain l).drop (dQ p l+1))) 53 z26 W∧z28= .int .i64 0∧vZ (M.final r (M.start r) ((plain l).take (dQ p l)++(plain l).drop (dQ p l+1))) 53 z29 W∧z31= .int .i64 0) 20
theorem acH (W0:World) (r:M.Rules) (l:List Sh) (Al:Option Addr) (cl:Nat) (p:Int) (x:Sh) (HG:Hid (Glob W0)) (HN:Hid (VR W0 r l Al cl p x)):X8 W0 r l Al cl p x:=by
 dsimp only [X8,qh]
 intros
 rename_i W hf
 dsimp only [iF,dG,Tryz.f3,Option.getD]
 have hA:=hf;obtain ⟨rfl,rfl,rfl,h3,h5,rl,rx,pl,ll,px,p0,hbw⟩:=id hA;have Yc:W.rangeAt (W0.heap.size+1) 1 (aB x):=fun j v hj=>h5.cell (j:=1+j) (by rw [Nat.add_comm,List.getElem?_cons_succ];exact hj);have Yc:W.rangeAt (W0.heap.size+1) 1 [.int .i64 x.x.aN,.string x.x.kind,.int .i64 x.x.aT,.int .i64 x.x.aX,.int .i64 x.x.first,.bool x.x.dK,.slice x.a x.x.aF.length x.c]:=Yc;apply wp_seq_k;intro K hK;have HK:=hide hK;clear hK
 go_wp2_with (first | (refine aC 27 (.tmp 32) rfl ?_;refine dw (g:=W0.heap.size+1) (o:=1) Yc Tryz.underlying27 rfl bY rfl (.tmp 32) rfl rfl ?_) | (go_at_call 5;refine (UO x W _ rfl _ rx px).mono ?_;rintro e w1 ⟨v7,rfl,ho,hb1⟩;dsimp only))
 refine HK.out _ _ ?_;apply HN.out;exact ⟨hA.below hb1,ho⟩
theorem WH {p:Int} {l:List Sh} (h:0<l.length):dQ p l<l.length:=by
 have h1:=Int.emod_lt_of_pos p (show (0:Int)<(l.length:Int) by omega)
 unfold dQ
 generalize p % (l.length:Int)=q at h1 ⊢
 omega
theorem Ux {p:Int} {l:List Sh} (h:0<l.length) (hp:0≤p):p.tmod (l.length:Int)=(dQ p l:Int):=by
 rw [Int.tmod_eq_emod_of_nonneg hp];have h1:=Int.emod_nonneg p (show (l.length:Int)≠0 by omega)
 unfold dQ
 generalize p % (l.length:Int)=q at h1 ⊢
 omega
theorem jf {W:World} {b o:Nat} {y:M.aV} {P:Option Addr} {d:Nat} (h:W.rangeAt b o (aB ⟨y,P,d⟩)):W.cell? ⟨b,o,none⟩=some (.int .i64 y.aN)∧W.cell? ⟨b,o+1,none⟩=some (.string y.kind)∧W.cell? ⟨b,o+2,none⟩=some (.int .i64 y.aT)∧W.cell? ⟨b,o+3,none⟩=some (.int .i64 y.aX)∧W.cell? ⟨b,o+4,none⟩=some (.int .i64 y.first)∧W.cell? ⟨b,o+5,none⟩=some (.bool y.dK)∧W.cell? ⟨b,o+6,none⟩=some (.slice P y.aF.length d):=
 ⟨h 0 _ rfl,h 1 _ rfl,h 2 _ rfl,h 3 _ rfl,h 4 _ rfl,h 5 _ rfl,h 6 _ rfl⟩
theorem acO (W0:World) (r:M.Rules) (l:List Sh) (Al:Option Addr) (cl:Nat) (p:Int) (x:Sh) (HG:Hid (Glob W0)) (HN:Hid (VT W0 r l Al cl p x)):VR W0 r l Al cl p x:=by
 dsimp only [VR,qh]
 intros
 rename_i W hf
 dsimp only [iF,dG,Tryz.f3,Option.getD]
 obtain ⟨hA,ho⟩:=hf;obtain ⟨rfl,rfl,rfl,h3,h5,rl,rx,pl,ll,px,p0,hbw⟩:=id hA;obtain ⟨b,o,c7,P,d,rfl,Tm,h72,h73⟩:=ho;obtain ⟨jb,hjb⟩:∃ q,WI r l 20=q:=⟨_,rfl⟩;obtain ⟨sb,hsb⟩:∃ q,decide (x.x.kind.size≤60∧x.x.aF.length≤18)=q:=⟨_,rfl⟩;obtain ⟨E,hE⟩:∃ q,M.cZ x.x=q:=⟨_,rfl⟩;have hjl:=IB r l Al cl 20 W rl ll pl;have hss:=fun W=>pz x.x P d W (by omega);have hcs:=fun W' (hb:Below W.heap.size W W')=>o9 (fun _=>True) x.x P d W' (Reads.below h73 hb);rw [hjb] at hjl
 simp only [hsb] at hss
 rw [hE] at hcs;have XZ:=hide hjl;have X7:=hide hss;have VL:=hide hcs;clear hjl hss hcs hsb h73 rl rx;apply wp_seq_k;intro K hK;have HK:=hide hK;clear hK;apply wp_seq_k;intro K2 hK2;have wS:=hide hK2;clear hK2
 cases jb with
 | false=>
   go_wp2_with (first | (go_at_call 6;refine (XZ.out).mono ?_;rintro e w2 ⟨rfl,hb2⟩;have yK:=hide (HG.out.below (dD hbw hb2));obtain ⟨c0,c1,c2,c3,c4,c5,c6⟩:=jf (eG Tm h72 hb2);dsimp only) | (go_at_call 7;clear c0 c1 c2 c3 c4 c5 c6;refine (X7.out _).mono ?_;rintro e w3 ⟨rfl,hb3⟩;have yK:=hide (HG.out.below (dD (dD hbw hb2) hb3));obtain ⟨c0,c1,c2,c3,c4,c5,c6⟩:=jf (eG Tm h72 (hb2.trans (hb3.mono hb2.size)));dsimp only) | (go_at_call 8;clear c0 c1 c2 c3 c4 c5 c6;refine (VL.out _ (hb2.trans (hb3.mono hb2.size))).mono ?_;rintro e w4 ⟨rfl,hb4⟩;have yK:=hide (HG.out.below (dD (dD (dD hbw hb2) hb3) hb4));dsimp only) | (refine aC 23 (.tmp 3) rfl ?_;refine au (h3) Tryz.underlying23 rfl bU rfl (.tmp 3) rfl rfl ?_))
   refine wS.out _ _ ?_
   go_wp2_with (first | (go_at_call 9;refine (iR _ yK.out).mono ?_;rintro e w9 ⟨rfl,Au⟩;dsimp only))
   go_ret;exact ⟨rfl,dD (dD hbw hb2) Au⟩
 | true=>
   by_cases hl0:l.length=0
   · have q0:((l.length:Int) == 0)=true:=by simp [hl0]
     clear hl0
     go_wp2_with (first | (go_at_call 6;refine (XZ.out).mono ?_;rintro e w2 ⟨rfl,hb2⟩;have yK:=hide (HG.out.below (dD hbw hb2));obtain ⟨c0,c1,c2,c3,c4,c5,c6⟩:=jf (eG Tm h72 hb2);dsimp only) | (go_at_call 7;clear c0 c1 c2 c3 c4 c5 c6;refine (X7.out _).mono ?_;rintro e w3 ⟨rfl,hb3⟩;have yK:=hide (HG.out.below (dD (dD hbw hb2) hb3));obtain ⟨c0,c1,c2,c3,c4,c5,c6⟩:=jf (eG Tm h72 (hb2.trans (hb3.mono hb2.size)));dsimp only) | (go_at_call 8;clear c0 c1 c2 c3 c4 c5 c6;refine (VL.out _ (hb2.trans (hb3.mono hb2.size))).mono ?_;rintro e w4 ⟨rfl,hb4⟩;have yK:=hide (HG.out.below (dD (dD (dD hbw hb2) hb3) hb4));dsimp only) | (refine aC 23 (.tmp 3) rfl ?_;refine au (h3) Tryz.underlying23 rfl bU rfl (.tmp 3) rfl rfl ?_))
     refine wS.out _ _ ?_
     go_wp2_with (first | (go_at_call 9;refine (iR _ yK.out).mono ?_;rintro e w9 ⟨rfl,Au⟩;dsimp only))
     go_ret;exact ⟨rfl,dD (dD hbw hb2) Au⟩
   · have q0:((l.length:Int) == 0)=false:=by rw [beq_eq_false_iff_ne];omega
     have hk:dQ p l<l.length:=WH (by omega);have HK9:=hide hk;clear hl0 hk
     cases sb with
     | true=>
       by_cases h0:E=0
       · have q1:(E != 0)=false:=by simp [h0]
         have HOK:=hide (And.intro (CZ.of hjb) (hE.trans h0));clear h0
         go_wp2_with (first | (go_at_call 6;refine (XZ.out).mono ?_;rintro e w2 ⟨rfl,hb2⟩;have yK:=hide (HG.out.below (dD hbw hb2));obtain ⟨c0,c1,c2,c3,c4,c5,c6⟩:=jf (eG Tm h72 hb2);dsimp only) | (go_at_call 7;clear c0 c1 c2 c3 c4 c5 c6;refine (X7.out _).mono ?_;rintro e w3 ⟨rfl,hb3⟩;have yK:=hide (HG.out.below (dD (dD hbw hb2) hb3));obtain ⟨c0,c1,c2,c3,c4,c5,c6⟩:=jf (eG Tm h72 (hb2.trans (hb3.mono hb2.size)));dsimp only) | (go_at_call 8;clear c0 c1 c2 c3 c4 c5 c6;refine (VL.out _ (hb2.trans (hb3.mono hb2.size))).mono ?_;rintro e w4 ⟨rfl,hb4⟩;have yK:=hide (HG.out.below (dD (dD (dD hbw hb2) hb3) hb4));dsimp only) | (refine aC 23 (.tmp 3) rfl ?_;refine au (h3) Tryz.underlying23 rfl bU rfl (.tmp 3) rfl rfl ?_))
         refine wS.out _ _ ?_;go_wp2;refine HK.out _ _ ?_;apply HN.out;exact ⟨((hA.below hb2).below hb3).below hb4,HOK.out.1,HOK.out.2,HK9.out⟩
       · have q1:(E != 0)=true:=by simpa using h0
         clear h0
         go_wp2_with (first | (go_at_call 6;refine (XZ.out).mono ?_;rintro e w2 ⟨rfl,hb2⟩;have yK:=hide (HG.out.below (dD hbw hb2));obtain ⟨c0,c1,c2,c3,c4,c5,c6⟩:=jf (eG Tm h72 hb2);dsimp only) | (go_at_call 7;clear c0 c1 c2 c3 c4 c5 c6;refine (X7.out _).mono ?_;rintro e w3 ⟨rfl,hb3⟩;have yK:=hide (HG.out.below (dD (dD hbw hb2) hb3));obtain ⟨c0,c1,c2,c3,c4,c5,c6⟩:=jf (eG Tm h72 (hb2.trans (hb3.mono hb2.size)));dsimp only) | (go_at_call 8;clear c0 c1 c2 c3 c4 c5 c6;refine (VL.out _ (hb2.trans (hb3.mono hb2.size))).mono ?_;rintro e w4 ⟨rfl,hb4⟩;have yK:=hide (HG.out.below (dD (dD (dD hbw hb2) hb3) hb4));dsimp only) | (refine aC 23 (.tmp 3) rfl ?_;refine au (h3) Tryz.underlying23 rfl bU rfl (.tmp 3) rfl rfl ?_))
         refine wS.out _ _ ?_
         go_wp2_with (first | (go_at_call 9;refine (iR _ yK.out).mono ?_;rintro e w9 ⟨rfl,Au⟩;dsimp only))
         go_ret;exact ⟨rfl,dD (dD (dD (dD hbw hb2) hb3) hb4) Au⟩
     | false=>
       go_wp2_with (first | (go_at_call 6;refine (XZ.out).mono ?_;rintro e w2 ⟨rfl,hb2⟩;have yK:=hide (HG.out.below (dD hbw hb2));obtain ⟨c0,c1,c2,c3,c4,c5,c6⟩:=jf (eG Tm h72 hb2);dsimp only) | (go_at_call 7;clear c0 c1 c2 c3 c4 c5 c6;refine (X7.out _).mono ?_;rintro e w3 ⟨rfl,hb3⟩;have yK:=hide (HG.out.below (dD (dD hbw hb2) hb3));obtain ⟨c0,c1,c2,c3,c4,c5,c6⟩:=jf (eG Tm h72 (hb2.trans (hb3.mono hb2.size)));dsimp only) | (go_at_call 8;clear c0 c1 c2 c3 c4 c5 c6;refine (VL.out _ (hb2.trans (hb3.mono hb2.size))).mono ?_;rintro e w4 ⟨rfl,hb4⟩;have yK:=hide (HG.out.below (dD (dD (dD hbw hb2) hb3) hb4));dsimp only) | (refine aC 23 (.tmp 3) rfl ?_;refine au (h3) Tryz.underlying23 rfl bU rfl (.tmp 3) rfl rfl ?_))
       refine wS.out _ _ ?_
       go_wp2_with (first | (go_at_call 9;refine (iR _ yK.out).mono ?_;rintro e w9 ⟨rfl,Au⟩;dsimp only))
       go_ret;exact ⟨rfl,dD (dD (dD hbw hb2) hb3) Au⟩
theorem acV (W0:World) (r:M.Rules) (l:List Sh) (Al:Option Addr) (cl:Nat) (p:Int) (x:Sh) (HG:Hid (Glob W0)) (HN:Hid (VU W0 r l Al cl p x)):VT W0 r l Al cl p x:=by
 dsimp only [VT,qh]
 intros
 rename_i W hf
 dsimp only [iF,dG,Tryz.f3,Option.getD]
 have hB:=hf;have hA:=hB.a;have hk:=hB.k;obtain ⟨rfl,rfl,rfl,h3,h5,rl,rx,pl,ll,px,p0,hbw⟩:=id hA;have hck:=hB.ok.log;have hrl:=hB.ok.rules;have k0:=h5.cell (j:=0) rfl;have hm:=Ux (p:=p) (l:=l) (by omega) p0.1;have hw:IntKind.i64.wrap p=p:=nS p (by omega) (by omega)
 have h00:((l.length:Int) == 0)=false:=by rw [beq_eq_false_iff_ne];omega
 have h01:(l.length:Int)≠0:=by omega
 obtain ⟨n,hn⟩:∃ q,(dQ p l:Int)=q:=⟨_,rfl⟩;rw [hn] at hm
 have hw1:IntKind.i64.wrap (1+n)=n+1:=by rw [nS _ (by have:=hB.ok.len;omega) (by have:=hB.ok.len;omega)];omega
 have HB:=hide hB;have HN':=hide hn;clear hB hA hk hn hck hrl pl ll px;apply wp_seq_k;intro K hK;have HK:=hide hK;clear hK;go_wp2;refine HK.out _ _ ?_;apply HN.out;exact ⟨HB.out,by rw [HN'.out]⟩
theorem ac2 (W0:World) (r:M.Rules) (l:List Sh) (Al:Option Addr) (cl:Nat) (p:Int) (x:Sh) (HG:Hid (Glob W0)) (HN:Hid (VW W0 r l Al cl p x)):VU W0 r l Al cl p x:=by
 dsimp only [VU,qh]
 intros
 rename_i W hf
 dsimp only [iF,dG,Tryz.f3,Option.getD]
 obtain ⟨hB,rfl⟩:=hf;have hA:=hB.a;have hk:=hB.k;obtain ⟨rfl,rfl,rfl,h3,h5,rl,rx,pl,ll,px,p0,hbw⟩:=id hA;have hck:=hB.ok.log;have hrl:=hB.ok.rules;have Yc:W.rangeAt (W0.heap.size+1) 1 (aB x):=fun j v hj=>h5.cell (j:=1+j) (by rw [Nat.add_comm,List.getElem?_cons_succ];exact hj);have HC:=hide (tN (dQ p l) x.x x.a x.c hck hB.sh hk rl rx);apply wp_seq_k;intro K hK;have HK:=hide hK;clear hK
 go_wp2_with (first | (refine aC 27 (.tmp 70) rfl ?_;refine dw (g:=W0.heap.size+1) (o:=1) Yc Tryz.underlying27 rfl bY rfl (.tmp 70) rfl rfl ?_) | (go_at_call 10;refine (HC.out).mono ?_;rintro e w1 ⟨v,rfl,hq,hb1⟩;dsimp only))
 refine HK.out _ _ ?_;apply HN.out;exact ⟨hB.below hb1,rfl,hq,rfl⟩
theorem ac9 (W0:World) (r:M.Rules) (l:List Sh) (Al:Option Addr) (cl:Nat) (p:Int) (x:Sh) (HG:Hid (Glob W0)) (HN:Hid (VX W0 r l Al cl p x)):VW W0 r l Al cl p x:=by
 dsimp only [VW,qh]
 intros
 rename_i W hf
 dsimp only [iF,dG,Tryz.f3,Option.getD]
 obtain ⟨hB,rfl,hq,rfl⟩:=hf;have hA:=hB.a;have hk:=hB.k;obtain ⟨rfl,rfl,rfl,h3,h5,rl,rx,pl,ll,px,p0,hbw⟩:=id hA;have hck:=hB.ok.log;have hrl:=hB.ok.rules;obtain ⟨L,A9,c9,rfl,hL,r9⟩:=id hq
 have hlen:L.length=l.length:=by have:=congrArg List.length hL;rwa [aU,List.length_set,aU] at this
 have q0:((L.length:Int) != (l.length:Int))=false:=by rw [hlen];simp
 clear hlen;apply wp_seq_k;intro K hK;have HK:=hide hK;clear hK;apply wp_seq_k;intro K2 hK2;have wS:=hide hK2;clear hK2;go_wp2;refine wS.out _ _ ?_;go_wp2;refine HK.out _ _ ?_;apply HN.out;exact ⟨hB,rfl,hq⟩
theorem adi (W0:World) (r:M.Rules) (l:List Sh) (Al:Option Addr) (cl:Nat) (p:Int) (x:Sh) (HG:Hid (Glob W0)) (HN:Hid (VY W0 r l Al cl p x)):VX W0 r l Al cl p x:=by
 dsimp only [VX,qh]
 intros
 rename_i W hf
 dsimp only [iF,dG,Tryz.f3,Option.getD]
 obtain ⟨hB,rfl,hq⟩:=hf;have hA:=hB.a;have hk:=hB.k;obtain ⟨rfl,rfl,rfl,h3,h5,rl,rx,pl,ll,px,p0,hbw⟩:=id hA;have hck:=hB.ok.log;have hrl:=hB.ok.rules;obtain ⟨L,A9,c9,rfl,hL,r9⟩:=id hq;obtain ⟨b,o,rfl,_,hbl,hcs⟩:=Reads.at_ rl.1 (by omega)
 have h00:W.rangeAt b (o+dQ p l*7) (aB (l[dQ p l]'hk)):=fun j v hj=>by
  have Wn:j<7:=(List.getElem?_eq_some_iff.1 hj).1;rw [Nat.add_assoc];exact hcs _ _ ((eH l _ hk j Wn).trans hj)
 have i1:(0:Int)≤(dQ p l:Int):=by omega
 have i2:(dQ p l:Int)<(l.length:Int):=by omega
 have hll:=hB.ok.len
 have hw1:IntKind.i64.wrap ((dQ p l:Int)+1 - 1)=(dQ p l:Int):=by rw [nS _ (by omega) (by omega)];omega
 have hpk:=rl.2 _ (List.getElem_mem hk);have hsk:M.cZ (l[dQ p l]'hk).x=0:=((M.jB _).1 hck).2 _ (by rw [← sH l _ hk];exact List.getElem_mem _)
 have hlen:L.length=l.length:=by have:=congrArg List.length hL;rwa [aU,List.length_set,aU] at this
 have hbk:(plain L).set (dQ p l) (l[dQ p l]'hk).x=plain l:=by rw [hL, ← sH l _ hk,M.SG]
 have hco:=tN (L:=L) (dQ p l) (l[dQ p l]'hk).x _ _ (by rw [hL];exact hB.ck) hsk (by rw [hlen];exact hk) r9 hpk;rw [hbk] at hco;have HC:=hide hco;clear hcs hco hbk hsk hpk hlen;apply wp_seq_k;intro K hK;have HK:=hide hK;clear hK
 go_wp2_with (first | (refine aC 27 (.tmp 90) rfl ?_;refine dw (g:=b) (o:=o+dQ p l*7) h00 Tryz.underlying27 rfl bY rfl (.tmp 90) rfl rfl ?_) | (go_at_call 10;refine (HC.out).mono ?_;rintro e w1 ⟨v,rfl,hq2,hb1⟩;dsimp only))
 refine HK.out _ _ ?_;apply HN.out;exact ⟨hB.below hb1,rfl,hq.below hb1,hq2,rfl⟩
theorem adr (W0:World) (r:M.Rules) (l:List Sh) (Al:Option Addr) (cl:Nat) (p:Int) (x:Sh) (HG:Hid (Glob W0)) (HN:Hid (NY W0 r l Al cl p x)):VY W0 r l Al cl p x:=by
 dsimp only [VY,qh]
 intros
 rename_i W hf
 dsimp only [iF,dG,Tryz.f3,Option.getD]
 obtain ⟨hB,rfl,hq,hq2,rfl⟩:=hf;have hA:=hB.a;have hk:=hB.k;obtain ⟨rfl,rfl,rfl,h3,h5,rl,rx,pl,ll,px,p0,hbw⟩:=id hA;have hck:=hB.ok.log;have hrl:=hB.ok.rules;obtain ⟨L,A9,c9,rfl,hL,r9⟩:=id hq;have hch:=II (L:=l) (K:=L) hrl hck (by rw [hL];exact hB.ck) rl r9;rw [hL] at hch;have HC:=hide hch;clear hch;apply wp_seq_k;intro K hK;have HK:=hide hK;clear hK
 go_wp2_with (first | (refine aC 23 (.tmp 3) rfl ?_;refine au (h3) Tryz.underlying23 rfl bU rfl (.tmp 3) rfl rfl ?_) | (go_at_call 11;refine HC.out.mono ?_;rintro e w1 ⟨rfl,hb1⟩;dsimp only))
 refine HK.out _ _ ?_;apply HN.out;exact ⟨hB.below hb1,rfl,hq.below hb1,hq2.below hb1,rfl,rfl,rfl⟩
theorem YQ (W0:World) (r:M.Rules) (l:List Sh) (Al:Option Addr) (cl:Nat) (p:Int) (x:Sh) (HG:Hid (Glob W0)) (HN:Hid (NZ W0 r l Al cl p x)):NY W0 r l Al cl p x:=by
 dsimp only [NY,qh]
 intros
 rename_i W hf
 dsimp only [iF,dG,Tryz.f3,Option.getD]
 obtain ⟨hB,rfl,hq,hq2,rfl,rfl,rfl⟩:=hf;have hA:=hB.a;have hk:=hB.k;obtain ⟨rfl,rfl,rfl,h3,h5,rl,rx,pl,ll,px,p0,hbw⟩:=id hA;have hck:=hB.ok.log;have hrl:=hB.ok.rules;have HC:=hide (Fb (L:=l) hrl hck rl);apply wp_seq_k;intro K hK;have HK:=hide hK;clear hK
 go_wp2_with (first | (refine aC 23 (.tmp 3) rfl ?_;refine au (h3) Tryz.underlying23 rfl bU rfl (.tmp 3) rfl rfl ?_) | (go_at_call 12;refine HC.out.mono ?_;rintro e w1 ⟨v,rfl,hn,hb1⟩;dsimp only))
 refine HK.out _ _ ?_;apply HN.out;exact ⟨hB.below hb1,rfl,hq.below hb1,hq2.below hb1,rfl,⟨rfl,rfl⟩,hn,rfl⟩
theorem YR (W0:World) (r:M.Rules) (l:List Sh) (Al:Option Addr) (cl:Nat) (p:Int) (x:Sh) (HG:Hid (Glob W0)) (HN:Hid (N7 W0 r l Al cl p x)):NZ W0 r l Al cl p x:=by
 dsimp only [NZ,qh]
 intros
 rename_i W hf
 dsimp only [iF,dG,Tryz.f3,Option.getD]
 obtain ⟨hB,rfl,hq,hq2,rfl,⟨rfl,rfl⟩,hn1,rfl⟩:=hf;have hA:=hB.a;have hk:=hB.k;obtain ⟨rfl,rfl,rfl,h3,h5,rl,rx,pl,ll,px,p0,hbw⟩:=id hA;have hck:=hB.ok.log;have hrl:=hB.ok.rules;obtain ⟨L,A9,c9,rfl,hL,r9⟩:=id hq;have hnn:=Fb (r:=r) (L:=L) hrl (by rw [hL];exact hB.ck) r9;rw [hL] at hnn;have HC:=hide hnn;clear hnn;apply wp_seq_k;intro K hK;have HK:=hide hK;clear hK
 go_wp2_with (first | (refine aC 23 (.tmp 3) rfl ?_;refine au (h3) Tryz.underlying23 rfl bU rfl (.tmp 3) rfl rfl ?_) | (go_at_call 12;refine HC.out.mono ?_;rintro e w1 ⟨v,rfl,hn,hb1⟩;dsimp only))
 refine HK.out _ _ ?_;apply HN.out;exact ⟨hB.below hb1,rfl,hq2.below hb1,rfl,⟨rfl,rfl⟩,hn1.below hb1,rfl,hn,rfl⟩
theorem YS (W0:World) (r:M.Rules) (l:List Sh) (Al:Option Addr) (cl:Nat) (p:Int) (x:Sh) (HG:Hid (Glob W0)) (HN:Hid (N8 W0 r l Al cl p x)):N7 W0 r l Al cl p x:=by
 dsimp only [N7,qh]
 intros
 rename_i W hf
 dsimp only [iF,dG,Tryz.f3,Option.getD]
 obtain ⟨hB,rfl,hq2,rfl,⟨rfl,rfl⟩,hn1,rfl,hn2,rfl⟩:=hf;have hA:=hB.a;have hk:=hB.k;obtain ⟨rfl,rfl,rfl,h3,h5,rl,rx,pl,ll,px,p0,hbw⟩:=id hA;have hck:=hB.ok.log;have hrl:=hB.ok.rules;obtain ⟨L,A9,c9,rfl,hL,r9⟩:=id hq2;obtain ⟨A15,c15,rfl,r15⟩:=id hn1;obtain ⟨A17,c17,rfl,r17⟩:=id hn2;have hll:L.length=l.length:=uY hL
 have hpL:∀ e∈L,e.x.aF.length*16≤140737488355328:=fun e he=>by
  have:e.x∈plain l:=by rw [← hL];exact List.mem_map_of_mem he
  obtain ⟨e',h1,h2⟩:=List.mem_map.1 this;rw [← h2];exact pl e' h1
 have HO1:=hide (fun _:True=>qy (fun _=>True) L A9 c9 W r9 (by rw [hll];exact ll) hpL);have HO2:=hide (fun hb:True=>fun w1 (hb:Below W.heap.size W w1)=>qy (fun _=>True) l Al cl w1 (rl.below hb) ll pl);have Ey:=hide (fun w2 (m1 m2:List Sh) (B1 B2:Option Addr) (d1 d2:Nat) (S S':Nat→Prop) (h1:plain m1=plain L) (h2:plain m2=plain l) (r1:jF w2 S B1 d1 m1) (r2:jF w2 S' B2 d2 m2)=>BA S S' m1 m2 B1 B2 d1 d2 w2 r1 r2 (by rw [h1,h2,hL]))
 have e1:(M.notes r (M.start r) 1 (plain l)).length=l.length:=by rw [M.kF,aU]
 have e2:(M.notes r (M.start r) 1 ((plain l).set (dQ p l) x.x)).length=l.length:=by rw [M.kF,List.length_set,aU]
 have q1:(((M.notes r (M.start r) 1 (plain l)).length:Int) != (l.length:Int))=false:=by rw [e1];simp
 have q2:(((M.notes r (M.start r) 1 ((plain l).set (dQ p l) x.x)).length:Int) != (l.length:Int))=false:=by rw [e2];simp
 have hcs:=M.EH r (plain l) x.x (dQ p l);obtain ⟨v,hv⟩:∃ q,(M.changed r (plain l) ((plain l).set (dQ p l) x.x))=q:=⟨_,rfl⟩;rw [hv] at hcs;rw [hv];have tok:True:=trivial;clear e1 e2 hv r15 r17 hpL pl px hll r9;apply wp_seq_k;intro K hK;have HK:=hide hK;clear hK;apply wp_seq_k;intro K2 hK2;have wS:=hide hK2;clear hK2
 by_cases h0:v=0
 · have q3:(v != 0)=false:=by simp [h0]
   clear hcs h0
   go_wp2_with (first | (clear tok;go_at_call 5;refine (HO1.out trivial).mono ?_;rintro e w1 ⟨m1,B1,d1,hm1,rfl,hr1,hb1⟩;dsimp only) | (go_at_call 5;refine (HO2.out trivial w1 hb1).mono ?_;rintro e w2 ⟨m2,B2,d2,hm2,rfl,hr2,hb2⟩;dsimp only) | (go_at_call 13;refine (Ey.out _ _ _ _ _ _ _ _ _ hm1 hm2 (hr1.below hb2) hr2).mono ?_;rintro e w3 ⟨rfl,hb3⟩;dsimp only))
   refine wS.out _ _ ?_;go_wp2;refine HK.out _ _ ?_;apply HN.out;exact ⟨((hB.below hb1).below hb2).below hb3,rfl,((hn1.below hb1).below hb2).below hb3,((hn2.below hb1).below hb2).below hb3⟩
 · have q3:(v != 0)=true:=by simpa using h0
   have q4:¬ v<(dQ p l:Int)+1:=by omega
   clear hcs h0
   go_wp2_with (first | (clear tok;go_at_call 5;refine (HO1.out trivial).mono ?_;rintro e w1 ⟨m1,B1,d1,hm1,rfl,hr1,hb1⟩;dsimp only) | (go_at_call 5;refine (HO2.out trivial w1 hb1).mono ?_;rintro e w2 ⟨m2,B2,d2,hm2,rfl,hr2,hb2⟩;dsimp only) | (go_at_call 13;refine (Ey.out _ _ _ _ _ _ _ _ _ hm1 hm2 (hr1.below hb2) hr2).mono ?_;rintro e w3 ⟨rfl,hb3⟩;dsimp only))
   refine wS.out _ _ ?_;go_wp2;refine HK.out _ _ ?_;apply HN.out;exact ⟨((hB.below hb1).below hb2).below hb3,rfl,((hn1.below hb1).below hb2).below hb3,((hn2.below hb1).below hb2).below hb3⟩
theorem zN {W:World} {b o:Nat} {n:M.Note} (h:W.rangeAt b o [.int .i64 n.number,.int .i64 n.aN,.int .i64 n.rule,.int .i64 n.fU,.int .i64 n.points,.bool n.turn]):W.cell? ⟨b,o,none⟩=some (.int .i64 n.number)∧W.cell? ⟨b,o+1,none⟩=some (.int .i64 n.aN)∧W.cell? ⟨b,o+2,none⟩=some (.int .i64 n.rule)∧W.cell? ⟨b,o+3,none⟩=some (.int .i64 n.fU)∧W.cell? ⟨b,o+4,none⟩=some (.int .i64 n.points)∧W.cell? ⟨b,o+5,none⟩=some (.bool n.turn):=
 ⟨h 0 _ rfl,h 1 _ rfl,h 2 _ rfl,h 3 _ rfl,h 4 _ rfl,h 5 _ rfl⟩
theorem FP {ns:List M.Note} {W:World} {A:Option Addr} {c:Nat} (h:Reads W (fun _=>True) 6 A ns.length c (noteCells ns)) (k:Nat) (hk:k<ns.length):∃ b o,A=some ⟨b,o,none⟩∧W.rangeAt b (o+k*6) [.int .i64 (ns[k]'hk).number,.int .i64 (ns[k]'hk).aN,.int .i64 (ns[k]'hk).rule,.int .i64 (ns[k]'hk).fU,.int .i64 (ns[k]'hk).points,.bool (ns[k]'hk).turn]:=by
 obtain ⟨b,o,e,_,_,hc⟩:=Reads.at_ h (by omega);exact ⟨b,o,e,sK (f:=fun x:M.Note=>[.int .i64 x.number,.int .i64 x.aN,.int .i64 x.rule,.int .i64 x.fU,.int .i64 x.points,.bool x.turn]) (fun _=>rfl) hc k hk⟩
theorem YT (W0:World) (r:M.Rules) (l:List Sh) (Al:Option Addr) (cl:Nat) (p:Int) (x:Sh) (HG:Hid (Glob W0)) (HN:Hid (N9 W0 r l Al cl p x)):N8 W0 r l Al cl p x:=by
 dsimp only [N8,qh]
 intros
 rename_i W hf
 dsimp only [iF,dG,Tryz.f3,Option.getD]
 obtain ⟨hB,rfl,hn1,hn2⟩:=hf;have hA:=hB.a;have hk:=hB.k;obtain ⟨rfl,rfl,rfl,h3,h5,rl,rx,pl,ll,px,p0,hbw⟩:=id hA;have hck:=hB.ok.log;have hrl:=hB.ok.rules;obtain ⟨A15,c15,rfl,r15⟩:=id hn1;obtain ⟨A17,c17,rfl,r17⟩:=id hn2
 have e1:(M.notes r (M.start r) 1 (plain l)).length=l.length:=by rw [M.kF,aU]
 have e2:(M.notes r (M.start r) 1 ((plain l).set (dQ p l) x.x)).length=l.length:=by rw [M.kF,List.length_set,aU]
 have hll:=hB.ok.len
 have hw1:IntKind.i64.wrap ((dQ p l:Int)+1 - 1)=(dQ p l:Int):=by rw [nS _ (by omega) (by omega)];omega
 have HST:=hide (fun j (h:j<dQ p l) (h1:j<(M.notes r (M.start r) 1 (plain l)).length) (h2:j<(M.notes r (M.start r) 1 ((plain l).set (dQ p l) x.x)).length)=>M.L6 r (plain l) x.x (dQ p l) j h h1 h2);obtain ⟨n1,hn1'⟩:∃ q,(M.notes r (M.start r) 1 (plain l))=q:=⟨_,rfl⟩;obtain ⟨n2,YD⟩:∃ q,(M.notes r (M.start r) 1 ((plain l).set (dQ p l) x.x))=q:=⟨_,rfl⟩;rw [hn1'] at r15 e1 HST ⊢;rw [YD] at r17 e2 HST ⊢;have HE:=hide (And.intro e1 e2);have HB:=hide hB;obtain ⟨k,hkk⟩:∃ q,dQ p l=q:=⟨_,rfl⟩;have HKK:=hide hkk;rw [hkk] at hw1 hk HST ⊢;clear hn1 hn2 hn1' YD hA hB rl rx pl ll px hck hrl e1 e2 hkk;apply wp_seq_k;intro K hK;have HK:=hide hK;clear hK;go_wp2
 go_loopw [161] (fun i wr=>∃ j:Nat,j≤k∧i= .int .i64 j∧Below W.heap.size W wr) (fun i _=>k - (intOf i).toNat)
 case atStart=>exact ⟨0,by omega,rfl,Below.refl _ _⟩
 case round=>
  obtain ⟨j,hj,rfl,hb⟩:=hrel
  by_cases hjl:j<k
  · have hjb:(j:Int)<(k:Int):=by omega
    have hj1:j<n1.length:=by rw [HE.out.1];omega
    have hj2:j<n2.length:=by rw [HE.out.2];omega
    obtain ⟨b1,o1,rfl,hr1⟩:=FP (Reads.below r15 hb) j hj1;obtain ⟨b2,o2,rfl,hr2⟩:=FP (Reads.below r17 hb) j hj2;rw [← HST.out j hjl hj1 hj2] at hr2;obtain ⟨n,hn⟩:∃ q,n1[j]'hj1=q:=⟨_,rfl⟩;rw [hn] at hr1 hr2;obtain ⟨c0,c1,c2,c3,c4,c5⟩:=zN hr1;obtain ⟨d0,d1,d2,d3,d4,d5⟩:=zN hr2
    have i1:(0:Int)≤(j:Int):=by omega
    have i2:(j:Int)<(n1.length:Int):=by omega
    have i3:(j:Int)<(n2.length:Int):=by omega
    have hwj:IntKind.i64.wrap ((j:Int)+1)=((j+1:Nat):Int):=by rw [nS _ (by omega) (by omega)];rfl
    clear hn hr1 hr2 hj1 hj2
    go_upto_region 17 with (fail)
    go_quiet (fail)
    go_wp2
    go_roundw
    case rel=>exact ⟨j+1,by omega,by go_num,below_drewN hb nq⟩
    case measure=>simp [intOf];omega
  · obtain rfl:j=k:=by omega
    have hjb:¬ (j:Int)<(j:Int):=by omega
    go_wp2;refine HK.out _ _ ?_;apply HN.out;exact ⟨HB.out.below hb,by rw [HKK.out]⟩
theorem Sz {W:World} {S:Nat→Prop} {A:Option Addr} {c:Nat} {l:List Sh} (h:jF W S A c l) (k:Nat) (hk:k≤l.length):jF W S A c (l.take k):=by
 refine ⟨?_,fun e he=>h.2 e (List.mem_of_mem_take he)⟩;have h1:=Reads.take h.1 hk
 have e:bM (l.take k)=(bM l).take (k*7):=by
  conv=>rhs;rw [← List.take_append_drop k l,fQ]
  rw [List.take_left'];rw [dh,List.length_take_of_le hk]
 rw [← e] at h1
 rwa [List.length_take_of_le hk]
theorem JY {W0 W:World} {r:M.Rules} {l:List Sh} {Al:Option Addr} {cl:Nat} {p:Int} {x:Sh} {v1 v3 v5:Value} (h:yL W0 r l Al cl p x v1 v3 v5 W):(M.fH r (plain l) (dQ p l)).turn=0∨(M.fH r (plain l) (dQ p l)).turn=1:=by
 have h:=(vH h.ok.rules (fun e he=>((M.jB _).1 h.ok.log).2 _ (List.mem_map_of_mem he)) (dQ p l) (Nat.le_of_lt h.k)).turn
 unfold jE at h
 rw [qG] at h;exact h
theorem U7 (W:World):fA W (fun _=>True) none 0 []:=⟨Nat.le_refl _,by omega,by simp,rfl,fun h=>absurd h (by simp)⟩
theorem YW (W0:World) (r:M.Rules) (l:List Sh) (Al:Option Addr) (cl:Nat) (p:Int) (x:Sh) (HG:Hid (Glob W0)) (HN:Hid (Oc W0 r l Al cl p x)):Ob W0 r l Al cl p x:=by
 dsimp only [Ob,qh]
 intros
 rename_i W hf
 dsimp only [iF,dG,Tryz.f3,Option.getD]
 obtain ⟨hB,rfl,h20,h21,rfl⟩:=hf;apply wp_seq_k;intro K hK;have HK:=hide hK;clear hK;apply wp_seq_k;intro K2 hK2;have wS:=hide hK2;clear hK2;go_wp2;refine wS.out _ _ ?_;go_wp2;refine HK.out _ _ ?_;apply HN.out;exact ⟨hB,rfl,h20,h21⟩
theorem YX (W0:World) (r:M.Rules) (l:List Sh) (Al:Option Addr) (cl:Nat) (p:Int) (x:Sh) (HG:Hid (Glob W0)) (HN:Hid (Oe W0 r l Al cl p x)):Oc W0 r l Al cl p x:=by
 dsimp only [Oc,qh]
 intros
 rename_i W hf
 dsimp only [iF,dG,Tryz.f3,Option.getD]
 obtain ⟨hB,rfl,h20,h21⟩:=hf;have hbw:=hB.a.bw;have yK:=hide (HG.out.below hbw);obtain ⟨B,A,c,rfl,h1,h2⟩:=id h21;have k4:=h1.cell (j:=4) rfl;have k13:=h1.cell (j:=13) rfl;obtain ⟨s,hs⟩:∃ q,(M.fH r (plain l) (dQ p l))=q:=⟨_,rfl⟩;have HS:=hide hs;rw [hs] at k4 k13;obtain ⟨y1,hy1⟩:∃ q,s.pushed=q:=⟨_,rfl⟩;obtain ⟨y2,hy2⟩:∃ q,s.over=q:=⟨_,rfl⟩;rw [hy1] at k4;rw [hy2] at k13;have HY:=hide (And.intro hy1 hy2);have HBB:=hide (And.intro hB (And.intro h20 h21));clear hs hy1 hy2 h21 h20 hB h1 h2;apply wp_seq_k;intro K hK;have HK:=hide hK;clear hK;apply wp_seq_k;intro K2 hK2;have wS:=hide hK2;clear hK2
 cases y1 with
 | true=>
   go_wp2;refine wS.out _ _ ?_
   go_wp2_with (first | (go_at_call 9;refine (iR _ yK.out).mono ?_;rintro e w9 ⟨rfl,Au⟩;dsimp only))
   go_ret;exact ⟨rfl,dD hbw Au⟩
 | false=>
   cases y2 with
   | true=>
     go_wp2;refine wS.out _ _ ?_
     go_wp2_with (first | (go_at_call 9;refine (iR _ yK.out).mono ?_;rintro e w9 ⟨rfl,Au⟩;dsimp only))
     go_ret;exact ⟨rfl,dD hbw Au⟩
   | false=>
     go_wp2;refine wS.out _ _ ?_;go_wp2;refine HK.out _ _ ?_;apply HN.out;exact ⟨HBB.out.1,rfl,HBB.out.2.1,HBB.out.2.2,by rw [HS.out];exact HY.out.1,by rw [HS.out];exact HY.out.2⟩
theorem YZ (W0:World) (r:M.Rules) (l:List Sh) (Al:Option Addr) (cl:Nat) (p:Int) (x:Sh) (HG:Hid (Glob W0)) (HN:Hid (Og W0 r l Al cl p x)):Oe W0 r l Al cl p x:=by
 dsimp only [Oe,qh]
 intros
 rename_i W hf
 dsimp only [iF,dG,Tryz.f3,Option.getD]
 obtain ⟨hB,rfl,h20,h21,hnp⟩:=hf;have hA:=hB.a;have hk:=hB.k;obtain ⟨rfl,rfl,rfl,h3,h5,rl,rx,pl,ll,px,p0,hbw⟩:=id hA;have hck:=hB.ok.log;have hrl:=hB.ok.rules;obtain ⟨B,A,c,rfl,h1,h2⟩:=id h21;have k0:=h1.cell (j:=0) rfl;have HC:=hide (tN (L:=l) (dQ p l) (IG (M.fH r (plain l) (dQ p l))) none 0 hck (M.Kq _ (JY hB)) hk rl (U7 W));apply wp_seq_k;intro K hK;have HK:=hide hK;clear hK
 go_wp2_with (go_at_call 10;refine (HC.out).mono ?_;rintro e w1 ⟨v,rfl,hq,hb1⟩;dsimp only)
 refine HK.out _ _ ?_;apply HN.out;exact ⟨hB.below hb1,h20.below hb1,hnp,hq,rfl⟩
theorem Y1 (W0:World) (r:M.Rules) (l:List Sh) (Al:Option Addr) (cl:Nat) (p:Int) (x:Sh) (HG:Hid (Glob W0)) (HN:Hid (Oh W0 r l Al cl p x)):Og W0 r l Al cl p x:=by
 dsimp only [Og,qh]
 intros
 rename_i W hf
 dsimp only [iF,dG,Tryz.f3,Option.getD]
 obtain ⟨hB,h20,hnp,h24,rfl⟩:=hf;apply wp_seq_k;intro K hK;have HK:=hide hK;clear hK;apply wp_seq_k;intro K2 hK2;have wS:=hide hK2;clear hK2;go_wp2;refine wS.out _ _ ?_;go_wp2;refine HK.out _ _ ?_;apply HN.out;exact ⟨hB,h20,hnp,h24⟩
theorem YU (W0:World) (r:M.Rules) (l:List Sh) (Al:Option Addr) (cl:Nat) (p:Int) (x:Sh) (HG:Hid (Glob W0)) (HN:Hid (Oa W0 r l Al cl p x)):N9 W0 r l Al cl p x:=by
 dsimp only [N9,qh]
 intros
 rename_i W hf
 dsimp only [iF,dG,Tryz.f3,Option.getD]
 obtain ⟨hB,rfl⟩:=hf;have hA:=hB.a;have hk:=hB.k;obtain ⟨rfl,rfl,rfl,h3,h5,rl,rx,pl,ll,px,p0,hbw⟩:=id hA;have hck:=hB.ok.log;have hrl:=hB.ok.rules;obtain ⟨b,o,rfl,_,hbl,_⟩:=Reads.at_ rl.1 (by omega);have hll:=hB.ok.len
 have hl0:0<l.length:=by omega
 have hw1:IntKind.i64.wrap (((dQ p l):Int)+1 - 1)=((dQ p l):Int):=by rw [nS _ (by omega) (by omega)];omega
 have hcl:=rl.1.bd.1;have hw2:IntKind.i64.wrap ((dQ p l):Int)=((dQ p l):Int):=nS _ (by omega) (by omega)
 have j1:(0:Int)≤((dQ p l):Int):=by omega
 have j2:((dQ p l):Int)≤(cl:Int):=by omega
 have am2:=hcl;obtain ⟨D,hD⟩:∃ q,(if cl=(dQ p l)+1 then o else o+((dQ p l)+1)*7)=q:=⟨_,rfl⟩;obtain ⟨m,hm⟩:∃ q,l.length - ((dQ p l)+1)=q:=⟨_,rfl⟩;obtain ⟨c2,hc2⟩:∃ q,cl - ((dQ p l)+1)=q:=⟨_,rfl⟩
 have hD2:(if cl=(dQ p l)+1 then (some ⟨b,o,none⟩:Option Addr) else some ⟨b,o+((dQ p l)+1)*7,none⟩)=some ⟨b,D,none⟩:=by rw [← hD];by_cases h:cl=(dQ p l)+1 <;> simp [h]
 have j3:(0:Int)≤((dQ p l):Int)+1:=by omega
 have j4:((dQ p l):Int)+1≤(l.length:Int):=by omega
 have j5:(((dQ p l):Int)+1).toNat=(dQ p l)+1:=by omega
 have hD:=hide hD;have hd:=fun W' (hb:Below W.heap.size W W')=>LV (rl.below hb) hl0 ((dQ p l)+1) hk;rw [hD.out] at hd;have hd:=hide hd;clear hD;obtain ⟨i0,hi0,hz0,hz1,hz2⟩:=info_parts xI;clear hck hrl rx pl ll px;apply wp_seq_k;intro K hK;have HK:=hide hK;clear hK;refine wp_region_held_drew (S:=(fun w':World=>Below W.heap.size W w')) (by kernel_rfl) ?jv (fun hHeld=>?_)
 case jv=>exact (Below.refl _ _).drew
 refine tk 1 ?_;refine tk 2 ?_;refine tk 3 ?_;refine tk 4 ?_;refine tk 6 ?_;refine tk 7 ?_;refine tk 8 ?_;refine tr 0 fun K hK=>?_;go_simp;have hown0:World.ownsRow (W.drew.alloc (.cells #[] 27)) W.heap.size 27 7 (.slice (some ⟨W.heap.size,0,none⟩) 0 0) 0 []:=⟨rfl,.inr ⟨W.heap.size,0, #[],rfl,Nat.le_refl _,heap_alloc_new W.drew _,Nat.le_refl _,by decide,rfl,rfl⟩⟩;refine hK.out _ _ ?ZH (fun hHeld=>?_)
 case ZH=>(exact Below.alloc hHeld hHeld.size _)
 clear hK K
 try simp only [Act.put,la,lz,ls]
 refine tr 5 fun K hK=>?_;refine rO rfl _ _ _ rfl W.heap.size 27 i0 (.agg #[.int .i64 0,.string ⟨#[]⟩,.int .i64 0,.int .i64 0,.int .i64 0,.bool false,.slice none 0 0]) 7 80 Tryz.underlying24 hi0 hz0 hz1 hz2 rfl (by omega) _ 0 [] rfl hown0 ⟨b,o,none⟩ (dQ p l) cl (bM (l.take (dQ p l))) rfl (by rw [dh,List.length_take_of_le (Nat.le_of_lt hk)]) (LW (rl.below hHeld) hl0 _) (Ei _) (by simp only [maxLen];omega) (by omega) hHeld.size ?_;intro v5 w5 hown5 hg5;rw [Nat.zero_add,List.nil_append] at hown5;refine hK.out _ _ ?Q9 (fun hHeld=>?_)
 case Q9=>(exact hHeld.trans ((dZ hown0 hg5 (Nat.le_refl _) hHeld.size).mono (Nat.le_refl _)))
 clear hK K
 try simp only [Act.put,la,lz,ls]
 refine tr 9 fun K hK=>?_;refine rO rfl _ _ _ rfl W.heap.size 27 i0 (.agg #[.int .i64 0,.string ⟨#[]⟩,.int .i64 0,.int .i64 0,.int .i64 0,.bool false,.slice none 0 0]) 7 80 Tryz.underlying24 hi0 hz0 hz1 hz2 rfl (by omega) _ (dQ p l) (bM (l.take (dQ p l))) rfl hown5 ⟨b,D,none⟩ m c2 (bM (l.drop ((dQ p l)+1))) rfl (by rw [dh,List.length_drop,hm]) (hd.out _ hHeld) (Ei _) (by simp only [maxLen];omega) (by omega) hHeld.size ?_;intro v9 w9 JM hg9;refine hK.out _ _ ?Rh (fun hHeld=>?_)
 case Rh=>(exact hHeld.trans ((dZ hown5 hg9 (Nat.le_refl _) hHeld.size).mono (Nat.le_refl _)))
 clear hK K
 try simp only [Act.put,la,lz,ls]
 refine tk 10 ?_;refine wpAnyH_done (by kernel_rfl) ?_ _;refine HK.out _ _ ?_;apply HN.out;obtain ⟨A9,c9,rfl⟩:=Bh JM;refine ⟨hB.below hHeld,rfl,l.take (dQ p l)++l.drop ((dQ p l)+1),A9,c9,?_,by rw [MH,qG,Ja],?_,fun e he=>?_⟩
 · rw [List.length_append,List.length_take_of_le (Nat.le_of_lt hk),List.length_drop,hm]
 · rw [← fQ] at JM
   have hL:(l.take (dQ p l)++l.drop ((dQ p l)+1)).length=(dQ p l)+m:=by rw [List.length_append,List.length_take_of_le (Nat.le_of_lt hk),List.length_drop,hm]
   rw [← hL] at JM;exact Reads.jh JM (fun _ _=>trivial) (by rw [hL];omega)
 · exact Reads.below (rl.2 e ((List.mem_append.1 he).elim List.mem_of_mem_take List.mem_of_mem_drop)) hHeld
theorem YV (W0:World) (r:M.Rules) (l:List Sh) (Al:Option Addr) (cl:Nat) (p:Int) (x:Sh) (HG:Hid (Glob W0)) (HN:Hid (Ob W0 r l Al cl p x)):Oa W0 r l Al cl p x:=by
 dsimp only [Oa,qh]
 intros
 rename_i W hf
 dsimp only [iF,dG,Tryz.f3,Option.getD]
 obtain ⟨hB,rfl,h20⟩:=hf;have hA:=hB.a;have hk:=hB.k;obtain ⟨rfl,rfl,rfl,h3,h5,rl,rx,pl,ll,px,p0,hbw⟩:=id hA;have hck:=hB.ok.log;have hrl:=hB.ok.rules;have hll:=hB.ok.len
 have hw1:IntKind.i64.wrap (((dQ p l):Int)+1 - 1)=((dQ p l):Int):=by rw [nS _ (by omega) (by omega)];omega
 have hcl:=rl.1.bd.1;have hw2:IntKind.i64.wrap ((dQ p l):Int)=((dQ p l):Int):=nS _ (by omega) (by omega)
 have j1:(0:Int)≤((dQ p l):Int):=by omega
 have j2:((dQ p l):Int)≤(cl:Int):=by omega
 have hr3:∀ W',(fun w':World=>Below W.heap.size W w') W'→W'.rangeAt W0.heap.size 0 ([.string r.game,.int .i64 r.target,.int .i64 r.bG]):=fun W' h=>(h3.below h).range;have hlt:(l.take (dQ p l)).length=(dQ p l):=List.length_take_of_le (Nat.le_of_lt hk);have hre:=fun w' (hb:Below W.heap.size W w')=>wE (r:=r) (L:=l.take (dQ p l)) (A:=Al) (c:=cl) (W:=w') hrl (by rw [qG];exact M.Ic hck _) (M.fH r (plain l) (dQ p l)) (by rw [qG];rfl) (Sz (rl.below hb) _ (Nat.le_of_lt hk))
 simp only [hlt] at hre
 have HR:=hide hre;clear hre hcl;apply wp_seq_k;intro K hK;have HK:=hide hK;clear hK;refine wp_region_held_drew (S:=(fun w':World=>Below W.heap.size W w')) (by kernel_rfl) ?iM (fun hHeld=>?_)
 case iM=>exact (Below.refl _ _).drew
 refine wpAnyH_take (i:=0) (oi:=_) (v:=_) (ga rfl) (by kernel_rfl) (by kernel_rfl) (by kernel_rfl) (fun _ _ _ h=>h) (yieldsIf_load_mid (by rfl) _ _ (by rfl) _ _ (by rfl) _ _ hr3 Tryz.underlying23 rfl (by kernel_rfl)) (by assumption) ?_
 try simp only [Act.put,la,lz,ls]
 refine tk 1 ?_;refine tk 2 ?_;refine tk 3 ?_;refine tk 4 ?_;refine wpAnyH_ready (rs:=[5,10]) (by kernel_rfl) (by simp) ?_;refine AllReadyH.cons (o:=_) (ga rfl) (fun K hK=>?_) (AllReadyH.cons (o:=_) (ga rfl) (fun K hK=>?_) AllReadyH.nil)
 · go_simp
   (go_at_call 14;refine (HR.out _ hHeld).mono ?_;rintro e w1 ⟨A1,c1,v2,rfl,⟨A2,c2,rfl⟩,hr1,hb1⟩)
   first | (have hbx:=Held.below hbx0 hb1;have hrr:=bT.more hr1 (S':=fun b=>b≠W.heap.size) (fun b _ h=>by have h3:W.heap.size<_:=hbx0.lt;intro e;have h4:=Nat.lt_of_lt_of_le h3 h;omega)) | skip
   refine hK.out _ _ ?RG (fun hHeld=>?_)
   case RG=>(exact hHeld.trans (hb1.mono hHeld.size))
   clear hK K
   try simp only [Act.put,la,lz,ls]
   refine tk 6 ?_;refine tk 7 ?_;refine tk 8 ?_;refine tk 9 ?_;refine tr 10 fun K hK=>?_;go_simp;have hgg:=hHeld.size;have hbx0:=newAt hHeld aZ 53
   first | (have hrr:=(bT.more hr1 (S':=fun b=>b≠w1.heap.size) (fun b hl _=>Nat.ne_of_lt hl)).below ((Below.refl _ _).alloc (Nat.le_refl _) (.cells aZ.toArray 53));have hbx:=hbx0) | skip
   refine hK.out _ _ ?wJ (fun hHeld=>?_)
   case wJ=>(exact Below.alloc hHeld hHeld.size _)
   clear hK K
   try simp only [Act.put,la,lz,ls]
   refine wpAnyH_ready (rs:=[11]) (by kernel_rfl) (by simp) ?_;have hbz:=below_setCells _ hgg (aO (M.fH r (plain l) (dQ p l)) A1 c1) 0 _ _ hHeld;refine dA (o:=_) (ga rfl) (by kernel_rfl) hbx (aO (M.fH r (plain l) (dQ p l)) A1 c1) rfl bF (fD _ _ _) (.tmp 21) (.tmp 191) rfl rfl rfl (by exact hbz) ?_
   try simp only [Act.put,la,lz,ls]
   refine tk 12 ?_;refine tk 13 ?_;refine wpAnyH_done (by kernel_rfl) ?_ _;refine HK.out _ _ ?_;apply HN.out;refine ⟨hB.below hbz,rfl,h20.below hbz,⟨_,A1,c1,rfl,hbx.whole _ rfl,?_⟩,rfl⟩;exact bT.more (Reads.keep hrr (by rw [setCells_size];exact Nat.le_refl _) (fun b o hb _=>World.cell?_of_block (Held.jK hb _ _ _))) (fun _ _ _=>trivial)
 · go_simp
   have hgg:=hHeld.size;have hbx0:=newAt hHeld aZ 53
   first | (have hrr:=(bT.more hr1 (S':=fun b=>b≠w1.heap.size) (fun b hl _=>Nat.ne_of_lt hl)).below ((Below.refl _ _).alloc (Nat.le_refl _) (.cells aZ.toArray 53));have hbx:=hbx0) | skip
   refine hK.out _ _ ?MS (fun hHeld=>?_)
   case MS=>(exact Below.alloc hHeld hHeld.size _)
   clear hK K
   try simp only [Act.put,la,lz,ls]
   refine tr 5 fun K hK=>?_;go_simp
   (go_at_call 14;refine (HR.out _ hHeld).mono ?_;rintro e w1 ⟨A1,c1,v2,rfl,⟨A2,c2,rfl⟩,hr1,hb1⟩)
   first | (have hbx:=Held.below hbx0 hb1;have hrr:=bT.more hr1 (S':=fun b=>b≠W.heap.size) (fun b _ h=>by have h3:W.heap.size<_:=hbx0.lt;intro e;have h4:=Nat.lt_of_lt_of_le h3 h;omega)) | skip
   refine hK.out _ _ ?zX (fun hHeld=>?_)
   case zX=>(exact hHeld.trans (hb1.mono hHeld.size))
   clear hK K
   try simp only [Act.put,la,lz,ls]
   refine tk 6 ?_;refine tk 7 ?_;refine tk 8 ?_;refine tk 9 ?_;refine wpAnyH_ready (rs:=[11]) (by kernel_rfl) (by simp) ?_;have hbz:=below_setCells _ hgg (aO (M.fH r (plain l) (dQ p l)) A1 c1) 0 _ _ hHeld;refine dA (o:=_) (ga rfl) (by kernel_rfl) hbx (aO (M.fH r (plain l) (dQ p l)) A1 c1) rfl bF (fD _ _ _) (.tmp 21) (.tmp 191) rfl rfl rfl (by exact hbz) ?_
   try simp only [Act.put,la,lz,ls]
   refine tk 12 ?_;refine tk 13 ?_;refine wpAnyH_done (by kernel_rfl) ?_ _;refine HK.out _ _ ?_;apply HN.out;refine ⟨hB.below hbz,rfl,h20.below hbz,⟨_,A1,c1,rfl,hbx.whole _ rfl,?_⟩,rfl⟩;exact bT.more (Reads.keep hrr (by rw [setCells_size];exact Nat.le_refl _) (fun b o hb _=>World.cell?_of_block (Held.jK hb _ _ _))) (fun _ _ _=>trivial)
theorem Y2 (W0:World) (r:M.Rules) (l:List Sh) (Al:Option Addr) (cl:Nat) (p:Int) (x:Sh) (HG:Hid (Glob W0)) (HN:Hid (Oi W0 r l Al cl p x)):Oh W0 r l Al cl p x:=by
 dsimp only [Oh,qh]
 intros
 rename_i W hf
 dsimp only [iF,dG,Tryz.f3,Option.getD]
 obtain ⟨hB,h20,hnp,h24⟩:=hf;have hA:=hB.a;have hk:=hB.k;obtain ⟨rfl,rfl,rfl,h3,h5,rl,rx,pl,ll,px,p0,hbw⟩:=id hA;have hck:=hB.ok.log;have hrl:=hB.ok.rules;obtain ⟨L,A9,c9,rfl,hL,r9⟩:=id h24;have hre:=wE (r:=r) (L:=L) hrl (by rw [hL];exact M.BI hck (M.Kq _ (JY hB))) (M.final r (M.start r) ((plain l).take (dQ p l)++(plain l).drop (dQ p l+1))) (by rw [hL];exact M.LX r (plain l) _ _ (by rw [aU];exact hk) rfl hnp.2 hnp.1) r9;have HR:=hide hre;clear hre;apply wp_seq_k;intro K hK;have HK:=hide hK;clear hK
 go_wp2_with (first | (refine aC 23 (.tmp 3) rfl ?_;refine au (h3) Tryz.underlying23 rfl bU rfl (.tmp 3) rfl rfl ?_) | (go_at_call 14;refine HR.out.mono ?_;rintro e w1 ⟨A1,c1,v2,rfl,⟨A2,c2,rfl⟩,hr1,hb1⟩;have hbx:=Held.new w1 aZ 53;dsimp only) | (refine aQ 53 (.tmp 26) (.tmp 218) rfl ?_;refine aI hbx (aO (M.final r (M.start r) ((plain l).take (dQ p l)++(plain l).drop (dQ p l+1))) A1 c1) rfl bF (fD _ _ _) rfl (.tmp 26) (.tmp 218) rfl rfl rfl ?_))
 obtain ⟨hS,hbs⟩:=vZ.new hr1 hbx;have hbb:=hb1.trans (hbs.mono hb1.size);refine HK.out _ _ ?_;apply HN.out;exact ⟨hB.below hbb,h20.below hbb,hS,rfl⟩
theorem Y3 (W0:World) (r:M.Rules) (l:List Sh) (Al:Option Addr) (cl:Nat) (p:Int) (x:Sh) (HG:Hid (Glob W0)) (HN:Hid (Oj W0 r l Al cl p x)):Oi W0 r l Al cl p x:=by
 dsimp only [Oi,qh]
 intros
 rename_i W hf
 dsimp only [iF,dG,Tryz.f3,Option.getD]
 obtain ⟨hB,h20,h26,rfl⟩:=hf;have hA:=hB.a;have hk:=hB.k;obtain ⟨rfl,rfl,rfl,h3,h5,rl,rx,pl,ll,px,p0,hbw⟩:=id hA;have hck:=hB.ok.log;have hrl:=hB.ok.rules;obtain ⟨L,A9,c9,rfl,hL,r9⟩:=id h20;have hre:=wE (r:=r) (L:=L) hrl (by rw [hL];exact M.KO hck _) (M.final r (M.start r) ((plain l).take (dQ p l)++(plain l).drop (dQ p l+1))) (by rw [hL]) r9;have HR:=hide hre;clear hre;apply wp_seq_k;intro K hK;have HK:=hide hK;clear hK
 go_wp2_with (first | (refine aC 23 (.tmp 3) rfl ?_;refine au (h3) Tryz.underlying23 rfl bU rfl (.tmp 3) rfl rfl ?_) | (go_at_call 14;refine HR.out.mono ?_;rintro e w1 ⟨A1,c1,v2,rfl,⟨A2,c2,rfl⟩,hr1,hb1⟩;have hbx:=Held.new w1 aZ 53;dsimp only) | (refine aQ 53 (.tmp 29) (.tmp 225) rfl ?_;refine aI hbx (aO (M.final r (M.start r) ((plain l).take (dQ p l)++(plain l).drop (dQ p l+1))) A1 c1) rfl bF (fD _ _ _) rfl (.tmp 29) (.tmp 225) rfl rfl rfl ?_))
 obtain ⟨hS,hbs⟩:=vZ.new hr1 hbx;have hbb:=hb1.trans (hbs.mono hb1.size);refine HK.out _ _ ?_;apply HN.out;exact ⟨(hB.below hbb).a.bw,h26.below hbb,rfl,hS,rfl⟩
theorem Y4 (W0:World) (r:M.Rules) (l:List Sh) (Al:Option Addr) (cl:Nat) (p:Int) (x:Sh) (HG:Hid (Glob W0)):Oj W0 r l Al cl p x:=by
 dsimp only [Oj,qh]
 intros
 rename_i W hf
 dsimp only [iF,dG,Tryz.f3,Option.getD]
 obtain ⟨hbw,h26,rfl,h29,rfl⟩:=hf;obtain ⟨B,A,c,rfl,h1,h2⟩:=h26;obtain ⟨B',A',c',rfl,h1',h2'⟩:=h29;have hsm:=SE _ _ (M.final r (M.start r) ((plain l).take (dQ p l)++(plain l).drop (dQ p l+1))) (M.final r (M.start r) ((plain l).take (dQ p l)++(plain l).drop (dQ p l+1))) A A' c c' W h2 h2';have he:(M.final r (M.start r) ((plain l).take (dQ p l)++(plain l).drop (dQ p l+1))).eq (M.final r (M.start r) ((plain l).take (dQ p l)++(plain l).drop (dQ p l+1)))=true:=M.State.eq_iff.2 rfl;rw [he] at hsm;obtain ⟨s,hs⟩:∃ q,(M.final r (M.start r) ((plain l).take (dQ p l)++(plain l).drop (dQ p l+1)))=q:=⟨_,rfl⟩;rw [hs] at h1 h1' hsm;have Ey:=hide hsm;clear hsm he hs;apply wp_seq_k;intro K hK;have HK:=hide hK;clear hK
 go_wp2_with (first | (refine aC 53 (.tmp 26) rfl ?_;refine au (h1) Tryz.underlying53 rfl bF rfl (.tmp 26) rfl rfl ?_) | (refine aC 53 (.tmp 26) rfl ?_;refine gB (h1) Tryz.underlying53 rfl bF rfl (.tmp 26) rfl rfl ?_) | (refine je 53 (.tmp 26) rfl ?_;refine gG (h1) Tryz.underlying53 rfl bF (.tmp 26) rfl rfl ?_) | (refine aC 53 (.tmp 29) rfl ?_;refine au (h1') Tryz.underlying53 rfl bF rfl (.tmp 29) rfl rfl ?_) | (refine aC 53 (.tmp 29) rfl ?_;refine gB (h1') Tryz.underlying53 rfl bF rfl (.tmp 29) rfl rfl ?_) | (refine je 53 (.tmp 29) rfl ?_;refine gG (h1') Tryz.underlying53 rfl bF (.tmp 29) rfl rfl ?_) | (go_at_call 15;refine Ey.out.mono ?_;rintro e w3 ⟨rfl,hb3⟩;have yK:=hide (HG.out.below (dD hbw hb3));dsimp only) | (go_at_call 9;refine (iR _ yK.out).mono ?_;rintro e w9 ⟨rfl,Au⟩;dsimp only))
 refine HK.out _ _ ?_;go_wp2;go_ret;exact ⟨rfl,dD (dD hbw hb3) Au⟩
theorem AP (W0:World) (hg:Glob W0) (r:M.Rules) (l:List Sh) (Al:Option Addr) (cl:Nat) (p:Int) (x:Sh)
 (rl:jF W0 (fun _=>True) Al cl l) (pl:∀ e∈l,e.x.aF.length*16≤140737488355328) (ll:l.length*80≤140737488355328) (hp:0≤p∧p≤255) (rx:fA W0 (fun _=>True) x.a x.c x.x.aF∧x.x.aF.length*16≤140737488355328):
 Calls Tryz.prog 3 #[iY r,.slice Al l.length cl,.agg #[.int .u8 p,.int .i64 x.x.aN,.string x.x.kind,.int .i64 x.x.aT,.int .i64 x.x.aX,.int .i64 x.x.first,.bool x.x.dK,.slice x.a x.x.aF.length x.c]] W0 fun e w'=>e= .returned (.bool true)∧Below W0.heap.size W0 w':=by
 have HG:=hide hg;have hall:=acH W0 r l Al cl p x HG (hide (acO W0 r l Al cl p x HG (hide (acV W0 r l Al cl p x HG (hide (ac2 W0 r l Al cl p x HG (hide (ac9 W0 r l Al cl p x HG (hide (adi W0 r l Al cl p x HG (hide (adr W0 r l Al cl p x HG (hide (YQ W0 r l Al cl p x HG (hide (YR W0 r l Al cl p x HG (hide (YS W0 r l Al cl p x HG (hide (YT W0 r l Al cl p x HG (hide (YU W0 r l Al cl p x HG (hide (YV W0 r l Al cl p x HG (hide (YW W0 r l Al cl p x HG (hide (YX W0 r l Al cl p x HG (hide (YZ W0 r l Al cl p x HG (hide (Y1 W0 r l Al cl p x HG (hide (Y2 W0 r l Al cl p x HG (hide (Y3 W0 r l Al cl p x HG (hide (Y4 W0 r l Al cl p x HG))))))))))))))))))))))))))))))))))))));have VK:=hide hall;clear hall
 go_enter Tryz.func3,Tryz.ntmps3
 apply wp_seq_k;intro K hK;have HK:=hide hK;clear hK;have hB:=((aS.nil W0).new (by simp) ([.string r.game,.int .i64 r.target,.int .i64 r.bG]) 23).new (by simp) ([.int .u8 p,.int .i64 x.x.aN,.string x.x.kind,.int .i64 x.x.aT,.int .i64 x.x.aX,.int .i64 x.x.first,.bool x.x.dK,.slice x.a x.x.aF.length x.c]) 29;go_wp2;refine HK.out _ _ ?_;have HA:=VK.out;apply HA;exact ⟨rfl,rfl,rfl,hB.ah rfl,hB.get 1 rfl,rl.below hB.bw,Reads.below rx.1 hB.bw,pl,ll,rx.2,hp,hB.bw⟩
end Go.Proofs.YtcjglfbpjkdgiaaGreatDoor
