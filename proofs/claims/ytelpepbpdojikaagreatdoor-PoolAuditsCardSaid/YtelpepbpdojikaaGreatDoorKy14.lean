/- Parts of a proof. -/
import Derived.Test.YtelpepbpdojikaaGreatDoorKg27
import Derived.Test.YtelpepbpdojikaaGreatDoorKy6
import Derived.Test.YtelpepbpdojikaaGreatDoorKy8
set_option maxHeartbeats 8000000
set_option maxRecDepth 100000
set_option linter.unusedVariables false
set_option linter.unusedSimpArgs false
namespace Go.Proofs.YtelpepbpdojikaaGreatDoor
open Go.RowKit
noncomputable def ZM (n:Nat):Code:=dQ n ((Tryz.f47).body.getD .skip)
@[reducible] def NXQ (S:Nat→Prop) (r:M.Rules) (s:M.State) (x:M.aI) (A P:Option Addr) (c d:Nat) (w:World) (F:Value→Value→Value→Value→Value→Value→Value→Value→World→Prop) (n:Nat):Prop:=∀ (z0 z1 z2 z3 z4 z5 z6 z7 z8 z9 z10 z11 z12 z13 kD kK kF z17 kL jQ z20 z21 z22 z23 z24 z25 z26 z27 z28 z29 z30 z31 z32 z33 z34 z35 z36 z37 z38 z39 z40 z41 z42 z43 z44 z45 z46 z47 z48 z49 z50 z51 z52 z53 z54 z55 z56 z57 z58 z59 z60 z61 z62 z63 z64 z65 z66 z67 z68 z69 z70 z71 z72 z73 z74 z75 z76 z77 z78 z79 z80 mM z82 z83 z84 z85 z86 z87 mO z89 mP z91 mQ z93 mV mW mX mY mZ ng eU eX eY fA fB z105 fC z107 fD z109 fF fG fH fJ fK fM z116 z117 fO z119 fP fQ fU fV z124 fZ gq z127 gu gy z130 z131 gB gG gI gJ gK gQ z138 z139 gU z141 gV z143 gW z145 z146 gZ z148 ig iq iw z152 iy z154 iC z156 z157 iD z159 z160 iE z162 iF z164 iG iH z167 z168 nK nM z171 nN z173 nO z175 nP nR nS nT nU nV:Value) (W:World),F z3 z4 z5 z6 z7 z8 z9 z10 W→(ZM n).wp Tryz.prog (bodyPost Tryz.prog Tryz.f47 (fun e w'=>∃ A' c',e= .returned (wF (M.next r s x) A' c')∧bD w' (fun b=>(S b∧b<w.heap.size)∨w.heap.size≤b) A' c' (M.next r s x).ay∧Below w.heap.size w w')) {tmps:= #[z0,z1,z2,z3,z4,z5,z6,z7,z8,z9,z10,z11,z12,z13,kD,kK,kF,z17,kL,jQ,z20,z21,z22,z23,z24,z25,z26,z27,z28,z29,z30,z31,z32,z33,z34,z35,z36,z37,z38,z39,z40,z41,z42,z43,z44,z45,z46,z47,z48,z49,z50,z51,z52,z53,z54,z55,z56,z57,z58,z59,z60,z61,z62,z63,z64,z65,z66,z67,z68,z69,z70,z71,z72,z73,z74,z75,z76,z77,z78,z79,z80,mM,z82,z83,z84,z85,z86,z87,mO,z89,mP,z91,mQ,z93,mV,mW,mX,mY,mZ,ng,eU,eX,eY,fA,fB,z105,fC,z107,fD,z109,fF,fG,fH,fJ,fK,fM,z116,z117,fO,z119,fP,fQ,fU,fV,z124,fZ,gq,z127,gu,gy,z130,z131,gB,gG,gI,gJ,gK,gQ,z138,z139,gU,z141,gV,z143,gW,z145,z146,gZ,z148,ig,iq,iw,z152,iy,z154,iC,z156,z157,iD,z159,z160,iE,z162,iF,z164,iG,iH,z167,z168,nK,nM,z171,nN,z173,nO,z175,nP,nR,nS,nT,nU,nV],defers:=[] } W
structure abn (r:M.Rules) (s:M.State) (x:M.aI):Prop where
 ck:M.cZ x=0
 rules:M.aH r=0
 ok:M.Ok r 500000 s
 law:M.Lawful r s x
structure NxA (S:Nat→Prop) (r:M.Rules) (s:M.State) (x:M.aI) (A P:Option Addr) (c d:Nat) (w:World) (t:M.State) (v3 v4 v5 v6 v7 v8:Value) (W:World):Prop where
 e3:v3=ptr w.heap.size
 e4:v4=ptr (w.heap.size+1)
 e5:v5=ptr (w.heap.size+2)
 e6:v6=ptr (w.heap.size+3)
 e7:v7=ptr (w.heap.size+4)
 e8:v8= .int .i64 x.aC
 box:∃ A' c',bU w W [([.string r.game,.int .i64 r.target,.int .i64 r.aY],25),(aW s A c,42),(au ⟨x,P,d⟩,69),(aj,42),(aW t A' c',42)]∧bD W (fun b=>(S b∧b<w.heap.size)∨w.heap.size+5≤b) A' c' t.ay
def aac (r:M.Rules) (s:M.State) (x:M.aI):M.State:={M.calm r s x with ay:=M.left r s x }
def ZB (r:M.Rules) (s:M.State) (x:M.aI):M.State:=if M.good r s x=true then {(aac r s x).uT x.aC ((aac r s x).score x.aC+((M.objects x).length:Nat)) with run:=(aac r s x).run+((M.objects x).length:Nat) } else aac r s x
theorem ZE (r:M.Rules) (s:M.State) (x:M.aI):M.counted r s x=if M.iW r s x=0 then (ZB r s x).uS x.aC 0 else if r.game=M.aB then {(ZB r s x).uS x.aC ((ZB r s x).jZ x.aC+1) with run:=0 }.uT x.aC ({(ZB r s x).uS x.aC ((ZB r s x).jZ x.aC+1) with run:=0 }.score x.aC - 1) else {(ZB r s x).uS x.aC ((ZB r s x).jZ x.aC+1) with run:=0 }:=rfl
theorem ab6 {r:M.Rules} {s:M.State} {x:M.aI} (h1:x.kind≠M.aT) (h2:x.kind≠M.jo):M.next r s x=if (M.ended r s x (M.counted r s x)).over then (M.ended r s x (M.counted r s x)) else if M.iW r s x≠0∧(M.ended r s x (M.counted r s x)).jZ x.aC=r.aY then M.limit r (M.ended r s x (M.counted r s x)) x.aC else if M.good r s x=false then M.passed r s x (M.ended r s x (M.counted r s x)) else M.dW r (M.grouped r s x (M.ended r s x (M.counted r s x))):=by
 unfold M.next
 rw [if_neg h1,if_neg h2]
 rfl
theorem ZA {p:World→Prop} {W:World} (h:∀ W',W'=W→p W'):p W:=h W rfl
theorem aqL (s:M.State) (n:Int):s.uT 0 n= {s with s0:=n }:=rfl
theorem aqS (s:M.State) (n:Int):s.uT 1 n= {s with s1:=n }:=rfl
theorem ay4 (s:M.State):s.score 0=s.s0:=rfl
theorem score1 (s:M.State):s.score 1=s.s1:=rfl
structure NxN (t:M.State):Prop where
 a0: -600000≤t.s0
 b0:t.s0≤600000
 a1: -600000≤t.s1
 b1:t.s1≤600000
 c0:0≤t.f0
 d0:t.f0≤600000
 c1:0≤t.f1
 d1:t.f1≤600000
 e:0≤t.run
 f:t.run≤600000
 g:0≤t.aZ
 h:t.aZ≤600000
theorem ao8 {r:M.Rules} {s:M.State} {x:M.aI} (h:abn r s x):NxN (aac r s x):=by
 obtain ⟨_,_,ho,_⟩:=h;obtain ⟨⟩:=ho
 constructor <;> (simp only [aac,M.calm];omega)
theorem avM {r:M.Rules} {s:M.State} {x:M.aI} (h:abn r s x):NxN (ZB r s x):=by
 have hn:=ao8 h;have ho:=(M.uw h.ck).objs;have h1:=h.ok.s0;have h2:=h.ok.s1;have h3:=h.ok.run;obtain ⟨⟩:=hn
 unfold ZB
 split
 · rcases (M.uw h.ck).aC with hp | hp
   · rw [hp];constructor <;> (simp only [aqL,ay4,aac,M.calm] at*;omega)
   · rw [hp];constructor <;> (simp only [aqS,score1,aac,M.calm] at*;omega)
 · constructor <;> assumption
theorem at1 {r:M.Rules} {s:M.State} {x:M.aI} (h:abn r s x): -600000≤(M.ended r s x (M.counted r s x)).s0∧(M.ended r s x (M.counted r s x)).s0≤600000∧ -600000≤(M.ended r s x (M.counted r s x)).s1∧(M.ended r s x (M.counted r s x)).s1≤600000∧0≤(M.ended r s x (M.counted r s x)).aZ∧(M.ended r s x (M.counted r s x)).aZ≤600000:=by
 obtain ⟨e0,e1,_,e3⟩:=M.adi r s x (M.counted r s x);obtain ⟨c0,c1⟩:=M.ag4 r s x;have h0:=M.Pv (r:=r) (s:=s) (M.uw h.ck) s.s0;have h1:=M.Pv (r:=r) (s:=s) (M.uw h.ck) s.s1;have h2:=h.ok.s0;have h3:=h.ok.s1;have h4:=h.ok.aZ;rw [e0,e1,e3,c0,c1,M.vJ]
 split <;> omega
@[reducible] def azw (S:Nat→Prop) (r:M.Rules) (s:M.State) (x:M.aI) (A P:Option Addr) (c d:Nat) (w:World):Prop:=NXQ S r s x A P c d w (fun z3 z4 z5 z6 z7 z8 _ _ W=>NxA S r s x A P c d w s z3 z4 z5 z6 z7 z8 W∧x.kind≠M.aT) 4
@[reducible] def ax3 (S:Nat→Prop) (r:M.Rules) (s:M.State) (x:M.aI) (A P:Option Addr) (c d:Nat) (w:World):Prop:=NXQ S r s x A P c d w (fun z3 z4 z5 z6 z7 z8 _ _ W=>NxA S r s x A P c d w (M.calm r s x) z3 z4 z5 z6 z7 z8 W∧x.kind≠M.aT) 5
@[reducible] def arx (S:Nat→Prop) (r:M.Rules) (s:M.State) (x:M.aI) (A P:Option Addr) (c d:Nat) (w:World):Prop:=NXQ S r s x A P c d w (fun z3 z4 z5 z6 z7 z8 _ _ W=>NxA S r s x A P c d w (M.calm r s x) z3 z4 z5 z6 z7 z8 W∧x.kind≠M.aT∧x.kind≠M.jo) 6
@[reducible] def arF (S:Nat→Prop) (r:M.Rules) (s:M.State) (x:M.aI) (A P:Option Addr) (c d:Nat) (w:World):Prop:=NXQ S r s x A P c d w (fun z3 z4 z5 z6 z7 z8 z9 z10 W=>NxA S r s x A P c d w (M.calm r s x) z3 z4 z5 z6 z7 z8 W∧(x.kind≠M.aT∧x.kind≠M.jo)∧z9= .int .i64 (M.iW r s x)∧z10= .bool (M.good r s x)) 7
@[reducible] def arM (S:Nat→Prop) (r:M.Rules) (s:M.State) (x:M.aI) (A P:Option Addr) (c d:Nat) (w:World):Prop:=NXQ S r s x A P c d w (fun z3 z4 z5 z6 z7 z8 z9 z10 W=>NxA S r s x A P c d w (aac r s x) z3 z4 z5 z6 z7 z8 W∧(x.kind≠M.aT∧x.kind≠M.jo)∧z9= .int .i64 (M.iW r s x)∧z10= .bool (M.good r s x)) 8
@[reducible] def arT (S:Nat→Prop) (r:M.Rules) (s:M.State) (x:M.aI) (A P:Option Addr) (c d:Nat) (w:World):Prop:=NXQ S r s x A P c d w (fun z3 z4 z5 z6 z7 z8 z9 z10 W=>NxA S r s x A P c d w (ZB r s x) z3 z4 z5 z6 z7 z8 W∧(x.kind≠M.aT∧x.kind≠M.jo)∧z9= .int .i64 (M.iW r s x)∧z10= .bool (M.good r s x)) 9
@[reducible] def ar0 (S:Nat→Prop) (r:M.Rules) (s:M.State) (x:M.aI) (A P:Option Addr) (c d:Nat) (w:World):Prop:=NXQ S r s x A P c d w (fun z3 z4 z5 z6 z7 z8 z9 z10 W=>NxA S r s x A P c d w (M.counted r s x) z3 z4 z5 z6 z7 z8 W∧(x.kind≠M.aT∧x.kind≠M.jo)∧z9= .int .i64 (M.iW r s x)∧z10= .bool (M.good r s x)) 10
@[reducible] def ar8 (S:Nat→Prop) (r:M.Rules) (s:M.State) (x:M.aI) (A P:Option Addr) (c d:Nat) (w:World):Prop:=NXQ S r s x A P c d w (fun z3 z4 z5 z6 z7 z8 z9 z10 W=>NxA S r s x A P c d w (M.ended r s x (M.counted r s x)) z3 z4 z5 z6 z7 z8 W∧(x.kind≠M.aT∧x.kind≠M.jo)∧z9= .int .i64 (M.iW r s x)∧z10= .bool (M.good r s x)) 11
@[reducible] def asg (S:Nat→Prop) (r:M.Rules) (s:M.State) (x:M.aI) (A P:Option Addr) (c d:Nat) (w:World):Prop:=NXQ S r s x A P c d w (fun z3 z4 z5 z6 z7 z8 z9 z10 W=>NxA S r s x A P c d w (M.ended r s x (M.counted r s x)) z3 z4 z5 z6 z7 z8 W∧(x.kind≠M.aT∧x.kind≠M.jo)∧(z9= .int .i64 (M.iW r s x)∧z10= .bool (M.good r s x))∧(M.ended r s x (M.counted r s x)).over=false) 12
@[reducible] def asq (S:Nat→Prop) (r:M.Rules) (s:M.State) (x:M.aI) (A P:Option Addr) (c d:Nat) (w:World):Prop:=NXQ S r s x A P c d w (fun z3 z4 z5 z6 z7 z8 z9 z10 W=>NxA S r s x A P c d w (M.ended r s x (M.counted r s x)) z3 z4 z5 z6 z7 z8 W∧(x.kind≠M.aT∧x.kind≠M.jo)∧(z9= .int .i64 (M.iW r s x)∧z10= .bool (M.good r s x))∧(M.ended r s x (M.counted r s x)).over=false∧¬ (M.iW r s x≠0∧(M.ended r s x (M.counted r s x)).jZ x.aC=r.aY)) 13
@[reducible] def asz (S:Nat→Prop) (r:M.Rules) (s:M.State) (x:M.aI) (A P:Option Addr) (c d:Nat) (w:World):Prop:=NXQ S r s x A P c d w (fun z3 z4 z5 z6 z7 z8 z9 z10 W=>NxA S r s x A P c d w (M.ended r s x (M.counted r s x)) z3 z4 z5 z6 z7 z8 W∧(x.kind≠M.aT∧x.kind≠M.jo)∧(z9= .int .i64 (M.iW r s x)∧z10= .bool (M.good r s x))∧(M.ended r s x (M.counted r s x)).over=false∧(¬ (M.iW r s x≠0∧(M.ended r s x (M.counted r s x)).jZ x.aC=r.aY))∧M.good r s x=true) 14
@[reducible] def asG (S:Nat→Prop) (r:M.Rules) (s:M.State) (x:M.aI) (A P:Option Addr) (c d:Nat) (w:World):Prop:=NXQ S r s x A P c d w (fun z3 z4 z5 z6 z7 z8 _ _ W=>NxA S r s x A P c d w (M.grouped r s x (M.ended r s x (M.counted r s x))) z3 z4 z5 z6 z7 z8 W∧(x.kind≠M.aT∧x.kind≠M.jo)∧(M.ended r s x (M.counted r s x)).over=false∧(¬ (M.iW r s x≠0∧(M.ended r s x (M.counted r s x)).jZ x.aC=r.aY))∧M.good r s x=true) 15
@[reducible] def asN (S:Nat→Prop) (r:M.Rules) (s:M.State) (x:M.aI) (A P:Option Addr) (c d:Nat) (w:World):Prop:=NXQ S r s x A P c d w (fun z3 z4 z5 z6 z7 z8 _ _ W=>NxA S r s x A P c d w (M.next r s x) z3 z4 z5 z6 z7 z8 W) 16
theorem aEJ (S:Nat→Prop) (r:M.Rules) (s:M.State) (x:M.aI) (A P:Option Addr) (c d:Nat) (w:World) (HP:Hid (bD w S A c s.ay)) (Z4:Hid (jl w S P d x.aA)) (HY:Hid (abn r s x)) (HN:Hid (ax3 S r s x A P c d w)):azw S r s x A P c d w:=by
 dsimp only [azw,NXQ]
 intros
 rename_i W hf
 dsimp only [ZM,dQ,Tryz.f47,Option.getD]
 obtain ⟨hN,hk⟩:=hf;obtain ⟨rfl,rfl,rfl,rfl,rfl,rfl,A',c',hB,hb⟩:=hN;have hF:=hB.get 4 rfl;have hR:=hB.bf rfl;have hX:=hB.get 2 rfl;have k1:=hF.cell (j:=1) rfl;have JE:=hF.frozen 1;have k2:=hF.cell (j:=2) rfl;have Pn:=hF.frozen 2;have k3:=hF.cell (j:=3) rfl;have Yb:=hF.frozen 3;have k4:=hF.cell (j:=4) rfl;have Vs:=hF.frozen 4;have g0:=hR.cell (j:=0) rfl;have gf0:=hR.frozen 0;have y1:=hX.cell (j:=1) rfl;have yf1:=hX.frozen 1;have e1:(r.game.toList == [110,105,110,101])=decide (r.game=M.bM):=bJ r.game [110,105,110,101];have e2:(x.kind.toList == [98,114,101,97,107])=decide (x.kind=M.dh):=bJ x.kind [98,114,101,97,107];have e3:(x.kind.toList == [112,117,115,104])=decide (x.kind=M.eu):=bJ x.kind [112,117,115,104];obtain ⟨y1,hy1⟩:∃ y,(r.game.toList == [110,105,110,101])=y:=⟨_,rfl⟩;obtain ⟨y2,hy2⟩:∃ y,(x.kind.toList == [98,114,101,97,107])=y:=⟨_,rfl⟩;obtain ⟨y3,hy3⟩:∃ y,(x.kind.toList == [112,117,115,104])=y:=⟨_,rfl⟩
 have hC:M.calm r s x= {s with brk:=false,hand:=false,push:=y1 && y2,pushed:=y3 }:=by
  unfold M.calm
  rw [← hy1, ← hy2, ← hy3,e1,e2,e3]
  simp only [Bool.decide_and]
 have HC:=hide hC;have HKK:=hide hk;clear e1 e2 e3 hC hk;apply wp_seq_k;intro K hK;have HK:=hide hK;clear hK
 cases y1 with
 | true=>
   refine wp_region_held_drew (S:=(fun w':World=>w'.cell? ⟨w.heap.size,0,none⟩=some (.string r.game)∧w'.cell? ⟨w.heap.size+2,1,none⟩=some (.string x.kind))) (by kernel_rfl) ?eP (fun hHeld=>?_)
   case eP=>exact ⟨(hB.drew.bf rfl).cell (j:=0) rfl,(hB.drew.get 2 rfl).cell (j:=1) rfl⟩
   refine tk 0 ?_;refine tk 1 ?_;refine tk 2 ?_;refine tk 3 ?_;refine tk 4 ?_;refine tk 5 ?_;refine tk 6 ?_;refine tk 7 ?_;refine tk 8 ?_;refine tk 9 ?_;refine tk 10 ?_;refine tk 11 ?_;refine tr 12 fun K hK=>?_;go_simp;refine Zd hK (⟨((hB.set 4 rfl 1 _).drew.bf rfl).cell (j:=0) rfl,((hB.set 4 rfl 1 _).drew.get 2 rfl).cell (j:=1) rfl⟩) fun hHeld=>?_;clear hK K;refine tk 13 ?_;refine tr 14 fun K hK=>?_;go_simp;refine Zd hK (⟨(((hB.set 4 rfl 1 _).set 4 rfl 2 _).drew.bf rfl).cell (j:=0) rfl,(((hB.set 4 rfl 1 _).set 4 rfl 2 _).drew.get 2 rfl).cell (j:=1) rfl⟩) fun hHeld=>?_;clear hK K;refine tk 15 ?_;refine tr 16 fun K hK=>?_;go_simp;refine Zd hK (⟨((((hB.set 4 rfl 1 _).set 4 rfl 2 _).set 4 rfl 3 _).drew.bf rfl).cell (j:=0) rfl,((((hB.set 4 rfl 1 _).set 4 rfl 2 _).set 4 rfl 3 _).drew.get 2 rfl).cell (j:=1) rfl⟩) fun hHeld=>?_;clear hK K;refine tk 17 ?_;refine tr 18 fun K hK=>?_;go_simp;refine Zd hK (⟨(((((hB.set 4 rfl 1 _).set 4 rfl 2 _).set 4 rfl 3 _).set 4 rfl 4 _).drew.bf rfl).cell (j:=0) rfl,(((((hB.set 4 rfl 1 _).set 4 rfl 2 _).set 4 rfl 3 _).set 4 rfl 4 _).drew.get 2 rfl).cell (j:=1) rfl⟩) fun hHeld=>?_;clear hK K;refine wpAnyH_done (by kernel_rfl) ?_ _;refine HK.out _ _ ?_;apply HN.out;refine ⟨⟨rfl,rfl,rfl,rfl,rfl,rfl,A',c',?_,?_⟩,HKK.out⟩
   · rw [HC.out];exact ((((hB.set 4 rfl 1 _).set 4 rfl 2 _).set 4 rfl 3 _).set 4 rfl 4 _).drew
   · exact (bD.setCell (bD.setCell (bD.setCell (bD.setCell hb (by intro h;rcases h with h | h <;> ((try simp only at h);omega)) _) (by intro h;rcases h with h | h <;> ((try simp only at h);omega)) _) (by intro h;rcases h with h | h <;> ((try simp only at h);omega)) _) (by intro h;rcases h with h | h <;> ((try simp only at h);omega)) _)
 | false=>
   refine wp_region_held_drew (S:=(fun w':World=>w'.cell? ⟨w.heap.size,0,none⟩=some (.string r.game)∧w'.cell? ⟨w.heap.size+2,1,none⟩=some (.string x.kind))) (by kernel_rfl) ?jw (fun hHeld=>?_)
   case jw=>exact ⟨(hB.drew.bf rfl).cell (j:=0) rfl,(hB.drew.get 2 rfl).cell (j:=1) rfl⟩
   refine tk 0 ?_;refine tk 1 ?_;refine tk 2 ?_;refine tk 3 ?_;refine tu 4 ?_;refine tu 5 ?_;refine tu 6 ?_;refine tk 7 ?_;refine tk 8 ?_;refine tk 9 ?_;refine tk 10 ?_;refine tk 11 ?_;refine tr 12 fun K hK=>?_;go_simp;refine Zd hK (⟨((hB.set 4 rfl 1 _).drew.bf rfl).cell (j:=0) rfl,((hB.set 4 rfl 1 _).drew.get 2 rfl).cell (j:=1) rfl⟩) fun hHeld=>?_;clear hK K;refine tk 13 ?_;refine tr 14 fun K hK=>?_;go_simp;refine Zd hK (⟨(((hB.set 4 rfl 1 _).set 4 rfl 2 _).drew.bf rfl).cell (j:=0) rfl,(((hB.set 4 rfl 1 _).set 4 rfl 2 _).drew.get 2 rfl).cell (j:=1) rfl⟩) fun hHeld=>?_;clear hK K;refine tk 15 ?_;refine tr 16 fun K hK=>?_;go_simp;refine Zd hK (⟨((((hB.set 4 rfl 1 _).set 4 rfl 2 _).set 4 rfl 3 _).drew.bf rfl).cell (j:=0) rfl,((((hB.set 4 rfl 1 _).set 4 rfl 2 _).set 4 rfl 3 _).drew.get 2 rfl).cell (j:=1) rfl⟩) fun hHeld=>?_;clear hK K;refine tk 17 ?_;refine tr 18 fun K hK=>?_;go_simp;refine Zd hK (⟨(((((hB.set 4 rfl 1 _).set 4 rfl 2 _).set 4 rfl 3 _).set 4 rfl 4 _).drew.bf rfl).cell (j:=0) rfl,(((((hB.set 4 rfl 1 _).set 4 rfl 2 _).set 4 rfl 3 _).set 4 rfl 4 _).drew.get 2 rfl).cell (j:=1) rfl⟩) fun hHeld=>?_;clear hK K;refine wpAnyH_done (by kernel_rfl) ?_ _;refine HK.out _ _ ?_;apply HN.out;refine ⟨⟨rfl,rfl,rfl,rfl,rfl,rfl,A',c',?_,?_⟩,HKK.out⟩
   · rw [HC.out];exact ((((hB.set 4 rfl 1 _).set 4 rfl 2 _).set 4 rfl 3 _).set 4 rfl 4 _).drew
   · exact (bD.setCell (bD.setCell (bD.setCell (bD.setCell hb (by intro h;rcases h with h | h <;> ((try simp only at h);omega)) _) (by intro h;rcases h with h | h <;> ((try simp only at h);omega)) _) (by intro h;rcases h with h | h <;> ((try simp only at h);omega)) _) (by intro h;rcases h with h | h <;> ((try simp only at h);omega)) _)
theorem aEQ (S:Nat→Prop) (r:M.Rules) (s:M.State) (x:M.aI) (A P:Option Addr) (c d:Nat) (w:World) (HP:Hid (bD w S A c s.ay)) (Z4:Hid (jl w S P d x.aA)) (HY:Hid (abn r s x)) (HN:Hid (arx S r s x A P c d w)):ax3 S r s x A P c d w:=by
 dsimp only [ax3,NXQ]
 intros
 rename_i W hf
 dsimp only [ZM,dQ,Tryz.f47,Option.getD]
 obtain ⟨hN,hk⟩:=hf;obtain ⟨rfl,rfl,rfl,rfl,rfl,rfl,A',c',hB,hb⟩:=hN;have hF:=hB.get 4 rfl;have hR:=hB.bf rfl;have hX:=hB.get 2 rfl;have k0:=hF.cell (j:=0) rfl;have GL:=hF.frozen 0;have k11:=hF.cell (j:=11) rfl;have X7:=hF.frozen 11;have y1:=hX.cell (j:=1) rfl;have yf1:=hX.frozen 1;have hp:=(M.uw HY.out.ck).aC
 have hp0:0≤x.aC:=by omega
 have hp1:x.aC≤1:=by omega
 clear hp;obtain ⟨tc,htc⟩:∃ q,M.calm r s x=q:=⟨_,rfl⟩;rw [htc] at hB hF hb k0 k11;have HTC:=hide htc;clear htc;apply wp_seq_k;intro K hK;have HK:=hide hK;clear hK;apply wp_seq_k;intro K2 hK2;have PD:=hide hK2;clear hK2
 by_cases hps:x.kind=M.jo
 · have q1:(x.kind.toList == [112,97,115,115])=true:=by rw [hps];decide+kernel
   have hnx:M.next r s x= {tc with turn:=1 - x.aC,run:=0 }:=by unfold M.next;rw [if_neg hk,if_pos hps,HTC.out]
   have VP:=hide hnx;have hb2:=(bD.setCell (p:=⟨w.heap.size+4,11,none⟩) (bD.setCell (p:=⟨w.heap.size+4,0,none⟩) hb (by intro h;rcases h with h | h <;> ((try simp only at h);omega)) (.int .i64 (1 - x.aC))) (by intro h;rcases h with h | h <;> ((try simp only at h);omega)) (.int .i64 0));have hE:bU w ((W.setCell ⟨w.heap.size+4,0,none⟩ (.int .i64 (1 - x.aC))).setCell ⟨w.heap.size+4,11,none⟩ (.int .i64 0)) [([.string r.game,.int .i64 r.target,.int .i64 r.aY],25),(aW s A c,42),(au ⟨x,P,d⟩,69),(aj,42),(aW {tc with turn:=1 - x.aC,run:=0 } A' c',42)]:=((hB.set 4 rfl 0 _).set 4 rfl 11 _);clear hps hk hnx;go_wp2;refine PD.out _ _ ?_
   go_wp2_with (first | (refine aN 42 (.tmp 7) rfl ?_;refine aG (hE.get 4 rfl) Tryz.underlying42 rfl Zc rfl (.tmp 7) rfl rfl ?_) | (refine aO 42 (.tmp 6) (.tmp 44) rfl ?_;refine aF (hE.get 3 rfl) (aW ({tc with turn:=1 - x.aC,run:=0 }) A' c') rfl Zc (dL _ _ _) rfl (.tmp 6) (.tmp 44) rfl rfl rfl ?_))
   have hZ:=hE.put 3 rfl (aW ({tc with turn:=1 - x.aC,run:=0 }) A' c') rfl;exact bodyPost_ret (bP (p:=6) (hZ.get 3 rfl) Tryz.underlying42 rfl Zc rfl _ rfl) rfl ⟨A',c',by rw [VP.out];rfl,by rw [VP.out];exact bD.more (bD.sets (g:=w.heap.size+3) (by intro h;rcases h with h | h <;> ((try simp only at h);omega)) _ 0 _ hb2) (fun b _ h=>by rcases h with h | h;exact .inl h;exact .inr (by omega)),hZ.bw⟩
 · have q1:(x.kind.toList == [112,97,115,115])=false:=beq_eq_false_iff_ne.2 (bQ hps)
   have HKK:=hide (And.intro hk hps);clear hps hk;go_wp2;refine PD.out _ _ ?_;go_wp2;refine HK.out _ _ ?_;apply HN.out;exact ⟨⟨rfl,rfl,rfl,rfl,rfl,rfl,A',c',by rw [HTC.out];exact hB,by rw [HTC.out];exact hb⟩,HKK.out⟩
theorem aBe (S:Nat→Prop) (r:M.Rules) (s:M.State) (x:M.aI) (A P:Option Addr) (c d:Nat) (w:World) (HP:Hid (bD w S A c s.ay)) (Z4:Hid (jl w S P d x.aA)) (HY:Hid (abn r s x)) (HN:Hid (arF S r s x A P c d w)):arx S r s x A P c d w:=by
 dsimp only [arx,NXQ]
 intros
 rename_i W hf
 dsimp only [ZM,dQ,Tryz.f47,Option.getD]
 obtain ⟨hN,hk⟩:=hf;obtain ⟨rfl,rfl,rfl,rfl,rfl,rfl,A',c',hB,hb⟩:=hN;have hfo:=fun W h h'=>Zx S r s x A P c d W h h' HY.out.rules HY.out.ok.group;have hgo:=fun W h h'=>ZT S r s x A P c d W h h' HY.out.rules HY.out.ok.group;have WS:=hide hfo;have WT:=hide hgo;have HKK:=hide hk;clear hfo hgo hk
 have hr0:∀ W',(fun w':World=>∀ p q,p<w.heap.size+5→w'.cell? ⟨p,q,none⟩=W.cell? ⟨p,q,none⟩) W'→W'.rangeAt (w.heap.size) 0 ([.string r.game,.int .i64 r.target,.int .i64 r.aY]):=fun W' h j v hj=>by rw [h _ _ (by omega)];exact (hB.bf rfl).range j v hj
 have hr1:∀ W',(fun w':World=>∀ p q,p<w.heap.size+5→w'.cell? ⟨p,q,none⟩=W.cell? ⟨p,q,none⟩) W'→W'.rangeAt (w.heap.size+1) 0 (aW s A c):=fun W' h j v hj=>by rw [h _ _ (by omega)];exact (hB.get 1 rfl).range j v hj
 have hr2:∀ W',(fun w':World=>∀ p q,p<w.heap.size+5→w'.cell? ⟨p,q,none⟩=W.cell? ⟨p,q,none⟩) W'→W'.rangeAt (w.heap.size+2) 0 (au ⟨x,P,d⟩):=fun W' h j v hj=>by rw [h _ _ (by omega)];exact (hB.get 2 rfl).range j v hj
 apply wp_seq_k;intro K hK;have HK:=hide hK;clear hK;refine wp_region_held_drew (S:=(fun w':World=>∀ p q,p<w.heap.size+5→w'.cell? ⟨p,q,none⟩=W.cell? ⟨p,q,none⟩)) (by kernel_rfl) ?lJ (fun hHeld=>?_)
 case lJ=>first | exact fun p q h=>rfl | exact fun p q h=>hB.drew.cells hb1 p q h | exact fun p q h=>(hB1.cells hb2 p q h).trans (hB.drew.cells hb1 p q h)
 refine Zf 0 hr0 Tryz.underlying25 ?_;refine Zf 1 hr1 Tryz.underlying42 ?_;refine Zf 2 hr2 Tryz.underlying69 ?_;refine Zf 4 hr0 Tryz.underlying25 ?_;refine Zf 5 hr1 Tryz.underlying42 ?_;refine Zf 6 hr2 Tryz.underlying69 ?_;refine tr 3 fun K hK=>?_;go_simp
 (first | (go_at_call 52;refine (WS.out _ (HP.out.below hB.drew.bw) (Z4.out.below hB.drew.bw)).mono ?_;rintro e w1 ⟨rfl,hb1⟩;have hB1:=hB.drew.call (by simp) hb1) | (go_at_call 71;refine (WT.out _ (HP.out.below hB1.bw) (Z4.out.below hB1.bw)).mono ?_;rintro e w2 ⟨rfl,hb2⟩;have hB2:=hB1.call (by simp) hb2))
 refine Zd hK (by first | (first | exact fun p q h=>rfl | exact fun p q h=>hB.drew.cells hb1 p q h | exact fun p q h=>(hB1.cells hb2 p q h).trans (hB.drew.cells hb1 p q h)) | (dsimp only;first | exact fun p q h=>rfl | exact fun p q h=>hB.drew.cells hb1 p q h | exact fun p q h=>(hB1.cells hb2 p q h).trans (hB.drew.cells hb1 p q h))) fun hHeld=>?_;clear hK K;refine tr 7 fun K hK=>?_;go_simp
 (first | (go_at_call 52;refine (WS.out _ (HP.out.below hB.drew.bw) (Z4.out.below hB.drew.bw)).mono ?_;rintro e w1 ⟨rfl,hb1⟩;have hB1:=hB.drew.call (by simp) hb1) | (go_at_call 71;refine (WT.out _ (HP.out.below hB1.bw) (Z4.out.below hB1.bw)).mono ?_;rintro e w2 ⟨rfl,hb2⟩;have hB2:=hB1.call (by simp) hb2))
 refine Zd hK (by first | (first | exact fun p q h=>rfl | exact fun p q h=>hB.drew.cells hb1 p q h | exact fun p q h=>(hB1.cells hb2 p q h).trans (hB.drew.cells hb1 p q h)) | (dsimp only;first | exact fun p q h=>rfl | exact fun p q h=>hB.drew.cells hb1 p q h | exact fun p q h=>(hB1.cells hb2 p q h).trans (hB.drew.cells hb1 p q h))) fun hHeld=>?_;clear hK K;refine tk 8 ?_;refine tk 9 ?_;refine wpAnyH_done (by kernel_rfl) ?_ _;refine HK.out _ _ ?_;apply HN.out;exact ⟨⟨rfl,rfl,rfl,rfl,rfl,rfl,A',c',by first | exact hB2 | exact hB2.drew,(hb.drew.below hb1).below hb2⟩,HKK.out,rfl,rfl⟩
theorem aBl (S:Nat→Prop) (r:M.Rules) (s:M.State) (x:M.aI) (A P:Option Addr) (c d:Nat) (w:World) (HP:Hid (bD w S A c s.ay)) (Z4:Hid (jl w S P d x.aA)) (HY:Hid (abn r s x)) (HN:Hid (arM S r s x A P c d w)):arF S r s x A P c d w:=by
 dsimp only [arF,NXQ]
 intros
 rename_i W hf
 dsimp only [ZM,dQ,Tryz.f47,Option.getD]
 obtain ⟨hN,hk,rfl,rfl⟩:=hf;obtain ⟨rfl,rfl,rfl,rfl,rfl,rfl,A',c',hB,hb⟩:=hN;have hle:=fun W h h'=>amc S r s x A P c d W h h' HY.out.rules HY.out.ok.group;have QH:=hide hle;have HKK:=hide hk;clear hle hk;apply wp_seq_k;intro K hK;have HK:=hide hK;clear hK
 go_wp2_with (first | (refine aN 25 (.tmp 3) rfl ?_;refine aG (hB.bf rfl) Tryz.underlying25 rfl Zw rfl (.tmp 3) rfl rfl ?_) | (refine aN 42 (.tmp 4) rfl ?_;refine aG (hB.get 1 rfl) Tryz.underlying42 rfl Zc rfl (.tmp 4) rfl rfl ?_) | (refine aN 69 (.tmp 5) rfl ?_;refine aG (hB.get 2 rfl) Tryz.underlying69 rfl Zk rfl (.tmp 5) rfl rfl ?_) | (go_at_call 99;refine (QH.out _ (HP.out.below hB.bw) (Z4.out.below hB.bw)).mono ?_;rintro e w1 ⟨A1,c1,rfl,hr1,hb1⟩;have hB1:=hB.call (by simp) hb1;have hF1:=hB1.get 4 rfl;have k6:=hF1.cell (j:=6) rfl;have Yc:=hF1.frozen 6))
 have hsz:=hB.size (by simp)
 simp only [List.length_cons,List.length_nil] at hsz
 refine HK.out _ _ ?_;apply HN.out;exact ⟨⟨rfl,rfl,rfl,rfl,rfl,rfl,A1,c1,hB1.set 4 rfl 6 _,bD.setCell (bD.more hr1 (fun b _ h=> .inr (by omega))) (by intro h;rcases h with h | h <;> ((try simp only at h);omega)) _⟩,HKK.out,rfl,rfl⟩
theorem aBs (S:Nat→Prop) (r:M.Rules) (s:M.State) (x:M.aI) (A P:Option Addr) (c d:Nat) (w:World) (HP:Hid (bD w S A c s.ay)) (Z4:Hid (jl w S P d x.aA)) (HY:Hid (abn r s x)) (HN:Hid (arT S r s x A P c d w)):arM S r s x A P c d w:=by
 dsimp only [arM,NXQ]
 intros
 rename_i W hf
 dsimp only [ZM,dQ,Tryz.f47,Option.getD]
 obtain ⟨hN,hk,rfl,rfl⟩:=hf;obtain ⟨rfl,rfl,rfl,rfl,rfl,rfl,A',c',hB,hb⟩:=hN;have HKK:=hide hk;have hnn:=ao8 HY.out;obtain ⟨tl,htl⟩:∃ q,aac r s x=q:=⟨_,rfl⟩;rw [htl] at hB hb hnn;have HTL:=hide htl;obtain ⟨n1,n2,n3,n4,_,_,_,_,n5,n6,_,_⟩:=hnn;have no:=(M.uw HY.out.ck).objs;have hp:=(M.uw HY.out.ck).aC;clear hk htl;apply wp_seq_k;intro K hK;have HK:=hide hK;clear hK;apply wp_seq_k;intro K2 hK2;have PD:=hide hK2;clear hK2
 by_cases hgd:M.good r s x=true
 rotate_left
 · have hgf:M.good r s x=false:=by simpa using hgd
   have hg2:ZB r s x=tl:=by unfold ZB;rw [if_neg hgd,HTL.out]
   have HG:=hide hg2;have HGG:=hide (show Value.bool false=Value.bool (M.good r s x) by rw [hgf]);rw [hgf];clear hgd hgf hg2 hp;go_wp2;refine PD.out _ _ ?_;go_wp2;refine HK.out _ _ ?_;apply HN.out;exact ⟨⟨rfl,rfl,rfl,rfl,rfl,rfl,A',c',by rw [HG.out];exact hB,by rw [HG.out];exact hb⟩,HKK.out,rfl,HGG.out⟩
 rcases hp with hp | hp
 · have hF:=hB.get 4 rfl
   have k7:=hF.cell (j:=7) rfl;have Yd:=hF.frozen 7;have hw1:IntKind.i64.wrap (tl.s0+((M.objects x).length:Nat))=tl.s0+((M.objects x).length:Nat):=IntWalk.i64_in _ (by omega)
   have hg2:ZB r s x= {tl with s0:=tl.s0+((M.objects x).length:Nat),run:=tl.run+((M.objects x).length:Nat) }:=by
    unfold ZB
    rw [if_pos hgd,HTL.out,hp]
    rfl
   have HG:=hide hg2;have HGG:=hide (show Value.bool true=Value.bool (M.good r s x) by rw [hgd]);rw [hgd,hp]
   have GK:∀ W',(fun w':World=>∀ p q,p<w.heap.size+4→w'.cell? ⟨p,q,none⟩=W.cell? ⟨p,q,none⟩) W'→W'.rangeAt (w.heap.size+2) 0 (au ⟨x,P,d⟩):=fun W' h j v hj=>by rw [h _ _ (by omega)];exact (hB.get 2 rfl).range j v hj
   clear hg2 hgd;go_wp2;refine PD.out _ _ ?_
   go_upto_region 15 with (fail)
   refine wp_region_held_drew (S:=(fun w':World=>∀ p q,p<w.heap.size+4→w'.cell? ⟨p,q,none⟩=W.cell? ⟨p,q,none⟩)) (by kernel_rfl) ?uQ (fun hHeld=>?_)
   case uQ=>exact fun p q h=>rfl
   refine tk 0 ?_;refine tk 1 ?_;refine tk 2 ?_;refine tk 3 ?_;refine Zf 5 GK Tryz.underlying69 ?_;refine tk 9 ?_;refine ZX 4 6 (fun K hK=>?_) fun K hK=>?_
   · go_simp
     refine Zd hK (by first | exact hHeld | exact fun p q h=>rfl) fun hHeld=>?_;clear hK K;refine tr 6 fun K hK=>?_;go_simp
     (go_at_call 72;refine (Ze S x P d _ (Z4.out.below hB.drew.bw)).mono ?_;rintro e w1 ⟨A1,c1,rfl,hr1,hb1⟩;have hB1:=hB.drew.call (by simp) hb1;have hF1:=hB1.get 4 rfl;have q7:=hF1.cell (j:=7) rfl;have qf7:=hF1.frozen 7)
     refine Zd hK (fun p q h=>hB.drew.cells hb1 p q (by simp;omega)) fun hHeld=>?_;clear hK K;refine tk 7 ?_;refine tk 8 ?_;refine tk 10 ?_;refine tr 11 fun K hK=>?_;go_simp;refine Zd hK (fun p q h=>(Zj (by omega)).trans (hB.drew.cells hb1 p q (by simp;omega))) fun hHeld=>?_;clear hK K;refine wpAnyH_done (by kernel_rfl) ?_ _;obtain ⟨w3,hw3⟩:∃ w3,(w1.setCell ⟨w.heap.size+4,7,none⟩ (.int .i64 (tl.s0+((M.objects x).length:Nat))))=w3:=⟨_,rfl⟩;rw [hw3]
     have hB3:bU w w3 [([.string r.game,.int .i64 r.target,.int .i64 r.aY],25),(aW s A c,42),(au ⟨x,P,d⟩,69),(aj,42),(aW {tl with s0:=tl.s0+((M.objects x).length:Nat) } A' c',42)]:=by rw [← hw3];exact hB1.set 4 rfl 7 (.int .i64 (tl.s0+((M.objects x).length:Nat)))
     have h3:bD w3 (fun b=>(S b∧b<w.heap.size)∨w.heap.size+5≤b) A' c' tl.ay:=by
      rw [← hw3];exact bD.setCell (hb.drew.below hb1) (by intro h;rcases h with h | h <;> ((try simp only at h);omega)) _
     clear hHeld hw3 hw1 hB1 hF1 q7 qf7 hr1 k7 Yd hb1 GK hB hb;have hF:=hB3.get 4 rfl;have v11:=hF.cell (j:=11) rfl;have azb:=hF.frozen 11;have hw2:IntKind.i64.wrap (tl.run+((M.objects x).length:Nat))=tl.run+((M.objects x).length:Nat):=IntWalk.i64_in _ (by omega)
     have GK:∀ W',(fun w':World=>∀ p q,p<w.heap.size+4→w'.cell? ⟨p,q,none⟩=w3.cell? ⟨p,q,none⟩) W'→W'.rangeAt (w.heap.size+2) 0 (au ⟨x,P,d⟩):=fun W' h j v hj=>by rw [h _ _ (by omega)];exact (hB3.get 2 rfl).range j v hj
     go_upto_region 16 with (fail)
     refine wp_region_held_drew (S:=(fun w':World=>∀ p q,p<w.heap.size+4→w'.cell? ⟨p,q,none⟩=w3.cell? ⟨p,q,none⟩)) (by kernel_rfl) ?rQ (fun hHeld=>?_)
     case rQ=>exact fun p q h=>rfl
     refine tk 0 ?_;refine Zf 2 GK Tryz.underlying69 ?_;refine ZX 1 3 (fun K hK=>?_) fun K hK=>?_
     · go_simp
       refine Zd hK (by first | exact hHeld | exact fun p q h=>rfl) fun hHeld=>?_;clear hK K;refine tr 3 fun K hK=>?_;go_simp
       (go_at_call 72;refine (Ze S x P d _ (Z4.out.below hB3.drew.bw)).mono ?_;rintro e w4 ⟨A2,c2,rfl,hr2,hb4⟩;have hB4:=hB3.drew.call (by simp) hb4;have hF4:=hB4.get 4 rfl;have u11:=hF4.cell (j:=11) rfl;have Yn:=hF4.frozen 11)
       refine Zd hK (fun p q h=>hB3.drew.cells hb4 p q (by simp;omega)) fun hHeld=>?_;clear hK K;refine tk 4 ?_;refine tk 5 ?_;refine tk 6 ?_;refine tr 7 fun K hK=>?_;go_simp;refine Zd hK (fun p q h=>(Zj (by omega)).trans (hB3.drew.cells hb4 p q (by simp;omega))) fun hHeld=>?_;clear hK K;refine wpAnyH_done (by kernel_rfl) ?_ _;have hE2:bU w (w4.setCell ⟨w.heap.size+4,11,none⟩ (.int .i64 (tl.run+((M.objects x).length:Nat)))) [([.string r.game,.int .i64 r.target,.int .i64 r.aY],25),(aW s A c,42),(au ⟨x,P,d⟩,69),(aj,42),(aW {tl with s0:=tl.s0+((M.objects x).length:Nat),run:=tl.run+((M.objects x).length:Nat) } A' c',42)]:=hB4.set 4 rfl 11 (.int .i64 (tl.run+((M.objects x).length:Nat)));go_wp2;refine HK.out _ _ ?_;apply HN.out;refine ⟨⟨rfl,rfl,rfl,rfl,rfl,by rw [hp],A',c',by rw [HG.out];exact hE2,?_⟩,HKK.out,rfl,HGG.out⟩;rw [HG.out];exact bD.setCell (h3.drew.below hb4) (by intro h;rcases h with h | h <;> ((try simp only at h);omega)) _
     · go_simp
       (go_at_call 72;refine (Ze S x P d _ (Z4.out.below hB3.drew.bw)).mono ?_;rintro e w4 ⟨A2,c2,rfl,hr2,hb4⟩;have hB4:=hB3.drew.call (by simp) hb4;have hF4:=hB4.get 4 rfl;have u11:=hF4.cell (j:=11) rfl;have Yn:=hF4.frozen 11)
       refine Zd hK (fun p q h=>hB3.drew.cells hb4 p q (by simp;omega)) fun hHeld=>?_;clear hK K;refine tk 4 ?_;refine tr 1 fun K hK=>?_;go_simp;refine Zd hK (by first | exact hHeld | exact fun p q h=>rfl) fun hHeld=>?_;clear hK K;refine tk 5 ?_;refine tk 6 ?_;refine tr 7 fun K hK=>?_;go_simp;refine Zd hK (fun p q h=>(Zj (by omega)).trans (hB3.drew.cells hb4 p q (by simp;omega))) fun hHeld=>?_;clear hK K;refine wpAnyH_done (by kernel_rfl) ?_ _;have hE2:bU w (w4.setCell ⟨w.heap.size+4,11,none⟩ (.int .i64 (tl.run+((M.objects x).length:Nat)))) [([.string r.game,.int .i64 r.target,.int .i64 r.aY],25),(aW s A c,42),(au ⟨x,P,d⟩,69),(aj,42),(aW {tl with s0:=tl.s0+((M.objects x).length:Nat),run:=tl.run+((M.objects x).length:Nat) } A' c',42)]:=hB4.set 4 rfl 11 (.int .i64 (tl.run+((M.objects x).length:Nat)));go_wp2;refine HK.out _ _ ?_;apply HN.out;refine ⟨⟨rfl,rfl,rfl,rfl,rfl,by rw [hp],A',c',by rw [HG.out];exact hE2,?_⟩,HKK.out,rfl,HGG.out⟩;rw [HG.out];exact bD.setCell (h3.drew.below hb4) (by intro h;rcases h with h | h <;> ((try simp only at h);omega)) _
   · go_simp
     (go_at_call 72;refine (Ze S x P d _ (Z4.out.below hB.drew.bw)).mono ?_;rintro e w1 ⟨A1,c1,rfl,hr1,hb1⟩;have hB1:=hB.drew.call (by simp) hb1;have hF1:=hB1.get 4 rfl;have q7:=hF1.cell (j:=7) rfl;have qf7:=hF1.frozen 7)
     refine Zd hK (fun p q h=>hB.drew.cells hb1 p q (by simp;omega)) fun hHeld=>?_;clear hK K;refine tk 7 ?_;refine tr 4 fun K hK=>?_;go_simp;refine Zd hK (by first | exact hHeld | exact fun p q h=>rfl) fun hHeld=>?_;clear hK K;refine tk 8 ?_;refine tk 10 ?_;refine tr 11 fun K hK=>?_;go_simp;refine Zd hK (fun p q h=>(Zj (by omega)).trans (hB.drew.cells hb1 p q (by simp;omega))) fun hHeld=>?_;clear hK K;refine wpAnyH_done (by kernel_rfl) ?_ _;obtain ⟨w3,hw3⟩:∃ w3,(w1.setCell ⟨w.heap.size+4,7,none⟩ (.int .i64 (tl.s0+((M.objects x).length:Nat))))=w3:=⟨_,rfl⟩;rw [hw3]
     have hB3:bU w w3 [([.string r.game,.int .i64 r.target,.int .i64 r.aY],25),(aW s A c,42),(au ⟨x,P,d⟩,69),(aj,42),(aW {tl with s0:=tl.s0+((M.objects x).length:Nat) } A' c',42)]:=by rw [← hw3];exact hB1.set 4 rfl 7 (.int .i64 (tl.s0+((M.objects x).length:Nat)))
     have h3:bD w3 (fun b=>(S b∧b<w.heap.size)∨w.heap.size+5≤b) A' c' tl.ay:=by
      rw [← hw3];exact bD.setCell (hb.drew.below hb1) (by intro h;rcases h with h | h <;> ((try simp only at h);omega)) _
     clear hHeld hw3 hw1 hB1 hF1 q7 qf7 hr1 k7 Yd hb1 GK hB hb;have hF:=hB3.get 4 rfl;have v11:=hF.cell (j:=11) rfl;have azb:=hF.frozen 11;have hw2:IntKind.i64.wrap (tl.run+((M.objects x).length:Nat))=tl.run+((M.objects x).length:Nat):=IntWalk.i64_in _ (by omega)
     have GK:∀ W',(fun w':World=>∀ p q,p<w.heap.size+4→w'.cell? ⟨p,q,none⟩=w3.cell? ⟨p,q,none⟩) W'→W'.rangeAt (w.heap.size+2) 0 (au ⟨x,P,d⟩):=fun W' h j v hj=>by rw [h _ _ (by omega)];exact (hB3.get 2 rfl).range j v hj
     go_upto_region 16 with (fail)
     refine wp_region_held_drew (S:=(fun w':World=>∀ p q,p<w.heap.size+4→w'.cell? ⟨p,q,none⟩=w3.cell? ⟨p,q,none⟩)) (by kernel_rfl) ?rQ (fun hHeld=>?_)
     case rQ=>exact fun p q h=>rfl
     refine tk 0 ?_;refine Zf 2 GK Tryz.underlying69 ?_;refine ZX 1 3 (fun K hK=>?_) fun K hK=>?_
     · go_simp
       refine Zd hK (by first | exact hHeld | exact fun p q h=>rfl) fun hHeld=>?_;clear hK K;refine tr 3 fun K hK=>?_;go_simp
       (go_at_call 72;refine (Ze S x P d _ (Z4.out.below hB3.drew.bw)).mono ?_;rintro e w4 ⟨A2,c2,rfl,hr2,hb4⟩;have hB4:=hB3.drew.call (by simp) hb4;have hF4:=hB4.get 4 rfl;have u11:=hF4.cell (j:=11) rfl;have Yn:=hF4.frozen 11)
       refine Zd hK (fun p q h=>hB3.drew.cells hb4 p q (by simp;omega)) fun hHeld=>?_;clear hK K;refine tk 4 ?_;refine tk 5 ?_;refine tk 6 ?_;refine tr 7 fun K hK=>?_;go_simp;refine Zd hK (fun p q h=>(Zj (by omega)).trans (hB3.drew.cells hb4 p q (by simp;omega))) fun hHeld=>?_;clear hK K;refine wpAnyH_done (by kernel_rfl) ?_ _;have hE2:bU w (w4.setCell ⟨w.heap.size+4,11,none⟩ (.int .i64 (tl.run+((M.objects x).length:Nat)))) [([.string r.game,.int .i64 r.target,.int .i64 r.aY],25),(aW s A c,42),(au ⟨x,P,d⟩,69),(aj,42),(aW {tl with s0:=tl.s0+((M.objects x).length:Nat),run:=tl.run+((M.objects x).length:Nat) } A' c',42)]:=hB4.set 4 rfl 11 (.int .i64 (tl.run+((M.objects x).length:Nat)));go_wp2;refine HK.out _ _ ?_;apply HN.out;refine ⟨⟨rfl,rfl,rfl,rfl,rfl,by rw [hp],A',c',by rw [HG.out];exact hE2,?_⟩,HKK.out,rfl,HGG.out⟩;rw [HG.out];exact bD.setCell (h3.drew.below hb4) (by intro h;rcases h with h | h <;> ((try simp only at h);omega)) _
     · go_simp
       (go_at_call 72;refine (Ze S x P d _ (Z4.out.below hB3.drew.bw)).mono ?_;rintro e w4 ⟨A2,c2,rfl,hr2,hb4⟩;have hB4:=hB3.drew.call (by simp) hb4;have hF4:=hB4.get 4 rfl;have u11:=hF4.cell (j:=11) rfl;have Yn:=hF4.frozen 11)
       refine Zd hK (fun p q h=>hB3.drew.cells hb4 p q (by simp;omega)) fun hHeld=>?_;clear hK K;refine tk 4 ?_;refine tr 1 fun K hK=>?_;go_simp;refine Zd hK (by first | exact hHeld | exact fun p q h=>rfl) fun hHeld=>?_;clear hK K;refine tk 5 ?_;refine tk 6 ?_;refine tr 7 fun K hK=>?_;go_simp;refine Zd hK (fun p q h=>(Zj (by omega)).trans (hB3.drew.cells hb4 p q (by simp;omega))) fun hHeld=>?_;clear hK K;refine wpAnyH_done (by kernel_rfl) ?_ _;have hE2:bU w (w4.setCell ⟨w.heap.size+4,11,none⟩ (.int .i64 (tl.run+((M.objects x).length:Nat)))) [([.string r.game,.int .i64 r.target,.int .i64 r.aY],25),(aW s A c,42),(au ⟨x,P,d⟩,69),(aj,42),(aW {tl with s0:=tl.s0+((M.objects x).length:Nat),run:=tl.run+((M.objects x).length:Nat) } A' c',42)]:=hB4.set 4 rfl 11 (.int .i64 (tl.run+((M.objects x).length:Nat)));go_wp2;refine HK.out _ _ ?_;apply HN.out;refine ⟨⟨rfl,rfl,rfl,rfl,rfl,by rw [hp],A',c',by rw [HG.out];exact hE2,?_⟩,HKK.out,rfl,HGG.out⟩;rw [HG.out];exact bD.setCell (h3.drew.below hb4) (by intro h;rcases h with h | h <;> ((try simp only at h);omega)) _
 · have hF:=hB.get 4 rfl
   have k8:=hF.cell (j:=8) rfl;have kf8:=hF.frozen 8;have hw1:IntKind.i64.wrap (tl.s1+((M.objects x).length:Nat))=tl.s1+((M.objects x).length:Nat):=IntWalk.i64_in _ (by omega)
   have hg2:ZB r s x= {tl with s1:=tl.s1+((M.objects x).length:Nat),run:=tl.run+((M.objects x).length:Nat) }:=by
    unfold ZB
    rw [if_pos hgd,HTL.out,hp]
    rfl
   have HG:=hide hg2;have HGG:=hide (show Value.bool true=Value.bool (M.good r s x) by rw [hgd]);rw [hgd,hp]
   have GK:∀ W',(fun w':World=>∀ p q,p<w.heap.size+4→w'.cell? ⟨p,q,none⟩=W.cell? ⟨p,q,none⟩) W'→W'.rangeAt (w.heap.size+2) 0 (au ⟨x,P,d⟩):=fun W' h j v hj=>by rw [h _ _ (by omega)];exact (hB.get 2 rfl).range j v hj
   clear hg2 hgd;go_wp2;refine PD.out _ _ ?_
   go_upto_region 15 with (fail)
   refine wp_region_held_drew (S:=(fun w':World=>∀ p q,p<w.heap.size+4→w'.cell? ⟨p,q,none⟩=W.cell? ⟨p,q,none⟩)) (by kernel_rfl) ?Nk (fun hHeld=>?_)
   case Nk=>exact fun p q h=>rfl
   refine tk 0 ?_;refine tk 1 ?_;refine tk 2 ?_;refine tk 3 ?_;refine Zf 5 GK Tryz.underlying69 ?_;refine tk 9 ?_;refine ZX 4 6 (fun K hK=>?_) fun K hK=>?_
   · go_simp
     refine Zd hK (by first | exact hHeld | exact fun p q h=>rfl) fun hHeld=>?_;clear hK K;refine tr 6 fun K hK=>?_;go_simp
     (go_at_call 72;refine (Ze S x P d _ (Z4.out.below hB.drew.bw)).mono ?_;rintro e w1 ⟨A1,c1,rfl,hr1,hb1⟩;have hB1:=hB.drew.call (by simp) hb1;have hF1:=hB1.get 4 rfl;have q8:=hF1.cell (j:=8) rfl;have qf8:=hF1.frozen 8)
     refine Zd hK (fun p q h=>hB.drew.cells hb1 p q (by simp;omega)) fun hHeld=>?_;clear hK K;refine tk 7 ?_;refine tk 8 ?_;refine tk 10 ?_;refine tr 11 fun K hK=>?_;go_simp;refine Zd hK (fun p q h=>(Zj (by omega)).trans (hB.drew.cells hb1 p q (by simp;omega))) fun hHeld=>?_;clear hK K;refine wpAnyH_done (by kernel_rfl) ?_ _;obtain ⟨w3,hw3⟩:∃ w3,(w1.setCell ⟨w.heap.size+4,8,none⟩ (.int .i64 (tl.s1+((M.objects x).length:Nat))))=w3:=⟨_,rfl⟩;rw [hw3]
     have hB3:bU w w3 [([.string r.game,.int .i64 r.target,.int .i64 r.aY],25),(aW s A c,42),(au ⟨x,P,d⟩,69),(aj,42),(aW {tl with s1:=tl.s1+((M.objects x).length:Nat) } A' c',42)]:=by rw [← hw3];exact hB1.set 4 rfl 8 (.int .i64 (tl.s1+((M.objects x).length:Nat)))
     have h3:bD w3 (fun b=>(S b∧b<w.heap.size)∨w.heap.size+5≤b) A' c' tl.ay:=by
      rw [← hw3];exact bD.setCell (hb.drew.below hb1) (by intro h;rcases h with h | h <;> ((try simp only at h);omega)) _
     clear hHeld hw3 hw1 hB1 hF1 q8 qf8 hr1 k8 kf8 hb1 GK hB hb;have hF:=hB3.get 4 rfl;have v11:=hF.cell (j:=11) rfl;have azb:=hF.frozen 11;have hw2:IntKind.i64.wrap (tl.run+((M.objects x).length:Nat))=tl.run+((M.objects x).length:Nat):=IntWalk.i64_in _ (by omega)
     have GK:∀ W',(fun w':World=>∀ p q,p<w.heap.size+4→w'.cell? ⟨p,q,none⟩=w3.cell? ⟨p,q,none⟩) W'→W'.rangeAt (w.heap.size+2) 0 (au ⟨x,P,d⟩):=fun W' h j v hj=>by rw [h _ _ (by omega)];exact (hB3.get 2 rfl).range j v hj
     go_upto_region 16 with (fail)
     refine wp_region_held_drew (S:=(fun w':World=>∀ p q,p<w.heap.size+4→w'.cell? ⟨p,q,none⟩=w3.cell? ⟨p,q,none⟩)) (by kernel_rfl) ?zV (fun hHeld=>?_)
     case zV=>exact fun p q h=>rfl
     refine tk 0 ?_;refine Zf 2 GK Tryz.underlying69 ?_;refine ZX 1 3 (fun K hK=>?_) fun K hK=>?_
     · go_simp
       refine Zd hK (by first | exact hHeld | exact fun p q h=>rfl) fun hHeld=>?_;clear hK K;refine tr 3 fun K hK=>?_;go_simp
       (go_at_call 72;refine (Ze S x P d _ (Z4.out.below hB3.drew.bw)).mono ?_;rintro e w4 ⟨A2,c2,rfl,hr2,hb4⟩;have hB4:=hB3.drew.call (by simp) hb4;have hF4:=hB4.get 4 rfl;have u11:=hF4.cell (j:=11) rfl;have Yn:=hF4.frozen 11)
       refine Zd hK (fun p q h=>hB3.drew.cells hb4 p q (by simp;omega)) fun hHeld=>?_;clear hK K;refine tk 4 ?_;refine tk 5 ?_;refine tk 6 ?_;refine tr 7 fun K hK=>?_;go_simp;refine Zd hK (fun p q h=>(Zj (by omega)).trans (hB3.drew.cells hb4 p q (by simp;omega))) fun hHeld=>?_;clear hK K;refine wpAnyH_done (by kernel_rfl) ?_ _;have hE2:bU w (w4.setCell ⟨w.heap.size+4,11,none⟩ (.int .i64 (tl.run+((M.objects x).length:Nat)))) [([.string r.game,.int .i64 r.target,.int .i64 r.aY],25),(aW s A c,42),(au ⟨x,P,d⟩,69),(aj,42),(aW {tl with s1:=tl.s1+((M.objects x).length:Nat),run:=tl.run+((M.objects x).length:Nat) } A' c',42)]:=hB4.set 4 rfl 11 (.int .i64 (tl.run+((M.objects x).length:Nat)));go_wp2;refine HK.out _ _ ?_;apply HN.out;refine ⟨⟨rfl,rfl,rfl,rfl,rfl,by rw [hp],A',c',by rw [HG.out];exact hE2,?_⟩,HKK.out,rfl,HGG.out⟩;rw [HG.out];exact bD.setCell (h3.drew.below hb4) (by intro h;rcases h with h | h <;> ((try simp only at h);omega)) _
     · go_simp
       (go_at_call 72;refine (Ze S x P d _ (Z4.out.below hB3.drew.bw)).mono ?_;rintro e w4 ⟨A2,c2,rfl,hr2,hb4⟩;have hB4:=hB3.drew.call (by simp) hb4;have hF4:=hB4.get 4 rfl;have u11:=hF4.cell (j:=11) rfl;have Yn:=hF4.frozen 11)
       refine Zd hK (fun p q h=>hB3.drew.cells hb4 p q (by simp;omega)) fun hHeld=>?_;clear hK K;refine tk 4 ?_;refine tr 1 fun K hK=>?_;go_simp;refine Zd hK (by first | exact hHeld | exact fun p q h=>rfl) fun hHeld=>?_;clear hK K;refine tk 5 ?_;refine tk 6 ?_;refine tr 7 fun K hK=>?_;go_simp;refine Zd hK (fun p q h=>(Zj (by omega)).trans (hB3.drew.cells hb4 p q (by simp;omega))) fun hHeld=>?_;clear hK K;refine wpAnyH_done (by kernel_rfl) ?_ _;have hE2:bU w (w4.setCell ⟨w.heap.size+4,11,none⟩ (.int .i64 (tl.run+((M.objects x).length:Nat)))) [([.string r.game,.int .i64 r.target,.int .i64 r.aY],25),(aW s A c,42),(au ⟨x,P,d⟩,69),(aj,42),(aW {tl with s1:=tl.s1+((M.objects x).length:Nat),run:=tl.run+((M.objects x).length:Nat) } A' c',42)]:=hB4.set 4 rfl 11 (.int .i64 (tl.run+((M.objects x).length:Nat)));go_wp2;refine HK.out _ _ ?_;apply HN.out;refine ⟨⟨rfl,rfl,rfl,rfl,rfl,by rw [hp],A',c',by rw [HG.out];exact hE2,?_⟩,HKK.out,rfl,HGG.out⟩;rw [HG.out];exact bD.setCell (h3.drew.below hb4) (by intro h;rcases h with h | h <;> ((try simp only at h);omega)) _
   · go_simp
     (go_at_call 72;refine (Ze S x P d _ (Z4.out.below hB.drew.bw)).mono ?_;rintro e w1 ⟨A1,c1,rfl,hr1,hb1⟩;have hB1:=hB.drew.call (by simp) hb1;have hF1:=hB1.get 4 rfl;have q8:=hF1.cell (j:=8) rfl;have qf8:=hF1.frozen 8)
     refine Zd hK (fun p q h=>hB.drew.cells hb1 p q (by simp;omega)) fun hHeld=>?_;clear hK K;refine tk 7 ?_;refine tr 4 fun K hK=>?_;go_simp;refine Zd hK (by first | exact hHeld | exact fun p q h=>rfl) fun hHeld=>?_;clear hK K;refine tk 8 ?_;refine tk 10 ?_;refine tr 11 fun K hK=>?_;go_simp;refine Zd hK (fun p q h=>(Zj (by omega)).trans (hB.drew.cells hb1 p q (by simp;omega))) fun hHeld=>?_;clear hK K;refine wpAnyH_done (by kernel_rfl) ?_ _;obtain ⟨w3,hw3⟩:∃ w3,(w1.setCell ⟨w.heap.size+4,8,none⟩ (.int .i64 (tl.s1+((M.objects x).length:Nat))))=w3:=⟨_,rfl⟩;rw [hw3]
     have hB3:bU w w3 [([.string r.game,.int .i64 r.target,.int .i64 r.aY],25),(aW s A c,42),(au ⟨x,P,d⟩,69),(aj,42),(aW {tl with s1:=tl.s1+((M.objects x).length:Nat) } A' c',42)]:=by rw [← hw3];exact hB1.set 4 rfl 8 (.int .i64 (tl.s1+((M.objects x).length:Nat)))
     have h3:bD w3 (fun b=>(S b∧b<w.heap.size)∨w.heap.size+5≤b) A' c' tl.ay:=by
      rw [← hw3];exact bD.setCell (hb.drew.below hb1) (by intro h;rcases h with h | h <;> ((try simp only at h);omega)) _
     clear hHeld hw3 hw1 hB1 hF1 q8 qf8 hr1 k8 kf8 hb1 GK hB hb;have hF:=hB3.get 4 rfl;have v11:=hF.cell (j:=11) rfl;have azb:=hF.frozen 11;have hw2:IntKind.i64.wrap (tl.run+((M.objects x).length:Nat))=tl.run+((M.objects x).length:Nat):=IntWalk.i64_in _ (by omega)
     have GK:∀ W',(fun w':World=>∀ p q,p<w.heap.size+4→w'.cell? ⟨p,q,none⟩=w3.cell? ⟨p,q,none⟩) W'→W'.rangeAt (w.heap.size+2) 0 (au ⟨x,P,d⟩):=fun W' h j v hj=>by rw [h _ _ (by omega)];exact (hB3.get 2 rfl).range j v hj
     go_upto_region 16 with (fail)
     refine wp_region_held_drew (S:=(fun w':World=>∀ p q,p<w.heap.size+4→w'.cell? ⟨p,q,none⟩=w3.cell? ⟨p,q,none⟩)) (by kernel_rfl) ?zV (fun hHeld=>?_)
     case zV=>exact fun p q h=>rfl
     refine tk 0 ?_;refine Zf 2 GK Tryz.underlying69 ?_;refine ZX 1 3 (fun K hK=>?_) fun K hK=>?_
     · go_simp
       refine Zd hK (by first | exact hHeld | exact fun p q h=>rfl) fun hHeld=>?_;clear hK K;refine tr 3 fun K hK=>?_;go_simp
       (go_at_call 72;refine (Ze S x P d _ (Z4.out.below hB3.drew.bw)).mono ?_;rintro e w4 ⟨A2,c2,rfl,hr2,hb4⟩;have hB4:=hB3.drew.call (by simp) hb4;have hF4:=hB4.get 4 rfl;have u11:=hF4.cell (j:=11) rfl;have Yn:=hF4.frozen 11)
       refine Zd hK (fun p q h=>hB3.drew.cells hb4 p q (by simp;omega)) fun hHeld=>?_;clear hK K;refine tk 4 ?_;refine tk 5 ?_;refine tk 6 ?_;refine tr 7 fun K hK=>?_;go_simp;refine Zd hK (fun p q h=>(Zj (by omega)).trans (hB3.drew.cells hb4 p q (by simp;omega))) fun hHeld=>?_;clear hK K;refine wpAnyH_done (by kernel_rfl) ?_ _;have hE2:bU w (w4.setCell ⟨w.heap.size+4,11,none⟩ (.int .i64 (tl.run+((M.objects x).length:Nat)))) [([.string r.game,.int .i64 r.target,.int .i64 r.aY],25),(aW s A c,42),(au ⟨x,P,d⟩,69),(aj,42),(aW {tl with s1:=tl.s1+((M.objects x).length:Nat),run:=tl.run+((M.objects x).length:Nat) } A' c',42)]:=hB4.set 4 rfl 11 (.int .i64 (tl.run+((M.objects x).length:Nat)));go_wp2;refine HK.out _ _ ?_;apply HN.out;refine ⟨⟨rfl,rfl,rfl,rfl,rfl,by rw [hp],A',c',by rw [HG.out];exact hE2,?_⟩,HKK.out,rfl,HGG.out⟩;rw [HG.out];exact bD.setCell (h3.drew.below hb4) (by intro h;rcases h with h | h <;> ((try simp only at h);omega)) _
     · go_simp
       (go_at_call 72;refine (Ze S x P d _ (Z4.out.below hB3.drew.bw)).mono ?_;rintro e w4 ⟨A2,c2,rfl,hr2,hb4⟩;have hB4:=hB3.drew.call (by simp) hb4;have hF4:=hB4.get 4 rfl;have u11:=hF4.cell (j:=11) rfl;have Yn:=hF4.frozen 11)
       refine Zd hK (fun p q h=>hB3.drew.cells hb4 p q (by simp;omega)) fun hHeld=>?_;clear hK K;refine tk 4 ?_;refine tr 1 fun K hK=>?_;go_simp;refine Zd hK (by first | exact hHeld | exact fun p q h=>rfl) fun hHeld=>?_;clear hK K;refine tk 5 ?_;refine tk 6 ?_;refine tr 7 fun K hK=>?_;go_simp;refine Zd hK (fun p q h=>(Zj (by omega)).trans (hB3.drew.cells hb4 p q (by simp;omega))) fun hHeld=>?_;clear hK K;refine wpAnyH_done (by kernel_rfl) ?_ _;have hE2:bU w (w4.setCell ⟨w.heap.size+4,11,none⟩ (.int .i64 (tl.run+((M.objects x).length:Nat)))) [([.string r.game,.int .i64 r.target,.int .i64 r.aY],25),(aW s A c,42),(au ⟨x,P,d⟩,69),(aj,42),(aW {tl with s1:=tl.s1+((M.objects x).length:Nat),run:=tl.run+((M.objects x).length:Nat) } A' c',42)]:=hB4.set 4 rfl 11 (.int .i64 (tl.run+((M.objects x).length:Nat)));go_wp2;refine HK.out _ _ ?_;apply HN.out;refine ⟨⟨rfl,rfl,rfl,rfl,rfl,by rw [hp],A',c',by rw [HG.out];exact hE2,?_⟩,HKK.out,rfl,HGG.out⟩;rw [HG.out];exact bD.setCell (h3.drew.below hb4) (by intro h;rcases h with h | h <;> ((try simp only at h);omega)) _
theorem aBz (S:Nat→Prop) (r:M.Rules) (s:M.State) (x:M.aI) (A P:Option Addr) (c d:Nat) (w:World) (HP:Hid (bD w S A c s.ay)) (Z4:Hid (jl w S P d x.aA)) (HY:Hid (abn r s x)) (HN:Hid (ar0 S r s x A P c d w)):arT S r s x A P c d w:=by
 dsimp only [arT,NXQ]
 intros
 rename_i W hf
 dsimp only [ZM,dQ,Tryz.f47,Option.getD]
 obtain ⟨hN,hk,rfl,rfl⟩:=hf;obtain ⟨rfl,rfl,rfl,rfl,rfl,rfl,A',c',hB,hb⟩:=hN;have HKK:=hide hk;have hnn:=avM HY.out;obtain ⟨tl,htl⟩:∃ q,ZB r s x=q:=⟨_,rfl⟩;rw [htl] at hB hb hnn;have HTL:=hide htl;obtain ⟨n1,n2,n3,n4,n7,n8,n9,n10,_,_,_,_⟩:=hnn;have hp:=(M.uw HY.out.ck).aC;clear hk htl;apply wp_seq_k;intro K hK;have HK:=hide hK;clear hK;apply wp_seq_k;intro K2 hK2;have PD:=hide hK2;clear hK2
 rcases hp with hp | hp
 · have hF:=hB.get 4 rfl
   have hR:=hB.bf rfl;have k7:=hF.cell (j:=7) rfl;have Yd:=hF.frozen 7;have k9:=hF.cell (j:=9) rfl;have Wx:=hF.frozen 9;have k11:=hF.cell (j:=11) rfl;have X7:=hF.frozen 11;have g0:=hR.cell (j:=0) rfl;have gf0:=hR.frozen 0;rw [hp]
   by_cases hf0:M.iW r s x=0
   · have HFG:=hide (show Value.int .i64 0=Value.int .i64 (M.iW r s x) by rw [hf0])
     rw [hf0]
     have hcn:M.counted r s x= {tl with f0:=0 }:=by
      rw [ZE,HTL.out,hp];rw [if_pos hf0];rfl
     have HC:=hide hcn;have hb2:=(bD.setCell (p:=⟨w.heap.size+4,9,none⟩) hb (by intro h;rcases h with h | h <;> ((try simp only at h);omega)) (.int .i64 0));have hE:bU w (W.setCell ⟨w.heap.size+4,9,none⟩ (.int .i64 0)) [([.string r.game,.int .i64 r.target,.int .i64 r.aY],25),(aW s A c,42),(au ⟨x,P,d⟩,69),(aj,42),(aW {tl with f0:=0 } A' c',42)]:=(hB.set 4 rfl 9 _);clear hcn;go_wp2;refine PD.out _ _ ?_;go_wp2;refine HK.out _ _ ?_;apply HN.out;exact ⟨⟨rfl,rfl,rfl,rfl,rfl,by rw [hp],A',c',by rw [HC.out];exact hE,by rw [HC.out];exact hb2⟩,HKK.out,HFG.out,rfl⟩
   · obtain ⟨fl,hfl⟩:∃ q,M.iW r s x=q:=⟨_,rfl⟩
     have HFG:=hide (show Value.int .i64 fl=Value.int .i64 (M.iW r s x) by rw [hfl])
     have hf1:(fl == 0)=false:=by rw [← hfl];simpa using hf0
     rw [hfl]
     by_cases hst:r.game=M.aB
     · have q1:(r.game.toList == [115,116,114,97,105,103,104,116])=true:=by rw [hst];decide+kernel
       have hcn:M.counted r s x= {tl with f0:=tl.f0+1,run:=0,s0:=tl.s0 - 1 }:=by
        rw [ZE,HTL.out,hp];rw [if_neg hf0,if_pos hst];rfl
       have HC:=hide hcn;have hb2:=(bD.setCell (p:=⟨w.heap.size+4,7,none⟩) (bD.setCell (p:=⟨w.heap.size+4,11,none⟩) (bD.setCell (p:=⟨w.heap.size+4,9,none⟩) hb (by intro h;rcases h with h | h <;> ((try simp only at h);omega)) (.int .i64 (tl.f0+1))) (by intro h;rcases h with h | h <;> ((try simp only at h);omega)) (.int .i64 0)) (by intro h;rcases h with h | h <;> ((try simp only at h);omega)) (.int .i64 (tl.s0 - 1)));have hE:bU w (((W.setCell ⟨w.heap.size+4,9,none⟩ (.int .i64 (tl.f0+1))).setCell ⟨w.heap.size+4,11,none⟩ (.int .i64 0)).setCell ⟨w.heap.size+4,7,none⟩ (.int .i64 (tl.s0 - 1))) [([.string r.game,.int .i64 r.target,.int .i64 r.aY],25),(aW s A c,42),(au ⟨x,P,d⟩,69),(aj,42),(aW {tl with f0:=tl.f0+1,run:=0,s0:=tl.s0 - 1 } A' c',42)]:=(((hB.set 4 rfl 9 _).set 4 rfl 11 _).set 4 rfl 7 _);clear hcn hst hf0 hfl;go_wp2;refine PD.out _ _ ?_;go_wp2;refine HK.out _ _ ?_;apply HN.out;exact ⟨⟨rfl,rfl,rfl,rfl,rfl,by rw [hp],A',c',by rw [HC.out];exact hE,by rw [HC.out];exact hb2⟩,HKK.out,HFG.out,rfl⟩
     · have q1:(r.game.toList == [115,116,114,97,105,103,104,116])=false:=beq_eq_false_iff_ne.2 (bQ hst)
       have hcn:M.counted r s x= {tl with f0:=tl.f0+1,run:=0 }:=by
        rw [ZE,HTL.out,hp];rw [if_neg hf0,if_neg hst];rfl
       have HC:=hide hcn;have hb2:=(bD.setCell (p:=⟨w.heap.size+4,11,none⟩) (bD.setCell (p:=⟨w.heap.size+4,9,none⟩) hb (by intro h;rcases h with h | h <;> ((try simp only at h);omega)) (.int .i64 (tl.f0+1))) (by intro h;rcases h with h | h <;> ((try simp only at h);omega)) (.int .i64 0));have hE:bU w ((W.setCell ⟨w.heap.size+4,9,none⟩ (.int .i64 (tl.f0+1))).setCell ⟨w.heap.size+4,11,none⟩ (.int .i64 0)) [([.string r.game,.int .i64 r.target,.int .i64 r.aY],25),(aW s A c,42),(au ⟨x,P,d⟩,69),(aj,42),(aW {tl with f0:=tl.f0+1,run:=0 } A' c',42)]:=((hB.set 4 rfl 9 _).set 4 rfl 11 _);clear hcn hst hf0 hfl;go_wp2;refine PD.out _ _ ?_;go_wp2;refine HK.out _ _ ?_;apply HN.out;exact ⟨⟨rfl,rfl,rfl,rfl,rfl,by rw [hp],A',c',by rw [HC.out];exact hE,by rw [HC.out];exact hb2⟩,HKK.out,HFG.out,rfl⟩
 · have hF:=hB.get 4 rfl
   have hR:=hB.bf rfl;have k8:=hF.cell (j:=8) rfl;have kf8:=hF.frozen 8;have k10:=hF.cell (j:=10) rfl;have X6:=hF.frozen 10;have k11:=hF.cell (j:=11) rfl;have X7:=hF.frozen 11;have g0:=hR.cell (j:=0) rfl;have gf0:=hR.frozen 0;rw [hp]
   by_cases hf0:M.iW r s x=0
   · have HFG:=hide (show Value.int .i64 0=Value.int .i64 (M.iW r s x) by rw [hf0])
     rw [hf0]
     have hcn:M.counted r s x= {tl with f1:=0 }:=by
      rw [ZE,HTL.out,hp];rw [if_pos hf0];rfl
     have HC:=hide hcn;have hb2:=(bD.setCell (p:=⟨w.heap.size+4,10,none⟩) hb (by intro h;rcases h with h | h <;> ((try simp only at h);omega)) (.int .i64 0));have hE:bU w (W.setCell ⟨w.heap.size+4,10,none⟩ (.int .i64 0)) [([.string r.game,.int .i64 r.target,.int .i64 r.aY],25),(aW s A c,42),(au ⟨x,P,d⟩,69),(aj,42),(aW {tl with f1:=0 } A' c',42)]:=(hB.set 4 rfl 10 _);clear hcn;go_wp2;refine PD.out _ _ ?_;go_wp2;refine HK.out _ _ ?_;apply HN.out;exact ⟨⟨rfl,rfl,rfl,rfl,rfl,by rw [hp],A',c',by rw [HC.out];exact hE,by rw [HC.out];exact hb2⟩,HKK.out,HFG.out,rfl⟩
   · obtain ⟨fl,hfl⟩:∃ q,M.iW r s x=q:=⟨_,rfl⟩
     have HFG:=hide (show Value.int .i64 fl=Value.int .i64 (M.iW r s x) by rw [hfl])
     have hf1:(fl == 0)=false:=by rw [← hfl];simpa using hf0
     rw [hfl]
     by_cases hst:r.game=M.aB
     · have q1:(r.game.toList == [115,116,114,97,105,103,104,116])=true:=by rw [hst];decide+kernel
       have hcn:M.counted r s x= {tl with f1:=tl.f1+1,run:=0,s1:=tl.s1 - 1 }:=by
        rw [ZE,HTL.out,hp];rw [if_neg hf0,if_pos hst];rfl
       have HC:=hide hcn;have hb2:=(bD.setCell (p:=⟨w.heap.size+4,8,none⟩) (bD.setCell (p:=⟨w.heap.size+4,11,none⟩) (bD.setCell (p:=⟨w.heap.size+4,10,none⟩) hb (by intro h;rcases h with h | h <;> ((try simp only at h);omega)) (.int .i64 (tl.f1+1))) (by intro h;rcases h with h | h <;> ((try simp only at h);omega)) (.int .i64 0)) (by intro h;rcases h with h | h <;> ((try simp only at h);omega)) (.int .i64 (tl.s1 - 1)));have hE:bU w (((W.setCell ⟨w.heap.size+4,10,none⟩ (.int .i64 (tl.f1+1))).setCell ⟨w.heap.size+4,11,none⟩ (.int .i64 0)).setCell ⟨w.heap.size+4,8,none⟩ (.int .i64 (tl.s1 - 1))) [([.string r.game,.int .i64 r.target,.int .i64 r.aY],25),(aW s A c,42),(au ⟨x,P,d⟩,69),(aj,42),(aW {tl with f1:=tl.f1+1,run:=0,s1:=tl.s1 - 1 } A' c',42)]:=(((hB.set 4 rfl 10 _).set 4 rfl 11 _).set 4 rfl 8 _);clear hcn hst hf0 hfl;go_wp2;refine PD.out _ _ ?_;go_wp2;refine HK.out _ _ ?_;apply HN.out;exact ⟨⟨rfl,rfl,rfl,rfl,rfl,by rw [hp],A',c',by rw [HC.out];exact hE,by rw [HC.out];exact hb2⟩,HKK.out,HFG.out,rfl⟩
     · have q1:(r.game.toList == [115,116,114,97,105,103,104,116])=false:=beq_eq_false_iff_ne.2 (bQ hst)
       have hcn:M.counted r s x= {tl with f1:=tl.f1+1,run:=0 }:=by
        rw [ZE,HTL.out,hp];rw [if_neg hf0,if_neg hst];rfl
       have HC:=hide hcn;have hb2:=(bD.setCell (p:=⟨w.heap.size+4,11,none⟩) (bD.setCell (p:=⟨w.heap.size+4,10,none⟩) hb (by intro h;rcases h with h | h <;> ((try simp only at h);omega)) (.int .i64 (tl.f1+1))) (by intro h;rcases h with h | h <;> ((try simp only at h);omega)) (.int .i64 0));have hE:bU w ((W.setCell ⟨w.heap.size+4,10,none⟩ (.int .i64 (tl.f1+1))).setCell ⟨w.heap.size+4,11,none⟩ (.int .i64 0)) [([.string r.game,.int .i64 r.target,.int .i64 r.aY],25),(aW s A c,42),(au ⟨x,P,d⟩,69),(aj,42),(aW {tl with f1:=tl.f1+1,run:=0 } A' c',42)]:=((hB.set 4 rfl 10 _).set 4 rfl 11 _);clear hcn hst hf0 hfl;go_wp2;refine PD.out _ _ ?_;go_wp2;refine HK.out _ _ ?_;apply HN.out;exact ⟨⟨rfl,rfl,rfl,rfl,rfl,by rw [hp],A',c',by rw [HC.out];exact hE,by rw [HC.out];exact hb2⟩,HKK.out,HFG.out,rfl⟩
theorem aBG (S:Nat→Prop) (r:M.Rules) (s:M.State) (x:M.aI) (A P:Option Addr) (c d:Nat) (w:World) (HP:Hid (bD w S A c s.ay)) (Z4:Hid (jl w S P d x.aA)) (HY:Hid (abn r s x)) (HN:Hid (ar8 S r s x A P c d w)):ar0 S r s x A P c d w:=by
 dsimp only [ar0,NXQ]
 intros
 rename_i W hf
 dsimp only [ZM,dQ,Tryz.f47,Option.getD]
 obtain ⟨hN,hk,rfl,rfl⟩:=hf;obtain ⟨rfl,rfl,rfl,rfl,rfl,rfl,A',c',hB,hb⟩:=hN;have HKK:=hide hk;have hen:=fun W h h'=>ake S r s x (M.counted r s x) A P A' c d c' W h h' HY.out.rules HY.out.ok.group (M.uw HY.out.ck).aC;have HEN:=hide hen;clear hk hen;apply wp_seq_k;intro K hK;have HK:=hide hK;clear hK
 go_wp2_with (first | (refine aN 25 (.tmp 3) rfl ?_;refine aG (hB.bf rfl) Tryz.underlying25 rfl Zw rfl (.tmp 3) rfl rfl ?_) | (refine aN 42 (.tmp 4) rfl ?_;refine aG (hB.get 1 rfl) Tryz.underlying42 rfl Zc rfl (.tmp 4) rfl rfl ?_) | (refine aN 69 (.tmp 5) rfl ?_;refine aG (hB.get 2 rfl) Tryz.underlying69 rfl Zk rfl (.tmp 5) rfl rfl ?_) | (refine aN 42 (.tmp 7) rfl ?_;refine aG (hB.get 4 rfl) Tryz.underlying42 rfl Zc rfl (.tmp 7) rfl rfl ?_) | (go_at_call 100;refine (HEN.out _ (HP.out.below hB.bw) (Z4.out.below hB.bw)).mono ?_;rintro e w1 ⟨rfl,hb1⟩;have hB1:=hB.call (by simp) hb1) | (refine aO 42 (.tmp 7) (.tmp 104) rfl ?_;refine aF (hB1.get 4 rfl) (aW (M.ended r s x (M.counted r s x)) A' c') rfl Zc (dL _ _ _) rfl (.tmp 7) (.tmp 104) rfl rfl rfl ?_))
 refine HK.out _ _ ?_;apply HN.out;refine ⟨⟨rfl,rfl,rfl,rfl,rfl,rfl,A',c',hB1.put 4 rfl (aW (M.ended r s x (M.counted r s x)) A' c') rfl,?_⟩,HKK.out,rfl,rfl⟩;rw [(M.adi r s x (M.counted r s x)).2.2.1];exact bD.sets (g:=w.heap.size+4) (by intro h;rcases h with h | h <;> ((try simp only at h);omega)) _ 0 _ (hb.below hb1)
theorem aBN (S:Nat→Prop) (r:M.Rules) (s:M.State) (x:M.aI) (A P:Option Addr) (c d:Nat) (w:World) (HP:Hid (bD w S A c s.ay)) (Z4:Hid (jl w S P d x.aA)) (HY:Hid (abn r s x)) (HN:Hid (asg S r s x A P c d w)):ar8 S r s x A P c d w:=by
 dsimp only [ar8,NXQ]
 intros
 rename_i W hf
 dsimp only [ZM,dQ,Tryz.f47,Option.getD]
 obtain ⟨hN,hk,rfl,rfl⟩:=hf;obtain ⟨rfl,rfl,rfl,rfl,rfl,rfl,A',c',hB,hb⟩:=hN;have HKK:=hide hk;have hnp:=ab6 (r:=r) (s:=s) hk.1 hk.2;obtain ⟨te,hte⟩:∃ q,(M.ended r s x (M.counted r s x))=q:=⟨_,rfl⟩;rw [hte] at hB hb hnp;have ZY:=hide hte;have hF:=hB.get 4 rfl;have k13:=hF.cell (j:=13) rfl;have X9:=hF.frozen 13;clear hk;apply wp_seq_k;intro K hK;have HK:=hide hK;clear hK;apply wp_seq_k;intro K2 hK2;have PD:=hide hK2;clear hK2
 cases ho:te.over with
 | true=>
   rw [ho] at k13;rw [if_pos ho] at hnp;have VP:=hide hnp;clear hnp hte ho;go_wp2;refine PD.out _ _ ?_
   go_wp2_with (first | (refine aN 42 (.tmp 7) rfl ?_;refine aG (hB.get 4 rfl) Tryz.underlying42 rfl Zc rfl (.tmp 7) rfl rfl ?_) | (refine aO 42 (.tmp 6) (.tmp 107) rfl ?_;refine aF (hB.get 3 rfl) (aW (te) A' c') rfl Zc (dL _ _ _) rfl (.tmp 6) (.tmp 107) rfl rfl rfl ?_))
   have hZ:=hB.put 3 rfl (aW (te) A' c') rfl;exact bodyPost_ret (bP (p:=6) (hZ.get 3 rfl) Tryz.underlying42 rfl Zc rfl _ rfl) rfl ⟨A',c',by rw [VP.out];rfl,by rw [VP.out];exact bD.more (bD.sets (g:=w.heap.size+3) (by intro h;rcases h with h | h <;> ((try simp only at h);omega)) _ 0 _ hb) (fun b _ h=>by rcases h with h | h;exact .inl h;exact .inr (by omega)),hZ.bw⟩
 | false=>
   rw [ho] at k13;have HO:=hide ho;clear hnp hte ho;go_wp2;refine PD.out _ _ ?_;go_wp2;refine HK.out _ _ ?_;apply HN.out;exact ⟨⟨rfl,rfl,rfl,rfl,rfl,rfl,A',c',by rw [ZY.out];exact hB,by rw [ZY.out];exact hb⟩,HKK.out,⟨rfl,rfl⟩,by rw [ZY.out];exact HO.out⟩
theorem aBU (S:Nat→Prop) (r:M.Rules) (s:M.State) (x:M.aI) (A P:Option Addr) (c d:Nat) (w:World) (HP:Hid (bD w S A c s.ay)) (Z4:Hid (jl w S P d x.aA)) (HY:Hid (abn r s x)) (HN:Hid (asq S r s x A P c d w)):asg S r s x A P c d w:=by
 dsimp only [asg,NXQ]
 intros
 rename_i W hf
 dsimp only [ZM,dQ,Tryz.f47,Option.getD]
 obtain ⟨hN,hk,⟨rfl,rfl⟩,ho⟩:=hf;obtain ⟨rfl,rfl,rfl,rfl,rfl,rfl,A',c',hB,hb⟩:=hN;have HKK:=hide hk;have hnp:=ab6 (r:=r) (s:=s) hk.1 hk.2;have hnn:=at1 HY.out;obtain ⟨te,hte⟩:∃ q,(M.ended r s x (M.counted r s x))=q:=⟨_,rfl⟩;rw [hte] at hB hb hnp ho hnn;have ZY:=hide hte;rw [ho,if_neg (by decide)] at hnp;have HO:=hide ho;obtain ⟨n1,n2,n3,n4,n5,n6⟩:=hnn;have hp:=(M.uw HY.out.ck).aC;clear hk hte ho;apply wp_seq_k;intro K hK;have HK:=hide hK;clear hK;apply wp_seq_k;intro K2 hK2;have PD:=hide hK2;clear hK2
 rcases hp with hp | hp
 · have hF:=hB.get 4 rfl
   have hR:=hB.bf rfl;have k9:=hF.cell (j:=9) rfl;have Wx:=hF.frozen 9;have g2:=hR.cell (j:=2) rfl;have gf2:=hR.frozen 2
   by_cases hf0:M.iW r s x=0
   · have HFG:=hide (show Value.int .i64 0=Value.int .i64 (M.iW r s x) by rw [hf0])
     have HNL:=hide (show ¬ (M.iW r s x≠0∧te.jZ x.aC=r.aY) from fun h=>h.1 hf0);rw [hf0,hp];clear hf0 hnp
     go_quiet (fail)
     go_wp2;refine PD.out _ _ ?_;go_wp2;refine HK.out _ _ ?_;apply HN.out;exact ⟨⟨rfl,rfl,rfl,rfl,rfl,by rw [hp],A',c',by rw [ZY.out];exact hB.drewN _,by rw [ZY.out];exact hb.drewN _⟩,HKK.out,⟨HFG.out,rfl⟩,by rw [ZY.out];exact HO.out,by rw [ZY.out];exact HNL.out⟩
   · obtain ⟨fl,hfl⟩:∃ q,M.iW r s x=q:=⟨_,rfl⟩
     have HFG:=hide (show Value.int .i64 fl=Value.int .i64 (M.iW r s x) by rw [hfl])
     have hf1:(fl != 0)=true:=by rw [← hfl];simpa using hf0
     rw [hfl,hp]
     have hfo:te.jZ x.aC=te.f0:=by rw [hp];rfl
     by_cases hq:te.f0=r.aY
     · have hq1:(te.f0 == r.aY)=true:=by simpa using hq
       rw [if_pos ⟨hf0,hfo.trans hq⟩] at hnp;have VP:=hide hnp;have hli:=fun W h=>aeX (fun b=>(S b∧b<w.heap.size)∨w.heap.size+5≤b) r te x.aC A' c' W h (by omega) (by omega) (by omega) (by omega) (by omega) (by omega) (by omega);rw [hp] at hli;have HLI:=hide hli;clear hq hnp hfl hf0 hfo hli
       go_quiet (fail)
       go_wp2;refine PD.out _ _ ?_
       go_wp2_with (first | (refine aN 25 (.tmp 3) rfl ?_;refine aG ((hB.drewN _).bf rfl) Tryz.underlying25 rfl Zw rfl (.tmp 3) rfl rfl ?_) | (refine aN 42 (.tmp 7) rfl ?_;refine aG ((hB.drewN _).get 4 rfl) Tryz.underlying42 rfl Zc rfl (.tmp 7) rfl rfl ?_) | (go_at_call 101;refine (HLI.out _ (hb.drewN _)).mono ?_;rintro e w1 ⟨A1,c1,rfl,hr1,hb1⟩;have hB1:=(hB.drewN _).call (by simp) hb1) | (refine aO 42 (.tmp 6) (.tmp 122) rfl ?_;refine aF (hB1.get 3 rfl) (aW (M.limit r te 0) A1 c1) rfl Zc (dL _ _ _) rfl (.tmp 6) (.tmp 122) rfl rfl rfl ?_))
       have hZ:=hB1.put 3 rfl (aW (M.limit r te 0) A1 c1) rfl;have hsz:=hB.size (by simp)
       simp only [List.length_cons,List.length_nil] at hsz
       exact bodyPost_ret (bP (p:=6) (hZ.get 3 rfl) Tryz.underlying42 rfl Zc rfl _ rfl) rfl ⟨A1,c1,by rw [VP.out,hp];rfl,by
        rw [VP.out,hp]
        exact bD.more (bD.sets (S:=fun b=>(S b∧b<w.heap.size)∨w.heap.size+5≤b) (g:=w.heap.size+3) (by intro h;rcases h with h | h <;> ((try simp only at h);omega)) _ 0 _ (bD.more hr1 (fun b _ h=>by rcases h with h | h;exact h;exact .inr (by simp at h;omega)))) (fun b _ h=>by rcases h with h | h;exact .inl h;exact .inr (by omega)),hZ.bw⟩
     · have hq1:(te.f0 == r.aY)=false:=by simpa using hq
       have HNL:=hide (show ¬ (M.iW r s x≠0∧te.jZ x.aC=r.aY) from fun h=>hq (hfo.symm.trans h.2));clear hq hnp hfl hf0 hfo
       go_quiet (fail)
       go_wp2;refine PD.out _ _ ?_;go_wp2;refine HK.out _ _ ?_;apply HN.out;exact ⟨⟨rfl,rfl,rfl,rfl,rfl,by rw [hp],A',c',by rw [ZY.out];exact hB.drewN _,by rw [ZY.out];exact hb.drewN _⟩,HKK.out,⟨HFG.out,rfl⟩,by rw [ZY.out];exact HO.out,by rw [ZY.out];exact HNL.out⟩
 · have hF:=hB.get 4 rfl
   have hR:=hB.bf rfl;have k10:=hF.cell (j:=10) rfl;have X6:=hF.frozen 10;have g2:=hR.cell (j:=2) rfl;have gf2:=hR.frozen 2
   by_cases hf0:M.iW r s x=0
   · have HFG:=hide (show Value.int .i64 0=Value.int .i64 (M.iW r s x) by rw [hf0])
     have HNL:=hide (show ¬ (M.iW r s x≠0∧te.jZ x.aC=r.aY) from fun h=>h.1 hf0);rw [hf0,hp];clear hf0 hnp
     go_quiet (fail)
     go_wp2;refine PD.out _ _ ?_;go_wp2;refine HK.out _ _ ?_;apply HN.out;exact ⟨⟨rfl,rfl,rfl,rfl,rfl,by rw [hp],A',c',by rw [ZY.out];exact hB.drewN _,by rw [ZY.out];exact hb.drewN _⟩,HKK.out,⟨HFG.out,rfl⟩,by rw [ZY.out];exact HO.out,by rw [ZY.out];exact HNL.out⟩
   · obtain ⟨fl,hfl⟩:∃ q,M.iW r s x=q:=⟨_,rfl⟩
     have HFG:=hide (show Value.int .i64 fl=Value.int .i64 (M.iW r s x) by rw [hfl])
     have hf1:(fl != 0)=true:=by rw [← hfl];simpa using hf0
     rw [hfl,hp]
     have hfo:te.jZ x.aC=te.f1:=by rw [hp];rfl
     by_cases hq:te.f1=r.aY
     · have hq1:(te.f1 == r.aY)=true:=by simpa using hq
       rw [if_pos ⟨hf0,hfo.trans hq⟩] at hnp;have VP:=hide hnp;have hli:=fun W h=>aeX (fun b=>(S b∧b<w.heap.size)∨w.heap.size+5≤b) r te x.aC A' c' W h (by omega) (by omega) (by omega) (by omega) (by omega) (by omega) (by omega);rw [hp] at hli;have HLI:=hide hli;clear hq hnp hfl hf0 hfo hli
       go_quiet (fail)
       go_wp2;refine PD.out _ _ ?_
       go_wp2_with (first | (refine aN 25 (.tmp 3) rfl ?_;refine aG ((hB.drewN _).bf rfl) Tryz.underlying25 rfl Zw rfl (.tmp 3) rfl rfl ?_) | (refine aN 42 (.tmp 7) rfl ?_;refine aG ((hB.drewN _).get 4 rfl) Tryz.underlying42 rfl Zc rfl (.tmp 7) rfl rfl ?_) | (go_at_call 101;refine (HLI.out _ (hb.drewN _)).mono ?_;rintro e w1 ⟨A1,c1,rfl,hr1,hb1⟩;have hB1:=(hB.drewN _).call (by simp) hb1) | (refine aO 42 (.tmp 6) (.tmp 122) rfl ?_;refine aF (hB1.get 3 rfl) (aW (M.limit r te 1) A1 c1) rfl Zc (dL _ _ _) rfl (.tmp 6) (.tmp 122) rfl rfl rfl ?_))
       have hZ:=hB1.put 3 rfl (aW (M.limit r te 1) A1 c1) rfl;have hsz:=hB.size (by simp)
       simp only [List.length_cons,List.length_nil] at hsz
       exact bodyPost_ret (bP (p:=6) (hZ.get 3 rfl) Tryz.underlying42 rfl Zc rfl _ rfl) rfl ⟨A1,c1,by rw [VP.out,hp];rfl,by
        rw [VP.out,hp]
        exact bD.more (bD.sets (S:=fun b=>(S b∧b<w.heap.size)∨w.heap.size+5≤b) (g:=w.heap.size+3) (by intro h;rcases h with h | h <;> ((try simp only at h);omega)) _ 0 _ (bD.more hr1 (fun b _ h=>by rcases h with h | h;exact h;exact .inr (by simp at h;omega)))) (fun b _ h=>by rcases h with h | h;exact .inl h;exact .inr (by omega)),hZ.bw⟩
     · have hq1:(te.f1 == r.aY)=false:=by simpa using hq
       have HNL:=hide (show ¬ (M.iW r s x≠0∧te.jZ x.aC=r.aY) from fun h=>hq (hfo.symm.trans h.2));clear hq hnp hfl hf0 hfo
       go_quiet (fail)
       go_wp2;refine PD.out _ _ ?_;go_wp2;refine HK.out _ _ ?_;apply HN.out;exact ⟨⟨rfl,rfl,rfl,rfl,rfl,by rw [hp],A',c',by rw [ZY.out];exact hB.drewN _,by rw [ZY.out];exact hb.drewN _⟩,HKK.out,⟨HFG.out,rfl⟩,by rw [ZY.out];exact HO.out,by rw [ZY.out];exact HNL.out⟩
theorem aB1 (S:Nat→Prop) (r:M.Rules) (s:M.State) (x:M.aI) (A P:Option Addr) (c d:Nat) (w:World) (HP:Hid (bD w S A c s.ay)) (Z4:Hid (jl w S P d x.aA)) (HY:Hid (abn r s x)) (HN:Hid (asz S r s x A P c d w)):asq S r s x A P c d w:=by
 dsimp only [asq,NXQ]
 intros
 rename_i W hf
 dsimp only [ZM,dQ,Tryz.f47,Option.getD]
 obtain ⟨hN,hk,⟨rfl,rfl⟩,ho,hnl⟩:=hf;obtain ⟨rfl,rfl,rfl,rfl,rfl,rfl,A',c',hB,hb⟩:=hN;have HKK:=hide hk;have hnp:=ab6 (r:=r) (s:=s) hk.1 hk.2;obtain ⟨te,hte⟩:∃ q,(M.ended r s x (M.counted r s x))=q:=⟨_,rfl⟩;rw [hte] at hB hb hnp ho hnl;have ZY:=hide hte;rw [ho,if_neg (by decide)] at hnp;have HO:=hide ho;have HNL:=hide hnl;have hp:=(M.uw HY.out.ck).aC
 have hp0:0≤x.aC:=by omega
 have hp1:x.aC≤1:=by omega
 clear hk hte ho hnl hp;apply wp_seq_k;intro K hK;have HK:=hide hK;clear hK;apply wp_seq_k;intro K2 hK2;have PD:=hide hK2;clear hK2
 by_cases hgd:M.good r s x=true
 · have JG:=hide hgd
   rw [hgd];clear hnp hgd;go_wp2;refine PD.out _ _ ?_;go_wp2;refine HK.out _ _ ?_;apply HN.out;exact ⟨⟨rfl,rfl,rfl,rfl,rfl,rfl,A',c',by rw [ZY.out];exact hB,by rw [ZY.out];exact hb⟩,HKK.out,⟨rfl,by rw [JG.out]⟩,by rw [ZY.out];exact HO.out,by rw [ZY.out];exact HNL.out,JG.out⟩
 · have hgf:M.good r s x=false:=by simpa using hgd
   clear hgd;rw [if_neg HNL.out,if_pos hgf] at hnp;obtain ⟨fl,hfl⟩:∃ q,M.iW r s x=q:=⟨_,rfl⟩
   have hpt:M.passed r s x te= {te with turn:=1 - x.aC,run:=0,hand:=(fl != 0) && ((r.game.toList != [115,116,114,97,105,103,104,116]) || (fl == 1)) }:=by
    unfold M.passed
    rw [hfl];have e1:(r.game.toList == [115,116,114,97,105,103,104,116])=decide (r.game=M.aB):=bJ r.game [115,116,114,97,105,103,104,116]
    have e2:(r.game.toList != [115,116,114,97,105,103,104,116])= !decide (r.game=M.aB):=by rw [← e1];rfl
    rw [e2]
    by_cases q1:fl=0 <;> by_cases q2:r.game=M.aB <;> by_cases q3:fl=1 <;> simp [q1,q2,q3]
   rw [hpt] at hnp;rw [hfl,hgf];obtain ⟨hv,hhv⟩:∃ y,((fl != 0) && ((r.game.toList != [115,116,114,97,105,103,104,116]) || (fl == 1)))=y:=⟨_,rfl⟩;rw [hhv] at hnp;have VP:=hide hnp;have HHV:=hide hhv;clear hnp hfl hpt hgf hhv;go_wp2;refine PD.out _ _ ?_;refine wp_cond_true rfl ?_;apply wp_seq_k;intro Ka hKa;have HKa:=hide hKa;clear hKa;have hF:=hB.get 4 rfl;have k0:=hF.cell (j:=0) rfl;have GL:=hF.frozen 0;go_wp2;refine HKa.out _ _ ?_;clear hF k0 GL;refine ZA (p:=fun W=>Code.wp _ _ _ _ W) (fun W1 hW1=>?_)
   have hB1:bU w W1 [([.string r.game,.int .i64 r.target,.int .i64 r.aY],25),(aW s A c,42),(au ⟨x,P,d⟩,69),(aj,42),(aW {te with turn:=1 - x.aC } A' c',42)]:=by rw [hW1];exact hB.set 4 rfl 0 _
   have hb1:bD W1 (fun b=>(S b∧b<w.heap.size)∨w.heap.size+5≤b) A' c' te.ay:=by rw [hW1];exact (bD.setCell (p:=⟨w.heap.size+4,0,none⟩) hb (by intro h;rcases h with h | h <;> ((try simp only at h);omega)) (.int .i64 (1 - x.aC)))
   clear hW1 hB hb;apply wp_seq_k;intro Kb hKb;have HKb:=hide hKb;clear hKb;have hF:=hB1.get 4 rfl;have k11:=hF.cell (j:=11) rfl;have X7:=hF.frozen 11;go_wp2;refine HKb.out _ _ ?_;clear hF k11 X7;refine ZA (p:=fun W=>Code.wp _ _ _ _ W) (fun W2 hW2=>?_)
   have hB2:bU w W2 [([.string r.game,.int .i64 r.target,.int .i64 r.aY],25),(aW s A c,42),(au ⟨x,P,d⟩,69),(aj,42),(aW {te with turn:=1 - x.aC,run:=0 } A' c',42)]:=by rw [hW2];exact hB1.set 4 rfl 11 _
   have hb2:bD W2 (fun b=>(S b∧b<w.heap.size)∨w.heap.size+5≤b) A' c' te.ay:=by rw [hW2];exact (bD.setCell (p:=⟨w.heap.size+4,11,none⟩) hb1 (by intro h;rcases h with h | h <;> ((try simp only at h);omega)) (.int .i64 0))
   clear hW2 hB1 hb1;apply wp_seq_k;intro Kc hKc
   have J:∀ (z0 z1 z2 z9 z10 z11 z12 z13 kD kK kF z17 kL jQ z20 z21 z22 z23 z24 z25 z26 z27 z28 z29 z30 z31 z32 z33 z34 z35 z36 z37 z38 z39 z40 z41 z42 z43 z44 z45 z46 z47 z48 z49 z50 z51 z52 z53 z54 z55 z56 z57 z58 z59 z60 z61 z62 z63 z64 z65 z66 z67 z68 z69 z70 z71 z72 z73 z74 z75 z76 z77 z78 z79 z80 mM z82 z83 z84 z85 z86 z87 mO z89 mP z91 mQ z93 mV mW mX mY mZ ng eU eX eY fA fB z105 fC z107 fD z109 fF fG fH fJ fK fM z116 z117 fO z119 fP fQ fU fV z124 fZ gq z127 gu gy z130 z131 gB gG gI gJ gK gQ z138 z139 gU z141 gV z143 gW z145 z146 gZ z148 ig iq iw z152 iy z154 iC z156 z157 iD z159 z160 iE z162 iF z164 iG iH z167 z168 nK nM z171 nN z173 nO z175 nP nR nS nT nU nV:Value) (wx:World),(bU w wx [([.string r.game,.int .i64 r.target,.int .i64 r.aY],25),(aW s A c,42),(au ⟨x,P,d⟩,69),(aj,42),(aW {te with turn:=1 - x.aC,run:=0,hand:=hv } A' c',42)]∧bD wx (fun b=>(S b∧b<w.heap.size)∨w.heap.size+5≤b) A' c' te.ay)→Kc {tmps:= #[z0,z1,z2,ptr w.heap.size,ptr (w.heap.size+1),ptr (w.heap.size+2),ptr (w.heap.size+3),ptr (w.heap.size+4),.int .i64 x.aC,z9,z10,z11,z12,z13,kD,kK,kF,z17,kL,jQ,z20,z21,z22,z23,z24,z25,z26,z27,z28,z29,z30,z31,z32,z33,z34,z35,z36,z37,z38,z39,z40,z41,z42,z43,z44,z45,z46,z47,z48,z49,z50,z51,z52,z53,z54,z55,z56,z57,z58,z59,z60,z61,z62,z63,z64,z65,z66,z67,z68,z69,z70,z71,z72,z73,z74,z75,z76,z77,z78,z79,z80,mM,z82,z83,z84,z85,z86,z87,mO,z89,mP,z91,mQ,z93,mV,mW,mX,mY,mZ,ng,eU,eX,eY,fA,fB,z105,fC,z107,fD,z109,fF,fG,fH,fJ,fK,fM,z116,z117,fO,z119,fP,fQ,fU,fV,z124,fZ,gq,z127,gu,gy,z130,z131,gB,gG,gI,gJ,gK,gQ,z138,z139,gU,z141,gV,z143,gW,z145,z146,gZ,z148,ig,iq,iw,z152,iy,z154,iC,z156,z157,iD,z159,z160,iE,z162,iF,z164,iG,iH,z167,z168,nK,nM,z171,nN,z173,nO,z175,nP,nR,nS,nT,nU,nV],defers:=[] } wx:=by
    intro z0 z1 z2 z9 z10 z11 z12 z13 kD kK kF z17 kL jQ z20 z21 z22 z23 z24 z25 z26 z27 z28 z29 z30 z31 z32 z33 z34 z35 z36 z37 z38 z39 z40 z41 z42 z43 z44 z45 z46 z47 z48 z49 z50 z51 z52 z53 z54 z55 z56 z57 z58 z59 z60 z61 z62 z63 z64 z65 z66 z67 z68 z69 z70 z71 z72 z73 z74 z75 z76 z77 z78 z79 z80 mM z82 z83 z84 z85 z86 z87 mO z89 mP z91 mQ z93 mV mW mX mY mZ ng eU eX eY fA fB z105 fC z107 fD z109 fF fG fH fJ fK fM z116 z117 fO z119 fP fQ fU fV z124 fZ gq z127 gu gy z130 z131 gB gG gI gJ gK gQ z138 z139 gU z141 gV z143 gW z145 z146 gZ z148 ig iq iw z152 iy z154 iC z156 z157 iD z159 z160 iE z162 iF z164 iG iH z167 z168 nK nM z171 nN z173 nO z175 nP nR nS nT nU nV wx hrel;refine hKc _ _ ?_
    try dsimp only
    obtain ⟨hE,hbx⟩:=hrel
    go_wp2_with (first | (refine aN 42 (.tmp 7) rfl ?_;refine aG (hE.get 4 rfl) Tryz.underlying42 rfl Zc rfl (.tmp 7) rfl rfl ?_) | (refine aO 42 (.tmp 6) (.tmp 141) rfl ?_;refine aF (hE.get 3 rfl) (aW ({te with turn:=1 - x.aC,run:=0,hand:=hv }) A' c') rfl Zc (dL _ _ _) rfl (.tmp 6) (.tmp 141) rfl rfl rfl ?_))
    have hZ:=hE.put 3 rfl (aW ({te with turn:=1 - x.aC,run:=0,hand:=hv }) A' c') rfl;exact bodyPost_ret (bP (p:=6) (hZ.get 3 rfl) Tryz.underlying42 rfl Zc rfl _ rfl) rfl ⟨A',c',by rw [VP.out];rfl,by rw [VP.out];exact bD.more (bD.sets (g:=w.heap.size+3) (by intro h;rcases h with h | h <;> ((try simp only at h);omega)) _ 0 _ hbx) (fun b _ h=>by rcases h with h | h;exact .inl h;exact .inr (by omega)),hZ.bw⟩
   clear hKc;have HJ:=hide J;clear J;have hF:=hB2.get 4 rfl;have hR:=hB2.bf rfl;have k2:=hF.cell (j:=2) rfl;have Pn:=hF.frozen 2;have g0:=hR.cell (j:=0) rfl;have gf0:=hR.frozen 0
   by_cases f0:fl=0
   · subst f0
     obtain rfl:hv=false:=by rw [← HHV.out];rfl
     go_wp2;have hE:=hB2.set 4 rfl 2 (.bool false);have hbe:=(bD.setCell (p:=⟨w.heap.size+4,2,none⟩) hb2 (by intro h;rcases h with h | h <;> ((try simp only at h);omega)) (.bool false));exact HJ.out _ _ _ _ _ _ _ _ _ _ _ _ _ _ _ _ _ _ _ _ _ _ _ _ _ _ _ _ _ _ _ _ _ _ _ _ _ _ _ _ _ _ _ _ _ _ _ _ _ _ _ _ _ _ _ _ _ _ _ _ _ _ _ _ _ _ _ _ _ _ _ _ _ _ _ _ _ _ _ _ _ _ _ _ _ _ _ _ _ _ _ _ _ _ _ _ _ _ _ _ _ _ _ _ _ _ _ _ _ _ _ _ _ _ _ _ _ _ _ _ _ _ _ _ _ _ _ _ _ _ _ _ _ _ _ _ _ _ _ _ _ _ _ _ _ _ _ _ _ _ _ _ _ _ _ _ _ _ _ _ _ _ _ _ _ _ _ _ _ _ _ _ _ _ _ _ _ ⟨hE,hbe⟩
   · by_cases f1:fl=1
     · subst f1
       rcases Bool.eq_false_or_eq_true (r.game.toList == [115,116,114,97,105,103,104,116]) with g1 | g1
       · have g2:(r.game.toList != [115,116,114,97,105,103,104,116])=false:=by simp [bne,g1]
         obtain rfl:hv=true:=by rw [← HHV.out,g2];rfl
         go_wp2;have hE:=hB2.set 4 rfl 2 (.bool true);have hbe:=(bD.setCell (p:=⟨w.heap.size+4,2,none⟩) hb2 (by intro h;rcases h with h | h <;> ((try simp only at h);omega)) (.bool true));exact HJ.out _ _ _ _ _ _ _ _ _ _ _ _ _ _ _ _ _ _ _ _ _ _ _ _ _ _ _ _ _ _ _ _ _ _ _ _ _ _ _ _ _ _ _ _ _ _ _ _ _ _ _ _ _ _ _ _ _ _ _ _ _ _ _ _ _ _ _ _ _ _ _ _ _ _ _ _ _ _ _ _ _ _ _ _ _ _ _ _ _ _ _ _ _ _ _ _ _ _ _ _ _ _ _ _ _ _ _ _ _ _ _ _ _ _ _ _ _ _ _ _ _ _ _ _ _ _ _ _ _ _ _ _ _ _ _ _ _ _ _ _ _ _ _ _ _ _ _ _ _ _ _ _ _ _ _ _ _ _ _ _ _ _ _ _ _ _ _ _ _ _ _ _ _ _ _ _ _ ⟨hE,hbe⟩
       · have g2:(r.game.toList != [115,116,114,97,105,103,104,116])=true:=by simp [bne,g1]
         obtain rfl:hv=true:=by rw [← HHV.out,g2];rfl
         go_wp2;have hE:=hB2.set 4 rfl 2 (.bool true);have hbe:=(bD.setCell (p:=⟨w.heap.size+4,2,none⟩) hb2 (by intro h;rcases h with h | h <;> ((try simp only at h);omega)) (.bool true));exact HJ.out _ _ _ _ _ _ _ _ _ _ _ _ _ _ _ _ _ _ _ _ _ _ _ _ _ _ _ _ _ _ _ _ _ _ _ _ _ _ _ _ _ _ _ _ _ _ _ _ _ _ _ _ _ _ _ _ _ _ _ _ _ _ _ _ _ _ _ _ _ _ _ _ _ _ _ _ _ _ _ _ _ _ _ _ _ _ _ _ _ _ _ _ _ _ _ _ _ _ _ _ _ _ _ _ _ _ _ _ _ _ _ _ _ _ _ _ _ _ _ _ _ _ _ _ _ _ _ _ _ _ _ _ _ _ _ _ _ _ _ _ _ _ _ _ _ _ _ _ _ _ _ _ _ _ _ _ _ _ _ _ _ _ _ _ _ _ _ _ _ _ _ _ _ _ _ _ _ ⟨hE,hbe⟩
     · have q1:(fl == 1)=false:=by simpa using f1
       have q2:(fl != 0)=true:=by simpa using f0
       clear f0 f1
       rcases Bool.eq_false_or_eq_true (r.game.toList == [115,116,114,97,105,103,104,116]) with g1 | g1
       · have g2:(r.game.toList != [115,116,114,97,105,103,104,116])=false:=by simp [bne,g1]
         obtain rfl:hv=false:=by rw [← HHV.out,g2];rw [q2,q1];rfl
         go_wp2;have hE:=hB2.set 4 rfl 2 (.bool false);have hbe:=(bD.setCell (p:=⟨w.heap.size+4,2,none⟩) hb2 (by intro h;rcases h with h | h <;> ((try simp only at h);omega)) (.bool false));exact HJ.out _ _ _ _ _ _ _ _ _ _ _ _ _ _ _ _ _ _ _ _ _ _ _ _ _ _ _ _ _ _ _ _ _ _ _ _ _ _ _ _ _ _ _ _ _ _ _ _ _ _ _ _ _ _ _ _ _ _ _ _ _ _ _ _ _ _ _ _ _ _ _ _ _ _ _ _ _ _ _ _ _ _ _ _ _ _ _ _ _ _ _ _ _ _ _ _ _ _ _ _ _ _ _ _ _ _ _ _ _ _ _ _ _ _ _ _ _ _ _ _ _ _ _ _ _ _ _ _ _ _ _ _ _ _ _ _ _ _ _ _ _ _ _ _ _ _ _ _ _ _ _ _ _ _ _ _ _ _ _ _ _ _ _ _ _ _ _ _ _ _ _ _ _ _ _ _ _ ⟨hE,hbe⟩
       · have g2:(r.game.toList != [115,116,114,97,105,103,104,116])=true:=by simp [bne,g1]
         obtain rfl:hv=true:=by rw [← HHV.out,g2];rw [q2,q1];rfl
         go_wp2;have hE:=hB2.set 4 rfl 2 (.bool true);have hbe:=(bD.setCell (p:=⟨w.heap.size+4,2,none⟩) hb2 (by intro h;rcases h with h | h <;> ((try simp only at h);omega)) (.bool true));exact HJ.out _ _ _ _ _ _ _ _ _ _ _ _ _ _ _ _ _ _ _ _ _ _ _ _ _ _ _ _ _ _ _ _ _ _ _ _ _ _ _ _ _ _ _ _ _ _ _ _ _ _ _ _ _ _ _ _ _ _ _ _ _ _ _ _ _ _ _ _ _ _ _ _ _ _ _ _ _ _ _ _ _ _ _ _ _ _ _ _ _ _ _ _ _ _ _ _ _ _ _ _ _ _ _ _ _ _ _ _ _ _ _ _ _ _ _ _ _ _ _ _ _ _ _ _ _ _ _ _ _ _ _ _ _ _ _ _ _ _ _ _ _ _ _ _ _ _ _ _ _ _ _ _ _ _ _ _ _ _ _ _ _ _ _ _ _ _ _ _ _ _ _ _ _ _ _ _ _ ⟨hE,hbe⟩
theorem aB8 (S:Nat→Prop) (r:M.Rules) (s:M.State) (x:M.aI) (A P:Option Addr) (c d:Nat) (w:World) (HP:Hid (bD w S A c s.ay)) (Z4:Hid (jl w S P d x.aA)) (HY:Hid (abn r s x)) (HN:Hid (asG S r s x A P c d w)):asz S r s x A P c d w:=by
 dsimp only [asz,NXQ]
 intros
 rename_i W hf
 dsimp only [ZM,dQ,Tryz.f47,Option.getD]
 obtain ⟨hN,hk,⟨rfl,rfl⟩,ho,hnl,hgd⟩:=hf;obtain ⟨rfl,rfl,rfl,rfl,rfl,rfl,A',c',hB,hb⟩:=hN;have HKK:=hide hk;obtain ⟨te,hte⟩:∃ q,(M.ended r s x (M.counted r s x))=q:=⟨_,rfl⟩;rw [hte] at hB hb ho hnl;have ZY:=hide hte;have HO:=hide ho;have HNL:=hide hnl;have JG:=hide hgd;have hp:=(M.uw HY.out.ck).aC;have hF:=hB.get 4 rfl;have hR:=hB.bf rfl;have hX:=hB.get 2 rfl;have hS:=hB.get 1 rfl;have k5:=hF.cell (j:=5) rfl;have kf5:=hF.frozen 5;have g0:=hR.cell (j:=0) rfl;have gf0:=hR.frozen 0;have y1:=hX.cell (j:=1) rfl;have yf1:=hX.frozen 1;have y2:=hX.cell (j:=2) rfl;have WO:=hX.frozen 2;have s5:=hS.cell (j:=5) rfl;have sf5:=hS.frozen 5;have hsd:=M.Dq x.aJ;obtain ⟨hsd1,hsd2⟩:=hsd;clear hk hte ho hnl hgd;apply wp_seq_k;intro K hK;have HK:=hide hK;clear hK;apply wp_seq_k;intro K2 hK2;have PD:=hide hK2;clear hK2
 by_cases he:r.game=M.aQ
 rotate_left
 · have q1:(r.game.toList == [101,105,103,104,116])=false:=beq_eq_false_iff_ne.2 (bQ he)
   have hgr:M.grouped r s x te=te:=by unfold M.grouped;rw [if_neg (fun h=>he h.1)]
   have HGR:=hide hgr;clear hgr;go_wp2;refine PD.out _ _ ?_;go_wp2;refine HK.out _ _ ?_;apply HN.out;exact ⟨⟨rfl,rfl,rfl,rfl,rfl,rfl,A',c',by rw [ZY.out,HGR.out];exact hB,by rw [ZY.out,HGR.out];exact hb⟩,HKK.out,by rw [ZY.out];exact HO.out,by rw [ZY.out];exact HNL.out,JG.out⟩
 have q1:(r.game.toList == [101,105,103,104,116])=true:=by rw [he];decide+kernel
 by_cases hkp:x.kind=M.jO
 rotate_left
 · have q2:(x.kind.toList == [112,108,97,121])=false:=beq_eq_false_iff_ne.2 (bQ hkp)
   have hgr:M.grouped r s x te=te:=by unfold M.grouped;rw [if_neg (fun h=>hkp h.2.1)]
   have HGR:=hide hgr;clear hgr he;go_wp2;refine PD.out _ _ ?_;go_wp2;refine HK.out _ _ ?_;apply HN.out;exact ⟨⟨rfl,rfl,rfl,rfl,rfl,rfl,A',c',by rw [ZY.out,HGR.out];exact hB,by rw [ZY.out,HGR.out];exact hb⟩,HKK.out,by rw [ZY.out];exact HO.out,by rw [ZY.out];exact HNL.out,JG.out⟩
 have q2:(x.kind.toList == [112,108,97,121])=true:=by rw [hkp];decide+kernel
 by_cases hg0:s.group=0
 rotate_left
 · have q3:(s.group == 0)=false:=by simpa using hg0
   have hgr:M.grouped r s x te=te:=by unfold M.grouped;rw [if_neg (fun h=>hg0 h.2.2)]
   have HGR:=hide hgr;clear hgr he hkp;go_wp2;refine PD.out _ _ ?_;go_wp2;refine HK.out _ _ ?_;apply HN.out;exact ⟨⟨rfl,rfl,rfl,rfl,rfl,rfl,A',c',by rw [ZY.out,HGR.out];exact hB,by rw [ZY.out,HGR.out];exact hb⟩,HKK.out,by rw [ZY.out];exact HO.out,by rw [ZY.out];exact HNL.out,JG.out⟩
 have q3:(s.group == 0)=true:=by simpa using hg0
 rcases hp with hp | hp
 · have hgr:M.grouped r s x te= {te with group:=M.side x.aJ }:=by
    unfold M.grouped
    rw [if_pos ⟨he,hkp,hg0⟩,hp]
    rfl
   have HGR:=hide hgr;have hb2:=(bD.setCell (p:=⟨w.heap.size+4,5,none⟩) hb (by intro h;rcases h with h | h <;> ((try simp only at h);omega)) (.int .i64 (M.side x.aJ)));have hE:bU w (W.setCell ⟨w.heap.size+4,5,none⟩ (.int .i64 (M.side x.aJ))) [([.string r.game,.int .i64 r.target,.int .i64 r.aY],25),(aW s A c,42),(au ⟨x,P,d⟩,69),(aj,42),(aW {te with group:=M.side x.aJ } A' c',42)]:=(hB.set 4 rfl 5 _);rw [hp];clear hgr he hkp hg0;go_wp2;refine PD.out _ _ ?_
   go_wp2_with (first | (go_at_call 102;refine (group_any _ _).mono ?_;rintro e dO ⟨rfl,rfl⟩))
   refine HK.out _ _ ?_;apply HN.out;exact ⟨⟨rfl,rfl,rfl,rfl,rfl,by rw [hp],A',c',by rw [ZY.out,HGR.out];exact hE,by rw [ZY.out,HGR.out];exact hb2⟩,HKK.out,by rw [ZY.out];exact HO.out,by rw [ZY.out];exact HNL.out,JG.out⟩
 · have hgr:M.grouped r s x te= {te with group:=3 - M.side x.aJ }:=by
    unfold M.grouped
    rw [if_pos ⟨he,hkp,hg0⟩,hp]
    rfl
   have HGR:=hide hgr;have hb2:=(bD.setCell (p:=⟨w.heap.size+4,5,none⟩) (bD.setCell (p:=⟨w.heap.size+4,5,none⟩) hb (by intro h;rcases h with h | h <;> ((try simp only at h);omega)) (.int .i64 (M.side x.aJ))) (by intro h;rcases h with h | h <;> ((try simp only at h);omega)) (.int .i64 (3 - M.side x.aJ)));have hE:bU w ((W.setCell ⟨w.heap.size+4,5,none⟩ (.int .i64 (M.side x.aJ))).setCell ⟨w.heap.size+4,5,none⟩ (.int .i64 (3 - M.side x.aJ))) [([.string r.game,.int .i64 r.target,.int .i64 r.aY],25),(aW s A c,42),(au ⟨x,P,d⟩,69),(aj,42),(aW {te with group:=3 - M.side x.aJ } A' c',42)]:=((hB.set 4 rfl 5 _).set 4 rfl 5 _);rw [hp];clear hgr he hkp hg0;go_wp2;refine PD.out _ _ ?_
   go_wp2_with (first | (go_at_call 102;refine (group_any _ _).mono ?_;rintro e dO ⟨rfl,rfl⟩))
   refine HK.out _ _ ?_;apply HN.out;exact ⟨⟨rfl,rfl,rfl,rfl,rfl,by rw [hp],A',c',by rw [ZY.out,HGR.out];exact hE,by rw [ZY.out,HGR.out];exact hb2⟩,HKK.out,by rw [ZY.out];exact HO.out,by rw [ZY.out];exact HNL.out,JG.out⟩
theorem aCf (S:Nat→Prop) (r:M.Rules) (s:M.State) (x:M.aI) (A P:Option Addr) (c d:Nat) (w:World) (HP:Hid (bD w S A c s.ay)) (Z4:Hid (jl w S P d x.aA)) (HY:Hid (abn r s x)) (HN:Hid (asN S r s x A P c d w)):asG S r s x A P c d w:=by
 dsimp only [asG,NXQ]
 intros
 rename_i W hf
 dsimp only [ZM,dQ,Tryz.f47,Option.getD]
 obtain ⟨hN,hk,ho,hnl,hgd⟩:=hf;obtain ⟨rfl,rfl,rfl,rfl,rfl,rfl,A',c',hB,hb⟩:=hN;have hnp:=ab6 (r:=r) (s:=s) hk.1 hk.2;rw [ho,if_neg (by decide),if_neg hnl,if_neg (by simp [hgd])] at hnp;have hnn:=at1 HY.out;have hgk:=(M.ahD r s x (M.ended r s x (M.counted r s x))).2.2.2.1;obtain ⟨tg,htg⟩:∃ q,(M.grouped r s x (M.ended r s x (M.counted r s x)))=q:=⟨_,rfl⟩;rw [htg] at hB hb hnp hgk
 have n1:0≤tg.aZ:=by rw [hgk];exact hnn.2.2.2.2.1
 have n2:tg.aZ≤600000:=by rw [hgk];exact hnn.2.2.2.2.2
 have hF:=hB.get 4 rfl;have hR:=hB.bf rfl;have k6:=hF.cell (j:=6) rfl;have Yc:=hF.frozen 6;have g0:=hR.cell (j:=0) rfl;have gf0:=hR.frozen 0;clear hk ho hnl hgd hnn hgk htg;apply wp_seq_k;intro K hK;have HK:=hide hK;clear hK;apply wp_seq_k;intro K2 hK2;have PD:=hide hK2;clear hK2
 by_cases hst:r.game=M.aB
 rotate_left
 · have q1:(r.game.toList == [115,116,114,97,105,103,104,116])=false:=beq_eq_false_iff_ne.2 (bQ hst)
   have hrr:M.dW r tg=tg:=by unfold M.dW;rw [if_neg (fun h=>hst h.1)]
   rw [hrr] at hnp;have VP:=hide hnp;clear hrr hnp;go_wp2;refine PD.out _ _ ?_;go_wp2;refine HK.out _ _ ?_;apply HN.out;exact ⟨rfl,rfl,rfl,rfl,rfl,rfl,A',c',by rw [VP.out];exact hB,by rw [VP.out];exact hb⟩
 have q1:(r.game.toList == [115,116,114,97,105,103,104,116])=true:=by rw [hst];decide+kernel
 by_cases hlen:tg.ay.length≤1
 rotate_left
 · have q2:¬ ((tg.ay.length:Int)≤1):=by omega
   have hrr:M.dW r tg=tg:=by unfold M.dW;rw [if_neg (fun h=>hlen h.2)]
   rw [hrr] at hnp;have VP:=hide hnp;clear hrr hst hnp;go_wp2;refine PD.out _ _ ?_;go_wp2;refine HK.out _ _ ?_;apply HN.out;exact ⟨rfl,rfl,rfl,rfl,rfl,rfl,A',c',by rw [VP.out];exact hB,by rw [VP.out];exact hb⟩
 have q2:(tg.ay.length:Int)≤1:=by omega
 have hrr:M.dW r tg= {tg with ay:=M.jA r,aZ:=tg.aZ+1 }:=by unfold M.dW;rw [if_pos ⟨hst,hlen⟩]
 rw [hrr] at hnp;have VP:=hide hnp;clear hrr hnp hst hlen;go_wp2;refine PD.out _ _ ?_
 go_wp2_with (first | (refine aN 25 (.tmp 3) rfl ?_;refine aG (hB.bf rfl) Tryz.underlying25 rfl Zw rfl (.tmp 3) rfl rfl ?_) | (go_at_call 90;refine (Z5 r _).mono ?_;rintro e w1 ⟨A1,c1,rfl,hr1,hb1⟩;have hB1:=hB.call (by simp) hb1;have hF1:=hB1.get 4 rfl;have u6:=hF1.cell (j:=6) rfl;have uf6:=hF1.frozen 6;have u12:=hF1.cell (j:=12) rfl;have aFb:=hF1.frozen 12))
 have hsz:=hB.size (by simp)
 simp only [List.length_cons,List.length_nil] at hsz
 refine HK.out _ _ ?_;apply HN.out;refine ⟨rfl,rfl,rfl,rfl,rfl,rfl,A1,c1,by rw [VP.out];exact (hB1.set 4 rfl 6 _).set 4 rfl 12 _,?_⟩;rw [VP.out];exact bD.setCell (bD.setCell (bD.more hr1 (fun b _ h=> .inr (by omega))) (by intro h;rcases h with h | h <;> ((try simp only at h);omega)) _) (by intro h;rcases h with h | h <;> ((try simp only at h);omega)) _
theorem aCm (S:Nat→Prop) (r:M.Rules) (s:M.State) (x:M.aI) (A P:Option Addr) (c d:Nat) (w:World) (HP:Hid (bD w S A c s.ay)) (Z4:Hid (jl w S P d x.aA)) (HY:Hid (abn r s x)):asN S r s x A P c d w:=by
 dsimp only [asN,NXQ]
 intros
 rename_i W hf
 dsimp only [ZM,dQ,Tryz.f47,Option.getD]
 have hN:=hf;obtain ⟨rfl,rfl,rfl,rfl,rfl,rfl,A',c',hB,hb⟩:=hN
 obtain ⟨tn,htn⟩:∃ q,M.next r s x=q:=⟨_,rfl⟩
 rw [htn] at hB hb;have HTN:=hide htn;clear htn
 go_wp2_with (first | (refine aN 42 (.tmp 7) rfl ?_;refine aG (hB.get 4 rfl) Tryz.underlying42 rfl Zc rfl (.tmp 7) rfl rfl ?_) | (refine aO 42 (.tmp 6) (.tmp 181) rfl ?_;refine aF (hB.get 3 rfl) (aW (tn) A' c') rfl Zc (dL _ _ _) rfl (.tmp 6) (.tmp 181) rfl rfl rfl ?_))
 have hZ:=hB.put 3 rfl (aW (tn) A' c') rfl;exact bodyPost_ret (bP (p:=6) (hZ.get 3 rfl) Tryz.underlying42 rfl Zc rfl _ rfl) rfl ⟨A',c',by rw [HTN.out];rfl,by rw [HTN.out];exact bD.more (bD.sets (g:=w.heap.size+3) (by intro h;rcases h with h | h <;> ((try simp only at h);omega)) _ 0 _ hb) (fun b _ h=>by rcases h with h | h;exact .inl h;exact .inr (by omega)),hZ.bw⟩
theorem amj (S:Nat→Prop) (r:M.Rules) (s:M.State) (x:M.aI) (A P:Option Addr) (c d:Nat) (w:World) (hp:bD w S A c s.ay) (hpp:jl w S P d x.aA) (hY:abn r s x):
 Calls Tryz.prog 47 #[jM r,wF s A c,iO x P d] w fun e w'=>∃ A' c',e= .returned (wF (M.next r s x) A' c')∧bD w' (fun b=>(S b∧b<w.heap.size)∨w.heap.size≤b) A' c' (M.next r s x).ay∧Below w.heap.size w w':=by
 have HP:=hide hp;have Z4:=hide hpp;have HY:=hide hY;have hall:=aEJ S r s x A P c d w HP Z4 HY (hide (aEQ S r s x A P c d w HP Z4 HY (hide (aBe S r s x A P c d w HP Z4 HY (hide (aBl S r s x A P c d w HP Z4 HY (hide (aBs S r s x A P c d w HP Z4 HY (hide (aBz S r s x A P c d w HP Z4 HY (hide (aBG S r s x A P c d w HP Z4 HY (hide (aBN S r s x A P c d w HP Z4 HY (hide (aBU S r s x A P c d w HP Z4 HY (hide (aB1 S r s x A P c d w HP Z4 HY (hide (aB8 S r s x A P c d w HP Z4 HY (hide (aCf S r s x A P c d w HP Z4 HY (hide (aCm S r s x A P c d w HP Z4 HY))))))))))))))))))))))));have ajC:=hide hall;have hp1:=(M.uw hY.ck).aC
 have hq0:0≤x.aC:=by omega
 have hq1:x.aC≤1:=by omega
 have hb0:bD w (fun b=>(S b∧b<w.heap.size)∨w.heap.size+5≤b) A c s.ay:=bD.more hp (fun b hl h=> .inl ⟨h,hl⟩);clear hall hp1 hY
 go_enter Tryz.func47,Tryz.ntmps47
 apply wp_seq_k;intro K hK;have HK:=hide hK;clear hK;have hB4:=((((bU.nil w).new (by simp) ([.string r.game,.int .i64 r.target,.int .i64 r.aY]) 25).new (by simp) (aW s A c) 42).new (by simp) (au ⟨x,P,d⟩) 69).new (by simp) aj 42;go_wp2;refine HK.out _ _ ?_;refine ZA (p:=fun W=>Code.wp _ _ _ _ W) (fun W1 hW1=>?_)
 have hB:bU w W1 [([.string r.game,.int .i64 r.target,.int .i64 r.aY],25),(aW s A c,42),(au ⟨x,P,d⟩,69),(aj,42)]:=by rw [hW1];exact hB4
 have hsz:W1.heap.size=w.heap.size+4:=by rw [hW1];simp
 have UF:=hide hsz;have NM:=hB.new (by rw [hsz];rfl) aj 42;have hN:=Held.new W1 aj 42;clear hW1 hB4 hsz;apply wp_seq_k;intro K hK;have HK:=hide hK;clear hK
 go_wp2_with (first | (refine aN 42 (.tmp 4) rfl ?_;refine aG (hB.get 1 rfl) Tryz.underlying42 rfl Zc rfl (.tmp 4) rfl rfl ?_) | (refine aO 42 (.tmp 7) (.tmp 11) rfl ?_;refine aF hN (aW s A c) rfl Zc (dL _ _ _) rfl (.tmp 7) (.tmp 11) rfl rfl rfl ?_))
 refine HK.out _ _ ?_;refine ZA (p:=fun W=>Code.wp _ _ _ _ W) (fun W2 hW2=>?_)
 have hB6:bU w W2 [([.string r.game,.int .i64 r.target,.int .i64 r.aY],25),(aW s A c,42),(au ⟨x,P,d⟩,69),(aj,42),(aW s A c,42)]:=by rw [hW2,UF.out];exact NM.put 4 rfl (aW s A c) rfl
 rw [show W1.heap.size=w.heap.size+4 from UF.out];clear hW2 NM hN hB UF;have hX:=hB6.get 2 rfl;have y0:=hX.cell (j:=0) rfl;have WM:=hX.frozen 0;have y1:=hX.cell (j:=1) rfl;have yf1:=hX.frozen 1;apply wp_seq_k;intro K hK;have HK:=hide hK;clear hK;go_wp2;refine HK.out _ _ ?_;have hb1:=hb0.below hB6.bw;have hF:=hB6.get 4 rfl;have k13:=hF.cell (j:=13) rfl;have X9:=hF.frozen 13;have k14:=hF.cell (j:=14) rfl;have atL:=hF.frozen 14;apply wp_seq_k;intro K hK;have HK:=hide hK;clear hK;apply wp_seq_k;intro K2 hK2;have PD:=hide hK2;clear hK2
 by_cases hkc:x.kind=M.aT
 · have q1:(x.kind.toList == [99,111,110,99,101,100,101])=true:=by rw [hkc];decide+kernel
   have hnx:M.next r s x= {s with over:=true,bC:=1 - x.aC }:=by unfold M.next;rw [if_pos hkc]
   have VP:=hide hnx;have hb2:=(bD.setCell (p:=⟨w.heap.size+4,14,none⟩) (bD.setCell (p:=⟨w.heap.size+4,13,none⟩) hb1 (by intro h;rcases h with h | h <;> ((try simp only at h);omega)) (.bool true)) (by intro h;rcases h with h | h <;> ((try simp only at h);omega)) (.int .i64 (1 - x.aC)));have hE:bU w ((W2.setCell ⟨w.heap.size+4,13,none⟩ (.bool true)).setCell ⟨w.heap.size+4,14,none⟩ (.int .i64 (1 - x.aC))) [([.string r.game,.int .i64 r.target,.int .i64 r.aY],25),(aW s A c,42),(au ⟨x,P,d⟩,69),(aj,42),(aW {s with over:=true,bC:=1 - x.aC } A c,42)]:=((hB6.set 4 rfl 13 _).set 4 rfl 14 _);clear hkc hnx;go_wp2;refine PD.out _ _ ?_
   go_wp2_with (first | (refine aN 42 (.tmp 7) rfl ?_;refine aG (hE.get 4 rfl) Tryz.underlying42 rfl Zc rfl (.tmp 7) rfl rfl ?_) | (refine aO 42 (.tmp 6) (.tmp 21) rfl ?_;refine aF (hE.get 3 rfl) (aW ({s with over:=true,bC:=1 - x.aC }) A c) rfl Zc (dL _ _ _) rfl (.tmp 6) (.tmp 21) rfl rfl rfl ?_))
   have hZ:=hE.put 3 rfl (aW ({s with over:=true,bC:=1 - x.aC }) A c) rfl;exact bodyPost_ret (bP (p:=6) (hZ.get 3 rfl) Tryz.underlying42 rfl Zc rfl _ rfl) rfl ⟨A,c,by rw [VP.out];rfl,by rw [VP.out];exact bD.more (bD.sets (g:=w.heap.size+3) (by intro h;rcases h with h | h <;> ((try simp only at h);omega)) _ 0 _ hb2) (fun b _ h=>by rcases h with h | h;exact .inl h;exact .inr (by omega)),hZ.bw⟩
 · have q1:(x.kind.toList == [99,111,110,99,101,100,101])=false:=beq_eq_false_iff_ne.2 (bQ hkc)
   have HKC:=hide hkc;clear hkc;go_wp2;refine PD.out _ _ ?_;go_wp2;refine HK.out _ _ ?_;have HA:=ajC.out;apply HA;exact ⟨⟨rfl,rfl,rfl,rfl,rfl,rfl,A,c,hB6,hb1⟩,HKC.out⟩
end Go.Proofs.YtelpepbpdojikaaGreatDoor
