/- Parts of the proofs about chapter 5 (pool), joined by program. -/
import Derived.Test.YtelpepbpdojikaaGreatDoorKh11
import Derived.Test.YtelpepbpdojikaaGreatDoorKr0
import Derived.Test.YtelpepbpdojikaaGreatDoorKr7
set_option maxHeartbeats 8000000
set_option maxRecDepth 100000
set_option linter.unusedVariables false
set_option linter.unusedSimpArgs false
namespace Go.Proofs.YtelpepbpdojikaaGreatDoor
open Go.RowKit
theorem acG {md:Region.Mode} {ops:Array Oper} {Q:Exit→Act→World→Prop} {S:World→Prop} {fuel:Nat} {listed:Array Bool} {a:Act} {w:World} {i:Nat} {o:Oper} {g:Nat} {cs:List Value} {t:TypeId} (ho:ops[i]? =some o) (hw:Region.wanted o (yielded ops a.tmps)=true)
 (h:Held w g cs t) (vs:List Value) (hl:vs.length=cs.length) (hi:(Tryz.prog.info? t).map (·.size)=some cs.length) (h1:∀ v∈vs,v.oneCell'=true) (x y:Operand) (hop:o.op= .store t x y) (hx:a.eval x= .pointer (some ⟨g,0,none⟩)) (hy:a.eval y= .agg vs.toArray)
 (hS:S (w.setCells g 0 vs)) (k:wpAnyH Tryz.prog md ops Q S fuel (listed.setIfInBounds i true) (a.put o.dst undef) (w.setCells g 0 vs)):AllReadyH Tryz.prog md ops Q S fuel listed a w [i]:=
 AllReadyH.cons ho (fun K hK=>by rw [if_pos hw];exact bF h vs hl hi h1 x y hop hx hy (hK.out _ _ hS (fun _=>k))) AllReadyH.nil
noncomputable def aa0 (n:Nat):Code:=dQ n ((Tryz.f10).body.getD .skip)
def ad5 (l:List Int) (v:Value) (W:World):Prop:=∃ A c,v= .slice A l.length c∧bD W (fun _=>True) A c l
theorem ad5.below {l:List Int} {v:Value} {W W':World} (h:ad5 l v W) (hb:Below W.heap.size W W'):ad5 l v W':=by
 obtain ⟨A,c,h1,h2⟩:=h
 exact ⟨A,c,h1,h2.below hb⟩
def ruT (r:M.Rules) (s:M.State):List Int:=if M.jf r s=0 then M.targets r s else []
def ruL (r:M.Rules) (s:M.State) (x:M.aI):Int:=if aU [M.jf r s,M.cZ x]=0 then M.legal r s x else 0
theorem apr {r:M.Rules} {s:M.State} {x:M.aI} {l f:Int} (h:aU [M.jf r s,M.cZ x]=0) (hl:M.legal r s x=l):ruL r s x=l∧abS r s x=(if l≠0 then 18 else 0)∧(l≠0→ab1 r s x=0)∧(l=0→ab1 r s x=M.iW r s x):=by
 have he:abS r s x=if l≠0 then 18 else 0:=by unfold abS;rw [if_neg (by simp [h]),hl]
 refine ⟨(if_pos h).trans hl,he,fun h0=>?_,fun h0=>?_⟩
 · unfold ab1;rw [he,if_pos h0];rfl
 · unfold ab1;rw [he,h0];rfl
theorem apM {r:M.Rules} {s:M.State} {x:M.aI} {e:Int} (he:aU [M.jf r s,M.cZ x]=e) (h:e≠0):ruL r s x=0∧abS r s x=e∧ab1 r s x=0:=by
 subst he
 have h1:abS r s x=aU [M.jf r s,M.cZ x]:=if_pos h
 exact ⟨if_neg h,h1,by unfold ab1;rw [h1,if_neg h]⟩
theorem agi (r:M.Rules) (s:M.State) (A:Option Addr) (c:Nat) (w:World) (hp:bD w (fun _=>True) A c s.ay):
 Calls Tryz.prog 48 #[jM r,wF s A c] w fun e w'=>∃ A' c',e= .returned (.tuple #[.slice A' (ruT r s).length c',.int .i64 (M.jf r s)])∧bD w' (fun b=>w.heap.size≤b) A' c' (ruT r s)∧Below w.heap.size w w':=Dc _ r s A c w hp
theorem apy (r:M.Rules) (s:M.State) (x:M.aI) (A P:Option Addr) (c d:Nat) (w:World) (hp:bD w (fun _=>True) A c s.ay) (hpp:jl w (fun _=>True) P d x.aA):
 Calls Tryz.prog 49 #[jM r,wF s A c,iO x P d] w fun e w'=>e= .returned (.tuple #[.int .i64 (ruL r s x),.int .i64 (aU [M.jf r s,M.cZ x])])∧Below w.heap.size w w':=af8 _ r s x A P c d w hp hpp
@[reducible] def asv (W0:World) (r:M.Rules) (s:M.State) (x:Sh) (As:Option Addr) (cs:Nat):Prop:=∀ (z0 z1 z2 z3 z4 z5 z6 z7 z8 z9 z10 z11 z12 z13 kD kK kF z17 kL jQ z20 z21 z22 z23 z24 z25 z26 z27 z28 z29 z30 z31 z32 z33 z34 z35 z36 z37 z38 z39 z40 z41 z42 z43 z44 z45 z46 z47 z48 z49 z50 z51 z52 z53 z54 z55 z56 z57 z58 z59 z60 z61 z62 z63 z64 z65 z66 z67 z68 z69 z70 z71 z72 z73 z74 z75 z76 z77 z78 z79 z80 mM z82 z83 z84 z85 z86 z87 mO z89 mP z91 mQ z93 mV mW mX mY mZ ng eU eX eY fA fB z105 fC z107 fD z109 fF fG fH fJ fK fM z116 z117:Value) (W:World),(StA W0 r s x As cs z3 z4 z5 W)→(aa0 1).wp Tryz.prog (bodyPost Tryz.prog Tryz.f10 (fun e w'=>e= .returned (.bool true)∧Below W0.heap.size W0 w')) {tmps:= #[z0,z1,z2,z3,z4,z5,z6,z7,z8,z9,z10,z11,z12,z13,kD,kK,kF,z17,kL,jQ,z20,z21,z22,z23,z24,z25,z26,z27,z28,z29,z30,z31,z32,z33,z34,z35,z36,z37,z38,z39,z40,z41,z42,z43,z44,z45,z46,z47,z48,z49,z50,z51,z52,z53,z54,z55,z56,z57,z58,z59,z60,z61,z62,z63,z64,z65,z66,z67,z68,z69,z70,z71,z72,z73,z74,z75,z76,z77,z78,z79,z80,mM,z82,z83,z84,z85,z86,z87,mO,z89,mP,z91,mQ,z93,mV,mW,mX,mY,mZ,ng,eU,eX,eY,fA,fB,z105,fC,z107,fD,z109,fF,fG,fH,fJ,fK,fM,z116,z117],defers:=[] } W
@[reducible] def aqH (W0:World) (r:M.Rules) (s:M.State) (x:Sh) (As:Option Addr) (cs:Nat):Prop:=∀ (z0 z1 z2 z3 z4 z5 z6 z7 z8 z9 z10 z11 z12 z13 kD kK kF z17 kL jQ z20 z21 z22 z23 z24 z25 z26 z27 z28 z29 z30 z31 z32 z33 z34 z35 z36 z37 z38 z39 z40 z41 z42 z43 z44 z45 z46 z47 z48 z49 z50 z51 z52 z53 z54 z55 z56 z57 z58 z59 z60 z61 z62 z63 z64 z65 z66 z67 z68 z69 z70 z71 z72 z73 z74 z75 z76 z77 z78 z79 z80 mM z82 z83 z84 z85 z86 z87 mO z89 mP z91 mQ z93 mV mW mX mY mZ ng eU eX eY fA fB z105 fC z107 fD z109 fF fG fH fJ fK fM z116 z117:Value) (W:World),(StB W0 r s x As cs z3 z4 z5 z7 z8 z9 W)→(aa0 2).wp Tryz.prog (bodyPost Tryz.prog Tryz.f10 (fun e w'=>e= .returned (.bool true)∧Below W0.heap.size W0 w')) {tmps:= #[z0,z1,z2,z3,z4,z5,z6,z7,z8,z9,z10,z11,z12,z13,kD,kK,kF,z17,kL,jQ,z20,z21,z22,z23,z24,z25,z26,z27,z28,z29,z30,z31,z32,z33,z34,z35,z36,z37,z38,z39,z40,z41,z42,z43,z44,z45,z46,z47,z48,z49,z50,z51,z52,z53,z54,z55,z56,z57,z58,z59,z60,z61,z62,z63,z64,z65,z66,z67,z68,z69,z70,z71,z72,z73,z74,z75,z76,z77,z78,z79,z80,mM,z82,z83,z84,z85,z86,z87,mO,z89,mP,z91,mQ,z93,mV,mW,mX,mY,mZ,ng,eU,eX,eY,fA,fB,z105,fC,z107,fD,z109,fF,fG,fH,fJ,fK,fM,z116,z117],defers:=[] } W
@[reducible] def aqO (W0:World) (r:M.Rules) (s:M.State) (x:Sh) (As:Option Addr) (cs:Nat):Prop:=∀ (z0 z1 z2 z3 z4 z5 z6 z7 z8 z9 z10 z11 z12 z13 kD kK kF z17 kL jQ z20 z21 z22 z23 z24 z25 z26 z27 z28 z29 z30 z31 z32 z33 z34 z35 z36 z37 z38 z39 z40 z41 z42 z43 z44 z45 z46 z47 z48 z49 z50 z51 z52 z53 z54 z55 z56 z57 z58 z59 z60 z61 z62 z63 z64 z65 z66 z67 z68 z69 z70 z71 z72 z73 z74 z75 z76 z77 z78 z79 z80 mM z82 z83 z84 z85 z86 z87 mO z89 mP z91 mQ z93 mV mW mX mY mZ ng eU eX eY fA fB z105 fC z107 fD z109 fF fG fH fJ fK fM z116 z117:Value) (W:World),(StB W0 r s x As cs z3 z4 z5 z7 z8 z9 W)→(aa0 3).wp Tryz.prog (bodyPost Tryz.prog Tryz.f10 (fun e w'=>e= .returned (.bool true)∧Below W0.heap.size W0 w')) {tmps:= #[z0,z1,z2,z3,z4,z5,z6,z7,z8,z9,z10,z11,z12,z13,kD,kK,kF,z17,kL,jQ,z20,z21,z22,z23,z24,z25,z26,z27,z28,z29,z30,z31,z32,z33,z34,z35,z36,z37,z38,z39,z40,z41,z42,z43,z44,z45,z46,z47,z48,z49,z50,z51,z52,z53,z54,z55,z56,z57,z58,z59,z60,z61,z62,z63,z64,z65,z66,z67,z68,z69,z70,z71,z72,z73,z74,z75,z76,z77,z78,z79,z80,mM,z82,z83,z84,z85,z86,z87,mO,z89,mP,z91,mQ,z93,mV,mW,mX,mY,mZ,ng,eU,eX,eY,fA,fB,z105,fC,z107,fD,z109,fF,fG,fH,fJ,fK,fM,z116,z117],defers:=[] } W
@[reducible] def aqV (W0:World) (r:M.Rules) (s:M.State) (x:Sh) (As:Option Addr) (cs:Nat):Prop:=∀ (z0 z1 z2 z3 z4 z5 z6 z7 z8 z9 z10 z11 z12 z13 kD kK kF z17 kL jQ z20 z21 z22 z23 z24 z25 z26 z27 z28 z29 z30 z31 z32 z33 z34 z35 z36 z37 z38 z39 z40 z41 z42 z43 z44 z45 z46 z47 z48 z49 z50 z51 z52 z53 z54 z55 z56 z57 z58 z59 z60 z61 z62 z63 z64 z65 z66 z67 z68 z69 z70 z71 z72 z73 z74 z75 z76 z77 z78 z79 z80 mM z82 z83 z84 z85 z86 z87 mO z89 mP z91 mQ z93 mV mW mX mY mZ ng eU eX eY fA fB z105 fC z107 fD z109 fF fG fH fJ fK fM z116 z117:Value) (W:World),(StB W0 r s x As cs z3 z4 z5 z7 z8 z9 W∧ad5 (ruT r s) z10 W∧z11= .int .i64 (M.jf r s))→(aa0 4).wp Tryz.prog (bodyPost Tryz.prog Tryz.f10 (fun e w'=>e= .returned (.bool true)∧Below W0.heap.size W0 w')) {tmps:= #[z0,z1,z2,z3,z4,z5,z6,z7,z8,z9,z10,z11,z12,z13,kD,kK,kF,z17,kL,jQ,z20,z21,z22,z23,z24,z25,z26,z27,z28,z29,z30,z31,z32,z33,z34,z35,z36,z37,z38,z39,z40,z41,z42,z43,z44,z45,z46,z47,z48,z49,z50,z51,z52,z53,z54,z55,z56,z57,z58,z59,z60,z61,z62,z63,z64,z65,z66,z67,z68,z69,z70,z71,z72,z73,z74,z75,z76,z77,z78,z79,z80,mM,z82,z83,z84,z85,z86,z87,mO,z89,mP,z91,mQ,z93,mV,mW,mX,mY,mZ,ng,eU,eX,eY,fA,fB,z105,fC,z107,fD,z109,fF,fG,fH,fJ,fK,fM,z116,z117],defers:=[] } W
@[reducible] def aq2 (W0:World) (r:M.Rules) (s:M.State) (x:Sh) (As:Option Addr) (cs:Nat):Prop:=∀ (z0 z1 z2 z3 z4 z5 z6 z7 z8 z9 z10 z11 z12 z13 kD kK kF z17 kL jQ z20 z21 z22 z23 z24 z25 z26 z27 z28 z29 z30 z31 z32 z33 z34 z35 z36 z37 z38 z39 z40 z41 z42 z43 z44 z45 z46 z47 z48 z49 z50 z51 z52 z53 z54 z55 z56 z57 z58 z59 z60 z61 z62 z63 z64 z65 z66 z67 z68 z69 z70 z71 z72 z73 z74 z75 z76 z77 z78 z79 z80 mM z82 z83 z84 z85 z86 z87 mO z89 mP z91 mQ z93 mV mW mX mY mZ ng eU eX eY fA fB z105 fC z107 fD z109 fF fG fH fJ fK fM z116 z117:Value) (W:World),(StB W0 r s x As cs z3 z4 z5 z7 z8 z9 W∧(ad5 (ruT r s) z10 W∧z11= .int .i64 (M.jf r s))∧z12= .int .i64 (ruL r s x.x)∧z13= .int .i64 (aU [M.jf r s,M.cZ x.x]))→(aa0 5).wp Tryz.prog (bodyPost Tryz.prog Tryz.f10 (fun e w'=>e= .returned (.bool true)∧Below W0.heap.size W0 w')) {tmps:= #[z0,z1,z2,z3,z4,z5,z6,z7,z8,z9,z10,z11,z12,z13,kD,kK,kF,z17,kL,jQ,z20,z21,z22,z23,z24,z25,z26,z27,z28,z29,z30,z31,z32,z33,z34,z35,z36,z37,z38,z39,z40,z41,z42,z43,z44,z45,z46,z47,z48,z49,z50,z51,z52,z53,z54,z55,z56,z57,z58,z59,z60,z61,z62,z63,z64,z65,z66,z67,z68,z69,z70,z71,z72,z73,z74,z75,z76,z77,z78,z79,z80,mM,z82,z83,z84,z85,z86,z87,mO,z89,mP,z91,mQ,z93,mV,mW,mX,mY,mZ,ng,eU,eX,eY,fA,fB,z105,fC,z107,fD,z109,fF,fG,fH,fJ,fK,fM,z116,z117],defers:=[] } W
@[reducible] def aq9 (W0:World) (r:M.Rules) (s:M.State) (x:Sh) (As:Option Addr) (cs:Nat):Prop:=∀ (z0 z1 z2 z3 z4 z5 z6 z7 z8 z9 z10 z11 z12 z13 kD kK kF z17 kL jQ z20 z21 z22 z23 z24 z25 z26 z27 z28 z29 z30 z31 z32 z33 z34 z35 z36 z37 z38 z39 z40 z41 z42 z43 z44 z45 z46 z47 z48 z49 z50 z51 z52 z53 z54 z55 z56 z57 z58 z59 z60 z61 z62 z63 z64 z65 z66 z67 z68 z69 z70 z71 z72 z73 z74 z75 z76 z77 z78 z79 z80 mM z82 z83 z84 z85 z86 z87 mO z89 mP z91 mQ z93 mV mW mX mY mZ ng eU eX eY fA fB z105 fC z107 fD z109 fF fG fH fJ fK fM z116 z117:Value) (W:World),(StB W0 r s x As cs z3 z4 z5 z7 z8 z9 W∧(ad5 (ruT r s) z10 W∧z11= .int .i64 (M.jf r s))∧(z12= .int .i64 (ruL r s x.x)∧z13= .int .i64 (aU [M.jf r s,M.cZ x.x]))∧kD= .int .i64 (ab1 r s x.x)∧kK= .int .i64 (abS r s x.x))→(aa0 6).wp Tryz.prog (bodyPost Tryz.prog Tryz.f10 (fun e w'=>e= .returned (.bool true)∧Below W0.heap.size W0 w')) {tmps:= #[z0,z1,z2,z3,z4,z5,z6,z7,z8,z9,z10,z11,z12,z13,kD,kK,kF,z17,kL,jQ,z20,z21,z22,z23,z24,z25,z26,z27,z28,z29,z30,z31,z32,z33,z34,z35,z36,z37,z38,z39,z40,z41,z42,z43,z44,z45,z46,z47,z48,z49,z50,z51,z52,z53,z54,z55,z56,z57,z58,z59,z60,z61,z62,z63,z64,z65,z66,z67,z68,z69,z70,z71,z72,z73,z74,z75,z76,z77,z78,z79,z80,mM,z82,z83,z84,z85,z86,z87,mO,z89,mP,z91,mQ,z93,mV,mW,mX,mY,mZ,ng,eU,eX,eY,fA,fB,z105,fC,z107,fD,z109,fF,fG,fH,fJ,fK,fM,z116,z117],defers:=[] } W
@[reducible] def arj (W0:World) (r:M.Rules) (s:M.State) (x:Sh) (As:Option Addr) (cs:Nat):Prop:=∀ (z0 z1 z2 z3 z4 z5 z6 z7 z8 z9 z10 z11 z12 z13 kD kK kF z17 kL jQ z20 z21 z22 z23 z24 z25 z26 z27 z28 z29 z30 z31 z32 z33 z34 z35 z36 z37 z38 z39 z40 z41 z42 z43 z44 z45 z46 z47 z48 z49 z50 z51 z52 z53 z54 z55 z56 z57 z58 z59 z60 z61 z62 z63 z64 z65 z66 z67 z68 z69 z70 z71 z72 z73 z74 z75 z76 z77 z78 z79 z80 mM z82 z83 z84 z85 z86 z87 mO z89 mP z91 mQ z93 mV mW mX mY mZ ng eU eX eY fA fB z105 fC z107 fD z109 fF fG fH fJ fK fM z116 z117:Value) (W:World),(StB W0 r s x As cs z3 z4 z5 z7 z8 z9 W∧(ad5 (ruT r s) z10 W∧z11= .int .i64 (M.jf r s))∧(z12= .int .i64 (ruL r s x.x)∧z13= .int .i64 (aU [M.jf r s,M.cZ x.x]))∧(kD= .int .i64 (ab1 r s x.x)∧kK= .int .i64 (abS r s x.x))∧kF= .int .i64 (M.jf r s))→(aa0 7).wp Tryz.prog (bodyPost Tryz.prog Tryz.f10 (fun e w'=>e= .returned (.bool true)∧Below W0.heap.size W0 w')) {tmps:= #[z0,z1,z2,z3,z4,z5,z6,z7,z8,z9,z10,z11,z12,z13,kD,kK,kF,z17,kL,jQ,z20,z21,z22,z23,z24,z25,z26,z27,z28,z29,z30,z31,z32,z33,z34,z35,z36,z37,z38,z39,z40,z41,z42,z43,z44,z45,z46,z47,z48,z49,z50,z51,z52,z53,z54,z55,z56,z57,z58,z59,z60,z61,z62,z63,z64,z65,z66,z67,z68,z69,z70,z71,z72,z73,z74,z75,z76,z77,z78,z79,z80,mM,z82,z83,z84,z85,z86,z87,mO,z89,mP,z91,mQ,z93,mV,mW,mX,mY,mZ,ng,eU,eX,eY,fA,fB,z105,fC,z107,fD,z109,fF,fG,fH,fJ,fK,fM,z116,z117],defers:=[] } W
@[reducible] def ars (W0:World) (r:M.Rules) (s:M.State) (x:Sh) (As:Option Addr) (cs:Nat):Prop:=∀ (z0 z1 z2 z3 z4 z5 z6 z7 z8 z9 z10 z11 z12 z13 kD kK kF z17 kL jQ z20 z21 z22 z23 z24 z25 z26 z27 z28 z29 z30 z31 z32 z33 z34 z35 z36 z37 z38 z39 z40 z41 z42 z43 z44 z45 z46 z47 z48 z49 z50 z51 z52 z53 z54 z55 z56 z57 z58 z59 z60 z61 z62 z63 z64 z65 z66 z67 z68 z69 z70 z71 z72 z73 z74 z75 z76 z77 z78 z79 z80 mM z82 z83 z84 z85 z86 z87 mO z89 mP z91 mQ z93 mV mW mX mY mZ ng eU eX eY fA fB z105 fC z107 fD z109 fF fG fH fJ fK fM z116 z117:Value) (W:World),(StB W0 r s x As cs z3 z4 z5 z7 z8 z9 W∧(ad5 (ruT r s) z10 W∧z11= .int .i64 (M.jf r s))∧(z12= .int .i64 (ruL r s x.x)∧z13= .int .i64 (aU [M.jf r s,M.cZ x.x]))∧(kD= .int .i64 (ab1 r s x.x)∧kK= .int .i64 (abS r s x.x))∧kF= .int .i64 (M.jf r s)∧z17= .int .i64 (aU [M.jf r s,M.cZ x.x]))→(aa0 8).wp Tryz.prog (bodyPost Tryz.prog Tryz.f10 (fun e w'=>e= .returned (.bool true)∧Below W0.heap.size W0 w')) {tmps:= #[z0,z1,z2,z3,z4,z5,z6,z7,z8,z9,z10,z11,z12,z13,kD,kK,kF,z17,kL,jQ,z20,z21,z22,z23,z24,z25,z26,z27,z28,z29,z30,z31,z32,z33,z34,z35,z36,z37,z38,z39,z40,z41,z42,z43,z44,z45,z46,z47,z48,z49,z50,z51,z52,z53,z54,z55,z56,z57,z58,z59,z60,z61,z62,z63,z64,z65,z66,z67,z68,z69,z70,z71,z72,z73,z74,z75,z76,z77,z78,z79,z80,mM,z82,z83,z84,z85,z86,z87,mO,z89,mP,z91,mQ,z93,mV,mW,mX,mY,mZ,ng,eU,eX,eY,fA,fB,z105,fC,z107,fD,z109,fF,fG,fH,fJ,fK,fM,z116,z117],defers:=[] } W
@[reducible] def apT (W0:World) (r:M.Rules) (s:M.State) (x:Sh) (As:Option Addr) (cs:Nat):Prop:=∀ (z0 z1 z2 z3 z4 z5 z6 z7 z8 z9 z10 z11 z12 z13 kD kK kF z17 kL jQ z20 z21 z22 z23 z24 z25 z26 z27 z28 z29 z30 z31 z32 z33 z34 z35 z36 z37 z38 z39 z40 z41 z42 z43 z44 z45 z46 z47 z48 z49 z50 z51 z52 z53 z54 z55 z56 z57 z58 z59 z60 z61 z62 z63 z64 z65 z66 z67 z68 z69 z70 z71 z72 z73 z74 z75 z76 z77 z78 z79 z80 mM z82 z83 z84 z85 z86 z87 mO z89 mP z91 mQ z93 mV mW mX mY mZ ng eU eX eY fA fB z105 fC z107 fD z109 fF fG fH fJ fK fM z116 z117:Value) (W:World),(StB W0 r s x As cs z3 z4 z5 z7 z8 z9 W∧(ad5 (ruT r s) z10 W∧z11= .int .i64 (M.jf r s))∧(z12= .int .i64 (ruL r s x.x)∧z13= .int .i64 (aU [M.jf r s,M.cZ x.x]))∧(kD= .int .i64 (ab1 r s x.x)∧kK= .int .i64 (abS r s x.x))∧kF= .int .i64 (M.jf r s)∧z17= .int .i64 (aU [M.jf r s,M.cZ x.x])∧kL= .int .i64 (aU [M.jf r s,M.cZ x.x])∧ad5 (ruT r s) jQ W∧z20= .int .i64 0∧z21= .int .i64 0)→(aa0 12).wp Tryz.prog (bodyPost Tryz.prog Tryz.f10 (fun e w'=>e= .returned (.bool true)∧Below W0.heap.size W0 w')) {tmps:= #[z0,z1,z2,z3,z4,z5,z6,z7,z8,z9,z10,z11,z12,z13,kD,kK,kF,z17,kL,jQ,z20,z21,z22,z23,z24,z25,z26,z27,z28,z29,z30,z31,z32,z33,z34,z35,z36,z37,z38,z39,z40,z41,z42,z43,z44,z45,z46,z47,z48,z49,z50,z51,z52,z53,z54,z55,z56,z57,z58,z59,z60,z61,z62,z63,z64,z65,z66,z67,z68,z69,z70,z71,z72,z73,z74,z75,z76,z77,z78,z79,z80,mM,z82,z83,z84,z85,z86,z87,mO,z89,mP,z91,mQ,z93,mV,mW,mX,mY,mZ,ng,eU,eX,eY,fA,fB,z105,fC,z107,fD,z109,fF,fG,fH,fJ,fK,fM,z116,z117],defers:=[] } W
@[reducible] def ap0 (W0:World) (r:M.Rules) (s:M.State) (x:Sh) (As:Option Addr) (cs:Nat):Prop:=∀ (z0 z1 z2 z3 z4 z5 z6 z7 z8 z9 z10 z11 z12 z13 kD kK kF z17 kL jQ z20 z21 z22 z23 z24 z25 z26 z27 z28 z29 z30 z31 z32 z33 z34 z35 z36 z37 z38 z39 z40 z41 z42 z43 z44 z45 z46 z47 z48 z49 z50 z51 z52 z53 z54 z55 z56 z57 z58 z59 z60 z61 z62 z63 z64 z65 z66 z67 z68 z69 z70 z71 z72 z73 z74 z75 z76 z77 z78 z79 z80 mM z82 z83 z84 z85 z86 z87 mO z89 mP z91 mQ z93 mV mW mX mY mZ ng eU eX eY fA fB z105 fC z107 fD z109 fF fG fH fJ fK fM z116 z117:Value) (W:World),(StB W0 r s x As cs z3 z4 z5 z7 z8 z9 W∧(ad5 (ruT r s) z10 W∧z11= .int .i64 (M.jf r s))∧(z12= .int .i64 (ruL r s x.x)∧z13= .int .i64 (aU [M.jf r s,M.cZ x.x]))∧(kD= .int .i64 (ab1 r s x.x)∧kK= .int .i64 (abS r s x.x))∧kF= .int .i64 (M.jf r s)∧z17= .int .i64 (aU [M.jf r s,M.cZ x.x])∧kL= .int .i64 (abS r s x.x)∧ad5 (ruT r s) jQ W∧z20= .int .i64 (ruL r s x.x)∧z21= .int .i64 (ab1 r s x.x))→(aa0 13).wp Tryz.prog (bodyPost Tryz.prog Tryz.f10 (fun e w'=>e= .returned (.bool true)∧Below W0.heap.size W0 w')) {tmps:= #[z0,z1,z2,z3,z4,z5,z6,z7,z8,z9,z10,z11,z12,z13,kD,kK,kF,z17,kL,jQ,z20,z21,z22,z23,z24,z25,z26,z27,z28,z29,z30,z31,z32,z33,z34,z35,z36,z37,z38,z39,z40,z41,z42,z43,z44,z45,z46,z47,z48,z49,z50,z51,z52,z53,z54,z55,z56,z57,z58,z59,z60,z61,z62,z63,z64,z65,z66,z67,z68,z69,z70,z71,z72,z73,z74,z75,z76,z77,z78,z79,z80,mM,z82,z83,z84,z85,z86,z87,mO,z89,mP,z91,mQ,z93,mV,mW,mX,mY,mZ,ng,eU,eX,eY,fA,fB,z105,fC,z107,fD,z109,fF,fG,fH,fJ,fK,fM,z116,z117],defers:=[] } W
theorem asQ (W0:World) (r:M.Rules) (s:M.State) (x:Sh) (As:Option Addr) (cs:Nat) (HG:Hid (Glob W0)) (HN:Hid (aqH W0 r s x As cs)):asv W0 r s x As cs:=by
 intro z0 z1 z2 _ _ _ z6 _ _ _ z10 z11 z12 z13 kD kK kF z17 kL jQ z20 z21 _ _ _ _ z26 z27 z28 z29 z30 z31 z32 z33 z34 z35 z36 z37 z38 z39 z40 z41 z42 z43 z44 z45 z46 z47 z48 z49 z50 z51 z52 z53 z54 z55 z56 z57 z58 z59 z60 z61 z62 z63 z64 z65 z66 z67 z68 z69 z70 z71 z72 z73 z74 z75 z76 z77 z78 z79 z80 mM z82 z83 z84 z85 z86 z87 mO z89 mP z91 mQ z93 mV mW mX mY mZ ng eU eX eY fA fB z105 fC z107 fD z109 fF fG fH fJ fK fM z116 z117 W hf
 dsimp only [aa0,dQ,Tryz.f10,Option.getD]
 have hF:=hf
 obtain ⟨rfl,rfl,rfl,h3,h4,h5,_,_,_,_⟩:=hf
 have hr3:∀ W',(fun w':World=>Below W.heap.size W w') W'→W'.rangeAt W0.heap.size 0 ([.string r.game,.int .i64 r.target,.int .i64 r.aY]):=fun W' h=>(h3.below h).range
 have hr4:∀ W',(fun w':World=>Below W.heap.size W w') W'→W'.rangeAt (W0.heap.size+1) 0 (aW s As cs):=fun W' h=>(h4.below h).range
 have SC:∀ W',(fun w':World=>Below W.heap.size W w') W'→W'.rangeAt (W0.heap.size+2) 0 (au x):=fun W' h=>(h5.below h).range
 apply wp_seq_k
 intro K hK
 have HK:=hide hK
 clear hK
 refine wp_region_held_drew (S:=(fun w':World=>Below W.heap.size W w')) (by kernel_rfl) ?eP (fun hHeld=>?_)
 case eP=>exact (Below.refl _ _).drew
 refine ahi (fun f hf=>?_)
 have J:∀ (p7 p8 p9:Nat) (A6:Option Addr) (c6:Nat) (wx:World),Held wx p7 [.string ⟨#[]⟩,.int .i64 0,.int .i64 0] 25→Held wx p8 aj 42→Held wx p9 JB 69→p7≠p8→p7≠p9→p8≠p9→W.heap.size≤p7→W.heap.size≤p8→W.heap.size≤p9→(fun w':World=>Below W.heap.size W w') wx→
  jl wx (fun b=>b≠p7∧b≠p8∧b≠p9) A6 c6 x.x.aA→f 3 #[true,true,true,true,true,true,true,false,false,false] {tmps:= #[z0,z1,z2,ptr W0.heap.size,ptr (W0.heap.size+1),ptr (W0.heap.size+2),z6,ptr p7,ptr p8,ptr p9,z10,z11,z12,z13,kD,kK,kF,z17,kL,jQ,z20,z21,.agg ([.string r.game,.int .i64 r.target,.int .i64 r.aY]:List Value).toArray,.agg (aW s As cs).toArray,.agg (au x).toArray,iO x.x A6 c6,z26,z27,z28,z29,z30,z31,z32,z33,z34,z35,z36,z37,z38,z39,z40,z41,z42,z43,z44,z45,z46,z47,z48,z49,z50,z51,z52,z53,z54,z55,z56,z57,z58,z59,z60,z61,z62,z63,z64,z65,z66,z67,z68,z69,z70,z71,z72,z73,z74,z75,z76,z77,z78,z79,z80,mM,z82,z83,z84,z85,z86,z87,mO,z89,mP,z91,mQ,z93,mV,mW,mX,mY,mZ,ng,eU,eX,eY,fA,fB,z105,fC,z107,fD,z109,fF,fG,fH,fJ,fK,fM,z116,z117],defers:=[] } wx:=by
  intro p7 p8 p9 A6 c6 wx g7 g8 g9 n78 n79 n89 l7 l8 l9 hHeld kP
  subst hf
  have hHeld:(fun w':World=>Below W.heap.size W w') (wx.setCells p7 0 [.string r.game,.int .i64 r.target,.int .i64 r.aY]):=below_setCells _ l7 _ _ _ _ hHeld
  refine wpAnyH_ready (rs:=[7]) (by kernel_rfl) (by simp) ?_
  refine acG (o:=_) (ga rfl) (by kernel_rfl) g7 [.string r.game,.int .i64 r.target,.int .i64 r.aY] rfl aeQ (xI _ _ _) (.tmp 7) (.tmp 22) rfl rfl rfl hHeld ?_
  try simp only [Act.put,la,lz,ls]
  have hHeld:(fun w':World=>Below W.heap.size W w') ((wx.setCells p7 0 [.string r.game,.int .i64 r.target,.int .i64 r.aY]).setCells p8 0 (aW s As cs)):=below_setCells _ l8 _ _ _ _ hHeld
  refine wpAnyH_ready (rs:=[8]) (by kernel_rfl) (by simp) ?_
  refine acG (o:=_) (ga rfl) (by kernel_rfl) (Held.others n78.symm _ _ _ g8) (aW s As cs) rfl ZP (dL _ _ _) (.tmp 8) (.tmp 23) rfl rfl rfl hHeld ?_
  try simp only [Act.put,la,lz,ls]
  have hHeld:(fun w':World=>Below W.heap.size W w') (((wx.setCells p7 0 [.string r.game,.int .i64 r.target,.int .i64 r.aY]).setCells p8 0 (aW s As cs)).setCells p9 0 (au ⟨x.x,A6,c6⟩)):=below_setCells _ l9 _ _ _ _ hHeld
  refine wpAnyH_ready (rs:=[9]) (by kernel_rfl) (by simp) ?_
  refine acG (o:=_) (ga rfl) (by kernel_rfl) (Held.others n89.symm _ _ _ (Held.others n79.symm _ _ _ g9)) (au ⟨x.x,A6,c6⟩) rfl afD (uq x.x A6 c6) (.tmp 9) (.tmp 25) rfl rfl rfl hHeld ?_
  try simp only [Act.put,la,lz,ls]
  refine wpAnyH_done (by kernel_rfl) ?_ _
  refine HK.out _ _ ?_
  apply HN.out
  have h3b:=afR (v7:=[.string r.game,.int .i64 r.target,.int .i64 r.aY]) (v8:=aW s As cs) (v9:=au ⟨x.x,A6,c6⟩) g7 g8 g9 n78 n79 n89 rfl rfl rfl
  refine ⟨hF.below hHeld,_,_,_,A6,c6,rfl,h3b.1,rfl,h3b.2.1,rfl,h3b.2.2,?_⟩
  exact Reads.more (jl.aiI kP (Below.refl _ _) (fun b _ h=>h)) (fun _ _ _=>trivial)
 rw [hf] at J
 subst hf
 refine wpAnyH_take (i:=0) (oi:=_) (v:=_) (ga rfl) (by kernel_rfl) (by kernel_rfl) (by kernel_rfl) (fun _ _ _ h=>h) (yieldsIf_load_mid (by rfl) _ _ (by rfl) _ _ (by rfl) _ _ hr3 Tryz.underlying23 rfl (by kernel_rfl)) (by assumption) ?_
 try simp only [Act.put,la,lz,ls]
 refine wpAnyH_take (i:=1) (oi:=_) (v:=_) (ga rfl) (by kernel_rfl) (by kernel_rfl) (by kernel_rfl) (fun _ _ _ h=>h) (yieldsIf_load_mid (by rfl) _ _ (by rfl) _ _ (by rfl) _ _ hr4 Tryz.underlying33 rfl (by kernel_rfl)) (by assumption) ?_
 try simp only [Act.put,la,lz,ls]
 refine wpAnyH_take (i:=2) (oi:=_) (v:=_) (ga rfl) (by kernel_rfl) (by kernel_rfl) (by kernel_rfl) (fun _ _ _ h=>h) (yieldsIf_load_mid (by rfl) _ _ (by rfl) _ _ (by rfl) _ _ SC Tryz.underlying66 rfl (by kernel_rfl)) (by assumption) ?_
 try simp only [Act.put,la,lz,ls]
 refine wpAnyH_ready (rs:=[3,4,5,6]) (by kernel_rfl) (by simp) ?_
 refine AllReadyH.cons (o:=_) (ga rfl) (fun K hK=>?_) (AllReadyH.cons (o:=_) (ga rfl) (fun K hK=>?_) (AllReadyH.cons (o:=_) (ga rfl) (fun K hK=>?_) (AllReadyH.cons (o:=_) (ga rfl) (fun K hK=>?_) AllReadyH.nil)))
 · go_simp
   (go_at_call 26;refine (abC (fun _=>True) x.x x.a x.c _ (Reads.below hF.rx hHeld) hF.fit).mono ?_;rintro e w6 ⟨A6,c6,rfl,kP,hb6⟩;have iR:W.heap.size≤w6.heap.size:=Nat.le_trans hHeld.size hb6.size)
   refine hK.out _ _ ?an3 (fun hHeld=>?_)
   case an3=>(exact hHeld.trans (hb6.mono hHeld.size))
   clear hK K
   try simp only [Act.put,la,lz,ls]
   refine wpAnyH_ready (rs:=[4,5,6]) (by kernel_rfl) (by simp) ?_
   refine AllReadyH.cons (o:=_) (ga rfl) (fun K hK=>?_) (AllReadyH.cons (o:=_) (ga rfl) (fun K hK=>?_) (AllReadyH.cons (o:=_) (ga rfl) (fun K hK=>?_) AllReadyH.nil))
   · go_simp
     refine hK.out _ _ ?aoa (fun hHeld=>?_)
     case aoa=>(exact Below.alloc hHeld hHeld.size _)
     clear hK K
     try simp only [Act.put,la,lz,ls]
     refine wpAnyH_ready (rs:=[5,6]) (by kernel_rfl) (by simp) ?_
     refine AllReadyH.cons (o:=_) (ga rfl) (fun K hK=>?_) (AllReadyH.cons (o:=_) (ga rfl) (fun K hK=>?_) AllReadyH.nil)
     · go_simp
       refine hK.out _ _ ?aov (fun hHeld=>?_)
       case aov=>(exact Below.alloc hHeld hHeld.size _)
       clear hK K
       try simp only [Act.put,la,lz,ls]
       refine tr 6 fun K hK=>?_
       go_simp
       refine hK.out _ _ ?aoQ (fun hHeld=>?_)
       case aoQ=>(exact Below.alloc hHeld hHeld.size _)
       clear hK K
       try simp only [Act.put,la,lz,ls]
       have hq:W.heap.size+0≤w6.heap.size:=by have h:=hb6.size;simpa using h
       exact J _ _ _ A6 c6 _ ((((Held.newAt _ [.string ⟨#[]⟩,.int .i64 0,.int .i64 0] 25 (by first | rfl | simp))).alloc _).alloc _) (((Held.newAt _ aj 42 (by first | rfl | simp))).alloc _) ((Held.newAt _ JB 69 (by first | rfl | simp))) (by (try simp);(try omega)) (by (try simp);(try omega)) (by (try simp);(try omega)) (by (try simp);(try omega)) (by (try simp);(try omega)) (by (try simp);(try omega)) hHeld (Reads.below (Reads.more kP (fun b hl h=>by (try simp at h);refine ⟨?_,?_,?_⟩ <;> (intro e;omega))) ((((Below.refl _ _).alloc (by (try simp);(try omega)) _).alloc (by (try simp);(try omega)) _).alloc (by (try simp);(try omega)) _))
     · go_simp
       refine hK.out _ _ ?aoX (fun hHeld=>?_)
       case aoX=>(exact Below.alloc hHeld hHeld.size _)
       clear hK K
       try simp only [Act.put,la,lz,ls]
       refine tr 5 fun K hK=>?_
       go_simp
       refine hK.out _ _ ?aoC (fun hHeld=>?_)
       case aoC=>(exact Below.alloc hHeld hHeld.size _)
       clear hK K
       try simp only [Act.put,la,lz,ls]
       have hq:W.heap.size+0≤w6.heap.size:=by have h:=hb6.size;simpa using h
       exact J _ _ _ A6 c6 _ ((((Held.newAt _ [.string ⟨#[]⟩,.int .i64 0,.int .i64 0] 25 (by first | rfl | simp))).alloc _).alloc _) ((Held.newAt _ aj 42 (by first | rfl | simp))) (((Held.newAt _ JB 69 (by first | rfl | simp))).alloc _) (by (try simp);(try omega)) (by (try simp);(try omega)) (by (try simp);(try omega)) (by (try simp);(try omega)) (by (try simp);(try omega)) (by (try simp);(try omega)) hHeld (Reads.below (Reads.more kP (fun b hl h=>by (try simp at h);refine ⟨?_,?_,?_⟩ <;> (intro e;omega))) ((((Below.refl _ _).alloc (by (try simp);(try omega)) _).alloc (by (try simp);(try omega)) _).alloc (by (try simp);(try omega)) _))
   · go_simp
     refine hK.out _ _ ?aoJ (fun hHeld=>?_)
     case aoJ=>(exact Below.alloc hHeld hHeld.size _)
     clear hK K
     try simp only [Act.put,la,lz,ls]
     refine wpAnyH_ready (rs:=[4,6]) (by kernel_rfl) (by simp) ?_
     refine AllReadyH.cons (o:=_) (ga rfl) (fun K hK=>?_) (AllReadyH.cons (o:=_) (ga rfl) (fun K hK=>?_) AllReadyH.nil)
     · go_simp
       refine hK.out _ _ ?aoh (fun hHeld=>?_)
       case aoh=>(exact Below.alloc hHeld hHeld.size _)
       clear hK K
       try simp only [Act.put,la,lz,ls]
       refine tr 6 fun K hK=>?_
       go_simp
       refine hK.out _ _ ?ao4 (fun hHeld=>?_)
       case ao4=>(exact Below.alloc hHeld hHeld.size _)
       clear hK K
       try simp only [Act.put,la,lz,ls]
       have hq:W.heap.size+0≤w6.heap.size:=by have h:=hb6.size;simpa using h
       exact J _ _ _ A6 c6 _ (((Held.newAt _ [.string ⟨#[]⟩,.int .i64 0,.int .i64 0] 25 (by first | rfl | simp))).alloc _) ((((Held.newAt _ aj 42 (by first | rfl | simp))).alloc _).alloc _) ((Held.newAt _ JB 69 (by first | rfl | simp))) (by (try simp);(try omega)) (by (try simp);(try omega)) (by (try simp);(try omega)) (by (try simp);(try omega)) (by (try simp);(try omega)) (by (try simp);(try omega)) hHeld (Reads.below (Reads.more kP (fun b hl h=>by (try simp at h);refine ⟨?_,?_,?_⟩ <;> (intro e;omega))) ((((Below.refl _ _).alloc (by (try simp);(try omega)) _).alloc (by (try simp);(try omega)) _).alloc (by (try simp);(try omega)) _))
     · go_simp
       refine hK.out _ _ ?apb (fun hHeld=>?_)
       case apb=>(exact Below.alloc hHeld hHeld.size _)
       clear hK K
       try simp only [Act.put,la,lz,ls]
       refine tr 4 fun K hK=>?_
       go_simp
       refine hK.out _ _ ?aoo (fun hHeld=>?_)
       case aoo=>(exact Below.alloc hHeld hHeld.size _)
       clear hK K
       try simp only [Act.put,la,lz,ls]
       have hq:W.heap.size+0≤w6.heap.size:=by have h:=hb6.size;simpa using h
       exact J _ _ _ A6 c6 _ ((Held.newAt _ [.string ⟨#[]⟩,.int .i64 0,.int .i64 0] 25 (by first | rfl | simp))) ((((Held.newAt _ aj 42 (by first | rfl | simp))).alloc _).alloc _) (((Held.newAt _ JB 69 (by first | rfl | simp))).alloc _) (by (try simp);(try omega)) (by (try simp);(try omega)) (by (try simp);(try omega)) (by (try simp);(try omega)) (by (try simp);(try omega)) (by (try simp);(try omega)) hHeld (Reads.below (Reads.more kP (fun b hl h=>by (try simp at h);refine ⟨?_,?_,?_⟩ <;> (intro e;omega))) ((((Below.refl _ _).alloc (by (try simp);(try omega)) _).alloc (by (try simp);(try omega)) _).alloc (by (try simp);(try omega)) _))
   · go_simp
     refine hK.out _ _ ?apj (fun hHeld=>?_)
     case apj=>(exact Below.alloc hHeld hHeld.size _)
     clear hK K
     try simp only [Act.put,la,lz,ls]
     refine wpAnyH_ready (rs:=[4,5]) (by kernel_rfl) (by simp) ?_
     refine AllReadyH.cons (o:=_) (ga rfl) (fun K hK=>?_) (AllReadyH.cons (o:=_) (ga rfl) (fun K hK=>?_) AllReadyH.nil)
     · go_simp
       refine hK.out _ _ ?aiK (fun hHeld=>?_)
       case aiK=>(exact Below.alloc hHeld hHeld.size _)
       clear hK K
       try simp only [Act.put,la,lz,ls]
       refine tr 5 fun K hK=>?_
       go_simp
       refine hK.out _ _ ?akh (fun hHeld=>?_)
       case akh=>(exact Below.alloc hHeld hHeld.size _)
       clear hK K
       try simp only [Act.put,la,lz,ls]
       have hq:W.heap.size+0≤w6.heap.size:=by have h:=hb6.size;simpa using h
       exact J _ _ _ A6 c6 _ (((Held.newAt _ [.string ⟨#[]⟩,.int .i64 0,.int .i64 0] 25 (by first | rfl | simp))).alloc _) ((Held.newAt _ aj 42 (by first | rfl | simp))) ((((Held.newAt _ JB 69 (by first | rfl | simp))).alloc _).alloc _) (by (try simp);(try omega)) (by (try simp);(try omega)) (by (try simp);(try omega)) (by (try simp);(try omega)) (by (try simp);(try omega)) (by (try simp);(try omega)) hHeld (Reads.below (Reads.more kP (fun b hl h=>by (try simp at h);refine ⟨?_,?_,?_⟩ <;> (intro e;omega))) ((((Below.refl _ _).alloc (by (try simp);(try omega)) _).alloc (by (try simp);(try omega)) _).alloc (by (try simp);(try omega)) _))
     · go_simp
       refine hK.out _ _ ?ako (fun hHeld=>?_)
       case ako=>(exact Below.alloc hHeld hHeld.size _)
       clear hK K
       try simp only [Act.put,la,lz,ls]
       refine tr 4 fun K hK=>?_
       go_simp
       refine hK.out _ _ ?aiS (fun hHeld=>?_)
       case aiS=>(exact Below.alloc hHeld hHeld.size _)
       clear hK K
       try simp only [Act.put,la,lz,ls]
       have hq:W.heap.size+0≤w6.heap.size:=by have h:=hb6.size;simpa using h
       exact J _ _ _ A6 c6 _ ((Held.newAt _ [.string ⟨#[]⟩,.int .i64 0,.int .i64 0] 25 (by first | rfl | simp))) (((Held.newAt _ aj 42 (by first | rfl | simp))).alloc _) ((((Held.newAt _ JB 69 (by first | rfl | simp))).alloc _).alloc _) (by (try simp);(try omega)) (by (try simp);(try omega)) (by (try simp);(try omega)) (by (try simp);(try omega)) (by (try simp);(try omega)) (by (try simp);(try omega)) hHeld (Reads.below (Reads.more kP (fun b hl h=>by (try simp at h);refine ⟨?_,?_,?_⟩ <;> (intro e;omega))) ((((Below.refl _ _).alloc (by (try simp);(try omega)) _).alloc (by (try simp);(try omega)) _).alloc (by (try simp);(try omega)) _))
 · go_simp
   refine hK.out _ _ ?aiZ (fun hHeld=>?_)
   case aiZ=>(exact Below.alloc hHeld hHeld.size _)
   clear hK K
   try simp only [Act.put,la,lz,ls]
   refine wpAnyH_ready (rs:=[3,5,6]) (by kernel_rfl) (by simp) ?_
   refine AllReadyH.cons (o:=_) (ga rfl) (fun K hK=>?_) (AllReadyH.cons (o:=_) (ga rfl) (fun K hK=>?_) (AllReadyH.cons (o:=_) (ga rfl) (fun K hK=>?_) AllReadyH.nil))
   · go_simp
     (go_at_call 26;refine (abC (fun _=>True) x.x x.a x.c _ (Reads.below hF.rx hHeld) hF.fit).mono ?_;rintro e w6 ⟨A6,c6,rfl,kP,hb6⟩;have iR:W.heap.size≤w6.heap.size:=Nat.le_trans hHeld.size hb6.size)
     refine hK.out _ _ ?agH (fun hHeld=>?_)
     case agH=>(exact hHeld.trans (hb6.mono hHeld.size))
     clear hK K
     try simp only [Act.put,la,lz,ls]
     refine wpAnyH_ready (rs:=[5,6]) (by kernel_rfl) (by simp) ?_
     refine AllReadyH.cons (o:=_) (ga rfl) (fun K hK=>?_) (AllReadyH.cons (o:=_) (ga rfl) (fun K hK=>?_) AllReadyH.nil)
     · go_simp
       refine hK.out _ _ ?akv (fun hHeld=>?_)
       case akv=>(exact Below.alloc hHeld hHeld.size _)
       clear hK K
       try simp only [Act.put,la,lz,ls]
       refine tr 6 fun K hK=>?_
       go_simp
       refine hK.out _ _ ?alN (fun hHeld=>?_)
       case alN=>(exact Below.alloc hHeld hHeld.size _)
       clear hK K
       try simp only [Act.put,la,lz,ls]
       have hq:W.heap.size+1≤w6.heap.size:=by have h:=hb6.size;simpa using h
       exact J _ _ _ A6 c6 _ (((((Held.newAt _ [.string ⟨#[]⟩,.int .i64 0,.int .i64 0] 25 (by first | rfl | simp)).drew.below hb6)).alloc _).alloc _) (((Held.newAt _ aj 42 (by first | rfl | simp))).alloc _) ((Held.newAt _ JB 69 (by first | rfl | simp))) (by (try simp);(try omega)) (by (try simp);(try omega)) (by (try simp);(try omega)) (by (try simp);(try omega)) (by (try simp);(try omega)) (by (try simp);(try omega)) hHeld (Reads.below (Reads.more kP (fun b hl h=>by (try simp at h);refine ⟨?_,?_,?_⟩ <;> (intro e;omega))) (((Below.refl _ _).alloc (by (try simp);(try omega)) _).alloc (by (try simp);(try omega)) _))
     · go_simp
       refine hK.out _ _ ?alU (fun hHeld=>?_)
       case alU=>(exact Below.alloc hHeld hHeld.size _)
       clear hK K
       try simp only [Act.put,la,lz,ls]
       refine tr 5 fun K hK=>?_
       go_simp
       refine hK.out _ _ ?akC (fun hHeld=>?_)
       case akC=>(exact Below.alloc hHeld hHeld.size _)
       clear hK K
       try simp only [Act.put,la,lz,ls]
       have hq:W.heap.size+1≤w6.heap.size:=by have h:=hb6.size;simpa using h
       exact J _ _ _ A6 c6 _ (((((Held.newAt _ [.string ⟨#[]⟩,.int .i64 0,.int .i64 0] 25 (by first | rfl | simp)).drew.below hb6)).alloc _).alloc _) ((Held.newAt _ aj 42 (by first | rfl | simp))) (((Held.newAt _ JB 69 (by first | rfl | simp))).alloc _) (by (try simp);(try omega)) (by (try simp);(try omega)) (by (try simp);(try omega)) (by (try simp);(try omega)) (by (try simp);(try omega)) (by (try simp);(try omega)) hHeld (Reads.below (Reads.more kP (fun b hl h=>by (try simp at h);refine ⟨?_,?_,?_⟩ <;> (intro e;omega))) (((Below.refl _ _).alloc (by (try simp);(try omega)) _).alloc (by (try simp);(try omega)) _))
   · go_simp
     refine hK.out _ _ ?akJ (fun hHeld=>?_)
     case akJ=>(exact Below.alloc hHeld hHeld.size _)
     clear hK K
     try simp only [Act.put,la,lz,ls]
     refine wpAnyH_ready (rs:=[3,6]) (by kernel_rfl) (by simp) ?_
     refine AllReadyH.cons (o:=_) (ga rfl) (fun K hK=>?_) (AllReadyH.cons (o:=_) (ga rfl) (fun K hK=>?_) AllReadyH.nil)
     · go_simp
       (go_at_call 26;refine (abC (fun _=>True) x.x x.a x.c _ (Reads.below hF.rx hHeld) hF.fit).mono ?_;rintro e w6 ⟨A6,c6,rfl,kP,hb6⟩;have iR:W.heap.size≤w6.heap.size:=Nat.le_trans hHeld.size hb6.size)
       refine hK.out _ _ ?agP (fun hHeld=>?_)
       case agP=>(exact hHeld.trans (hb6.mono hHeld.size))
       clear hK K
       try simp only [Act.put,la,lz,ls]
       refine tr 6 fun K hK=>?_
       go_simp
       refine hK.out _ _ ?al1 (fun hHeld=>?_)
       case al1=>(exact Below.alloc hHeld hHeld.size _)
       clear hK K
       try simp only [Act.put,la,lz,ls]
       have hq:W.heap.size+2≤w6.heap.size:=by have h:=hb6.size;simpa using h
       exact J _ _ _ A6 c6 _ (((((Held.newAt _ [.string ⟨#[]⟩,.int .i64 0,.int .i64 0] 25 (by first | rfl | simp)).alloc _).drew.below hb6)).alloc _) ((((Held.newAt _ aj 42 (by first | rfl | simp)).drew.below hb6)).alloc _) ((Held.newAt _ JB 69 (by first | rfl | simp))) (by (try simp);(try omega)) (by (try simp);(try omega)) (by (try simp);(try omega)) (by (try simp);(try omega)) (by (try simp);(try omega)) (by (try simp);(try omega)) hHeld (Reads.below (Reads.more kP (fun b hl h=>by (try simp at h);refine ⟨?_,?_,?_⟩ <;> (intro e;omega))) ((Below.refl _ _).alloc (by (try simp);(try omega)) _))
     · go_simp
       refine hK.out _ _ ?al8 (fun hHeld=>?_)
       case al8=>(exact Below.alloc hHeld hHeld.size _)
       clear hK K
       try simp only [Act.put,la,lz,ls]
       refine tr 3 fun K hK=>?_
       go_simp
       (go_at_call 26;refine (abC (fun _=>True) x.x x.a x.c _ (Reads.below hF.rx hHeld) hF.fit).mono ?_;rintro e w6 ⟨A6,c6,rfl,kP,hb6⟩;have iR:W.heap.size≤w6.heap.size:=Nat.le_trans hHeld.size hb6.size)
       refine hK.out _ _ ?agY (fun hHeld=>?_)
       case agY=>(exact hHeld.trans (hb6.mono hHeld.size))
       clear hK K
       try simp only [Act.put,la,lz,ls]
       have hq:W.heap.size+3≤w6.heap.size:=by have h:=hb6.size;simpa using h
       exact J _ _ _ A6 c6 _ (((((Held.newAt _ [.string ⟨#[]⟩,.int .i64 0,.int .i64 0] 25 (by first | rfl | simp)).alloc _).alloc _).drew.below hb6)) ((((Held.newAt _ aj 42 (by first | rfl | simp)).alloc _).drew.below hb6)) (((Held.newAt _ JB 69 (by first | rfl | simp)).drew.below hb6)) (by (try simp);(try omega)) (by (try simp);(try omega)) (by (try simp);(try omega)) (by (try simp);(try omega)) (by (try simp);(try omega)) (by (try simp);(try omega)) hHeld (Reads.below (Reads.more kP (fun b hl h=>by (try simp at h);refine ⟨?_,?_,?_⟩ <;> (intro e;omega))) (Below.refl _ _))
   · go_simp
     refine hK.out _ _ ?amf (fun hHeld=>?_)
     case amf=>(exact Below.alloc hHeld hHeld.size _)
     clear hK K
     try simp only [Act.put,la,lz,ls]
     refine wpAnyH_ready (rs:=[3,5]) (by kernel_rfl) (by simp) ?_
     refine AllReadyH.cons (o:=_) (ga rfl) (fun K hK=>?_) (AllReadyH.cons (o:=_) (ga rfl) (fun K hK=>?_) AllReadyH.nil)
     · go_simp
       (go_at_call 26;refine (abC (fun _=>True) x.x x.a x.c _ (Reads.below hF.rx hHeld) hF.fit).mono ?_;rintro e w6 ⟨A6,c6,rfl,kP,hb6⟩;have iR:W.heap.size≤w6.heap.size:=Nat.le_trans hHeld.size hb6.size)
       refine hK.out _ _ ?ag6 (fun hHeld=>?_)
       case ag6=>(exact hHeld.trans (hb6.mono hHeld.size))
       clear hK K
       try simp only [Act.put,la,lz,ls]
       refine tr 5 fun K hK=>?_
       go_simp
       refine hK.out _ _ ?akQ (fun hHeld=>?_)
       case akQ=>(exact Below.alloc hHeld hHeld.size _)
       clear hK K
       try simp only [Act.put,la,lz,ls]
       have hq:W.heap.size+2≤w6.heap.size:=by have h:=hb6.size;simpa using h
       exact J _ _ _ A6 c6 _ (((((Held.newAt _ [.string ⟨#[]⟩,.int .i64 0,.int .i64 0] 25 (by first | rfl | simp)).alloc _).drew.below hb6)).alloc _) ((Held.newAt _ aj 42 (by first | rfl | simp))) ((((Held.newAt _ JB 69 (by first | rfl | simp)).drew.below hb6)).alloc _) (by (try simp);(try omega)) (by (try simp);(try omega)) (by (try simp);(try omega)) (by (try simp);(try omega)) (by (try simp);(try omega)) (by (try simp);(try omega)) hHeld (Reads.below (Reads.more kP (fun b hl h=>by (try simp at h);refine ⟨?_,?_,?_⟩ <;> (intro e;omega))) ((Below.refl _ _).alloc (by (try simp);(try omega)) _))
     · go_simp
       refine hK.out _ _ ?akX (fun hHeld=>?_)
       case akX=>(exact Below.alloc hHeld hHeld.size _)
       clear hK K
       try simp only [Act.put,la,lz,ls]
       refine tr 3 fun K hK=>?_
       go_simp
       (go_at_call 26;refine (abC (fun _=>True) x.x x.a x.c _ (Reads.below hF.rx hHeld) hF.fit).mono ?_;rintro e w6 ⟨A6,c6,rfl,kP,hb6⟩;have iR:W.heap.size≤w6.heap.size:=Nat.le_trans hHeld.size hb6.size)
       refine hK.out _ _ ?ahe (fun hHeld=>?_)
       case ahe=>(exact hHeld.trans (hb6.mono hHeld.size))
       clear hK K
       try simp only [Act.put,la,lz,ls]
       have hq:W.heap.size+3≤w6.heap.size:=by have h:=hb6.size;simpa using h
       exact J _ _ _ A6 c6 _ (((((Held.newAt _ [.string ⟨#[]⟩,.int .i64 0,.int .i64 0] 25 (by first | rfl | simp)).alloc _).alloc _).drew.below hb6)) (((Held.newAt _ aj 42 (by first | rfl | simp)).drew.below hb6)) ((((Held.newAt _ JB 69 (by first | rfl | simp)).alloc _).drew.below hb6)) (by (try simp);(try omega)) (by (try simp);(try omega)) (by (try simp);(try omega)) (by (try simp);(try omega)) (by (try simp);(try omega)) (by (try simp);(try omega)) hHeld (Reads.below (Reads.more kP (fun b hl h=>by (try simp at h);refine ⟨?_,?_,?_⟩ <;> (intro e;omega))) (Below.refl _ _))
 · go_simp
   refine hK.out _ _ ?ak4 (fun hHeld=>?_)
   case ak4=>(exact Below.alloc hHeld hHeld.size _)
   clear hK K
   try simp only [Act.put,la,lz,ls]
   refine wpAnyH_ready (rs:=[3,4,6]) (by kernel_rfl) (by simp) ?_
   refine AllReadyH.cons (o:=_) (ga rfl) (fun K hK=>?_) (AllReadyH.cons (o:=_) (ga rfl) (fun K hK=>?_) (AllReadyH.cons (o:=_) (ga rfl) (fun K hK=>?_) AllReadyH.nil))
   · go_simp
     (go_at_call 26;refine (abC (fun _=>True) x.x x.a x.c _ (Reads.below hF.rx hHeld) hF.fit).mono ?_;rintro e w6 ⟨A6,c6,rfl,kP,hb6⟩;have iR:W.heap.size≤w6.heap.size:=Nat.le_trans hHeld.size hb6.size)
     refine hK.out _ _ ?ahm (fun hHeld=>?_)
     case ahm=>(exact hHeld.trans (hb6.mono hHeld.size))
     clear hK K
     try simp only [Act.put,la,lz,ls]
     refine wpAnyH_ready (rs:=[4,6]) (by kernel_rfl) (by simp) ?_
     refine AllReadyH.cons (o:=_) (ga rfl) (fun K hK=>?_) (AllReadyH.cons (o:=_) (ga rfl) (fun K hK=>?_) AllReadyH.nil)
     · go_simp
       refine hK.out _ _ ?ai6 (fun hHeld=>?_)
       case ai6=>(exact Below.alloc hHeld hHeld.size _)
       clear hK K
       try simp only [Act.put,la,lz,ls]
       refine tr 6 fun K hK=>?_
       go_simp
       refine hK.out _ _ ?amm (fun hHeld=>?_)
       case amm=>(exact Below.alloc hHeld hHeld.size _)
       clear hK K
       try simp only [Act.put,la,lz,ls]
       have hq:W.heap.size+1≤w6.heap.size:=by have h:=hb6.size;simpa using h
       exact J _ _ _ A6 c6 _ (((Held.newAt _ [.string ⟨#[]⟩,.int .i64 0,.int .i64 0] 25 (by first | rfl | simp))).alloc _) (((((Held.newAt _ aj 42 (by first | rfl | simp)).drew.below hb6)).alloc _).alloc _) ((Held.newAt _ JB 69 (by first | rfl | simp))) (by (try simp);(try omega)) (by (try simp);(try omega)) (by (try simp);(try omega)) (by (try simp);(try omega)) (by (try simp);(try omega)) (by (try simp);(try omega)) hHeld (Reads.below (Reads.more kP (fun b hl h=>by (try simp at h);refine ⟨?_,?_,?_⟩ <;> (intro e;omega))) (((Below.refl _ _).alloc (by (try simp);(try omega)) _).alloc (by (try simp);(try omega)) _))
     · go_simp
       refine hK.out _ _ ?amv (fun hHeld=>?_)
       case amv=>(exact Below.alloc hHeld hHeld.size _)
       clear hK K
       try simp only [Act.put,la,lz,ls]
       refine tr 4 fun K hK=>?_
       go_simp
       refine hK.out _ _ ?ajd (fun hHeld=>?_)
       case ajd=>(exact Below.alloc hHeld hHeld.size _)
       clear hK K
       try simp only [Act.put,la,lz,ls]
       have hq:W.heap.size+1≤w6.heap.size:=by have h:=hb6.size;simpa using h
       exact J _ _ _ A6 c6 _ ((Held.newAt _ [.string ⟨#[]⟩,.int .i64 0,.int .i64 0] 25 (by first | rfl | simp))) (((((Held.newAt _ aj 42 (by first | rfl | simp)).drew.below hb6)).alloc _).alloc _) (((Held.newAt _ JB 69 (by first | rfl | simp))).alloc _) (by (try simp);(try omega)) (by (try simp);(try omega)) (by (try simp);(try omega)) (by (try simp);(try omega)) (by (try simp);(try omega)) (by (try simp);(try omega)) hHeld (Reads.below (Reads.more kP (fun b hl h=>by (try simp at h);refine ⟨?_,?_,?_⟩ <;> (intro e;omega))) (((Below.refl _ _).alloc (by (try simp);(try omega)) _).alloc (by (try simp);(try omega)) _))
   · go_simp
     refine hK.out _ _ ?ajk (fun hHeld=>?_)
     case ajk=>(exact Below.alloc hHeld hHeld.size _)
     clear hK K
     try simp only [Act.put,la,lz,ls]
     refine wpAnyH_ready (rs:=[3,6]) (by kernel_rfl) (by simp) ?_
     refine AllReadyH.cons (o:=_) (ga rfl) (fun K hK=>?_) (AllReadyH.cons (o:=_) (ga rfl) (fun K hK=>?_) AllReadyH.nil)
     · go_simp
       (go_at_call 26;refine (abC (fun _=>True) x.x x.a x.c _ (Reads.below hF.rx hHeld) hF.fit).mono ?_;rintro e w6 ⟨A6,c6,rfl,kP,hb6⟩;have iR:W.heap.size≤w6.heap.size:=Nat.le_trans hHeld.size hb6.size)
       refine hK.out _ _ ?ahu (fun hHeld=>?_)
       case ahu=>(exact hHeld.trans (hb6.mono hHeld.size))
       clear hK K
       try simp only [Act.put,la,lz,ls]
       refine tr 6 fun K hK=>?_
       go_simp
       refine hK.out _ _ ?amD (fun hHeld=>?_)
       case amD=>(exact Below.alloc hHeld hHeld.size _)
       clear hK K
       try simp only [Act.put,la,lz,ls]
       have hq:W.heap.size+2≤w6.heap.size:=by have h:=hb6.size;simpa using h
       exact J _ _ _ A6 c6 _ ((((Held.newAt _ [.string ⟨#[]⟩,.int .i64 0,.int .i64 0] 25 (by first | rfl | simp)).drew.below hb6)).alloc _) (((((Held.newAt _ aj 42 (by first | rfl | simp)).alloc _).drew.below hb6)).alloc _) ((Held.newAt _ JB 69 (by first | rfl | simp))) (by (try simp);(try omega)) (by (try simp);(try omega)) (by (try simp);(try omega)) (by (try simp);(try omega)) (by (try simp);(try omega)) (by (try simp);(try omega)) hHeld (Reads.below (Reads.more kP (fun b hl h=>by (try simp at h);refine ⟨?_,?_,?_⟩ <;> (intro e;omega))) ((Below.refl _ _).alloc (by (try simp);(try omega)) _))
     · go_simp
       refine hK.out _ _ ?amK (fun hHeld=>?_)
       case amK=>(exact Below.alloc hHeld hHeld.size _)
       clear hK K
       try simp only [Act.put,la,lz,ls]
       refine tr 3 fun K hK=>?_
       go_simp
       (go_at_call 26;refine (abC (fun _=>True) x.x x.a x.c _ (Reads.below hF.rx hHeld) hF.fit).mono ?_;rintro e w6 ⟨A6,c6,rfl,kP,hb6⟩;have iR:W.heap.size≤w6.heap.size:=Nat.le_trans hHeld.size hb6.size)
       refine hK.out _ _ ?ahC (fun hHeld=>?_)
       case ahC=>(exact hHeld.trans (hb6.mono hHeld.size))
       clear hK K
       try simp only [Act.put,la,lz,ls]
       have hq:W.heap.size+3≤w6.heap.size:=by have h:=hb6.size;simpa using h
       exact J _ _ _ A6 c6 _ ((((Held.newAt _ [.string ⟨#[]⟩,.int .i64 0,.int .i64 0] 25 (by first | rfl | simp)).alloc _).drew.below hb6)) (((((Held.newAt _ aj 42 (by first | rfl | simp)).alloc _).alloc _).drew.below hb6)) (((Held.newAt _ JB 69 (by first | rfl | simp)).drew.below hb6)) (by (try simp);(try omega)) (by (try simp);(try omega)) (by (try simp);(try omega)) (by (try simp);(try omega)) (by (try simp);(try omega)) (by (try simp);(try omega)) hHeld (Reads.below (Reads.more kP (fun b hl h=>by (try simp at h);refine ⟨?_,?_,?_⟩ <;> (intro e;omega))) (Below.refl _ _))
   · go_simp
     refine hK.out _ _ ?amR (fun hHeld=>?_)
     case amR=>(exact Below.alloc hHeld hHeld.size _)
     clear hK K
     try simp only [Act.put,la,lz,ls]
     refine wpAnyH_ready (rs:=[3,4]) (by kernel_rfl) (by simp) ?_
     refine AllReadyH.cons (o:=_) (ga rfl) (fun K hK=>?_) (AllReadyH.cons (o:=_) (ga rfl) (fun K hK=>?_) AllReadyH.nil)
     · go_simp
       (go_at_call 26;refine (abC (fun _=>True) x.x x.a x.c _ (Reads.below hF.rx hHeld) hF.fit).mono ?_;rintro e w6 ⟨A6,c6,rfl,kP,hb6⟩;have iR:W.heap.size≤w6.heap.size:=Nat.le_trans hHeld.size hb6.size)
       refine hK.out _ _ ?ahL (fun hHeld=>?_)
       case ahL=>(exact hHeld.trans (hb6.mono hHeld.size))
       clear hK K
       try simp only [Act.put,la,lz,ls]
       refine tr 4 fun K hK=>?_
       go_simp
       refine hK.out _ _ ?ajr (fun hHeld=>?_)
       case ajr=>(exact Below.alloc hHeld hHeld.size _)
       clear hK K
       try simp only [Act.put,la,lz,ls]
       have hq:W.heap.size+2≤w6.heap.size:=by have h:=hb6.size;simpa using h
       exact J _ _ _ A6 c6 _ ((Held.newAt _ [.string ⟨#[]⟩,.int .i64 0,.int .i64 0] 25 (by first | rfl | simp))) (((((Held.newAt _ aj 42 (by first | rfl | simp)).alloc _).drew.below hb6)).alloc _) ((((Held.newAt _ JB 69 (by first | rfl | simp)).drew.below hb6)).alloc _) (by (try simp);(try omega)) (by (try simp);(try omega)) (by (try simp);(try omega)) (by (try simp);(try omega)) (by (try simp);(try omega)) (by (try simp);(try omega)) hHeld (Reads.below (Reads.more kP (fun b hl h=>by (try simp at h);refine ⟨?_,?_,?_⟩ <;> (intro e;omega))) ((Below.refl _ _).alloc (by (try simp);(try omega)) _))
     · go_simp
       refine hK.out _ _ ?ajy (fun hHeld=>?_)
       case ajy=>(exact Below.alloc hHeld hHeld.size _)
       clear hK K
       try simp only [Act.put,la,lz,ls]
       refine tr 3 fun K hK=>?_
       go_simp
       (go_at_call 26;refine (abC (fun _=>True) x.x x.a x.c _ (Reads.below hF.rx hHeld) hF.fit).mono ?_;rintro e w6 ⟨A6,c6,rfl,kP,hb6⟩;have iR:W.heap.size≤w6.heap.size:=Nat.le_trans hHeld.size hb6.size)
       refine hK.out _ _ ?ahT (fun hHeld=>?_)
       case ahT=>(exact hHeld.trans (hb6.mono hHeld.size))
       clear hK K
       try simp only [Act.put,la,lz,ls]
       have hq:W.heap.size+3≤w6.heap.size:=by have h:=hb6.size;simpa using h
       exact J _ _ _ A6 c6 _ (((Held.newAt _ [.string ⟨#[]⟩,.int .i64 0,.int .i64 0] 25 (by first | rfl | simp)).drew.below hb6)) (((((Held.newAt _ aj 42 (by first | rfl | simp)).alloc _).alloc _).drew.below hb6)) ((((Held.newAt _ JB 69 (by first | rfl | simp)).alloc _).drew.below hb6)) (by (try simp);(try omega)) (by (try simp);(try omega)) (by (try simp);(try omega)) (by (try simp);(try omega)) (by (try simp);(try omega)) (by (try simp);(try omega)) hHeld (Reads.below (Reads.more kP (fun b hl h=>by (try simp at h);refine ⟨?_,?_,?_⟩ <;> (intro e;omega))) (Below.refl _ _))
 · go_simp
   refine hK.out _ _ ?amY (fun hHeld=>?_)
   case amY=>(exact Below.alloc hHeld hHeld.size _)
   clear hK K
   try simp only [Act.put,la,lz,ls]
   refine wpAnyH_ready (rs:=[3,4,5]) (by kernel_rfl) (by simp) ?_
   refine AllReadyH.cons (o:=_) (ga rfl) (fun K hK=>?_) (AllReadyH.cons (o:=_) (ga rfl) (fun K hK=>?_) (AllReadyH.cons (o:=_) (ga rfl) (fun K hK=>?_) AllReadyH.nil))
   · go_simp
     (go_at_call 26;refine (abC (fun _=>True) x.x x.a x.c _ (Reads.below hF.rx hHeld) hF.fit).mono ?_;rintro e w6 ⟨A6,c6,rfl,kP,hb6⟩;have iR:W.heap.size≤w6.heap.size:=Nat.le_trans hHeld.size hb6.size)
     refine hK.out _ _ ?ah1 (fun hHeld=>?_)
     case ah1=>(exact hHeld.trans (hb6.mono hHeld.size))
     clear hK K
     try simp only [Act.put,la,lz,ls]
     refine wpAnyH_ready (rs:=[4,5]) (by kernel_rfl) (by simp) ?_
     refine AllReadyH.cons (o:=_) (ga rfl) (fun K hK=>?_) (AllReadyH.cons (o:=_) (ga rfl) (fun K hK=>?_) AllReadyH.nil)
     · go_simp
       refine hK.out _ _ ?ajF (fun hHeld=>?_)
       case ajF=>(exact Below.alloc hHeld hHeld.size _)
       clear hK K
       try simp only [Act.put,la,lz,ls]
       refine tr 5 fun K hK=>?_
       go_simp
       refine hK.out _ _ ?alb (fun hHeld=>?_)
       case alb=>(exact Below.alloc hHeld hHeld.size _)
       clear hK K
       try simp only [Act.put,la,lz,ls]
       have hq:W.heap.size+1≤w6.heap.size:=by have h:=hb6.size;simpa using h
       exact J _ _ _ A6 c6 _ (((Held.newAt _ [.string ⟨#[]⟩,.int .i64 0,.int .i64 0] 25 (by first | rfl | simp))).alloc _) ((Held.newAt _ aj 42 (by first | rfl | simp))) (((((Held.newAt _ JB 69 (by first | rfl | simp)).drew.below hb6)).alloc _).alloc _) (by (try simp);(try omega)) (by (try simp);(try omega)) (by (try simp);(try omega)) (by (try simp);(try omega)) (by (try simp);(try omega)) (by (try simp);(try omega)) hHeld (Reads.below (Reads.more kP (fun b hl h=>by (try simp at h);refine ⟨?_,?_,?_⟩ <;> (intro e;omega))) (((Below.refl _ _).alloc (by (try simp);(try omega)) _).alloc (by (try simp);(try omega)) _))
     · go_simp
       refine hK.out _ _ ?ali (fun hHeld=>?_)
       case ali=>(exact Below.alloc hHeld hHeld.size _)
       clear hK K
       try simp only [Act.put,la,lz,ls]
       refine tr 4 fun K hK=>?_
       go_simp
       refine hK.out _ _ ?ajM (fun hHeld=>?_)
       case ajM=>(exact Below.alloc hHeld hHeld.size _)
       clear hK K
       try simp only [Act.put,la,lz,ls]
       have hq:W.heap.size+1≤w6.heap.size:=by have h:=hb6.size;simpa using h
       exact J _ _ _ A6 c6 _ ((Held.newAt _ [.string ⟨#[]⟩,.int .i64 0,.int .i64 0] 25 (by first | rfl | simp))) (((Held.newAt _ aj 42 (by first | rfl | simp))).alloc _) (((((Held.newAt _ JB 69 (by first | rfl | simp)).drew.below hb6)).alloc _).alloc _) (by (try simp);(try omega)) (by (try simp);(try omega)) (by (try simp);(try omega)) (by (try simp);(try omega)) (by (try simp);(try omega)) (by (try simp);(try omega)) hHeld (Reads.below (Reads.more kP (fun b hl h=>by (try simp at h);refine ⟨?_,?_,?_⟩ <;> (intro e;omega))) (((Below.refl _ _).alloc (by (try simp);(try omega)) _).alloc (by (try simp);(try omega)) _))
   · go_simp
     refine hK.out _ _ ?ajT (fun hHeld=>?_)
     case ajT=>(exact Below.alloc hHeld hHeld.size _)
     clear hK K
     try simp only [Act.put,la,lz,ls]
     refine wpAnyH_ready (rs:=[3,5]) (by kernel_rfl) (by simp) ?_
     refine AllReadyH.cons (o:=_) (ga rfl) (fun K hK=>?_) (AllReadyH.cons (o:=_) (ga rfl) (fun K hK=>?_) AllReadyH.nil)
     · go_simp
       (go_at_call 26;refine (abC (fun _=>True) x.x x.a x.c _ (Reads.below hF.rx hHeld) hF.fit).mono ?_;rintro e w6 ⟨A6,c6,rfl,kP,hb6⟩;have iR:W.heap.size≤w6.heap.size:=Nat.le_trans hHeld.size hb6.size)
       refine hK.out _ _ ?ah9 (fun hHeld=>?_)
       case ah9=>(exact hHeld.trans (hb6.mono hHeld.size))
       clear hK K
       try simp only [Act.put,la,lz,ls]
       refine tr 5 fun K hK=>?_
       go_simp
       refine hK.out _ _ ?alq (fun hHeld=>?_)
       case alq=>(exact Below.alloc hHeld hHeld.size _)
       clear hK K
       try simp only [Act.put,la,lz,ls]
       have hq:W.heap.size+2≤w6.heap.size:=by have h:=hb6.size;simpa using h
       exact J _ _ _ A6 c6 _ ((((Held.newAt _ [.string ⟨#[]⟩,.int .i64 0,.int .i64 0] 25 (by first | rfl | simp)).drew.below hb6)).alloc _) ((Held.newAt _ aj 42 (by first | rfl | simp))) (((((Held.newAt _ JB 69 (by first | rfl | simp)).alloc _).drew.below hb6)).alloc _) (by (try simp);(try omega)) (by (try simp);(try omega)) (by (try simp);(try omega)) (by (try simp);(try omega)) (by (try simp);(try omega)) (by (try simp);(try omega)) hHeld (Reads.below (Reads.more kP (fun b hl h=>by (try simp at h);refine ⟨?_,?_,?_⟩ <;> (intro e;omega))) ((Below.refl _ _).alloc (by (try simp);(try omega)) _))
     · go_simp
       refine hK.out _ _ ?alz (fun hHeld=>?_)
       case alz=>(exact Below.alloc hHeld hHeld.size _)
       clear hK K
       try simp only [Act.put,la,lz,ls]
       refine tr 3 fun K hK=>?_
       go_simp
       (go_at_call 26;refine (abC (fun _=>True) x.x x.a x.c _ (Reads.below hF.rx hHeld) hF.fit).mono ?_;rintro e w6 ⟨A6,c6,rfl,kP,hb6⟩;have iR:W.heap.size≤w6.heap.size:=Nat.le_trans hHeld.size hb6.size)
       refine hK.out _ _ ?aik (fun hHeld=>?_)
       case aik=>(exact hHeld.trans (hb6.mono hHeld.size))
       clear hK K
       try simp only [Act.put,la,lz,ls]
       have hq:W.heap.size+3≤w6.heap.size:=by have h:=hb6.size;simpa using h
       exact J _ _ _ A6 c6 _ ((((Held.newAt _ [.string ⟨#[]⟩,.int .i64 0,.int .i64 0] 25 (by first | rfl | simp)).alloc _).drew.below hb6)) (((Held.newAt _ aj 42 (by first | rfl | simp)).drew.below hb6)) (((((Held.newAt _ JB 69 (by first | rfl | simp)).alloc _).alloc _).drew.below hb6)) (by (try simp);(try omega)) (by (try simp);(try omega)) (by (try simp);(try omega)) (by (try simp);(try omega)) (by (try simp);(try omega)) (by (try simp);(try omega)) hHeld (Reads.below (Reads.more kP (fun b hl h=>by (try simp at h);refine ⟨?_,?_,?_⟩ <;> (intro e;omega))) (Below.refl _ _))
   · go_simp
     refine hK.out _ _ ?alG (fun hHeld=>?_)
     case alG=>(exact Below.alloc hHeld hHeld.size _)
     clear hK K
     try simp only [Act.put,la,lz,ls]
     refine wpAnyH_ready (rs:=[3,4]) (by kernel_rfl) (by simp) ?_
     refine AllReadyH.cons (o:=_) (ga rfl) (fun K hK=>?_) (AllReadyH.cons (o:=_) (ga rfl) (fun K hK=>?_) AllReadyH.nil)
     · go_simp
       (go_at_call 26;refine (abC (fun _=>True) x.x x.a x.c _ (Reads.below hF.rx hHeld) hF.fit).mono ?_;rintro e w6 ⟨A6,c6,rfl,kP,hb6⟩;have iR:W.heap.size≤w6.heap.size:=Nat.le_trans hHeld.size hb6.size)
       refine hK.out _ _ ?ait (fun hHeld=>?_)
       case ait=>(exact hHeld.trans (hb6.mono hHeld.size))
       clear hK K
       try simp only [Act.put,la,lz,ls]
       refine tr 4 fun K hK=>?_
       go_simp
       refine hK.out _ _ ?aj0 (fun hHeld=>?_)
       case aj0=>(exact Below.alloc hHeld hHeld.size _)
       clear hK K
       try simp only [Act.put,la,lz,ls]
       have hq:W.heap.size+2≤w6.heap.size:=by have h:=hb6.size;simpa using h
       exact J _ _ _ A6 c6 _ ((Held.newAt _ [.string ⟨#[]⟩,.int .i64 0,.int .i64 0] 25 (by first | rfl | simp))) ((((Held.newAt _ aj 42 (by first | rfl | simp)).drew.below hb6)).alloc _) (((((Held.newAt _ JB 69 (by first | rfl | simp)).alloc _).drew.below hb6)).alloc _) (by (try simp);(try omega)) (by (try simp);(try omega)) (by (try simp);(try omega)) (by (try simp);(try omega)) (by (try simp);(try omega)) (by (try simp);(try omega)) hHeld (Reads.below (Reads.more kP (fun b hl h=>by (try simp at h);refine ⟨?_,?_,?_⟩ <;> (intro e;omega))) ((Below.refl _ _).alloc (by (try simp);(try omega)) _))
     · go_simp
       refine hK.out _ _ ?aj9 (fun hHeld=>?_)
       case aj9=>(exact Below.alloc hHeld hHeld.size _)
       clear hK K
       try simp only [Act.put,la,lz,ls]
       refine tr 3 fun K hK=>?_
       go_simp
       (go_at_call 26;refine (abC (fun _=>True) x.x x.a x.c _ (Reads.below hF.rx hHeld) hF.fit).mono ?_;rintro e w6 ⟨A6,c6,rfl,kP,hb6⟩;have iR:W.heap.size≤w6.heap.size:=Nat.le_trans hHeld.size hb6.size)
       refine hK.out _ _ ?aiC (fun hHeld=>?_)
       case aiC=>(exact hHeld.trans (hb6.mono hHeld.size))
       clear hK K
       try simp only [Act.put,la,lz,ls]
       have hq:W.heap.size+3≤w6.heap.size:=by have h:=hb6.size;simpa using h
       exact J _ _ _ A6 c6 _ (((Held.newAt _ [.string ⟨#[]⟩,.int .i64 0,.int .i64 0] 25 (by first | rfl | simp)).drew.below hb6)) ((((Held.newAt _ aj 42 (by first | rfl | simp)).alloc _).drew.below hb6)) (((((Held.newAt _ JB 69 (by first | rfl | simp)).alloc _).alloc _).drew.below hb6)) (by (try simp);(try omega)) (by (try simp);(try omega)) (by (try simp);(try omega)) (by (try simp);(try omega)) (by (try simp);(try omega)) (by (try simp);(try omega)) hHeld (Reads.below (Reads.more kP (fun b hl h=>by (try simp at h);refine ⟨?_,?_,?_⟩ <;> (intro e;omega))) (Below.refl _ _))
theorem asY (W0:World) (r:M.Rules) (s:M.State) (x:Sh) (As:Option Addr) (cs:Nat) (HG:Hid (Glob W0)) (HN:Hid (aqO W0 r s x As cs)):aqH W0 r s x As cs:=by
 intro _ _ _ _ _ _ _ _ _ _ _ _ _ _ _ _ _ _ _ _ _ _ _ _ _ _ _ _ _ _ _ _ _ _ _ _ _ _ _ _ _ _ _ _ _ _ _ _ _ _ _ _ _ _ _ _ _ _ _ _ _ _ _ _ _ _ _ _ _ _ _ _ _ _ _ _ _ _ _ _ _ _ _ _ _ _ _ _ _ _ _ _ _ _ _ _ _ _ _ _ _ _ _ _ _ _ _ _ _ _ _ _ _ _ _ _ _ _ _ hf
 dsimp only [aa0,dQ,Tryz.f10,Option.getD]
 have hE:=hf
 obtain ⟨hF,B7,B8,B9,A9,c9,rfl,h7,rfl,h8,rfl,h9,hp9⟩:=id hE
 have hF':=hF
 obtain ⟨rfl,rfl,rfl,h3,h4,h5,hs,hx,hfit,hbw⟩:=hF'
 have k0:=h3.cell (j:=0) rfl
 have HG9:=hide (HG.out.below hbw)
 apply wp_seq_k
 intro K hK
 have HK:=hide hK
 clear hK
 apply wp_seq_k
 intro K2 hK2
 have PD:=hide hK2
 clear hK2
 by_cases hg:60<r.game.size
 · have hg':(60:Int)<(r.game.size:Int):=by omega
   go_wp2_with (first | (refine aN 42 (.tmp 8) rfl ?_;refine aG (h8) Tryz.underlying42 rfl ZP rfl (.tmp 8) rfl rfl ?_) | (refine aN 42 (.tmp 8) rfl ?_;refine su (h8) Tryz.underlying42 rfl ZP rfl (.tmp 8) rfl rfl ?_) | (refine vg 42 (.tmp 8) rfl ?_;refine sD (h8) Tryz.underlying42 rfl ZP (.tmp 8) rfl rfl ?_) | (refine aN 69 (.tmp 9) rfl ?_;refine aG (h9') Tryz.underlying69 rfl afD rfl (.tmp 9) rfl rfl ?_) | (refine aN 69 (.tmp 9) rfl ?_;refine su (h9') Tryz.underlying69 rfl afD rfl (.tmp 9) rfl rfl ?_) | (refine vg 69 (.tmp 9) rfl ?_;refine sD (h9') Tryz.underlying69 rfl afD (.tmp 9) rfl rfl ?_) | (go_at_call 34;refine (adM s As cs _ (bD.bd hs).2.2).mono ?_;rw [hd1];rintro e w1 ⟨rfl,hb1⟩;have HG9:=hide (HG9.out.below hb1);have h9':=h9.below hb1;have h7':=h7.below hb1;have h8':=h8.below hb1;dsimp only) | (go_at_call 27;refine (ZJ x.x A9 c9 _ (jl.bd hp9).2.2).mono ?_;rw [hd2];rintro e w2 ⟨rfl,hb2⟩;have HG9:=hide (HG9.out.below hb2);have aqe:=h7'.below hb2;have aql:=h8'.below hb2;have aqt:=h9'.below hb2;dsimp only))
   refine PD.out _ _ ?_
   go_wp2_with (first | (go_at_call 17;refine (QJ _ HG9.out).mono ?_;rintro e w9 ⟨rfl,U6⟩;dsimp only))
   go_ret
   exact ⟨rfl,VY hbw U6⟩
 · have hg':¬ (60:Int)<(r.game.size:Int):=by omega
   by_cases h20:s.ay.length≤20
   · have hd1:decide (s.ay.length≤20)=true:=decide_eq_true h20
     clear h20
     by_cases hsx:x.x.kind.size≤60∧x.x.aA.length≤18
     · have hd2:decide (x.x.kind.size≤60∧x.x.aA.length≤18)=true:=decide_eq_true hsx
       clear hsx
       go_wp2_with (first | (refine aN 42 (.tmp 8) rfl ?_;refine aG (h8) Tryz.underlying42 rfl ZP rfl (.tmp 8) rfl rfl ?_) | (refine aN 42 (.tmp 8) rfl ?_;refine su (h8) Tryz.underlying42 rfl ZP rfl (.tmp 8) rfl rfl ?_) | (refine vg 42 (.tmp 8) rfl ?_;refine sD (h8) Tryz.underlying42 rfl ZP (.tmp 8) rfl rfl ?_) | (refine aN 69 (.tmp 9) rfl ?_;refine aG (h9') Tryz.underlying69 rfl afD rfl (.tmp 9) rfl rfl ?_) | (refine aN 69 (.tmp 9) rfl ?_;refine su (h9') Tryz.underlying69 rfl afD rfl (.tmp 9) rfl rfl ?_) | (refine vg 69 (.tmp 9) rfl ?_;refine sD (h9') Tryz.underlying69 rfl afD (.tmp 9) rfl rfl ?_) | (go_at_call 34;refine (adM s As cs _ (bD.bd hs).2.2).mono ?_;rw [hd1];rintro e w1 ⟨rfl,hb1⟩;have HG9:=hide (HG9.out.below hb1);have h9':=h9.below hb1;have h7':=h7.below hb1;have h8':=h8.below hb1;dsimp only) | (go_at_call 27;refine (ZJ x.x A9 c9 _ (jl.bd hp9).2.2).mono ?_;rw [hd2];rintro e w2 ⟨rfl,hb2⟩;have HG9:=hide (HG9.out.below hb2);have aqe:=h7'.below hb2;have aql:=h8'.below hb2;have aqt:=h9'.below hb2;dsimp only))
       refine PD.out _ _ ?_
       go_wp2
       refine HK.out _ _ ?_
       apply HN.out
       exact (hE.below hb1).below hb2
     · have hd2:decide (x.x.kind.size≤60∧x.x.aA.length≤18)=false:=decide_eq_false hsx
       clear hsx
       go_wp2_with (first | (refine aN 42 (.tmp 8) rfl ?_;refine aG (h8) Tryz.underlying42 rfl ZP rfl (.tmp 8) rfl rfl ?_) | (refine aN 42 (.tmp 8) rfl ?_;refine su (h8) Tryz.underlying42 rfl ZP rfl (.tmp 8) rfl rfl ?_) | (refine vg 42 (.tmp 8) rfl ?_;refine sD (h8) Tryz.underlying42 rfl ZP (.tmp 8) rfl rfl ?_) | (refine aN 69 (.tmp 9) rfl ?_;refine aG (h9') Tryz.underlying69 rfl afD rfl (.tmp 9) rfl rfl ?_) | (refine aN 69 (.tmp 9) rfl ?_;refine su (h9') Tryz.underlying69 rfl afD rfl (.tmp 9) rfl rfl ?_) | (refine vg 69 (.tmp 9) rfl ?_;refine sD (h9') Tryz.underlying69 rfl afD (.tmp 9) rfl rfl ?_) | (go_at_call 34;refine (adM s As cs _ (bD.bd hs).2.2).mono ?_;rw [hd1];rintro e w1 ⟨rfl,hb1⟩;have HG9:=hide (HG9.out.below hb1);have h9':=h9.below hb1;have h7':=h7.below hb1;have h8':=h8.below hb1;dsimp only) | (go_at_call 27;refine (ZJ x.x A9 c9 _ (jl.bd hp9).2.2).mono ?_;rw [hd2];rintro e w2 ⟨rfl,hb2⟩;have HG9:=hide (HG9.out.below hb2);have aqe:=h7'.below hb2;have aql:=h8'.below hb2;have aqt:=h9'.below hb2;dsimp only))
       refine PD.out _ _ ?_
       go_wp2_with (first | (go_at_call 17;refine (QJ _ HG9.out).mono ?_;rintro e w9 ⟨rfl,U6⟩;dsimp only))
       go_ret
       exact ⟨rfl,VY (VY (VY hbw hb1) hb2) U6⟩
   · have hd1:decide (s.ay.length≤20)=false:=decide_eq_false h20
     clear h20
     go_wp2_with (first | (refine aN 42 (.tmp 8) rfl ?_;refine aG (h8) Tryz.underlying42 rfl ZP rfl (.tmp 8) rfl rfl ?_) | (refine aN 42 (.tmp 8) rfl ?_;refine su (h8) Tryz.underlying42 rfl ZP rfl (.tmp 8) rfl rfl ?_) | (refine vg 42 (.tmp 8) rfl ?_;refine sD (h8) Tryz.underlying42 rfl ZP (.tmp 8) rfl rfl ?_) | (refine aN 69 (.tmp 9) rfl ?_;refine aG (h9') Tryz.underlying69 rfl afD rfl (.tmp 9) rfl rfl ?_) | (refine aN 69 (.tmp 9) rfl ?_;refine su (h9') Tryz.underlying69 rfl afD rfl (.tmp 9) rfl rfl ?_) | (refine vg 69 (.tmp 9) rfl ?_;refine sD (h9') Tryz.underlying69 rfl afD (.tmp 9) rfl rfl ?_) | (go_at_call 34;refine (adM s As cs _ (bD.bd hs).2.2).mono ?_;rw [hd1];rintro e w1 ⟨rfl,hb1⟩;have HG9:=hide (HG9.out.below hb1);have h9':=h9.below hb1;have h7':=h7.below hb1;have h8':=h8.below hb1;dsimp only) | (go_at_call 27;refine (ZJ x.x A9 c9 _ (jl.bd hp9).2.2).mono ?_;rw [hd2];rintro e w2 ⟨rfl,hb2⟩;have HG9:=hide (HG9.out.below hb2);have aqe:=h7'.below hb2;have aql:=h8'.below hb2;have aqt:=h9'.below hb2;dsimp only))
     refine PD.out _ _ ?_
     go_wp2_with (first | (go_at_call 17;refine (QJ _ HG9.out).mono ?_;rintro e w9 ⟨rfl,U6⟩;dsimp only))
     go_ret
     exact ⟨rfl,VY (VY hbw hb1) U6⟩
theorem as6 (W0:World) (r:M.Rules) (s:M.State) (x:Sh) (As:Option Addr) (cs:Nat) (HG:Hid (Glob W0)) (HN:Hid (aqV W0 r s x As cs)):aqO W0 r s x As cs:=by
 intro _ _ _ _ _ _ _ _ _ _ _ _ _ _ _ _ _ _ _ _ _ _ _ _ _ _ _ _ _ _ _ _ _ _ _ _ _ _ _ _ _ _ _ _ _ _ _ _ _ _ _ _ _ _ _ _ _ _ _ _ _ _ _ _ _ _ _ _ _ _ _ _ _ _ _ _ _ _ _ _ _ _ _ _ _ _ _ _ _ _ _ _ _ _ _ _ _ _ _ _ _ _ _ _ _ _ _ _ _ _ _ _ _ _ _ _ _ _ W hf
 dsimp only [aa0,dQ,Tryz.f10,Option.getD]
 have hE:=hf
 obtain ⟨hF,B7,B8,B9,A9,c9,rfl,h7,rfl,h8,rfl,h9,hp9⟩:=id hE
 obtain ⟨rfl,rfl,rfl,h3,h4,h5,hs,hx,hfit,hbw⟩:=hF
 have hcl:=agi r s As cs W hs
 have JF:=hide hcl
 clear hcl
 apply wp_seq_k
 intro K hK
 have HK:=hide hK
 clear hK
 go_wp2_with (first | (refine aN 23 (.tmp 3) rfl ?_;refine aG (h3) Tryz.underlying23 rfl kV rfl (.tmp 3) rfl rfl ?_) | (refine aN 33 (.tmp 4) rfl ?_;refine aG (h4) Tryz.underlying33 rfl bW rfl (.tmp 4) rfl rfl ?_) | (refine aN 66 (.tmp 5) rfl ?_;refine aG (h5) Tryz.underlying66 rfl aV rfl (.tmp 5) rfl rfl ?_) | (go_at_call 48;refine JF.out.mono ?_;rintro e w1 ⟨A1,c1,rfl,hr1,hb1⟩;dsimp only))
 refine HK.out _ _ ?_
 apply HN.out
 exact ⟨hE.below hb1,⟨A1,c1,rfl,bD.more hr1 (fun _ _ _=>trivial)⟩,rfl⟩
theorem atd (W0:World) (r:M.Rules) (s:M.State) (x:Sh) (As:Option Addr) (cs:Nat) (HG:Hid (Glob W0)) (HN:Hid (aq2 W0 r s x As cs)):aqV W0 r s x As cs:=by
 intro _ _ _ _ _ _ _ _ _ _ _ _ _ _ _ _ _ _ _ _ _ _ _ _ _ _ _ _ _ _ _ _ _ _ _ _ _ _ _ _ _ _ _ _ _ _ _ _ _ _ _ _ _ _ _ _ _ _ _ _ _ _ _ _ _ _ _ _ _ _ _ _ _ _ _ _ _ _ _ _ _ _ _ _ _ _ _ _ _ _ _ _ _ _ _ _ _ _ _ _ _ _ _ _ _ _ _ _ _ _ _ _ _ _ _ _ _ _ W hf
 dsimp only [aa0,dQ,Tryz.f10,Option.getD]
 obtain ⟨hE,h10,rfl⟩:=hf
 obtain ⟨hF,B7,B8,B9,A9,c9,rfl,h7,rfl,h8,rfl,h9,hp9⟩:=id hE
 obtain ⟨rfl,rfl,rfl,h3,h4,h5,hs,hx,hfit,hbw⟩:=hF
 have hcl:=apy r s x.x As x.a cs x.c W hs hx
 have JF:=hide hcl
 clear hcl
 apply wp_seq_k
 intro K hK
 have HK:=hide hK
 clear hK
 go_wp2_with (first | (refine aN 23 (.tmp 3) rfl ?_;refine aG (h3) Tryz.underlying23 rfl kV rfl (.tmp 3) rfl rfl ?_) | (refine aN 33 (.tmp 4) rfl ?_;refine aG (h4) Tryz.underlying33 rfl bW rfl (.tmp 4) rfl rfl ?_) | (refine aN 66 (.tmp 5) rfl ?_;refine aG (h5) Tryz.underlying66 rfl aV rfl (.tmp 5) rfl rfl ?_) | (go_at_call 49;refine JF.out.mono ?_;rintro e w1 ⟨rfl,hb1⟩;dsimp only))
 refine HK.out _ _ ?_
 apply HN.out
 exact ⟨hE.below hb1,⟨h10.below hb1,rfl⟩,rfl,rfl⟩
theorem atl (W0:World) (r:M.Rules) (s:M.State) (x:Sh) (As:Option Addr) (cs:Nat) (HG:Hid (Glob W0)) (HN:Hid (aq9 W0 r s x As cs)):aq2 W0 r s x As cs:=by
 intro _ _ _ _ _ _ _ _ _ _ _ _ _ _ _ _ _ _ _ _ _ _ _ _ _ _ _ _ _ _ _ _ _ _ _ _ _ _ _ _ _ _ _ _ _ _ _ _ _ _ _ _ _ _ _ _ _ _ _ _ _ _ _ _ _ _ _ _ _ _ _ _ _ _ _ _ _ _ _ _ _ _ _ _ _ _ _ _ _ _ _ _ _ _ _ _ _ _ _ _ _ _ _ _ _ _ _ _ _ _ _ _ _ _ _ _ _ _ W hf
 dsimp only [aa0,dQ,Tryz.f10,Option.getD]
 obtain ⟨hE,⟨h10,rfl⟩,rfl,rfl⟩:=hf
 obtain ⟨hF,B7,B8,B9,A9,c9,rfl,h7,rfl,h8,rfl,h9,hp9⟩:=id hE
 obtain ⟨rfl,rfl,rfl,h3,h4,h5,hs,hx,hfit,hbw⟩:=hF
 have hcl:=agr _ r s x.x As x.a cs x.c W hs hx
 have JF:=hide hcl
 clear hcl
 apply wp_seq_k
 intro K hK
 have HK:=hide hK
 clear hK
 go_wp2_with (first | (refine aN 23 (.tmp 3) rfl ?_;refine aG (h3) Tryz.underlying23 rfl kV rfl (.tmp 3) rfl rfl ?_) | (refine aN 33 (.tmp 4) rfl ?_;refine aG (h4) Tryz.underlying33 rfl bW rfl (.tmp 4) rfl rfl ?_) | (refine aN 66 (.tmp 5) rfl ?_;refine aG (h5) Tryz.underlying66 rfl aV rfl (.tmp 5) rfl rfl ?_) | (go_at_call 50;refine JF.out.mono ?_;rintro e w1 ⟨rfl,hb1⟩;dsimp only))
 refine HK.out _ _ ?_
 apply HN.out
 exact ⟨hE.below hb1,⟨h10.below hb1,rfl⟩,⟨rfl,rfl⟩,rfl,rfl⟩
theorem att (W0:World) (r:M.Rules) (s:M.State) (x:Sh) (As:Option Addr) (cs:Nat) (HG:Hid (Glob W0)) (HN:Hid (arj W0 r s x As cs)):aq9 W0 r s x As cs:=by
 intro _ _ _ _ _ _ _ _ _ _ _ _ _ _ _ _ _ _ _ _ _ _ _ _ _ _ _ _ _ _ _ _ _ _ _ _ _ _ _ _ _ _ _ _ _ _ _ _ _ _ _ _ _ _ _ _ _ _ _ _ _ _ _ _ _ _ _ _ _ _ _ _ _ _ _ _ _ _ _ _ _ _ _ _ _ _ _ _ _ _ _ _ _ _ _ _ _ _ _ _ _ _ _ _ _ _ _ _ _ _ _ _ _ _ _ _ _ _ W hf
 dsimp only [aa0,dQ,Tryz.f10,Option.getD]
 obtain ⟨hE,⟨h10,rfl⟩,⟨rfl,rfl⟩,rfl,rfl⟩:=hf
 obtain ⟨hF,B7,B8,B9,A9,c9,rfl,h7,rfl,h8,rfl,h9,hp9⟩:=id hE
 obtain ⟨rfl,rfl,rfl,h3,h4,h5,hs,hx,hfit,hbw⟩:=hF
 have hcl:=ac9 _ r s As cs W hs
 have JF:=hide hcl
 clear hcl
 apply wp_seq_k
 intro K hK
 have HK:=hide hK
 clear hK
 go_wp2_with (first | (refine aN 25 (.tmp 7) rfl ?_;refine aG (h7) Tryz.underlying25 rfl aeQ rfl (.tmp 7) rfl rfl ?_) | (refine aN 25 (.tmp 7) rfl ?_;refine su (h7) Tryz.underlying25 rfl aeQ rfl (.tmp 7) rfl rfl ?_) | (refine vg 25 (.tmp 7) rfl ?_;refine sD (h7) Tryz.underlying25 rfl aeQ (.tmp 7) rfl rfl ?_) | (refine aN 42 (.tmp 8) rfl ?_;refine aG (h8) Tryz.underlying42 rfl ZP rfl (.tmp 8) rfl rfl ?_) | (refine aN 42 (.tmp 8) rfl ?_;refine su (h8) Tryz.underlying42 rfl ZP rfl (.tmp 8) rfl rfl ?_) | (refine vg 42 (.tmp 8) rfl ?_;refine sD (h8) Tryz.underlying42 rfl ZP (.tmp 8) rfl rfl ?_) | (refine aN 69 (.tmp 9) rfl ?_;refine aG (h9) Tryz.underlying69 rfl afD rfl (.tmp 9) rfl rfl ?_) | (refine aN 69 (.tmp 9) rfl ?_;refine su (h9) Tryz.underlying69 rfl afD rfl (.tmp 9) rfl rfl ?_) | (refine vg 69 (.tmp 9) rfl ?_;refine sD (h9) Tryz.underlying69 rfl afD (.tmp 9) rfl rfl ?_) | (go_at_call 43;refine JF.out.mono ?_;rintro e w1 ⟨rfl,hb1⟩;dsimp only))
 refine HK.out _ _ ?_
 apply HN.out
 exact ⟨hE.below hb1,⟨h10.below hb1,rfl⟩,⟨rfl,rfl⟩,⟨rfl,rfl⟩,rfl⟩
theorem atA (W0:World) (r:M.Rules) (s:M.State) (x:Sh) (As:Option Addr) (cs:Nat) (HG:Hid (Glob W0)) (HN:Hid (ars W0 r s x As cs)):arj W0 r s x As cs:=by
 intro _ _ _ _ _ _ _ _ _ _ _ _ _ _ _ _ _ _ _ _ _ _ _ _ _ _ _ _ _ _ _ _ _ _ _ _ _ _ _ _ _ _ _ _ _ _ _ _ _ _ _ _ _ _ _ _ _ _ _ _ _ _ _ _ _ _ _ _ _ _ _ _ _ _ _ _ _ _ _ _ _ _ _ _ _ _ _ _ _ _ _ _ _ _ _ _ _ _ _ _ _ _ _ _ _ _ _ _ _ _ _ _ _ _ _ _ _ _ W hf
 dsimp only [aa0,dQ,Tryz.f10,Option.getD]
 obtain ⟨hE,⟨h10,rfl⟩,⟨rfl,rfl⟩,⟨rfl,rfl⟩,rfl⟩:=hf
 obtain ⟨hF,B7,B8,B9,A9,c9,rfl,h7,rfl,h8,rfl,h9,hp9⟩:=id hE
 obtain ⟨rfl,rfl,rfl,h3,h4,h5,hs,hx,hfit,hbw⟩:=hF
 have hcl:=AL _ x.x A9 c9 W hp9
 have JF:=hide hcl
 clear hcl
 apply wp_seq_k
 intro K hK
 have HK:=hide hK
 clear hK
 go_wp2_with (first | (refine aN 25 (.tmp 7) rfl ?_;refine aG (h7) Tryz.underlying25 rfl aeQ rfl (.tmp 7) rfl rfl ?_) | (refine aN 25 (.tmp 7) rfl ?_;refine su (h7) Tryz.underlying25 rfl aeQ rfl (.tmp 7) rfl rfl ?_) | (refine vg 25 (.tmp 7) rfl ?_;refine sD (h7) Tryz.underlying25 rfl aeQ (.tmp 7) rfl rfl ?_) | (refine aN 42 (.tmp 8) rfl ?_;refine aG (h8) Tryz.underlying42 rfl ZP rfl (.tmp 8) rfl rfl ?_) | (refine aN 42 (.tmp 8) rfl ?_;refine su (h8) Tryz.underlying42 rfl ZP rfl (.tmp 8) rfl rfl ?_) | (refine vg 42 (.tmp 8) rfl ?_;refine sD (h8) Tryz.underlying42 rfl ZP (.tmp 8) rfl rfl ?_) | (refine aN 69 (.tmp 9) rfl ?_;refine aG (h9) Tryz.underlying69 rfl afD rfl (.tmp 9) rfl rfl ?_) | (refine aN 69 (.tmp 9) rfl ?_;refine su (h9) Tryz.underlying69 rfl afD rfl (.tmp 9) rfl rfl ?_) | (refine vg 69 (.tmp 9) rfl ?_;refine sD (h9) Tryz.underlying69 rfl afD (.tmp 9) rfl rfl ?_) | (go_at_call 30;refine JF.out.mono ?_;rintro e w1 ⟨rfl,hb1⟩;dsimp only) | (go_at_call 45;refine (aax (fun _=>True) _ _ [M.jf r s,M.cZ x.x] _ (bD.lit _ _ [M.jf r s,M.cZ x.x] (by simp) _ trivial)).mono ?_;rintro e dO ⟨rfl,rfl⟩))
 refine HK.out _ _ ?_
 apply HN.out
 exact ⟨(hE.below hb1).below ((Below.refl _ _).alloc (Nat.le_refl _) _),⟨(h10.below hb1).below ((Below.refl _ _).alloc (Nat.le_refl _) _),rfl⟩,⟨rfl,rfl⟩,⟨rfl,rfl⟩,rfl,rfl⟩
theorem atH (W0:World) (r:M.Rules) (s:M.State) (x:Sh) (As:Option Addr) (cs:Nat) (HG:Hid (Glob W0)) (HN:Hid (apT W0 r s x As cs)):ars W0 r s x As cs:=by
 intro _ _ _ _ _ _ _ _ _ _ _ _ _ _ _ _ _ _ _ _ _ _ _ _ _ _ _ _ _ _ _ _ _ _ _ _ _ _ _ _ _ _ _ _ _ _ _ _ _ _ _ _ _ _ _ _ _ _ _ _ _ _ _ _ _ _ _ _ _ _ _ _ _ _ _ _ _ _ _ _ _ _ _ _ _ _ _ _ _ _ _ _ _ _ _ _ _ _ _ _ _ _ _ _ _ _ _ _ _ _ _ _ _ _ _ _ _ _ W hf
 dsimp only [aa0,dQ,Tryz.f10,Option.getD]
 obtain ⟨hE,⟨h10,rfl⟩,⟨rfl,rfl⟩,⟨rfl,rfl⟩,rfl,rfl⟩:=hf
 obtain ⟨hF,B7,B8,B9,A9,c9,rfl,h7,rfl,h8,rfl,h9,hp9⟩:=id hE
 obtain ⟨rfl,rfl,rfl,h3,h4,h5,hs,hx,hfit,hbw⟩:=hF
 apply wp_seq_k
 intro K hK
 have HK:=hide hK
 clear hK
 go_wp2
 refine HK.out _ _ ?_
 apply wp_seq_k
 intro K hK
 have HK:=hide hK
 clear hK
 go_wp2
 refine HK.out _ _ ?_
 apply wp_seq_k
 intro K hK
 have HK:=hide hK
 clear hK
 go_wp2
 refine HK.out _ _ ?_
 apply wp_seq_k
 intro K hK
 have HK:=hide hK
 clear hK
 apply wp_seq_k
 intro K2 hK2
 have PD:=hide hK2
 clear hK2
 obtain ⟨e1,he1⟩:∃ E,M.jf r s=E:=⟨_,rfl⟩
 obtain ⟨e2,he2⟩:∃ E,aU [M.jf r s,M.cZ x.x]=E:=⟨_,rfl⟩
 have HE1:=hide he1
 have HE2:=hide he2
 rw [he2,he1]
 clear he1 he2
 by_cases q1:e1=0
 · subst q1
   obtain ⟨hr,hk⟩:=M.adW HE1.out
   have hcl:=abj _ r s As cs W hs hr hk.group
   have JF:=hide hcl
   clear hcl hr hk
   go_wp2
   refine PD.out _ _ ?_
   go_wp2_with (first | (refine aN 25 (.tmp 7) rfl ?_;refine aG (h7) Tryz.underlying25 rfl aeQ rfl (.tmp 7) rfl rfl ?_) | (refine aN 25 (.tmp 7) rfl ?_;refine su (h7) Tryz.underlying25 rfl aeQ rfl (.tmp 7) rfl rfl ?_) | (refine vg 25 (.tmp 7) rfl ?_;refine sD (h7) Tryz.underlying25 rfl aeQ (.tmp 7) rfl rfl ?_) | (refine aN 42 (.tmp 8) rfl ?_;refine aG (h8) Tryz.underlying42 rfl ZP rfl (.tmp 8) rfl rfl ?_) | (refine aN 42 (.tmp 8) rfl ?_;refine su (h8) Tryz.underlying42 rfl ZP rfl (.tmp 8) rfl rfl ?_) | (refine vg 42 (.tmp 8) rfl ?_;refine sD (h8) Tryz.underlying42 rfl ZP (.tmp 8) rfl rfl ?_) | (refine aN 69 (.tmp 9) rfl ?_;refine aG (h9) Tryz.underlying69 rfl afD rfl (.tmp 9) rfl rfl ?_) | (refine aN 69 (.tmp 9) rfl ?_;refine su (h9) Tryz.underlying69 rfl afD rfl (.tmp 9) rfl rfl ?_) | (refine vg 69 (.tmp 9) rfl ?_;refine sD (h9) Tryz.underlying69 rfl afD (.tmp 9) rfl rfl ?_) | (go_at_call 51;refine JF.out.mono ?_;rintro e w1 ⟨A1,c1,rfl,hr1,hb1⟩;dsimp only))
   refine HK.out _ _ ?_
   apply HN.out
   have hT:ruT r s=M.targets r s:=if_pos HE1.out
   rw [HE2.out,HE1.out]
   exact ⟨hE.below hb1,⟨h10.below hb1,rfl⟩,⟨rfl,rfl⟩,⟨rfl,rfl⟩,rfl,rfl,rfl,by rw [hT];exact ⟨A1,c1,rfl,bD.more hr1 (fun _ _ _=>trivial)⟩,rfl,rfl⟩
 · have q1':(e1 == 0)=false:=by simpa using q1
   have hT:ruT r s=[]:=if_neg (by rw [HE1.out];exact q1)
   have HT:=hide hT
   clear q1 hT
   go_wp2
   refine PD.out _ _ ?_
   go_wp2
   refine HK.out _ _ ?_
   apply HN.out
   have hT:=HT.out
   rw [HE2.out,HE1.out]
   exact ⟨hE,⟨h10,rfl⟩,⟨rfl,rfl⟩,⟨rfl,rfl⟩,rfl,rfl,rfl,by rw [hT];exact ⟨none,0,rfl,Reads.none_ _ _ _⟩,rfl,rfl⟩
theorem ar4 (W0:World) (r:M.Rules) (s:M.State) (x:Sh) (As:Option Addr) (cs:Nat) (HG:Hid (Glob W0)) (HN:Hid (ap0 W0 r s x As cs)):apT W0 r s x As cs:=by
 intro _ z1 z2 _ _ _ _ _ _ _ _ _ _ _ _ _ _ _ _ _ _ _ _ _ _ _ _ _ _ _ _ _ _ _ _ _ _ _ _ _ _ _ _ _ _ _ _ _ _ _ _ _ _ _ _ _ _ _ _ _ _ _ _ _ _ _ _ _ _ _ _ _ _ _ _ _ _ _ _ _ _ _ _ _ _ _ _ _ _ _ _ _ _ _ _ _ _ _ _ _ _ _ _ _ _ _ _ _ _ _ _ _ _ _ _ _ _ _ W hf
 dsimp only [aa0,dQ,Tryz.f10,Option.getD]
 obtain ⟨hE,⟨h10,rfl⟩,⟨rfl,rfl⟩,⟨rfl,rfl⟩,rfl,rfl,rfl,h19,rfl,rfl⟩:=hf
 obtain ⟨hF,B7,B8,B9,A9,c9,rfl,h7,rfl,h8,rfl,h9,hp9⟩:=id hE
 obtain ⟨rfl,rfl,rfl,h3,h4,h5,hs,hx,hfit,hbw⟩:=hF
 apply wp_seq_k
 intro K hK
 have HK:=hide hK
 clear hK
 apply wp_seq_k
 intro K2 hK2
 have PD:=hide hK2
 clear hK2
 obtain ⟨e2,he2⟩:∃ E,aU [M.jf r s,M.cZ x.x]=E:=⟨_,rfl⟩
 have HE2:=hide he2
 rw [he2]
 clear he2
 by_cases q2:e2=0
 · subst q2
   obtain ⟨z1,z2⟩:=acP HE2.out
   obtain ⟨hr,hk⟩:=M.adW z1
   obtain ⟨lg,Vb⟩:∃ l,M.legal r s x.x=l:=⟨_,rfl⟩
   have Vh:=apr (f:=0) HE2.out Vb
   have hcl:=afj _ r s x.x As A9 cs c9 W hs hp9
   rw [Vb] at hcl
   have JF:=hide hcl
   have UE:=hide Vh
   have hfl:=fun W' h h'=>afX (fun _=>True) r s x.x As A9 cs c9 W' h h' hr hk.group
   have Pz:=hide hfl
   clear hcl hr hk Vb Vh hfl z1 z2
   go_wp2
   refine PD.out _ _ ?_
   by_cases q3:lg=0
   · subst q3
     go_wp2_with (first | (refine aN 25 (.tmp 7) rfl ?_;refine aG (h7) Tryz.underlying25 rfl aeQ rfl (.tmp 7) rfl rfl ?_) | (refine aN 25 (.tmp 7) rfl ?_;refine su (h7) Tryz.underlying25 rfl aeQ rfl (.tmp 7) rfl rfl ?_) | (refine vg 25 (.tmp 7) rfl ?_;refine sD (h7) Tryz.underlying25 rfl aeQ (.tmp 7) rfl rfl ?_) | (refine aN 42 (.tmp 8) rfl ?_;refine aG (h8) Tryz.underlying42 rfl ZP rfl (.tmp 8) rfl rfl ?_) | (refine aN 42 (.tmp 8) rfl ?_;refine su (h8) Tryz.underlying42 rfl ZP rfl (.tmp 8) rfl rfl ?_) | (refine vg 42 (.tmp 8) rfl ?_;refine sD (h8) Tryz.underlying42 rfl ZP (.tmp 8) rfl rfl ?_) | (refine aN 69 (.tmp 9) rfl ?_;refine aG (h9) Tryz.underlying69 rfl afD rfl (.tmp 9) rfl rfl ?_) | (refine aN 69 (.tmp 9) rfl ?_;refine su (h9) Tryz.underlying69 rfl afD rfl (.tmp 9) rfl rfl ?_) | (refine vg 69 (.tmp 9) rfl ?_;refine sD (h9) Tryz.underlying69 rfl afD (.tmp 9) rfl rfl ?_) | (refine aN 25 (.tmp 7) rfl ?_;refine aG (h7.below hb1) Tryz.underlying25 rfl aeQ rfl (.tmp 7) rfl rfl ?_) | (refine aN 25 (.tmp 7) rfl ?_;refine su (h7.below hb1) Tryz.underlying25 rfl aeQ rfl (.tmp 7) rfl rfl ?_) | (refine vg 25 (.tmp 7) rfl ?_;refine sD (h7.below hb1) Tryz.underlying25 rfl aeQ (.tmp 7) rfl rfl ?_) | (refine aN 42 (.tmp 8) rfl ?_;refine aG (h8.below hb1) Tryz.underlying42 rfl ZP rfl (.tmp 8) rfl rfl ?_) | (refine aN 42 (.tmp 8) rfl ?_;refine su (h8.below hb1) Tryz.underlying42 rfl ZP rfl (.tmp 8) rfl rfl ?_) | (refine vg 42 (.tmp 8) rfl ?_;refine sD (h8.below hb1) Tryz.underlying42 rfl ZP (.tmp 8) rfl rfl ?_) | (refine aN 69 (.tmp 9) rfl ?_;refine aG (h9.below hb1) Tryz.underlying69 rfl afD rfl (.tmp 9) rfl rfl ?_) | (refine aN 69 (.tmp 9) rfl ?_;refine su (h9.below hb1) Tryz.underlying69 rfl afD rfl (.tmp 9) rfl rfl ?_) | (refine vg 69 (.tmp 9) rfl ?_;refine sD (h9.below hb1) Tryz.underlying69 rfl afD (.tmp 9) rfl rfl ?_) | (go_at_call 46;refine JF.out.mono ?_;rintro e w1 ⟨rfl,hb1⟩;dsimp only) | (go_at_call 52;refine (Pz.out _ (hs.below hb1) (Reads.below hp9 hb1)).mono ?_;rintro e w2 ⟨rfl,hb2⟩;dsimp only))
     refine HK.out _ _ ?_
     apply HN.out
     obtain ⟨u1,u2,_,u4⟩:=UE.out
     rw [HE2.out,u1,u2,u4 (by simp)]
     exact ⟨(hE.below hb1).below hb2,⟨(h10.below hb1).below hb2,rfl⟩,⟨rfl,rfl⟩,⟨rfl,rfl⟩,rfl,rfl,rfl,(h19.below hb1).below hb2,rfl,rfl⟩
   · have q3':(lg != 0)=true:=by simpa using q3
     have HQ:=hide q3
     clear q3
     go_wp2_with (first | (refine aN 25 (.tmp 7) rfl ?_;refine aG (h7) Tryz.underlying25 rfl aeQ rfl (.tmp 7) rfl rfl ?_) | (refine aN 25 (.tmp 7) rfl ?_;refine su (h7) Tryz.underlying25 rfl aeQ rfl (.tmp 7) rfl rfl ?_) | (refine vg 25 (.tmp 7) rfl ?_;refine sD (h7) Tryz.underlying25 rfl aeQ (.tmp 7) rfl rfl ?_) | (refine aN 42 (.tmp 8) rfl ?_;refine aG (h8) Tryz.underlying42 rfl ZP rfl (.tmp 8) rfl rfl ?_) | (refine aN 42 (.tmp 8) rfl ?_;refine su (h8) Tryz.underlying42 rfl ZP rfl (.tmp 8) rfl rfl ?_) | (refine vg 42 (.tmp 8) rfl ?_;refine sD (h8) Tryz.underlying42 rfl ZP (.tmp 8) rfl rfl ?_) | (refine aN 69 (.tmp 9) rfl ?_;refine aG (h9) Tryz.underlying69 rfl afD rfl (.tmp 9) rfl rfl ?_) | (refine aN 69 (.tmp 9) rfl ?_;refine su (h9) Tryz.underlying69 rfl afD rfl (.tmp 9) rfl rfl ?_) | (refine vg 69 (.tmp 9) rfl ?_;refine sD (h9) Tryz.underlying69 rfl afD (.tmp 9) rfl rfl ?_) | (go_at_call 46;refine JF.out.mono ?_;rintro e w1 ⟨rfl,hb1⟩;dsimp only))
     refine HK.out _ _ ?_
     apply HN.out
     obtain ⟨u1,u2,u3,_⟩:=UE.out
     rw [if_pos HQ.out] at u2
     rw [HE2.out,u1,u2,u3 HQ.out]
     exact ⟨hE.below hb1,⟨h10.below hb1,rfl⟩,⟨rfl,rfl⟩,⟨rfl,rfl⟩,rfl,rfl,rfl,h19.below hb1,rfl,rfl⟩
 · have q2':(e2 == 0)=false:=by simpa using q2
   have Vh:=apM HE2.out q2
   have UE:=hide Vh
   clear q2 Vh
   go_wp2
   refine PD.out _ _ ?_
   go_wp2
   refine HK.out _ _ ?_
   apply HN.out
   obtain ⟨u1,u2,u3⟩:=UE.out
   rw [HE2.out,u1,u2,u3]
   exact ⟨hE,⟨h10,rfl⟩,⟨rfl,rfl⟩,⟨rfl,rfl⟩,rfl,rfl,rfl,h19,rfl,rfl⟩
theorem asb (W0:World) (r:M.Rules) (s:M.State) (x:Sh) (As:Option Addr) (cs:Nat) (HG:Hid (Glob W0)):ap0 W0 r s x As cs:=by
 intro _ _ _ _ _ _ _ _ _ _ _ _ _ _ _ _ _ _ _ _ _ _ _ _ _ _ _ _ _ _ _ _ _ _ _ _ _ _ _ _ _ _ _ _ _ _ _ _ _ _ _ _ _ _ _ _ _ _ _ _ _ _ _ _ _ _ _ _ _ _ _ _ _ _ _ _ _ _ _ _ _ _ _ _ _ _ _ _ _ _ _ _ _ _ _ _ _ _ _ _ _ _ _ _ _ _ _ _ _ _ _ _ _ _ _ _ _ _ W hf
 dsimp only [aa0,dQ,Tryz.f10,Option.getD]
 obtain ⟨hE,⟨h10,rfl⟩,⟨rfl,rfl⟩,⟨rfl,rfl⟩,rfl,rfl,rfl,h19,rfl,rfl⟩:=hf
 obtain ⟨hF,B7,B8,B9,A9,c9,rfl,h7,rfl,h8,rfl,h9,hp9⟩:=id hE
 obtain ⟨rfl,rfl,rfl,h3,h4,h5,hs,hx,hfit,hbw⟩:=hF
 obtain ⟨A1,c1,rfl,hi1⟩:=h10
 obtain ⟨A2,c2,rfl,hi2⟩:=h19
 have HG9:=hide (HG.out.below hbw)
 clear h3 h4 h5 h7 h8 h9 hs hx hp9 hfit hE
 generalize ruT r s=l at*
 generalize M.jf r s=e1 at*
 generalize aU [e1,M.cZ x.x]=e2 at*
 generalize ruL r s x.x=e3 at*
 generalize ab1 r s x.x=e4 at*
 generalize abS r s x.x=e5 at*
 have q1:(e1 == e1)=true:=beq_self_eq_true _
 have q2:(e2 == e2)=true:=beq_self_eq_true _
 have q3:(e3 == e3)=true:=beq_self_eq_true _
 have q4:(e4 == e4)=true:=beq_self_eq_true _
 have q5:(e5 == e5)=true:=beq_self_eq_true _
 apply wp_seq_k
 intro K hK
 have HK:=hide hK
 clear hK
 go_wp2_with (first | (go_at_call 53;refine (Dp _ A1 A2 c1 c2 l l W hi1 hi2).mono ?_;rw [decide_eq_true (rfl:l=l)];rintro e w2 ⟨rfl,n2,rfl⟩;have HG9:=hide (HG9.out.below (below_drewN (Below.refl _ _) n2));dsimp only) | (go_at_call 17;refine (QJ _ HG9.out).mono ?_;rintro e w9 ⟨rfl,U6⟩;dsimp only))
 refine HK.out _ _ ?_
 go_wp2
 go_ret
 exact ⟨rfl,VY (below_drewN hbw n2) U6⟩
theorem am5 (W0:World) (hg:Glob W0) (r:M.Rules) (s:M.State) (As:Option Addr) (cs:Nat) (x:Sh) (hs:bD W0 (fun _=>True) As cs s.ay) (hf:acO W0 x):
 Calls Tryz.prog 10 #[jM r,wF s As cs,iO x.x x.a x.c] W0 fun e w'=>e= .returned (.bool true)∧Below W0.heap.size W0 w':=by
 have HG:=hide hg
 have hall:=asQ W0 r s x As cs HG (hide (asY W0 r s x As cs HG (hide (as6 W0 r s x As cs HG (hide (atd W0 r s x As cs HG (hide (atl W0 r s x As cs HG (hide (att W0 r s x As cs HG (hide (atA W0 r s x As cs HG (hide (atH W0 r s x As cs HG (hide (ar4 W0 r s x As cs HG (hide (asb W0 r s x As cs HG))))))))))))))))))
 have asj:=hide hall
 clear hall
 go_enter Tryz.func10,Tryz.ntmps10
 apply wp_seq_k
 intro K hK
 have HK:=hide hK
 clear hK
 have hB:=(((bU.nil W0).new (by simp) ([.string r.game,.int .i64 r.target,.int .i64 r.aY]) 23).new (by simp) (aW s As cs) 33).new (by simp) (au x) 66
 go_wp2
 refine HK.out _ _ ?_
 have HA:=asj.out
 apply HA
 exact ⟨rfl,rfl,rfl,hB.bf rfl,hB.get 1 rfl,hB.get 2 rfl,hs.below hB.bw,Reads.below hf.1 hB.bw,hf.2,hB.bw⟩
end Go.Proofs.YtelpepbpdojikaaGreatDoor
