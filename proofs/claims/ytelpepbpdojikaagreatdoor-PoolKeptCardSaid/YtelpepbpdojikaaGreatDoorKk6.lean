/- Parts of the proofs about chapter 5 (pool), joined by program. -/
import Derived.Test.YtelpepbpdojikaaGreatDoorKh11
import Derived.Test.YtelpepbpdojikaaGreatDoorKk0
import Derived.Test.YtelpepbpdojikaaGreatDoorKk3
import Derived.Test.YtelpepbpdojikaaGreatDoorKk5
import Derived.Test.YtelpepbpdojikaaGreatDoorKk7
set_option maxHeartbeats 8000000
set_option maxRecDepth 100000
set_option linter.unusedVariables false
set_option linter.unusedSimpArgs false
namespace Go.Proofs.YtelpepbpdojikaaGreatDoor
open Go.RowKit
theorem abj {md:Region.Mode} {ops:Array Oper} {Q:Exit→Act→World→Prop} {S:World→Prop} {fuel:Nat} {listed:Array Bool} {a:Act} {w:World} {i:Nat} {o:Oper} {g:Nat} {cs:List Value} {t:TypeId} (ho:ops[i]? =some o) (hw:Region.wanted o (yielded ops a.tmps)=true)
 (h:Held w g cs t) (vs:List Value) (hl:vs.length=cs.length) (hi:(Tryz.prog.info? t).map (·.size)=some cs.length) (h1:∀ v∈vs,v.oneCell'=true) (x y:Operand) (hop:o.op= .store t x y) (hx:a.eval x= .pointer (some ⟨g,0,none⟩)) (hy:a.eval y= .agg vs.toArray)
 (hS:S (w.setCells g 0 vs)) (k:wpAnyH Tryz.prog md ops Q S fuel (listed.setIfInBounds i true) (a.put o.dst undef) (w.setCells g 0 vs)):AllReadyH Tryz.prog md ops Q S fuel listed a w [i]:=
 AllReadyH.cons ho (fun K hK=>by rw [if_pos hw];exact bF h vs hl hi h1 x y hop hx hy (hK.out _ _ hS (fun _=>k))) AllReadyH.nil
noncomputable def aal (n:Nat):Code:=dQ n ((Tryz.f11).body.getD .skip)
structure afH (r:M.Rules) (s:M.State) (x:M.aI):Prop where
 ck:M.jf r s=0
 sh:M.cZ x=0
 lg:M.legal r s x=0
 nu:M.iP r (M.next r s x)=0
theorem amY (r:M.Rules) (s:M.State) (x:M.aI) (A P:Option Addr) (c d:Nat) (w:World) (h1:M.jf r s=0) (h2:M.cZ x=0) (hp:bD w (fun _=>True) A c s.ay) (hpp:jl w (fun _=>True) P d x.aA):
 Calls Tryz.prog 49 #[jM r,wF s A c,iO x P d] w fun e w'=>e= .returned (.tuple #[.int .i64 (M.legal r s x),.int .i64 0])∧Below w.heap.size w w':=by
 have h0:aU [M.jf r s,M.cZ x]=0:=by rw [h1,h2];rfl
 have h:=afz _ r s x A P c d w hp hpp
 rw [h0,if_pos rfl] at h
 exact h
theorem ao4 {r:M.Rules} {s:M.State} {x:M.aI} (h1:M.jf r s=0) (h2:M.cZ x=0):aaB r s x=if M.legal r s x≠0 then 18 else M.iP r (M.next r s x):=by
 unfold aaB
 rw [h1,h2]
 rfl
theorem am5 {r:M.Rules} {s:M.State} (h:M.iP r s=0):(-99999≤s.s0∧s.s0≤99999)∧(-99999≤s.s1∧s.s1≤99999):=⟨(M.abJ.1 h).1,(M.abJ.1 h).2.1⟩
theorem acX:(Tryz.prog.info? 107).map (·.size)=some 2:=by kernel_rfl
def afa (q:M.rD):List Value:=[.int .i64 q.aJ,.int .i64 q.aP]
theorem afj (q:M.rD):∀ v∈afa q,v.oneCell'=true:=by simp [afa,Value.oneCell']
@[reducible] def asv (W0:World) (r:M.Rules) (s:M.State) (x:Sh) (As:Option Addr) (cs:Nat):Prop:=∀ (z0 z1 z2 z3 z4 z5 z6 z7 z8 z9 z10 z11 z12 z13 kD kK kF z17 kL jQ z20 z21 z22 z23 z24 z25 z26 z27 z28 z29 z30 z31 z32 z33 z34 z35 z36 z37 z38 z39 z40 z41 z42 z43 z44 z45 z46 z47 z48 z49 z50 z51 z52 z53 z54 z55 z56 z57 z58 z59 z60 z61 z62 z63 z64 z65 z66 z67 z68 z69 z70 z71 z72 z73 z74 z75 z76 z77 z78 z79 z80 mM z82 z83 z84 z85 z86 z87 mO z89 mP z91 mQ z93 mV mW mX mY mZ ng eU eX eY fA fB z105 fC z107 fD z109 fF fG fH fJ fK fM z116 z117 fO z119 fP fQ fU fV z124 fZ gq z127 gu gy z130 z131 gB gG gI gJ gK gQ z138 z139 gU z141 gV z143 gW z145 z146 gZ z148 ig iq iw z152 iy z154 iC z156 z157 iD z159 z160 iE z162 iF z164 iG iH z167 z168 nK nM z171 nN z173 nO z175 nP nR nS nT nU nV z182 z183 nX nY nZ og oh oq ou oz oC z193 z194 oD z196 oG z198 oH oI z201 oJ z203 oK oL z206 oM z208 oN z210 oO z212 z213 oP oQ:Value) (W:World),(StA W0 r s x As cs z3 z4 z5 W)→(aal 1).wp Tryz.prog (bodyPost Tryz.prog Tryz.f11 (fun e w'=>e= .returned (.bool true)∧Below W0.heap.size W0 w')) {tmps:= #[z0,z1,z2,z3,z4,z5,z6,z7,z8,z9,z10,z11,z12,z13,kD,kK,kF,z17,kL,jQ,z20,z21,z22,z23,z24,z25,z26,z27,z28,z29,z30,z31,z32,z33,z34,z35,z36,z37,z38,z39,z40,z41,z42,z43,z44,z45,z46,z47,z48,z49,z50,z51,z52,z53,z54,z55,z56,z57,z58,z59,z60,z61,z62,z63,z64,z65,z66,z67,z68,z69,z70,z71,z72,z73,z74,z75,z76,z77,z78,z79,z80,mM,z82,z83,z84,z85,z86,z87,mO,z89,mP,z91,mQ,z93,mV,mW,mX,mY,mZ,ng,eU,eX,eY,fA,fB,z105,fC,z107,fD,z109,fF,fG,fH,fJ,fK,fM,z116,z117,fO,z119,fP,fQ,fU,fV,z124,fZ,gq,z127,gu,gy,z130,z131,gB,gG,gI,gJ,gK,gQ,z138,z139,gU,z141,gV,z143,gW,z145,z146,gZ,z148,ig,iq,iw,z152,iy,z154,iC,z156,z157,iD,z159,z160,iE,z162,iF,z164,iG,iH,z167,z168,nK,nM,z171,nN,z173,nO,z175,nP,nR,nS,nT,nU,nV,z182,z183,nX,nY,nZ,og,oh,oq,ou,oz,oC,z193,z194,oD,z196,oG,z198,oH,oI,z201,oJ,z203,oK,oL,z206,oM,z208,oN,z210,oO,z212,z213,oP,oQ],defers:=[] } W
@[reducible] def aql (W0:World) (r:M.Rules) (s:M.State) (x:Sh) (As:Option Addr) (cs:Nat):Prop:=∀ (z0 z1 z2 z3 z4 z5 z6 z7 z8 z9 z10 z11 z12 z13 kD kK kF z17 kL jQ z20 z21 z22 z23 z24 z25 z26 z27 z28 z29 z30 z31 z32 z33 z34 z35 z36 z37 z38 z39 z40 z41 z42 z43 z44 z45 z46 z47 z48 z49 z50 z51 z52 z53 z54 z55 z56 z57 z58 z59 z60 z61 z62 z63 z64 z65 z66 z67 z68 z69 z70 z71 z72 z73 z74 z75 z76 z77 z78 z79 z80 mM z82 z83 z84 z85 z86 z87 mO z89 mP z91 mQ z93 mV mW mX mY mZ ng eU eX eY fA fB z105 fC z107 fD z109 fF fG fH fJ fK fM z116 z117 fO z119 fP fQ fU fV z124 fZ gq z127 gu gy z130 z131 gB gG gI gJ gK gQ z138 z139 gU z141 gV z143 gW z145 z146 gZ z148 ig iq iw z152 iy z154 iC z156 z157 iD z159 z160 iE z162 iF z164 iG iH z167 z168 nK nM z171 nN z173 nO z175 nP nR nS nT nU nV z182 z183 nX nY nZ og oh oq ou oz oC z193 z194 oD z196 oG z198 oH oI z201 oJ z203 oK oL z206 oM z208 oN z210 oO z212 z213 oP oQ:Value) (W:World),(StB W0 r s x As cs z3 z4 z5 z7 z8 z9 W)→(aal 2).wp Tryz.prog (bodyPost Tryz.prog Tryz.f11 (fun e w'=>e= .returned (.bool true)∧Below W0.heap.size W0 w')) {tmps:= #[z0,z1,z2,z3,z4,z5,z6,z7,z8,z9,z10,z11,z12,z13,kD,kK,kF,z17,kL,jQ,z20,z21,z22,z23,z24,z25,z26,z27,z28,z29,z30,z31,z32,z33,z34,z35,z36,z37,z38,z39,z40,z41,z42,z43,z44,z45,z46,z47,z48,z49,z50,z51,z52,z53,z54,z55,z56,z57,z58,z59,z60,z61,z62,z63,z64,z65,z66,z67,z68,z69,z70,z71,z72,z73,z74,z75,z76,z77,z78,z79,z80,mM,z82,z83,z84,z85,z86,z87,mO,z89,mP,z91,mQ,z93,mV,mW,mX,mY,mZ,ng,eU,eX,eY,fA,fB,z105,fC,z107,fD,z109,fF,fG,fH,fJ,fK,fM,z116,z117,fO,z119,fP,fQ,fU,fV,z124,fZ,gq,z127,gu,gy,z130,z131,gB,gG,gI,gJ,gK,gQ,z138,z139,gU,z141,gV,z143,gW,z145,z146,gZ,z148,ig,iq,iw,z152,iy,z154,iC,z156,z157,iD,z159,z160,iE,z162,iF,z164,iG,iH,z167,z168,nK,nM,z171,nN,z173,nO,z175,nP,nR,nS,nT,nU,nV,z182,z183,nX,nY,nZ,og,oh,oq,ou,oz,oC,z193,z194,oD,z196,oG,z198,oH,oI,z201,oJ,z203,oK,oL,z206,oM,z208,oN,z210,oO,z212,z213,oP,oQ],defers:=[] } W
@[reducible] def aqt (W0:World) (r:M.Rules) (s:M.State) (x:Sh) (As:Option Addr) (cs:Nat):Prop:=∀ (z0 z1 z2 z3 z4 z5 z6 z7 z8 z9 z10 z11 z12 z13 kD kK kF z17 kL jQ z20 z21 z22 z23 z24 z25 z26 z27 z28 z29 z30 z31 z32 z33 z34 z35 z36 z37 z38 z39 z40 z41 z42 z43 z44 z45 z46 z47 z48 z49 z50 z51 z52 z53 z54 z55 z56 z57 z58 z59 z60 z61 z62 z63 z64 z65 z66 z67 z68 z69 z70 z71 z72 z73 z74 z75 z76 z77 z78 z79 z80 mM z82 z83 z84 z85 z86 z87 mO z89 mP z91 mQ z93 mV mW mX mY mZ ng eU eX eY fA fB z105 fC z107 fD z109 fF fG fH fJ fK fM z116 z117 fO z119 fP fQ fU fV z124 fZ gq z127 gu gy z130 z131 gB gG gI gJ gK gQ z138 z139 gU z141 gV z143 gW z145 z146 gZ z148 ig iq iw z152 iy z154 iC z156 z157 iD z159 z160 iE z162 iF z164 iG iH z167 z168 nK nM z171 nN z173 nO z175 nP nR nS nT nU nV z182 z183 nX nY nZ og oh oq ou oz oC z193 z194 oD z196 oG z198 oH oI z201 oJ z203 oK oL z206 oM z208 oN z210 oO z212 z213 oP oQ:Value) (W:World),(StB W0 r s x As cs z3 z4 z5 z7 z8 z9 W∧M.jf r s=0∧M.cZ x.x=0)→(aal 3).wp Tryz.prog (bodyPost Tryz.prog Tryz.f11 (fun e w'=>e= .returned (.bool true)∧Below W0.heap.size W0 w')) {tmps:= #[z0,z1,z2,z3,z4,z5,z6,z7,z8,z9,z10,z11,z12,z13,kD,kK,kF,z17,kL,jQ,z20,z21,z22,z23,z24,z25,z26,z27,z28,z29,z30,z31,z32,z33,z34,z35,z36,z37,z38,z39,z40,z41,z42,z43,z44,z45,z46,z47,z48,z49,z50,z51,z52,z53,z54,z55,z56,z57,z58,z59,z60,z61,z62,z63,z64,z65,z66,z67,z68,z69,z70,z71,z72,z73,z74,z75,z76,z77,z78,z79,z80,mM,z82,z83,z84,z85,z86,z87,mO,z89,mP,z91,mQ,z93,mV,mW,mX,mY,mZ,ng,eU,eX,eY,fA,fB,z105,fC,z107,fD,z109,fF,fG,fH,fJ,fK,fM,z116,z117,fO,z119,fP,fQ,fU,fV,z124,fZ,gq,z127,gu,gy,z130,z131,gB,gG,gI,gJ,gK,gQ,z138,z139,gU,z141,gV,z143,gW,z145,z146,gZ,z148,ig,iq,iw,z152,iy,z154,iC,z156,z157,iD,z159,z160,iE,z162,iF,z164,iG,iH,z167,z168,nK,nM,z171,nN,z173,nO,z175,nP,nR,nS,nT,nU,nV,z182,z183,nX,nY,nZ,og,oh,oq,ou,oz,oC,z193,z194,oD,z196,oG,z198,oH,oI,z201,oJ,z203,oK,oL,z206,oM,z208,oN,z210,oO,z212,z213,oP,oQ],defers:=[] } W
@[reducible] def aqA (W0:World) (r:M.Rules) (s:M.State) (x:Sh) (As:Option Addr) (cs:Nat):Prop:=∀ (z0 z1 z2 z3 z4 z5 z6 z7 z8 z9 z10 z11 z12 z13 kD kK kF z17 kL jQ z20 z21 z22 z23 z24 z25 z26 z27 z28 z29 z30 z31 z32 z33 z34 z35 z36 z37 z38 z39 z40 z41 z42 z43 z44 z45 z46 z47 z48 z49 z50 z51 z52 z53 z54 z55 z56 z57 z58 z59 z60 z61 z62 z63 z64 z65 z66 z67 z68 z69 z70 z71 z72 z73 z74 z75 z76 z77 z78 z79 z80 mM z82 z83 z84 z85 z86 z87 mO z89 mP z91 mQ z93 mV mW mX mY mZ ng eU eX eY fA fB z105 fC z107 fD z109 fF fG fH fJ fK fM z116 z117 fO z119 fP fQ fU fV z124 fZ gq z127 gu gy z130 z131 gB gG gI gJ gK gQ z138 z139 gU z141 gV z143 gW z145 z146 gZ z148 ig iq iw z152 iy z154 iC z156 z157 iD z159 z160 iE z162 iF z164 iG iH z167 z168 nK nM z171 nN z173 nO z175 nP nR nS nT nU nV z182 z183 nX nY nZ og oh oq ou oz oC z193 z194 oD z196 oG z198 oH oI z201 oJ z203 oK oL z206 oM z208 oN z210 oO z212 z213 oP oQ:Value) (W:World),(StB W0 r s x As cs z3 z4 z5 z7 z8 z9 W∧(M.jf r s=0∧M.cZ x.x=0)∧z10= .int .i64 (M.legal r s x.x)∧z11= .int .i64 0)→(aal 4).wp Tryz.prog (bodyPost Tryz.prog Tryz.f11 (fun e w'=>e= .returned (.bool true)∧Below W0.heap.size W0 w')) {tmps:= #[z0,z1,z2,z3,z4,z5,z6,z7,z8,z9,z10,z11,z12,z13,kD,kK,kF,z17,kL,jQ,z20,z21,z22,z23,z24,z25,z26,z27,z28,z29,z30,z31,z32,z33,z34,z35,z36,z37,z38,z39,z40,z41,z42,z43,z44,z45,z46,z47,z48,z49,z50,z51,z52,z53,z54,z55,z56,z57,z58,z59,z60,z61,z62,z63,z64,z65,z66,z67,z68,z69,z70,z71,z72,z73,z74,z75,z76,z77,z78,z79,z80,mM,z82,z83,z84,z85,z86,z87,mO,z89,mP,z91,mQ,z93,mV,mW,mX,mY,mZ,ng,eU,eX,eY,fA,fB,z105,fC,z107,fD,z109,fF,fG,fH,fJ,fK,fM,z116,z117,fO,z119,fP,fQ,fU,fV,z124,fZ,gq,z127,gu,gy,z130,z131,gB,gG,gI,gJ,gK,gQ,z138,z139,gU,z141,gV,z143,gW,z145,z146,gZ,z148,ig,iq,iw,z152,iy,z154,iC,z156,z157,iD,z159,z160,iE,z162,iF,z164,iG,iH,z167,z168,nK,nM,z171,nN,z173,nO,z175,nP,nR,nS,nT,nU,nV,z182,z183,nX,nY,nZ,og,oh,oq,ou,oz,oC,z193,z194,oD,z196,oG,z198,oH,oI,z201,oJ,z203,oK,oL,z206,oM,z208,oN,z210,oO,z212,z213,oP,oQ],defers:=[] } W
@[reducible] def aqH (W0:World) (r:M.Rules) (s:M.State) (x:Sh) (As:Option Addr) (cs:Nat):Prop:=∀ (z0 z1 z2 z3 z4 z5 z6 z7 z8 z9 z10 z11 z12 z13 kD kK kF z17 kL jQ z20 z21 z22 z23 z24 z25 z26 z27 z28 z29 z30 z31 z32 z33 z34 z35 z36 z37 z38 z39 z40 z41 z42 z43 z44 z45 z46 z47 z48 z49 z50 z51 z52 z53 z54 z55 z56 z57 z58 z59 z60 z61 z62 z63 z64 z65 z66 z67 z68 z69 z70 z71 z72 z73 z74 z75 z76 z77 z78 z79 z80 mM z82 z83 z84 z85 z86 z87 mO z89 mP z91 mQ z93 mV mW mX mY mZ ng eU eX eY fA fB z105 fC z107 fD z109 fF fG fH fJ fK fM z116 z117 fO z119 fP fQ fU fV z124 fZ gq z127 gu gy z130 z131 gB gG gI gJ gK gQ z138 z139 gU z141 gV z143 gW z145 z146 gZ z148 ig iq iw z152 iy z154 iC z156 z157 iD z159 z160 iE z162 iF z164 iG iH z167 z168 nK nM z171 nN z173 nO z175 nP nR nS nT nU nV z182 z183 nX nY nZ og oh oq ou oz oC z193 z194 oD z196 oG z198 oH oI z201 oJ z203 oK oL z206 oM z208 oN z210 oO z212 z213 oP oQ:Value) (W:World),(StB W0 r s x As cs z3 z4 z5 z7 z8 z9 W∧(M.jf r s=0∧M.cZ x.x=0)∧(z10= .int .i64 (M.legal r s x.x)∧z11= .int .i64 0)∧acH (aa0 r s x.x) 33 z12 W∧z13= .int .i64 (aaB r s x.x))→(aal 5).wp Tryz.prog (bodyPost Tryz.prog Tryz.f11 (fun e w'=>e= .returned (.bool true)∧Below W0.heap.size W0 w')) {tmps:= #[z0,z1,z2,z3,z4,z5,z6,z7,z8,z9,z10,z11,z12,z13,kD,kK,kF,z17,kL,jQ,z20,z21,z22,z23,z24,z25,z26,z27,z28,z29,z30,z31,z32,z33,z34,z35,z36,z37,z38,z39,z40,z41,z42,z43,z44,z45,z46,z47,z48,z49,z50,z51,z52,z53,z54,z55,z56,z57,z58,z59,z60,z61,z62,z63,z64,z65,z66,z67,z68,z69,z70,z71,z72,z73,z74,z75,z76,z77,z78,z79,z80,mM,z82,z83,z84,z85,z86,z87,mO,z89,mP,z91,mQ,z93,mV,mW,mX,mY,mZ,ng,eU,eX,eY,fA,fB,z105,fC,z107,fD,z109,fF,fG,fH,fJ,fK,fM,z116,z117,fO,z119,fP,fQ,fU,fV,z124,fZ,gq,z127,gu,gy,z130,z131,gB,gG,gI,gJ,gK,gQ,z138,z139,gU,z141,gV,z143,gW,z145,z146,gZ,z148,ig,iq,iw,z152,iy,z154,iC,z156,z157,iD,z159,z160,iE,z162,iF,z164,iG,iH,z167,z168,nK,nM,z171,nN,z173,nO,z175,nP,nR,nS,nT,nU,nV,z182,z183,nX,nY,nZ,og,oh,oq,ou,oz,oC,z193,z194,oD,z196,oG,z198,oH,oI,z201,oJ,z203,oK,oL,z206,oM,z208,oN,z210,oO,z212,z213,oP,oQ],defers:=[] } W
@[reducible] def aqO (W0:World) (r:M.Rules) (s:M.State) (x:Sh) (As:Option Addr) (cs:Nat):Prop:=∀ (z0 z1 z2 z3 z4 z5 z6 z7 z8 z9 z10 z11 z12 z13 kD kK kF z17 kL jQ z20 z21 z22 z23 z24 z25 z26 z27 z28 z29 z30 z31 z32 z33 z34 z35 z36 z37 z38 z39 z40 z41 z42 z43 z44 z45 z46 z47 z48 z49 z50 z51 z52 z53 z54 z55 z56 z57 z58 z59 z60 z61 z62 z63 z64 z65 z66 z67 z68 z69 z70 z71 z72 z73 z74 z75 z76 z77 z78 z79 z80 mM z82 z83 z84 z85 z86 z87 mO z89 mP z91 mQ z93 mV mW mX mY mZ ng eU eX eY fA fB z105 fC z107 fD z109 fF fG fH fJ fK fM z116 z117 fO z119 fP fQ fU fV z124 fZ gq z127 gu gy z130 z131 gB gG gI gJ gK gQ z138 z139 gU z141 gV z143 gW z145 z146 gZ z148 ig iq iw z152 iy z154 iC z156 z157 iD z159 z160 iE z162 iF z164 iG iH z167 z168 nK nM z171 nN z173 nO z175 nP nR nS nT nU nV z182 z183 nX nY nZ og oh oq ou oz oC z193 z194 oD z196 oG z198 oH oI z201 oJ z203 oK oL z206 oM z208 oN z210 oO z212 z213 oP oQ:Value) (W:World),(StB W0 r s x As cs z3 z4 z5 z7 z8 z9 W∧(M.jf r s=0∧M.cZ x.x=0)∧(z10= .int .i64 (M.legal r s x.x))∧acH (aa0 r s x.x) 33 z12 W∧z13= .int .i64 (aaB r s x.x))→(aal 6).wp Tryz.prog (bodyPost Tryz.prog Tryz.f11 (fun e w'=>e= .returned (.bool true)∧Below W0.heap.size W0 w')) {tmps:= #[z0,z1,z2,z3,z4,z5,z6,z7,z8,z9,z10,z11,z12,z13,kD,kK,kF,z17,kL,jQ,z20,z21,z22,z23,z24,z25,z26,z27,z28,z29,z30,z31,z32,z33,z34,z35,z36,z37,z38,z39,z40,z41,z42,z43,z44,z45,z46,z47,z48,z49,z50,z51,z52,z53,z54,z55,z56,z57,z58,z59,z60,z61,z62,z63,z64,z65,z66,z67,z68,z69,z70,z71,z72,z73,z74,z75,z76,z77,z78,z79,z80,mM,z82,z83,z84,z85,z86,z87,mO,z89,mP,z91,mQ,z93,mV,mW,mX,mY,mZ,ng,eU,eX,eY,fA,fB,z105,fC,z107,fD,z109,fF,fG,fH,fJ,fK,fM,z116,z117,fO,z119,fP,fQ,fU,fV,z124,fZ,gq,z127,gu,gy,z130,z131,gB,gG,gI,gJ,gK,gQ,z138,z139,gU,z141,gV,z143,gW,z145,z146,gZ,z148,ig,iq,iw,z152,iy,z154,iC,z156,z157,iD,z159,z160,iE,z162,iF,z164,iG,iH,z167,z168,nK,nM,z171,nN,z173,nO,z175,nP,nR,nS,nT,nU,nV,z182,z183,nX,nY,nZ,og,oh,oq,ou,oz,oC,z193,z194,oD,z196,oG,z198,oH,oI,z201,oJ,z203,oK,oL,z206,oM,z208,oN,z210,oO,z212,z213,oP,oQ],defers:=[] } W
@[reducible] def apj (W0:World) (r:M.Rules) (s:M.State) (x:Sh) (As:Option Addr) (cs:Nat):Prop:=∀ (z0 z1 z2 z3 z4 z5 z6 z7 z8 z9 z10 z11 z12 z13 kD kK kF z17 kL jQ z20 z21 z22 z23 z24 z25 z26 z27 z28 z29 z30 z31 z32 z33 z34 z35 z36 z37 z38 z39 z40 z41 z42 z43 z44 z45 z46 z47 z48 z49 z50 z51 z52 z53 z54 z55 z56 z57 z58 z59 z60 z61 z62 z63 z64 z65 z66 z67 z68 z69 z70 z71 z72 z73 z74 z75 z76 z77 z78 z79 z80 mM z82 z83 z84 z85 z86 z87 mO z89 mP z91 mQ z93 mV mW mX mY mZ ng eU eX eY fA fB z105 fC z107 fD z109 fF fG fH fJ fK fM z116 z117 fO z119 fP fQ fU fV z124 fZ gq z127 gu gy z130 z131 gB gG gI gJ gK gQ z138 z139 gU z141 gV z143 gW z145 z146 gZ z148 ig iq iw z152 iy z154 iC z156 z157 iD z159 z160 iE z162 iF z164 iG iH z167 z168 nK nM z171 nN z173 nO z175 nP nR nS nT nU nV z182 z183 nX nY nZ og oh oq ou oz oC z193 z194 oD z196 oG z198 oH oI z201 oJ z203 oK oL z206 oM z208 oN z210 oO z212 z213 oP oQ:Value) (W:World),(StB W0 r s x As cs z3 z4 z5 z7 z8 z9 W∧afH r s x.x∧acH (M.next r s x.x) 33 z12 W)→(aal 7).wp Tryz.prog (bodyPost Tryz.prog Tryz.f11 (fun e w'=>e= .returned (.bool true)∧Below W0.heap.size W0 w')) {tmps:= #[z0,z1,z2,z3,z4,z5,z6,z7,z8,z9,z10,z11,z12,z13,kD,kK,kF,z17,kL,jQ,z20,z21,z22,z23,z24,z25,z26,z27,z28,z29,z30,z31,z32,z33,z34,z35,z36,z37,z38,z39,z40,z41,z42,z43,z44,z45,z46,z47,z48,z49,z50,z51,z52,z53,z54,z55,z56,z57,z58,z59,z60,z61,z62,z63,z64,z65,z66,z67,z68,z69,z70,z71,z72,z73,z74,z75,z76,z77,z78,z79,z80,mM,z82,z83,z84,z85,z86,z87,mO,z89,mP,z91,mQ,z93,mV,mW,mX,mY,mZ,ng,eU,eX,eY,fA,fB,z105,fC,z107,fD,z109,fF,fG,fH,fJ,fK,fM,z116,z117,fO,z119,fP,fQ,fU,fV,z124,fZ,gq,z127,gu,gy,z130,z131,gB,gG,gI,gJ,gK,gQ,z138,z139,gU,z141,gV,z143,gW,z145,z146,gZ,z148,ig,iq,iw,z152,iy,z154,iC,z156,z157,iD,z159,z160,iE,z162,iF,z164,iG,iH,z167,z168,nK,nM,z171,nN,z173,nO,z175,nP,nR,nS,nT,nU,nV,z182,z183,nX,nY,nZ,og,oh,oq,ou,oz,oC,z193,z194,oD,z196,oG,z198,oH,oI,z201,oJ,z203,oK,oL,z206,oM,z208,oN,z210,oO,z212,z213,oP,oQ],defers:=[] } W
@[reducible] def apr (W0:World) (r:M.Rules) (s:M.State) (x:Sh) (As:Option Addr) (cs:Nat):Prop:=∀ (z0 z1 z2 z3 z4 z5 z6 z7 z8 z9 z10 z11 z12 z13 kD kK kF z17 kL jQ z20 z21 z22 z23 z24 z25 z26 z27 z28 z29 z30 z31 z32 z33 z34 z35 z36 z37 z38 z39 z40 z41 z42 z43 z44 z45 z46 z47 z48 z49 z50 z51 z52 z53 z54 z55 z56 z57 z58 z59 z60 z61 z62 z63 z64 z65 z66 z67 z68 z69 z70 z71 z72 z73 z74 z75 z76 z77 z78 z79 z80 mM z82 z83 z84 z85 z86 z87 mO z89 mP z91 mQ z93 mV mW mX mY mZ ng eU eX eY fA fB z105 fC z107 fD z109 fF fG fH fJ fK fM z116 z117 fO z119 fP fQ fU fV z124 fZ gq z127 gu gy z130 z131 gB gG gI gJ gK gQ z138 z139 gU z141 gV z143 gW z145 z146 gZ z148 ig iq iw z152 iy z154 iC z156 z157 iD z159 z160 iE z162 iF z164 iG iH z167 z168 nK nM z171 nN z173 nO z175 nP nR nS nT nU nV z182 z183 nX nY nZ og oh oq ou oz oC z193 z194 oD z196 oG z198 oH oI z201 oJ z203 oK oL z206 oM z208 oN z210 oO z212 z213 oP oQ:Value) (W:World),(StB W0 r s x As cs z3 z4 z5 z7 z8 z9 W∧afH r s x.x∧acH (M.next r s x.x) 33 z12 W∧kD= .bool (decide (s.aZ<(M.next r s x.x).aZ)))→(aal 8).wp Tryz.prog (bodyPost Tryz.prog Tryz.f11 (fun e w'=>e= .returned (.bool true)∧Below W0.heap.size W0 w')) {tmps:= #[z0,z1,z2,z3,z4,z5,z6,z7,z8,z9,z10,z11,z12,z13,kD,kK,kF,z17,kL,jQ,z20,z21,z22,z23,z24,z25,z26,z27,z28,z29,z30,z31,z32,z33,z34,z35,z36,z37,z38,z39,z40,z41,z42,z43,z44,z45,z46,z47,z48,z49,z50,z51,z52,z53,z54,z55,z56,z57,z58,z59,z60,z61,z62,z63,z64,z65,z66,z67,z68,z69,z70,z71,z72,z73,z74,z75,z76,z77,z78,z79,z80,mM,z82,z83,z84,z85,z86,z87,mO,z89,mP,z91,mQ,z93,mV,mW,mX,mY,mZ,ng,eU,eX,eY,fA,fB,z105,fC,z107,fD,z109,fF,fG,fH,fJ,fK,fM,z116,z117,fO,z119,fP,fQ,fU,fV,z124,fZ,gq,z127,gu,gy,z130,z131,gB,gG,gI,gJ,gK,gQ,z138,z139,gU,z141,gV,z143,gW,z145,z146,gZ,z148,ig,iq,iw,z152,iy,z154,iC,z156,z157,iD,z159,z160,iE,z162,iF,z164,iG,iH,z167,z168,nK,nM,z171,nN,z173,nO,z175,nP,nR,nS,nT,nU,nV,z182,z183,nX,nY,nZ,og,oh,oq,ou,oz,oC,z193,z194,oD,z196,oG,z198,oH,oI,z201,oJ,z203,oK,oL,z206,oM,z208,oN,z210,oO,z212,z213,oP,oQ],defers:=[] } W
@[reducible] def apy (W0:World) (r:M.Rules) (s:M.State) (x:Sh) (As:Option Addr) (cs:Nat):Prop:=∀ (z0 z1 z2 z3 z4 z5 z6 z7 z8 z9 z10 z11 z12 z13 kD kK kF z17 kL jQ z20 z21 z22 z23 z24 z25 z26 z27 z28 z29 z30 z31 z32 z33 z34 z35 z36 z37 z38 z39 z40 z41 z42 z43 z44 z45 z46 z47 z48 z49 z50 z51 z52 z53 z54 z55 z56 z57 z58 z59 z60 z61 z62 z63 z64 z65 z66 z67 z68 z69 z70 z71 z72 z73 z74 z75 z76 z77 z78 z79 z80 mM z82 z83 z84 z85 z86 z87 mO z89 mP z91 mQ z93 mV mW mX mY mZ ng eU eX eY fA fB z105 fC z107 fD z109 fF fG fH fJ fK fM z116 z117 fO z119 fP fQ fU fV z124 fZ gq z127 gu gy z130 z131 gB gG gI gJ gK gQ z138 z139 gU z141 gV z143 gW z145 z146 gZ z148 ig iq iw z152 iy z154 iC z156 z157 iD z159 z160 iE z162 iF z164 iG iH z167 z168 nK nM z171 nN z173 nO z175 nP nR nS nT nU nV z182 z183 nX nY nZ og oh oq ou oz oC z193 z194 oD z196 oG z198 oH oI z201 oJ z203 oK oL z206 oM z208 oN z210 oO z212 z213 oP oQ:Value) (W:World),(StB W0 r s x As cs z3 z4 z5 z7 z8 z9 W∧afH r s x.x∧acH (M.next r s x.x) 33 z12 W∧kD= .bool (decide (s.aZ<(M.next r s x.x).aZ)))→(aal 9).wp Tryz.prog (bodyPost Tryz.prog Tryz.f11 (fun e w'=>e= .returned (.bool true)∧Below W0.heap.size W0 w')) {tmps:= #[z0,z1,z2,z3,z4,z5,z6,z7,z8,z9,z10,z11,z12,z13,kD,kK,kF,z17,kL,jQ,z20,z21,z22,z23,z24,z25,z26,z27,z28,z29,z30,z31,z32,z33,z34,z35,z36,z37,z38,z39,z40,z41,z42,z43,z44,z45,z46,z47,z48,z49,z50,z51,z52,z53,z54,z55,z56,z57,z58,z59,z60,z61,z62,z63,z64,z65,z66,z67,z68,z69,z70,z71,z72,z73,z74,z75,z76,z77,z78,z79,z80,mM,z82,z83,z84,z85,z86,z87,mO,z89,mP,z91,mQ,z93,mV,mW,mX,mY,mZ,ng,eU,eX,eY,fA,fB,z105,fC,z107,fD,z109,fF,fG,fH,fJ,fK,fM,z116,z117,fO,z119,fP,fQ,fU,fV,z124,fZ,gq,z127,gu,gy,z130,z131,gB,gG,gI,gJ,gK,gQ,z138,z139,gU,z141,gV,z143,gW,z145,z146,gZ,z148,ig,iq,iw,z152,iy,z154,iC,z156,z157,iD,z159,z160,iE,z162,iF,z164,iG,iH,z167,z168,nK,nM,z171,nN,z173,nO,z175,nP,nR,nS,nT,nU,nV,z182,z183,nX,nY,nZ,og,oh,oq,ou,oz,oC,z193,z194,oD,z196,oG,z198,oH,oI,z201,oJ,z203,oK,oL,z206,oM,z208,oN,z210,oO,z212,z213,oP,oQ],defers:=[] } W
@[reducible] def apF (W0:World) (r:M.Rules) (s:M.State) (x:Sh) (As:Option Addr) (cs:Nat):Prop:=∀ (z0 z1 z2 z3 z4 z5 z6 z7 z8 z9 z10 z11 z12 z13 kD kK kF z17 kL jQ z20 z21 z22 z23 z24 z25 z26 z27 z28 z29 z30 z31 z32 z33 z34 z35 z36 z37 z38 z39 z40 z41 z42 z43 z44 z45 z46 z47 z48 z49 z50 z51 z52 z53 z54 z55 z56 z57 z58 z59 z60 z61 z62 z63 z64 z65 z66 z67 z68 z69 z70 z71 z72 z73 z74 z75 z76 z77 z78 z79 z80 mM z82 z83 z84 z85 z86 z87 mO z89 mP z91 mQ z93 mV mW mX mY mZ ng eU eX eY fA fB z105 fC z107 fD z109 fF fG fH fJ fK fM z116 z117 fO z119 fP fQ fU fV z124 fZ gq z127 gu gy z130 z131 gB gG gI gJ gK gQ z138 z139 gU z141 gV z143 gW z145 z146 gZ z148 ig iq iw z152 iy z154 iC z156 z157 iD z159 z160 iE z162 iF z164 iG iH z167 z168 nK nM z171 nN z173 nO z175 nP nR nS nT nU nV z182 z183 nX nY nZ og oh oq ou oz oC z193 z194 oD z196 oG z198 oH oI z201 oJ z203 oK oL z206 oM z208 oN z210 oO z212 z213 oP oQ:Value) (W:World),(StB W0 r s x As cs z3 z4 z5 z7 z8 z9 W∧afH r s x.x∧acH (M.next r s x.x) 33 z12 W∧kD= .bool (decide (s.aZ<(M.next r s x.x).aZ)))→(aal 10).wp Tryz.prog (bodyPost Tryz.prog Tryz.f11 (fun e w'=>e= .returned (.bool true)∧Below W0.heap.size W0 w')) {tmps:= #[z0,z1,z2,z3,z4,z5,z6,z7,z8,z9,z10,z11,z12,z13,kD,kK,kF,z17,kL,jQ,z20,z21,z22,z23,z24,z25,z26,z27,z28,z29,z30,z31,z32,z33,z34,z35,z36,z37,z38,z39,z40,z41,z42,z43,z44,z45,z46,z47,z48,z49,z50,z51,z52,z53,z54,z55,z56,z57,z58,z59,z60,z61,z62,z63,z64,z65,z66,z67,z68,z69,z70,z71,z72,z73,z74,z75,z76,z77,z78,z79,z80,mM,z82,z83,z84,z85,z86,z87,mO,z89,mP,z91,mQ,z93,mV,mW,mX,mY,mZ,ng,eU,eX,eY,fA,fB,z105,fC,z107,fD,z109,fF,fG,fH,fJ,fK,fM,z116,z117,fO,z119,fP,fQ,fU,fV,z124,fZ,gq,z127,gu,gy,z130,z131,gB,gG,gI,gJ,gK,gQ,z138,z139,gU,z141,gV,z143,gW,z145,z146,gZ,z148,ig,iq,iw,z152,iy,z154,iC,z156,z157,iD,z159,z160,iE,z162,iF,z164,iG,iH,z167,z168,nK,nM,z171,nN,z173,nO,z175,nP,nR,nS,nT,nU,nV,z182,z183,nX,nY,nZ,og,oh,oq,ou,oz,oC,z193,z194,oD,z196,oG,z198,oH,oI,z201,oJ,z203,oK,oL,z206,oM,z208,oN,z210,oO,z212,z213,oP,oQ],defers:=[] } W
@[reducible] def apM (W0:World) (r:M.Rules) (s:M.State) (x:Sh) (As:Option Addr) (cs:Nat):Prop:=∀ (z0 z1 z2 z3 z4 z5 z6 z7 z8 z9 z10 z11 z12 z13 kD kK kF z17 kL jQ z20 z21 z22 z23 z24 z25 z26 z27 z28 z29 z30 z31 z32 z33 z34 z35 z36 z37 z38 z39 z40 z41 z42 z43 z44 z45 z46 z47 z48 z49 z50 z51 z52 z53 z54 z55 z56 z57 z58 z59 z60 z61 z62 z63 z64 z65 z66 z67 z68 z69 z70 z71 z72 z73 z74 z75 z76 z77 z78 z79 z80 mM z82 z83 z84 z85 z86 z87 mO z89 mP z91 mQ z93 mV mW mX mY mZ ng eU eX eY fA fB z105 fC z107 fD z109 fF fG fH fJ fK fM z116 z117 fO z119 fP fQ fU fV z124 fZ gq z127 gu gy z130 z131 gB gG gI gJ gK gQ z138 z139 gU z141 gV z143 gW z145 z146 gZ z148 ig iq iw z152 iy z154 iC z156 z157 iD z159 z160 iE z162 iF z164 iG iH z167 z168 nK nM z171 nN z173 nO z175 nP nR nS nT nU nV z182 z183 nX nY nZ og oh oq ou oz oC z193 z194 oD z196 oG z198 oH oI z201 oJ z203 oK oL z206 oM z208 oN z210 oO z212 z213 oP oQ:Value) (W:World),(StB W0 r s x As cs z3 z4 z5 z7 z8 z9 W∧afH r s x.x∧acH (M.next r s x.x) 33 z12 W∧kD= .bool (decide (s.aZ<(M.next r s x.x).aZ))∧z22= .int .i64 ((M.next r s x.x).score x.x.aC - s.score x.x.aC))→(aal 11).wp Tryz.prog (bodyPost Tryz.prog Tryz.f11 (fun e w'=>e= .returned (.bool true)∧Below W0.heap.size W0 w')) {tmps:= #[z0,z1,z2,z3,z4,z5,z6,z7,z8,z9,z10,z11,z12,z13,kD,kK,kF,z17,kL,jQ,z20,z21,z22,z23,z24,z25,z26,z27,z28,z29,z30,z31,z32,z33,z34,z35,z36,z37,z38,z39,z40,z41,z42,z43,z44,z45,z46,z47,z48,z49,z50,z51,z52,z53,z54,z55,z56,z57,z58,z59,z60,z61,z62,z63,z64,z65,z66,z67,z68,z69,z70,z71,z72,z73,z74,z75,z76,z77,z78,z79,z80,mM,z82,z83,z84,z85,z86,z87,mO,z89,mP,z91,mQ,z93,mV,mW,mX,mY,mZ,ng,eU,eX,eY,fA,fB,z105,fC,z107,fD,z109,fF,fG,fH,fJ,fK,fM,z116,z117,fO,z119,fP,fQ,fU,fV,z124,fZ,gq,z127,gu,gy,z130,z131,gB,gG,gI,gJ,gK,gQ,z138,z139,gU,z141,gV,z143,gW,z145,z146,gZ,z148,ig,iq,iw,z152,iy,z154,iC,z156,z157,iD,z159,z160,iE,z162,iF,z164,iG,iH,z167,z168,nK,nM,z171,nN,z173,nO,z175,nP,nR,nS,nT,nU,nV,z182,z183,nX,nY,nZ,og,oh,oq,ou,oz,oC,z193,z194,oD,z196,oG,z198,oH,oI,z201,oJ,z203,oK,oL,z206,oM,z208,oN,z210,oO,z212,z213,oP,oQ],defers:=[] } W
@[reducible] def apT (W0:World) (r:M.Rules) (s:M.State) (x:Sh) (As:Option Addr) (cs:Nat):Prop:=∀ (z0 z1 z2 z3 z4 z5 z6 z7 z8 z9 z10 z11 z12 z13 kD kK kF z17 kL jQ z20 z21 z22 z23 z24 z25 z26 z27 z28 z29 z30 z31 z32 z33 z34 z35 z36 z37 z38 z39 z40 z41 z42 z43 z44 z45 z46 z47 z48 z49 z50 z51 z52 z53 z54 z55 z56 z57 z58 z59 z60 z61 z62 z63 z64 z65 z66 z67 z68 z69 z70 z71 z72 z73 z74 z75 z76 z77 z78 z79 z80 mM z82 z83 z84 z85 z86 z87 mO z89 mP z91 mQ z93 mV mW mX mY mZ ng eU eX eY fA fB z105 fC z107 fD z109 fF fG fH fJ fK fM z116 z117 fO z119 fP fQ fU fV z124 fZ gq z127 gu gy z130 z131 gB gG gI gJ gK gQ z138 z139 gU z141 gV z143 gW z145 z146 gZ z148 ig iq iw z152 iy z154 iC z156 z157 iD z159 z160 iE z162 iF z164 iG iH z167 z168 nK nM z171 nN z173 nO z175 nP nR nS nT nU nV z182 z183 nX nY nZ og oh oq ou oz oC z193 z194 oD z196 oG z198 oH oI z201 oJ z203 oK oL z206 oM z208 oN z210 oO z212 z213 oP oQ:Value) (W:World),(StB W0 r s x As cs z3 z4 z5 z7 z8 z9 W∧afH r s x.x∧acH (M.next r s x.x) 33 z12 W∧kD= .bool (decide (s.aZ<(M.next r s x.x).aZ))∧z22= .int .i64 ((M.next r s x.x).score x.x.aC - s.score x.x.aC))→(aal 12).wp Tryz.prog (bodyPost Tryz.prog Tryz.f11 (fun e w'=>e= .returned (.bool true)∧Below W0.heap.size W0 w')) {tmps:= #[z0,z1,z2,z3,z4,z5,z6,z7,z8,z9,z10,z11,z12,z13,kD,kK,kF,z17,kL,jQ,z20,z21,z22,z23,z24,z25,z26,z27,z28,z29,z30,z31,z32,z33,z34,z35,z36,z37,z38,z39,z40,z41,z42,z43,z44,z45,z46,z47,z48,z49,z50,z51,z52,z53,z54,z55,z56,z57,z58,z59,z60,z61,z62,z63,z64,z65,z66,z67,z68,z69,z70,z71,z72,z73,z74,z75,z76,z77,z78,z79,z80,mM,z82,z83,z84,z85,z86,z87,mO,z89,mP,z91,mQ,z93,mV,mW,mX,mY,mZ,ng,eU,eX,eY,fA,fB,z105,fC,z107,fD,z109,fF,fG,fH,fJ,fK,fM,z116,z117,fO,z119,fP,fQ,fU,fV,z124,fZ,gq,z127,gu,gy,z130,z131,gB,gG,gI,gJ,gK,gQ,z138,z139,gU,z141,gV,z143,gW,z145,z146,gZ,z148,ig,iq,iw,z152,iy,z154,iC,z156,z157,iD,z159,z160,iE,z162,iF,z164,iG,iH,z167,z168,nK,nM,z171,nN,z173,nO,z175,nP,nR,nS,nT,nU,nV,z182,z183,nX,nY,nZ,og,oh,oq,ou,oz,oC,z193,z194,oD,z196,oG,z198,oH,oI,z201,oJ,z203,oK,oL,z206,oM,z208,oN,z210,oO,z212,z213,oP,oQ],defers:=[] } W
theorem asC (W0:World) (r:M.Rules) (s:M.State) (x:Sh) (As:Option Addr) (cs:Nat) (HG:Hid (Glob W0)) (HN:Hid (aql W0 r s x As cs)):asv W0 r s x As cs:=by
 intro z0 z1 z2 _ _ _ z6 _ _ _ z10 z11 z12 z13 kD kK kF z17 kL jQ z20 z21 z22 _ _ _ _ z27 z28 z29 z30 z31 z32 z33 z34 z35 z36 z37 z38 z39 z40 z41 z42 z43 z44 z45 z46 z47 z48 z49 z50 z51 z52 z53 z54 z55 z56 z57 z58 z59 z60 z61 z62 z63 z64 z65 z66 z67 z68 z69 z70 z71 z72 z73 z74 z75 z76 z77 z78 z79 z80 mM z82 z83 z84 z85 z86 z87 mO z89 mP z91 mQ z93 mV mW mX mY mZ ng eU eX eY fA fB z105 fC z107 fD z109 fF fG fH fJ fK fM z116 z117 fO z119 fP fQ fU fV z124 fZ gq z127 gu gy z130 z131 gB gG gI gJ gK gQ z138 z139 gU z141 gV z143 gW z145 z146 gZ z148 ig iq iw z152 iy z154 iC z156 z157 iD z159 z160 iE z162 iF z164 iG iH z167 z168 nK nM z171 nN z173 nO z175 nP nR nS nT nU nV z182 z183 nX nY nZ og oh oq ou oz oC z193 z194 oD z196 oG z198 oH oI z201 oJ z203 oK oL z206 oM z208 oN z210 oO z212 z213 oP oQ W hf
 dsimp only [aal,dQ,Tryz.f11,Option.getD]
 have hF:=hf
 obtain ⟨rfl,rfl,rfl,h3,h4,h5,_,_,_,_⟩:=hf
 have hr3:∀ W',(fun w':World=>Below W.heap.size W w') W'→W'.rangeAt W0.heap.size 0 ([.string r.game,.int .i64 r.target,.int .i64 r.aY]):=fun W' h=>(h3.below h).range
 have hr4:∀ W',(fun w':World=>Below W.heap.size W w') W'→W'.rangeAt (W0.heap.size+1) 0 (aW s As cs):=fun W' h=>(h4.below h).range
 have SC:∀ W',(fun w':World=>Below W.heap.size W w') W'→W'.rangeAt (W0.heap.size+2) 0 (au x):=fun W' h=>(h5.below h).range
 apply wp_seq_k
 intro K hK
 have HK:=hide hK
 clear hK
 refine wp_region_held_drew (S:=(fun w':World=>Below W.heap.size W w')) (by kernel_rfl) ?eP (fun hHeld=>?_)
 case eP=>exact (Below.refl _ _).drew
 refine ahi (fun f hf=>?_)
 have J:∀ (p7 p8 p9:Nat) (A6:Option Addr) (c6:Nat) (wx:World),Held wx p7 [.string ⟨#[]⟩,.int .i64 0,.int .i64 0] 25→Held wx p8 aj 42→Held wx p9 JB 69→p7≠p8→p7≠p9→p8≠p9→W.heap.size≤p7→W.heap.size≤p8→W.heap.size≤p9→(fun w':World=>Below W.heap.size W w') wx→
  jl wx (fun b=>b≠p7∧b≠p8∧b≠p9) A6 c6 x.x.aA→f 3 #[true,true,true,true,true,true,true,false,false,false] {tmps:= #[z0,z1,z2,ptr W0.heap.size,ptr (W0.heap.size+1),ptr (W0.heap.size+2),z6,ptr p7,ptr p8,ptr p9,z10,z11,z12,z13,kD,kK,kF,z17,kL,jQ,z20,z21,z22,.agg ([.string r.game,.int .i64 r.target,.int .i64 r.aY]:List Value).toArray,.agg (aW s As cs).toArray,.agg (au x).toArray,iO x.x A6 c6,z27,z28,z29,z30,z31,z32,z33,z34,z35,z36,z37,z38,z39,z40,z41,z42,z43,z44,z45,z46,z47,z48,z49,z50,z51,z52,z53,z54,z55,z56,z57,z58,z59,z60,z61,z62,z63,z64,z65,z66,z67,z68,z69,z70,z71,z72,z73,z74,z75,z76,z77,z78,z79,z80,mM,z82,z83,z84,z85,z86,z87,mO,z89,mP,z91,mQ,z93,mV,mW,mX,mY,mZ,ng,eU,eX,eY,fA,fB,z105,fC,z107,fD,z109,fF,fG,fH,fJ,fK,fM,z116,z117,fO,z119,fP,fQ,fU,fV,z124,fZ,gq,z127,gu,gy,z130,z131,gB,gG,gI,gJ,gK,gQ,z138,z139,gU,z141,gV,z143,gW,z145,z146,gZ,z148,ig,iq,iw,z152,iy,z154,iC,z156,z157,iD,z159,z160,iE,z162,iF,z164,iG,iH,z167,z168,nK,nM,z171,nN,z173,nO,z175,nP,nR,nS,nT,nU,nV,z182,z183,nX,nY,nZ,og,oh,oq,ou,oz,oC,z193,z194,oD,z196,oG,z198,oH,oI,z201,oJ,z203,oK,oL,z206,oM,z208,oN,z210,oO,z212,z213,oP,oQ],defers:=[] } wx:=by
  intro p7 p8 p9 A6 c6 wx g7 g8 g9 n78 n79 n89 l7 l8 l9 hHeld kP
  subst hf
  have hHeld:(fun w':World=>Below W.heap.size W w') (wx.setCells p7 0 [.string r.game,.int .i64 r.target,.int .i64 r.aY]):=below_setCells _ l7 _ _ _ _ hHeld
  refine wpAnyH_ready (rs:=[7]) (by kernel_rfl) (by simp) ?_
  refine abj (o:=_) (ga rfl) (by kernel_rfl) g7 [.string r.game,.int .i64 r.target,.int .i64 r.aY] rfl aeQ (xI _ _ _) (.tmp 7) (.tmp 23) rfl rfl rfl hHeld ?_
  try simp only [Act.put,la,lz,ls]
  have hHeld:(fun w':World=>Below W.heap.size W w') ((wx.setCells p7 0 [.string r.game,.int .i64 r.target,.int .i64 r.aY]).setCells p8 0 (aW s As cs)):=below_setCells _ l8 _ _ _ _ hHeld
  refine wpAnyH_ready (rs:=[8]) (by kernel_rfl) (by simp) ?_
  refine abj (o:=_) (ga rfl) (by kernel_rfl) (Held.others n78.symm _ _ _ g8) (aW s As cs) rfl ZP (dL _ _ _) (.tmp 8) (.tmp 24) rfl rfl rfl hHeld ?_
  try simp only [Act.put,la,lz,ls]
  have hHeld:(fun w':World=>Below W.heap.size W w') (((wx.setCells p7 0 [.string r.game,.int .i64 r.target,.int .i64 r.aY]).setCells p8 0 (aW s As cs)).setCells p9 0 (au ⟨x.x,A6,c6⟩)):=below_setCells _ l9 _ _ _ _ hHeld
  refine wpAnyH_ready (rs:=[9]) (by kernel_rfl) (by simp) ?_
  refine abj (o:=_) (ga rfl) (by kernel_rfl) (Held.others n89.symm _ _ _ (Held.others n79.symm _ _ _ g9)) (au ⟨x.x,A6,c6⟩) rfl afD (uq x.x A6 c6) (.tmp 9) (.tmp 26) rfl rfl rfl hHeld ?_
  try simp only [Act.put,la,lz,ls]
  refine wpAnyH_done (by kernel_rfl) ?_ _
  refine HK.out _ _ ?_
  apply HN.out
  have h3b:=afR (v7:=[.string r.game,.int .i64 r.target,.int .i64 r.aY]) (v8:=aW s As cs) (v9:=au ⟨x.x,A6,c6⟩) g7 g8 g9 n78 n79 n89 rfl rfl rfl
  refine ⟨hF.below hHeld,_,_,_,A6,c6,rfl,h3b.1,rfl,h3b.2.1,rfl,h3b.2.2,?_⟩
  exact Reads.more (jl.aiI kP (Below.refl _ _) (fun b _ h=>h)) (fun _ _ _=>trivial)
 rw [hf] at J
 subst hf
 refine wpAnyH_take (i:=0) (oi:=_) (v:=_) (ga rfl) (by kernel_rfl) (by kernel_rfl) (by kernel_rfl) (fun _ _ _ h=>h) (yieldsIf_load_mid (by rfl) _ _ (by rfl) _ _ (by rfl) _ _ hr3 Tryz.underlying23 rfl (by kernel_rfl)) (by assumption) ?_
 try simp only [Act.put,la,lz,ls]
 refine wpAnyH_take (i:=1) (oi:=_) (v:=_) (ga rfl) (by kernel_rfl) (by kernel_rfl) (by kernel_rfl) (fun _ _ _ h=>h) (yieldsIf_load_mid (by rfl) _ _ (by rfl) _ _ (by rfl) _ _ hr4 Tryz.underlying33 rfl (by kernel_rfl)) (by assumption) ?_
 try simp only [Act.put,la,lz,ls]
 refine wpAnyH_take (i:=2) (oi:=_) (v:=_) (ga rfl) (by kernel_rfl) (by kernel_rfl) (by kernel_rfl) (fun _ _ _ h=>h) (yieldsIf_load_mid (by rfl) _ _ (by rfl) _ _ (by rfl) _ _ SC Tryz.underlying66 rfl (by kernel_rfl)) (by assumption) ?_
 try simp only [Act.put,la,lz,ls]
 refine wpAnyH_ready (rs:=[3,4,5,6]) (by kernel_rfl) (by simp) ?_
 refine AllReadyH.cons (o:=_) (ga rfl) (fun K hK=>?_) (AllReadyH.cons (o:=_) (ga rfl) (fun K hK=>?_) (AllReadyH.cons (o:=_) (ga rfl) (fun K hK=>?_) (AllReadyH.cons (o:=_) (ga rfl) (fun K hK=>?_) AllReadyH.nil)))
 · go_simp
   (go_at_call 26;refine (abC (fun _=>True) x.x x.a x.c _ (Reads.below hF.rx hHeld) hF.fit).mono ?_;rintro e w6 ⟨A6,c6,rfl,kP,hb6⟩;have iR:W.heap.size≤w6.heap.size:=Nat.le_trans hHeld.size hb6.size)
   refine hK.out _ _ ?ant (fun hHeld=>?_)
   case ant=>(exact hHeld.trans (hb6.mono hHeld.size))
   clear hK K
   try simp only [Act.put,la,lz,ls]
   refine wpAnyH_ready (rs:=[4,5,6]) (by kernel_rfl) (by simp) ?_
   refine AllReadyH.cons (o:=_) (ga rfl) (fun K hK=>?_) (AllReadyH.cons (o:=_) (ga rfl) (fun K hK=>?_) (AllReadyH.cons (o:=_) (ga rfl) (fun K hK=>?_) AllReadyH.nil))
   · go_simp
     refine hK.out _ _ ?anB (fun hHeld=>?_)
     case anB=>(exact Below.alloc hHeld hHeld.size _)
     clear hK K
     try simp only [Act.put,la,lz,ls]
     refine wpAnyH_ready (rs:=[5,6]) (by kernel_rfl) (by simp) ?_
     refine AllReadyH.cons (o:=_) (ga rfl) (fun K hK=>?_) (AllReadyH.cons (o:=_) (ga rfl) (fun K hK=>?_) AllReadyH.nil)
     · go_simp
       refine hK.out _ _ ?anW (fun hHeld=>?_)
       case anW=>(exact Below.alloc hHeld hHeld.size _)
       clear hK K
       try simp only [Act.put,la,lz,ls]
       refine tr 6 fun K hK=>?_
       go_simp
       refine hK.out _ _ ?aoh (fun hHeld=>?_)
       case aoh=>(exact Below.alloc hHeld hHeld.size _)
       clear hK K
       try simp only [Act.put,la,lz,ls]
       have hq:W.heap.size+0≤w6.heap.size:=by have h:=hb6.size;simpa using h
       exact J _ _ _ A6 c6 _ ((((Held.newAt _ [.string ⟨#[]⟩,.int .i64 0,.int .i64 0] 25 (by first | rfl | simp))).alloc _).alloc _) (((Held.newAt _ aj 42 (by first | rfl | simp))).alloc _) ((Held.newAt _ JB 69 (by first | rfl | simp))) (by (try simp);(try omega)) (by (try simp);(try omega)) (by (try simp);(try omega)) (by (try simp);(try omega)) (by (try simp);(try omega)) (by (try simp);(try omega)) hHeld (Reads.below (Reads.more kP (fun b hl h=>by (try simp at h);refine ⟨?_,?_,?_⟩ <;> (intro e;omega))) ((((Below.refl _ _).alloc (by (try simp);(try omega)) _).alloc (by (try simp);(try omega)) _).alloc (by (try simp);(try omega)) _))
     · go_simp
       refine hK.out _ _ ?aoo (fun hHeld=>?_)
       case aoo=>(exact Below.alloc hHeld hHeld.size _)
       clear hK K
       try simp only [Act.put,la,lz,ls]
       refine tr 5 fun K hK=>?_
       go_simp
       refine hK.out _ _ ?an3 (fun hHeld=>?_)
       case an3=>(exact Below.alloc hHeld hHeld.size _)
       clear hK K
       try simp only [Act.put,la,lz,ls]
       have hq:W.heap.size+0≤w6.heap.size:=by have h:=hb6.size;simpa using h
       exact J _ _ _ A6 c6 _ ((((Held.newAt _ [.string ⟨#[]⟩,.int .i64 0,.int .i64 0] 25 (by first | rfl | simp))).alloc _).alloc _) ((Held.newAt _ aj 42 (by first | rfl | simp))) (((Held.newAt _ JB 69 (by first | rfl | simp))).alloc _) (by (try simp);(try omega)) (by (try simp);(try omega)) (by (try simp);(try omega)) (by (try simp);(try omega)) (by (try simp);(try omega)) (by (try simp);(try omega)) hHeld (Reads.below (Reads.more kP (fun b hl h=>by (try simp at h);refine ⟨?_,?_,?_⟩ <;> (intro e;omega))) ((((Below.refl _ _).alloc (by (try simp);(try omega)) _).alloc (by (try simp);(try omega)) _).alloc (by (try simp);(try omega)) _))
   · go_simp
     refine hK.out _ _ ?aoa (fun hHeld=>?_)
     case aoa=>(exact Below.alloc hHeld hHeld.size _)
     clear hK K
     try simp only [Act.put,la,lz,ls]
     refine wpAnyH_ready (rs:=[4,6]) (by kernel_rfl) (by simp) ?_
     refine AllReadyH.cons (o:=_) (ga rfl) (fun K hK=>?_) (AllReadyH.cons (o:=_) (ga rfl) (fun K hK=>?_) AllReadyH.nil)
     · go_simp
       refine hK.out _ _ ?anI (fun hHeld=>?_)
       case anI=>(exact Below.alloc hHeld hHeld.size _)
       clear hK K
       try simp only [Act.put,la,lz,ls]
       refine tr 6 fun K hK=>?_
       go_simp
       refine hK.out _ _ ?aov (fun hHeld=>?_)
       case aov=>(exact Below.alloc hHeld hHeld.size _)
       clear hK K
       try simp only [Act.put,la,lz,ls]
       have hq:W.heap.size+0≤w6.heap.size:=by have h:=hb6.size;simpa using h
       exact J _ _ _ A6 c6 _ (((Held.newAt _ [.string ⟨#[]⟩,.int .i64 0,.int .i64 0] 25 (by first | rfl | simp))).alloc _) ((((Held.newAt _ aj 42 (by first | rfl | simp))).alloc _).alloc _) ((Held.newAt _ JB 69 (by first | rfl | simp))) (by (try simp);(try omega)) (by (try simp);(try omega)) (by (try simp);(try omega)) (by (try simp);(try omega)) (by (try simp);(try omega)) (by (try simp);(try omega)) hHeld (Reads.below (Reads.more kP (fun b hl h=>by (try simp at h);refine ⟨?_,?_,?_⟩ <;> (intro e;omega))) ((((Below.refl _ _).alloc (by (try simp);(try omega)) _).alloc (by (try simp);(try omega)) _).alloc (by (try simp);(try omega)) _))
     · go_simp
       refine hK.out _ _ ?aoC (fun hHeld=>?_)
       case aoC=>(exact Below.alloc hHeld hHeld.size _)
       clear hK K
       try simp only [Act.put,la,lz,ls]
       refine tr 4 fun K hK=>?_
       go_simp
       refine hK.out _ _ ?anP (fun hHeld=>?_)
       case anP=>(exact Below.alloc hHeld hHeld.size _)
       clear hK K
       try simp only [Act.put,la,lz,ls]
       have hq:W.heap.size+0≤w6.heap.size:=by have h:=hb6.size;simpa using h
       exact J _ _ _ A6 c6 _ ((Held.newAt _ [.string ⟨#[]⟩,.int .i64 0,.int .i64 0] 25 (by first | rfl | simp))) ((((Held.newAt _ aj 42 (by first | rfl | simp))).alloc _).alloc _) (((Held.newAt _ JB 69 (by first | rfl | simp))).alloc _) (by (try simp);(try omega)) (by (try simp);(try omega)) (by (try simp);(try omega)) (by (try simp);(try omega)) (by (try simp);(try omega)) (by (try simp);(try omega)) hHeld (Reads.below (Reads.more kP (fun b hl h=>by (try simp at h);refine ⟨?_,?_,?_⟩ <;> (intro e;omega))) ((((Below.refl _ _).alloc (by (try simp);(try omega)) _).alloc (by (try simp);(try omega)) _).alloc (by (try simp);(try omega)) _))
   · go_simp
     refine hK.out _ _ ?aoJ (fun hHeld=>?_)
     case aoJ=>(exact Below.alloc hHeld hHeld.size _)
     clear hK K
     try simp only [Act.put,la,lz,ls]
     refine wpAnyH_ready (rs:=[4,5]) (by kernel_rfl) (by simp) ?_
     refine AllReadyH.cons (o:=_) (ga rfl) (fun K hK=>?_) (AllReadyH.cons (o:=_) (ga rfl) (fun K hK=>?_) AllReadyH.nil)
     · go_simp
       refine hK.out _ _ ?ah9 (fun hHeld=>?_)
       case ah9=>(exact Below.alloc hHeld hHeld.size _)
       clear hK K
       try simp only [Act.put,la,lz,ls]
       refine tr 5 fun K hK=>?_
       go_simp
       refine hK.out _ _ ?ajM (fun hHeld=>?_)
       case ajM=>(exact Below.alloc hHeld hHeld.size _)
       clear hK K
       try simp only [Act.put,la,lz,ls]
       have hq:W.heap.size+0≤w6.heap.size:=by have h:=hb6.size;simpa using h
       exact J _ _ _ A6 c6 _ (((Held.newAt _ [.string ⟨#[]⟩,.int .i64 0,.int .i64 0] 25 (by first | rfl | simp))).alloc _) ((Held.newAt _ aj 42 (by first | rfl | simp))) ((((Held.newAt _ JB 69 (by first | rfl | simp))).alloc _).alloc _) (by (try simp);(try omega)) (by (try simp);(try omega)) (by (try simp);(try omega)) (by (try simp);(try omega)) (by (try simp);(try omega)) (by (try simp);(try omega)) hHeld (Reads.below (Reads.more kP (fun b hl h=>by (try simp at h);refine ⟨?_,?_,?_⟩ <;> (intro e;omega))) ((((Below.refl _ _).alloc (by (try simp);(try omega)) _).alloc (by (try simp);(try omega)) _).alloc (by (try simp);(try omega)) _))
     · go_simp
       refine hK.out _ _ ?ajT (fun hHeld=>?_)
       case ajT=>(exact Below.alloc hHeld hHeld.size _)
       clear hK K
       try simp only [Act.put,la,lz,ls]
       refine tr 4 fun K hK=>?_
       go_simp
       refine hK.out _ _ ?aik (fun hHeld=>?_)
       case aik=>(exact Below.alloc hHeld hHeld.size _)
       clear hK K
       try simp only [Act.put,la,lz,ls]
       have hq:W.heap.size+0≤w6.heap.size:=by have h:=hb6.size;simpa using h
       exact J _ _ _ A6 c6 _ ((Held.newAt _ [.string ⟨#[]⟩,.int .i64 0,.int .i64 0] 25 (by first | rfl | simp))) (((Held.newAt _ aj 42 (by first | rfl | simp))).alloc _) ((((Held.newAt _ JB 69 (by first | rfl | simp))).alloc _).alloc _) (by (try simp);(try omega)) (by (try simp);(try omega)) (by (try simp);(try omega)) (by (try simp);(try omega)) (by (try simp);(try omega)) (by (try simp);(try omega)) hHeld (Reads.below (Reads.more kP (fun b hl h=>by (try simp at h);refine ⟨?_,?_,?_⟩ <;> (intro e;omega))) ((((Below.refl _ _).alloc (by (try simp);(try omega)) _).alloc (by (try simp);(try omega)) _).alloc (by (try simp);(try omega)) _))
 · go_simp
   refine hK.out _ _ ?ait (fun hHeld=>?_)
   case ait=>(exact Below.alloc hHeld hHeld.size _)
   clear hK K
   try simp only [Act.put,la,lz,ls]
   refine wpAnyH_ready (rs:=[3,5,6]) (by kernel_rfl) (by simp) ?_
   refine AllReadyH.cons (o:=_) (ga rfl) (fun K hK=>?_) (AllReadyH.cons (o:=_) (ga rfl) (fun K hK=>?_) (AllReadyH.cons (o:=_) (ga rfl) (fun K hK=>?_) AllReadyH.nil))
   · go_simp
     (go_at_call 26;refine (abC (fun _=>True) x.x x.a x.c _ (Reads.below hF.rx hHeld) hF.fit).mono ?_;rintro e w6 ⟨A6,c6,rfl,kP,hb6⟩;have iR:W.heap.size≤w6.heap.size:=Nat.le_trans hHeld.size hb6.size)
     refine hK.out _ _ ?af8 (fun hHeld=>?_)
     case af8=>(exact hHeld.trans (hb6.mono hHeld.size))
     clear hK K
     try simp only [Act.put,la,lz,ls]
     refine wpAnyH_ready (rs:=[5,6]) (by kernel_rfl) (by simp) ?_
     refine AllReadyH.cons (o:=_) (ga rfl) (fun K hK=>?_) (AllReadyH.cons (o:=_) (ga rfl) (fun K hK=>?_) AllReadyH.nil)
     · go_simp
       refine hK.out _ _ ?aj0 (fun hHeld=>?_)
       case aj0=>(exact Below.alloc hHeld hHeld.size _)
       clear hK K
       try simp only [Act.put,la,lz,ls]
       refine tr 6 fun K hK=>?_
       go_simp
       refine hK.out _ _ ?ali (fun hHeld=>?_)
       case ali=>(exact Below.alloc hHeld hHeld.size _)
       clear hK K
       try simp only [Act.put,la,lz,ls]
       have hq:W.heap.size+1≤w6.heap.size:=by have h:=hb6.size;simpa using h
       exact J _ _ _ A6 c6 _ (((((Held.newAt _ [.string ⟨#[]⟩,.int .i64 0,.int .i64 0] 25 (by first | rfl | simp)).drew.below hb6)).alloc _).alloc _) (((Held.newAt _ aj 42 (by first | rfl | simp))).alloc _) ((Held.newAt _ JB 69 (by first | rfl | simp))) (by (try simp);(try omega)) (by (try simp);(try omega)) (by (try simp);(try omega)) (by (try simp);(try omega)) (by (try simp);(try omega)) (by (try simp);(try omega)) hHeld (Reads.below (Reads.more kP (fun b hl h=>by (try simp at h);refine ⟨?_,?_,?_⟩ <;> (intro e;omega))) (((Below.refl _ _).alloc (by (try simp);(try omega)) _).alloc (by (try simp);(try omega)) _))
     · go_simp
       refine hK.out _ _ ?alq (fun hHeld=>?_)
       case alq=>(exact Below.alloc hHeld hHeld.size _)
       clear hK K
       try simp only [Act.put,la,lz,ls]
       refine tr 5 fun K hK=>?_
       go_simp
       refine hK.out _ _ ?aj9 (fun hHeld=>?_)
       case aj9=>(exact Below.alloc hHeld hHeld.size _)
       clear hK K
       try simp only [Act.put,la,lz,ls]
       have hq:W.heap.size+1≤w6.heap.size:=by have h:=hb6.size;simpa using h
       exact J _ _ _ A6 c6 _ (((((Held.newAt _ [.string ⟨#[]⟩,.int .i64 0,.int .i64 0] 25 (by first | rfl | simp)).drew.below hb6)).alloc _).alloc _) ((Held.newAt _ aj 42 (by first | rfl | simp))) (((Held.newAt _ JB 69 (by first | rfl | simp))).alloc _) (by (try simp);(try omega)) (by (try simp);(try omega)) (by (try simp);(try omega)) (by (try simp);(try omega)) (by (try simp);(try omega)) (by (try simp);(try omega)) hHeld (Reads.below (Reads.more kP (fun b hl h=>by (try simp at h);refine ⟨?_,?_,?_⟩ <;> (intro e;omega))) (((Below.refl _ _).alloc (by (try simp);(try omega)) _).alloc (by (try simp);(try omega)) _))
   · go_simp
     refine hK.out _ _ ?akh (fun hHeld=>?_)
     case akh=>(exact Below.alloc hHeld hHeld.size _)
     clear hK K
     try simp only [Act.put,la,lz,ls]
     refine wpAnyH_ready (rs:=[3,6]) (by kernel_rfl) (by simp) ?_
     refine AllReadyH.cons (o:=_) (ga rfl) (fun K hK=>?_) (AllReadyH.cons (o:=_) (ga rfl) (fun K hK=>?_) AllReadyH.nil)
     · go_simp
       (go_at_call 26;refine (abC (fun _=>True) x.x x.a x.c _ (Reads.below hF.rx hHeld) hF.fit).mono ?_;rintro e w6 ⟨A6,c6,rfl,kP,hb6⟩;have iR:W.heap.size≤w6.heap.size:=Nat.le_trans hHeld.size hb6.size)
       refine hK.out _ _ ?agi (fun hHeld=>?_)
       case agi=>(exact hHeld.trans (hb6.mono hHeld.size))
       clear hK K
       try simp only [Act.put,la,lz,ls]
       refine tr 6 fun K hK=>?_
       go_simp
       refine hK.out _ _ ?alz (fun hHeld=>?_)
       case alz=>(exact Below.alloc hHeld hHeld.size _)
       clear hK K
       try simp only [Act.put,la,lz,ls]
       have hq:W.heap.size+2≤w6.heap.size:=by have h:=hb6.size;simpa using h
       exact J _ _ _ A6 c6 _ (((((Held.newAt _ [.string ⟨#[]⟩,.int .i64 0,.int .i64 0] 25 (by first | rfl | simp)).alloc _).drew.below hb6)).alloc _) ((((Held.newAt _ aj 42 (by first | rfl | simp)).drew.below hb6)).alloc _) ((Held.newAt _ JB 69 (by first | rfl | simp))) (by (try simp);(try omega)) (by (try simp);(try omega)) (by (try simp);(try omega)) (by (try simp);(try omega)) (by (try simp);(try omega)) (by (try simp);(try omega)) hHeld (Reads.below (Reads.more kP (fun b hl h=>by (try simp at h);refine ⟨?_,?_,?_⟩ <;> (intro e;omega))) ((Below.refl _ _).alloc (by (try simp);(try omega)) _))
     · go_simp
       refine hK.out _ _ ?alG (fun hHeld=>?_)
       case alG=>(exact Below.alloc hHeld hHeld.size _)
       clear hK K
       try simp only [Act.put,la,lz,ls]
       refine tr 3 fun K hK=>?_
       go_simp
       (go_at_call 26;refine (abC (fun _=>True) x.x x.a x.c _ (Reads.below hF.rx hHeld) hF.fit).mono ?_;rintro e w6 ⟨A6,c6,rfl,kP,hb6⟩;have iR:W.heap.size≤w6.heap.size:=Nat.le_trans hHeld.size hb6.size)
       refine hK.out _ _ ?agr (fun hHeld=>?_)
       case agr=>(exact hHeld.trans (hb6.mono hHeld.size))
       clear hK K
       try simp only [Act.put,la,lz,ls]
       have hq:W.heap.size+3≤w6.heap.size:=by have h:=hb6.size;simpa using h
       exact J _ _ _ A6 c6 _ (((((Held.newAt _ [.string ⟨#[]⟩,.int .i64 0,.int .i64 0] 25 (by first | rfl | simp)).alloc _).alloc _).drew.below hb6)) ((((Held.newAt _ aj 42 (by first | rfl | simp)).alloc _).drew.below hb6)) (((Held.newAt _ JB 69 (by first | rfl | simp)).drew.below hb6)) (by (try simp);(try omega)) (by (try simp);(try omega)) (by (try simp);(try omega)) (by (try simp);(try omega)) (by (try simp);(try omega)) (by (try simp);(try omega)) hHeld (Reads.below (Reads.more kP (fun b hl h=>by (try simp at h);refine ⟨?_,?_,?_⟩ <;> (intro e;omega))) (Below.refl _ _))
   · go_simp
     refine hK.out _ _ ?alN (fun hHeld=>?_)
     case alN=>(exact Below.alloc hHeld hHeld.size _)
     clear hK K
     try simp only [Act.put,la,lz,ls]
     refine wpAnyH_ready (rs:=[3,5]) (by kernel_rfl) (by simp) ?_
     refine AllReadyH.cons (o:=_) (ga rfl) (fun K hK=>?_) (AllReadyH.cons (o:=_) (ga rfl) (fun K hK=>?_) AllReadyH.nil)
     · go_simp
       (go_at_call 26;refine (abC (fun _=>True) x.x x.a x.c _ (Reads.below hF.rx hHeld) hF.fit).mono ?_;rintro e w6 ⟨A6,c6,rfl,kP,hb6⟩;have iR:W.heap.size≤w6.heap.size:=Nat.le_trans hHeld.size hb6.size)
       refine hK.out _ _ ?agz (fun hHeld=>?_)
       case agz=>(exact hHeld.trans (hb6.mono hHeld.size))
       clear hK K
       try simp only [Act.put,la,lz,ls]
       refine tr 5 fun K hK=>?_
       go_simp
       refine hK.out _ _ ?ako (fun hHeld=>?_)
       case ako=>(exact Below.alloc hHeld hHeld.size _)
       clear hK K
       try simp only [Act.put,la,lz,ls]
       have hq:W.heap.size+2≤w6.heap.size:=by have h:=hb6.size;simpa using h
       exact J _ _ _ A6 c6 _ (((((Held.newAt _ [.string ⟨#[]⟩,.int .i64 0,.int .i64 0] 25 (by first | rfl | simp)).alloc _).drew.below hb6)).alloc _) ((Held.newAt _ aj 42 (by first | rfl | simp))) ((((Held.newAt _ JB 69 (by first | rfl | simp)).drew.below hb6)).alloc _) (by (try simp);(try omega)) (by (try simp);(try omega)) (by (try simp);(try omega)) (by (try simp);(try omega)) (by (try simp);(try omega)) (by (try simp);(try omega)) hHeld (Reads.below (Reads.more kP (fun b hl h=>by (try simp at h);refine ⟨?_,?_,?_⟩ <;> (intro e;omega))) ((Below.refl _ _).alloc (by (try simp);(try omega)) _))
     · go_simp
       refine hK.out _ _ ?akv (fun hHeld=>?_)
       case akv=>(exact Below.alloc hHeld hHeld.size _)
       clear hK K
       try simp only [Act.put,la,lz,ls]
       refine tr 3 fun K hK=>?_
       go_simp
       (go_at_call 26;refine (abC (fun _=>True) x.x x.a x.c _ (Reads.below hF.rx hHeld) hF.fit).mono ?_;rintro e w6 ⟨A6,c6,rfl,kP,hb6⟩;have iR:W.heap.size≤w6.heap.size:=Nat.le_trans hHeld.size hb6.size)
       refine hK.out _ _ ?agH (fun hHeld=>?_)
       case agH=>(exact hHeld.trans (hb6.mono hHeld.size))
       clear hK K
       try simp only [Act.put,la,lz,ls]
       have hq:W.heap.size+3≤w6.heap.size:=by have h:=hb6.size;simpa using h
       exact J _ _ _ A6 c6 _ (((((Held.newAt _ [.string ⟨#[]⟩,.int .i64 0,.int .i64 0] 25 (by first | rfl | simp)).alloc _).alloc _).drew.below hb6)) (((Held.newAt _ aj 42 (by first | rfl | simp)).drew.below hb6)) ((((Held.newAt _ JB 69 (by first | rfl | simp)).alloc _).drew.below hb6)) (by (try simp);(try omega)) (by (try simp);(try omega)) (by (try simp);(try omega)) (by (try simp);(try omega)) (by (try simp);(try omega)) (by (try simp);(try omega)) hHeld (Reads.below (Reads.more kP (fun b hl h=>by (try simp at h);refine ⟨?_,?_,?_⟩ <;> (intro e;omega))) (Below.refl _ _))
 · go_simp
   refine hK.out _ _ ?akC (fun hHeld=>?_)
   case akC=>(exact Below.alloc hHeld hHeld.size _)
   clear hK K
   try simp only [Act.put,la,lz,ls]
   refine wpAnyH_ready (rs:=[3,4,6]) (by kernel_rfl) (by simp) ?_
   refine AllReadyH.cons (o:=_) (ga rfl) (fun K hK=>?_) (AllReadyH.cons (o:=_) (ga rfl) (fun K hK=>?_) (AllReadyH.cons (o:=_) (ga rfl) (fun K hK=>?_) AllReadyH.nil))
   · go_simp
     (go_at_call 26;refine (abC (fun _=>True) x.x x.a x.c _ (Reads.below hF.rx hHeld) hF.fit).mono ?_;rintro e w6 ⟨A6,c6,rfl,kP,hb6⟩;have iR:W.heap.size≤w6.heap.size:=Nat.le_trans hHeld.size hb6.size)
     refine hK.out _ _ ?agP (fun hHeld=>?_)
     case agP=>(exact hHeld.trans (hb6.mono hHeld.size))
     clear hK K
     try simp only [Act.put,la,lz,ls]
     refine wpAnyH_ready (rs:=[4,6]) (by kernel_rfl) (by simp) ?_
     refine AllReadyH.cons (o:=_) (ga rfl) (fun K hK=>?_) (AllReadyH.cons (o:=_) (ga rfl) (fun K hK=>?_) AllReadyH.nil)
     · go_simp
       refine hK.out _ _ ?aiC (fun hHeld=>?_)
       case aiC=>(exact Below.alloc hHeld hHeld.size _)
       clear hK K
       try simp only [Act.put,la,lz,ls]
       refine tr 6 fun K hK=>?_
       go_simp
       refine hK.out _ _ ?alU (fun hHeld=>?_)
       case alU=>(exact Below.alloc hHeld hHeld.size _)
       clear hK K
       try simp only [Act.put,la,lz,ls]
       have hq:W.heap.size+1≤w6.heap.size:=by have h:=hb6.size;simpa using h
       exact J _ _ _ A6 c6 _ (((Held.newAt _ [.string ⟨#[]⟩,.int .i64 0,.int .i64 0] 25 (by first | rfl | simp))).alloc _) (((((Held.newAt _ aj 42 (by first | rfl | simp)).drew.below hb6)).alloc _).alloc _) ((Held.newAt _ JB 69 (by first | rfl | simp))) (by (try simp);(try omega)) (by (try simp);(try omega)) (by (try simp);(try omega)) (by (try simp);(try omega)) (by (try simp);(try omega)) (by (try simp);(try omega)) hHeld (Reads.below (Reads.more kP (fun b hl h=>by (try simp at h);refine ⟨?_,?_,?_⟩ <;> (intro e;omega))) (((Below.refl _ _).alloc (by (try simp);(try omega)) _).alloc (by (try simp);(try omega)) _))
     · go_simp
       refine hK.out _ _ ?al1 (fun hHeld=>?_)
       case al1=>(exact Below.alloc hHeld hHeld.size _)
       clear hK K
       try simp only [Act.put,la,lz,ls]
       refine tr 4 fun K hK=>?_
       go_simp
       refine hK.out _ _ ?aiK (fun hHeld=>?_)
       case aiK=>(exact Below.alloc hHeld hHeld.size _)
       clear hK K
       try simp only [Act.put,la,lz,ls]
       have hq:W.heap.size+1≤w6.heap.size:=by have h:=hb6.size;simpa using h
       exact J _ _ _ A6 c6 _ ((Held.newAt _ [.string ⟨#[]⟩,.int .i64 0,.int .i64 0] 25 (by first | rfl | simp))) (((((Held.newAt _ aj 42 (by first | rfl | simp)).drew.below hb6)).alloc _).alloc _) (((Held.newAt _ JB 69 (by first | rfl | simp))).alloc _) (by (try simp);(try omega)) (by (try simp);(try omega)) (by (try simp);(try omega)) (by (try simp);(try omega)) (by (try simp);(try omega)) (by (try simp);(try omega)) hHeld (Reads.below (Reads.more kP (fun b hl h=>by (try simp at h);refine ⟨?_,?_,?_⟩ <;> (intro e;omega))) (((Below.refl _ _).alloc (by (try simp);(try omega)) _).alloc (by (try simp);(try omega)) _))
   · go_simp
     refine hK.out _ _ ?aiS (fun hHeld=>?_)
     case aiS=>(exact Below.alloc hHeld hHeld.size _)
     clear hK K
     try simp only [Act.put,la,lz,ls]
     refine wpAnyH_ready (rs:=[3,6]) (by kernel_rfl) (by simp) ?_
     refine AllReadyH.cons (o:=_) (ga rfl) (fun K hK=>?_) (AllReadyH.cons (o:=_) (ga rfl) (fun K hK=>?_) AllReadyH.nil)
     · go_simp
       (go_at_call 26;refine (abC (fun _=>True) x.x x.a x.c _ (Reads.below hF.rx hHeld) hF.fit).mono ?_;rintro e w6 ⟨A6,c6,rfl,kP,hb6⟩;have iR:W.heap.size≤w6.heap.size:=Nat.le_trans hHeld.size hb6.size)
       refine hK.out _ _ ?agY (fun hHeld=>?_)
       case agY=>(exact hHeld.trans (hb6.mono hHeld.size))
       clear hK K
       try simp only [Act.put,la,lz,ls]
       refine tr 6 fun K hK=>?_
       go_simp
       refine hK.out _ _ ?al8 (fun hHeld=>?_)
       case al8=>(exact Below.alloc hHeld hHeld.size _)
       clear hK K
       try simp only [Act.put,la,lz,ls]
       have hq:W.heap.size+2≤w6.heap.size:=by have h:=hb6.size;simpa using h
       exact J _ _ _ A6 c6 _ ((((Held.newAt _ [.string ⟨#[]⟩,.int .i64 0,.int .i64 0] 25 (by first | rfl | simp)).drew.below hb6)).alloc _) (((((Held.newAt _ aj 42 (by first | rfl | simp)).alloc _).drew.below hb6)).alloc _) ((Held.newAt _ JB 69 (by first | rfl | simp))) (by (try simp);(try omega)) (by (try simp);(try omega)) (by (try simp);(try omega)) (by (try simp);(try omega)) (by (try simp);(try omega)) (by (try simp);(try omega)) hHeld (Reads.below (Reads.more kP (fun b hl h=>by (try simp at h);refine ⟨?_,?_,?_⟩ <;> (intro e;omega))) ((Below.refl _ _).alloc (by (try simp);(try omega)) _))
     · go_simp
       refine hK.out _ _ ?amf (fun hHeld=>?_)
       case amf=>(exact Below.alloc hHeld hHeld.size _)
       clear hK K
       try simp only [Act.put,la,lz,ls]
       refine tr 3 fun K hK=>?_
       go_simp
       (go_at_call 26;refine (abC (fun _=>True) x.x x.a x.c _ (Reads.below hF.rx hHeld) hF.fit).mono ?_;rintro e w6 ⟨A6,c6,rfl,kP,hb6⟩;have iR:W.heap.size≤w6.heap.size:=Nat.le_trans hHeld.size hb6.size)
       refine hK.out _ _ ?ag6 (fun hHeld=>?_)
       case ag6=>(exact hHeld.trans (hb6.mono hHeld.size))
       clear hK K
       try simp only [Act.put,la,lz,ls]
       have hq:W.heap.size+3≤w6.heap.size:=by have h:=hb6.size;simpa using h
       exact J _ _ _ A6 c6 _ ((((Held.newAt _ [.string ⟨#[]⟩,.int .i64 0,.int .i64 0] 25 (by first | rfl | simp)).alloc _).drew.below hb6)) (((((Held.newAt _ aj 42 (by first | rfl | simp)).alloc _).alloc _).drew.below hb6)) (((Held.newAt _ JB 69 (by first | rfl | simp)).drew.below hb6)) (by (try simp);(try omega)) (by (try simp);(try omega)) (by (try simp);(try omega)) (by (try simp);(try omega)) (by (try simp);(try omega)) (by (try simp);(try omega)) hHeld (Reads.below (Reads.more kP (fun b hl h=>by (try simp at h);refine ⟨?_,?_,?_⟩ <;> (intro e;omega))) (Below.refl _ _))
   · go_simp
     refine hK.out _ _ ?amm (fun hHeld=>?_)
     case amm=>(exact Below.alloc hHeld hHeld.size _)
     clear hK K
     try simp only [Act.put,la,lz,ls]
     refine wpAnyH_ready (rs:=[3,4]) (by kernel_rfl) (by simp) ?_
     refine AllReadyH.cons (o:=_) (ga rfl) (fun K hK=>?_) (AllReadyH.cons (o:=_) (ga rfl) (fun K hK=>?_) AllReadyH.nil)
     · go_simp
       (go_at_call 26;refine (abC (fun _=>True) x.x x.a x.c _ (Reads.below hF.rx hHeld) hF.fit).mono ?_;rintro e w6 ⟨A6,c6,rfl,kP,hb6⟩;have iR:W.heap.size≤w6.heap.size:=Nat.le_trans hHeld.size hb6.size)
       refine hK.out _ _ ?ahe (fun hHeld=>?_)
       case ahe=>(exact hHeld.trans (hb6.mono hHeld.size))
       clear hK K
       try simp only [Act.put,la,lz,ls]
       refine tr 4 fun K hK=>?_
       go_simp
       refine hK.out _ _ ?aiZ (fun hHeld=>?_)
       case aiZ=>(exact Below.alloc hHeld hHeld.size _)
       clear hK K
       try simp only [Act.put,la,lz,ls]
       have hq:W.heap.size+2≤w6.heap.size:=by have h:=hb6.size;simpa using h
       exact J _ _ _ A6 c6 _ ((Held.newAt _ [.string ⟨#[]⟩,.int .i64 0,.int .i64 0] 25 (by first | rfl | simp))) (((((Held.newAt _ aj 42 (by first | rfl | simp)).alloc _).drew.below hb6)).alloc _) ((((Held.newAt _ JB 69 (by first | rfl | simp)).drew.below hb6)).alloc _) (by (try simp);(try omega)) (by (try simp);(try omega)) (by (try simp);(try omega)) (by (try simp);(try omega)) (by (try simp);(try omega)) (by (try simp);(try omega)) hHeld (Reads.below (Reads.more kP (fun b hl h=>by (try simp at h);refine ⟨?_,?_,?_⟩ <;> (intro e;omega))) ((Below.refl _ _).alloc (by (try simp);(try omega)) _))
     · go_simp
       refine hK.out _ _ ?ai6 (fun hHeld=>?_)
       case ai6=>(exact Below.alloc hHeld hHeld.size _)
       clear hK K
       try simp only [Act.put,la,lz,ls]
       refine tr 3 fun K hK=>?_
       go_simp
       (go_at_call 26;refine (abC (fun _=>True) x.x x.a x.c _ (Reads.below hF.rx hHeld) hF.fit).mono ?_;rintro e w6 ⟨A6,c6,rfl,kP,hb6⟩;have iR:W.heap.size≤w6.heap.size:=Nat.le_trans hHeld.size hb6.size)
       refine hK.out _ _ ?ahm (fun hHeld=>?_)
       case ahm=>(exact hHeld.trans (hb6.mono hHeld.size))
       clear hK K
       try simp only [Act.put,la,lz,ls]
       have hq:W.heap.size+3≤w6.heap.size:=by have h:=hb6.size;simpa using h
       exact J _ _ _ A6 c6 _ (((Held.newAt _ [.string ⟨#[]⟩,.int .i64 0,.int .i64 0] 25 (by first | rfl | simp)).drew.below hb6)) (((((Held.newAt _ aj 42 (by first | rfl | simp)).alloc _).alloc _).drew.below hb6)) ((((Held.newAt _ JB 69 (by first | rfl | simp)).alloc _).drew.below hb6)) (by (try simp);(try omega)) (by (try simp);(try omega)) (by (try simp);(try omega)) (by (try simp);(try omega)) (by (try simp);(try omega)) (by (try simp);(try omega)) hHeld (Reads.below (Reads.more kP (fun b hl h=>by (try simp at h);refine ⟨?_,?_,?_⟩ <;> (intro e;omega))) (Below.refl _ _))
 · go_simp
   refine hK.out _ _ ?amv (fun hHeld=>?_)
   case amv=>(exact Below.alloc hHeld hHeld.size _)
   clear hK K
   try simp only [Act.put,la,lz,ls]
   refine wpAnyH_ready (rs:=[3,4,5]) (by kernel_rfl) (by simp) ?_
   refine AllReadyH.cons (o:=_) (ga rfl) (fun K hK=>?_) (AllReadyH.cons (o:=_) (ga rfl) (fun K hK=>?_) (AllReadyH.cons (o:=_) (ga rfl) (fun K hK=>?_) AllReadyH.nil))
   · go_simp
     (go_at_call 26;refine (abC (fun _=>True) x.x x.a x.c _ (Reads.below hF.rx hHeld) hF.fit).mono ?_;rintro e w6 ⟨A6,c6,rfl,kP,hb6⟩;have iR:W.heap.size≤w6.heap.size:=Nat.le_trans hHeld.size hb6.size)
     refine hK.out _ _ ?ahu (fun hHeld=>?_)
     case ahu=>(exact hHeld.trans (hb6.mono hHeld.size))
     clear hK K
     try simp only [Act.put,la,lz,ls]
     refine wpAnyH_ready (rs:=[4,5]) (by kernel_rfl) (by simp) ?_
     refine AllReadyH.cons (o:=_) (ga rfl) (fun K hK=>?_) (AllReadyH.cons (o:=_) (ga rfl) (fun K hK=>?_) AllReadyH.nil)
     · go_simp
       refine hK.out _ _ ?ajd (fun hHeld=>?_)
       case ajd=>(exact Below.alloc hHeld hHeld.size _)
       clear hK K
       try simp only [Act.put,la,lz,ls]
       refine tr 5 fun K hK=>?_
       go_simp
       refine hK.out _ _ ?akJ (fun hHeld=>?_)
       case akJ=>(exact Below.alloc hHeld hHeld.size _)
       clear hK K
       try simp only [Act.put,la,lz,ls]
       have hq:W.heap.size+1≤w6.heap.size:=by have h:=hb6.size;simpa using h
       exact J _ _ _ A6 c6 _ (((Held.newAt _ [.string ⟨#[]⟩,.int .i64 0,.int .i64 0] 25 (by first | rfl | simp))).alloc _) ((Held.newAt _ aj 42 (by first | rfl | simp))) (((((Held.newAt _ JB 69 (by first | rfl | simp)).drew.below hb6)).alloc _).alloc _) (by (try simp);(try omega)) (by (try simp);(try omega)) (by (try simp);(try omega)) (by (try simp);(try omega)) (by (try simp);(try omega)) (by (try simp);(try omega)) hHeld (Reads.below (Reads.more kP (fun b hl h=>by (try simp at h);refine ⟨?_,?_,?_⟩ <;> (intro e;omega))) (((Below.refl _ _).alloc (by (try simp);(try omega)) _).alloc (by (try simp);(try omega)) _))
     · go_simp
       refine hK.out _ _ ?akQ (fun hHeld=>?_)
       case akQ=>(exact Below.alloc hHeld hHeld.size _)
       clear hK K
       try simp only [Act.put,la,lz,ls]
       refine tr 4 fun K hK=>?_
       go_simp
       refine hK.out _ _ ?ajk (fun hHeld=>?_)
       case ajk=>(exact Below.alloc hHeld hHeld.size _)
       clear hK K
       try simp only [Act.put,la,lz,ls]
       have hq:W.heap.size+1≤w6.heap.size:=by have h:=hb6.size;simpa using h
       exact J _ _ _ A6 c6 _ ((Held.newAt _ [.string ⟨#[]⟩,.int .i64 0,.int .i64 0] 25 (by first | rfl | simp))) (((Held.newAt _ aj 42 (by first | rfl | simp))).alloc _) (((((Held.newAt _ JB 69 (by first | rfl | simp)).drew.below hb6)).alloc _).alloc _) (by (try simp);(try omega)) (by (try simp);(try omega)) (by (try simp);(try omega)) (by (try simp);(try omega)) (by (try simp);(try omega)) (by (try simp);(try omega)) hHeld (Reads.below (Reads.more kP (fun b hl h=>by (try simp at h);refine ⟨?_,?_,?_⟩ <;> (intro e;omega))) (((Below.refl _ _).alloc (by (try simp);(try omega)) _).alloc (by (try simp);(try omega)) _))
   · go_simp
     refine hK.out _ _ ?ajr (fun hHeld=>?_)
     case ajr=>(exact Below.alloc hHeld hHeld.size _)
     clear hK K
     try simp only [Act.put,la,lz,ls]
     refine wpAnyH_ready (rs:=[3,5]) (by kernel_rfl) (by simp) ?_
     refine AllReadyH.cons (o:=_) (ga rfl) (fun K hK=>?_) (AllReadyH.cons (o:=_) (ga rfl) (fun K hK=>?_) AllReadyH.nil)
     · go_simp
       (go_at_call 26;refine (abC (fun _=>True) x.x x.a x.c _ (Reads.below hF.rx hHeld) hF.fit).mono ?_;rintro e w6 ⟨A6,c6,rfl,kP,hb6⟩;have iR:W.heap.size≤w6.heap.size:=Nat.le_trans hHeld.size hb6.size)
       refine hK.out _ _ ?ahC (fun hHeld=>?_)
       case ahC=>(exact hHeld.trans (hb6.mono hHeld.size))
       clear hK K
       try simp only [Act.put,la,lz,ls]
       refine tr 5 fun K hK=>?_
       go_simp
       refine hK.out _ _ ?akX (fun hHeld=>?_)
       case akX=>(exact Below.alloc hHeld hHeld.size _)
       clear hK K
       try simp only [Act.put,la,lz,ls]
       have hq:W.heap.size+2≤w6.heap.size:=by have h:=hb6.size;simpa using h
       exact J _ _ _ A6 c6 _ ((((Held.newAt _ [.string ⟨#[]⟩,.int .i64 0,.int .i64 0] 25 (by first | rfl | simp)).drew.below hb6)).alloc _) ((Held.newAt _ aj 42 (by first | rfl | simp))) (((((Held.newAt _ JB 69 (by first | rfl | simp)).alloc _).drew.below hb6)).alloc _) (by (try simp);(try omega)) (by (try simp);(try omega)) (by (try simp);(try omega)) (by (try simp);(try omega)) (by (try simp);(try omega)) (by (try simp);(try omega)) hHeld (Reads.below (Reads.more kP (fun b hl h=>by (try simp at h);refine ⟨?_,?_,?_⟩ <;> (intro e;omega))) ((Below.refl _ _).alloc (by (try simp);(try omega)) _))
     · go_simp
       refine hK.out _ _ ?ak4 (fun hHeld=>?_)
       case ak4=>(exact Below.alloc hHeld hHeld.size _)
       clear hK K
       try simp only [Act.put,la,lz,ls]
       refine tr 3 fun K hK=>?_
       go_simp
       (go_at_call 26;refine (abC (fun _=>True) x.x x.a x.c _ (Reads.below hF.rx hHeld) hF.fit).mono ?_;rintro e w6 ⟨A6,c6,rfl,kP,hb6⟩;have iR:W.heap.size≤w6.heap.size:=Nat.le_trans hHeld.size hb6.size)
       refine hK.out _ _ ?ahL (fun hHeld=>?_)
       case ahL=>(exact hHeld.trans (hb6.mono hHeld.size))
       clear hK K
       try simp only [Act.put,la,lz,ls]
       have hq:W.heap.size+3≤w6.heap.size:=by have h:=hb6.size;simpa using h
       exact J _ _ _ A6 c6 _ ((((Held.newAt _ [.string ⟨#[]⟩,.int .i64 0,.int .i64 0] 25 (by first | rfl | simp)).alloc _).drew.below hb6)) (((Held.newAt _ aj 42 (by first | rfl | simp)).drew.below hb6)) (((((Held.newAt _ JB 69 (by first | rfl | simp)).alloc _).alloc _).drew.below hb6)) (by (try simp);(try omega)) (by (try simp);(try omega)) (by (try simp);(try omega)) (by (try simp);(try omega)) (by (try simp);(try omega)) (by (try simp);(try omega)) hHeld (Reads.below (Reads.more kP (fun b hl h=>by (try simp at h);refine ⟨?_,?_,?_⟩ <;> (intro e;omega))) (Below.refl _ _))
   · go_simp
     refine hK.out _ _ ?alb (fun hHeld=>?_)
     case alb=>(exact Below.alloc hHeld hHeld.size _)
     clear hK K
     try simp only [Act.put,la,lz,ls]
     refine wpAnyH_ready (rs:=[3,4]) (by kernel_rfl) (by simp) ?_
     refine AllReadyH.cons (o:=_) (ga rfl) (fun K hK=>?_) (AllReadyH.cons (o:=_) (ga rfl) (fun K hK=>?_) AllReadyH.nil)
     · go_simp
       (go_at_call 26;refine (abC (fun _=>True) x.x x.a x.c _ (Reads.below hF.rx hHeld) hF.fit).mono ?_;rintro e w6 ⟨A6,c6,rfl,kP,hb6⟩;have iR:W.heap.size≤w6.heap.size:=Nat.le_trans hHeld.size hb6.size)
       refine hK.out _ _ ?ahT (fun hHeld=>?_)
       case ahT=>(exact hHeld.trans (hb6.mono hHeld.size))
       clear hK K
       try simp only [Act.put,la,lz,ls]
       refine tr 4 fun K hK=>?_
       go_simp
       refine hK.out _ _ ?ajy (fun hHeld=>?_)
       case ajy=>(exact Below.alloc hHeld hHeld.size _)
       clear hK K
       try simp only [Act.put,la,lz,ls]
       have hq:W.heap.size+2≤w6.heap.size:=by have h:=hb6.size;simpa using h
       exact J _ _ _ A6 c6 _ ((Held.newAt _ [.string ⟨#[]⟩,.int .i64 0,.int .i64 0] 25 (by first | rfl | simp))) ((((Held.newAt _ aj 42 (by first | rfl | simp)).drew.below hb6)).alloc _) (((((Held.newAt _ JB 69 (by first | rfl | simp)).alloc _).drew.below hb6)).alloc _) (by (try simp);(try omega)) (by (try simp);(try omega)) (by (try simp);(try omega)) (by (try simp);(try omega)) (by (try simp);(try omega)) (by (try simp);(try omega)) hHeld (Reads.below (Reads.more kP (fun b hl h=>by (try simp at h);refine ⟨?_,?_,?_⟩ <;> (intro e;omega))) ((Below.refl _ _).alloc (by (try simp);(try omega)) _))
     · go_simp
       refine hK.out _ _ ?ajF (fun hHeld=>?_)
       case ajF=>(exact Below.alloc hHeld hHeld.size _)
       clear hK K
       try simp only [Act.put,la,lz,ls]
       refine tr 3 fun K hK=>?_
       go_simp
       (go_at_call 26;refine (abC (fun _=>True) x.x x.a x.c _ (Reads.below hF.rx hHeld) hF.fit).mono ?_;rintro e w6 ⟨A6,c6,rfl,kP,hb6⟩;have iR:W.heap.size≤w6.heap.size:=Nat.le_trans hHeld.size hb6.size)
       refine hK.out _ _ ?ah1 (fun hHeld=>?_)
       case ah1=>(exact hHeld.trans (hb6.mono hHeld.size))
       clear hK K
       try simp only [Act.put,la,lz,ls]
       have hq:W.heap.size+3≤w6.heap.size:=by have h:=hb6.size;simpa using h
       exact J _ _ _ A6 c6 _ (((Held.newAt _ [.string ⟨#[]⟩,.int .i64 0,.int .i64 0] 25 (by first | rfl | simp)).drew.below hb6)) ((((Held.newAt _ aj 42 (by first | rfl | simp)).alloc _).drew.below hb6)) (((((Held.newAt _ JB 69 (by first | rfl | simp)).alloc _).alloc _).drew.below hb6)) (by (try simp);(try omega)) (by (try simp);(try omega)) (by (try simp);(try omega)) (by (try simp);(try omega)) (by (try simp);(try omega)) (by (try simp);(try omega)) hHeld (Reads.below (Reads.more kP (fun b hl h=>by (try simp at h);refine ⟨?_,?_,?_⟩ <;> (intro e;omega))) (Below.refl _ _))
theorem asJ (W0:World) (r:M.Rules) (s:M.State) (x:Sh) (As:Option Addr) (cs:Nat) (HG:Hid (Glob W0)) (HN:Hid (aqt W0 r s x As cs)):aql W0 r s x As cs:=by
 intro _ z1 z2 _ _ _ _ _ _ _ _ _ _ _ _ _ _ _ _ _ _ _ _ _ _ _ _ _ _ _ _ _ _ _ _ _ _ _ _ _ _ _ _ _ _ _ _ _ _ _ _ _ _ _ _ _ _ _ _ _ _ _ _ _ _ _ _ _ _ _ _ _ _ _ _ _ _ _ _ _ _ _ _ _ _ _ _ _ _ _ _ _ _ _ _ _ _ _ _ _ _ _ _ _ _ _ _ _ _ _ _ _ _ _ _ _ _ _ _ _ _ _ _ _ _ _ _ _ _ _ _ _ _ _ _ _ _ _ _ _ _ _ _ _ _ _ _ _ _ _ _ _ _ _ _ _ _ _ _ _ _ _ _ _ _ _ _ _ _ _ _ _ _ _ _ _ _ _ _ _ _ _ _ _ _ _ _ _ _ _ _ _ _ _ _ _ _ _ _ _ _ _ _ _ _ _ _ _ _ _ _ _ _ _ _ _ _ hf
 dsimp only [aal,dQ,Tryz.f11,Option.getD]
 have hE:=hf
 obtain ⟨hF,B7,B8,B9,A9,c9,rfl,h7,rfl,h8,rfl,h9,hp9⟩:=id hE
 have hF':=hF
 obtain ⟨rfl,rfl,rfl,h3,h4,h5,hs,hx,hfit,hbw⟩:=hF'
 have k0:=h3.cell (j:=0) rfl
 have HG9:=hide (HG.out.below hbw)
 apply wp_seq_k
 intro K hK
 have HK:=hide hK
 clear hK
 apply wp_seq_k
 intro K2 hK2
 have PD:=hide hK2
 clear hK2
 by_cases hg:60<r.game.size
 · have hg':(60:Int)<(r.game.size:Int):=by omega
   go_wp2_with (first | (refine aN 25 (.tmp 7) rfl ?_;refine aG (aaJ) Tryz.underlying25 rfl aeQ rfl (.tmp 7) rfl rfl ?_) | (refine aN 25 (.tmp 7) rfl ?_;refine su (aaJ) Tryz.underlying25 rfl aeQ rfl (.tmp 7) rfl rfl ?_) | (refine vg 25 (.tmp 7) rfl ?_;refine sD (aaJ) Tryz.underlying25 rfl aeQ (.tmp 7) rfl rfl ?_) | (refine aN 42 (.tmp 8) rfl ?_;refine aG (aaR) Tryz.underlying42 rfl ZP rfl (.tmp 8) rfl rfl ?_) | (refine aN 42 (.tmp 8) rfl ?_;refine su (aaR) Tryz.underlying42 rfl ZP rfl (.tmp 8) rfl rfl ?_) | (refine vg 42 (.tmp 8) rfl ?_;refine sD (aaR) Tryz.underlying42 rfl ZP (.tmp 8) rfl rfl ?_) | (refine aN 69 (.tmp 9) rfl ?_;refine aG (h9s) Tryz.underlying69 rfl afD rfl (.tmp 9) rfl rfl ?_) | (refine aN 69 (.tmp 9) rfl ?_;refine su (h9s) Tryz.underlying69 rfl afD rfl (.tmp 9) rfl rfl ?_) | (refine vg 69 (.tmp 9) rfl ?_;refine sD (h9s) Tryz.underlying69 rfl afD (.tmp 9) rfl rfl ?_) | (refine aN 42 (.tmp 8) rfl ?_;refine aG (h8) Tryz.underlying42 rfl ZP rfl (.tmp 8) rfl rfl ?_) | (refine aN 42 (.tmp 8) rfl ?_;refine su (h8) Tryz.underlying42 rfl ZP rfl (.tmp 8) rfl rfl ?_) | (refine vg 42 (.tmp 8) rfl ?_;refine sD (h8) Tryz.underlying42 rfl ZP (.tmp 8) rfl rfl ?_) | (refine aN 69 (.tmp 9) rfl ?_;refine aG (h9') Tryz.underlying69 rfl afD rfl (.tmp 9) rfl rfl ?_) | (refine aN 69 (.tmp 9) rfl ?_;refine su (h9') Tryz.underlying69 rfl afD rfl (.tmp 9) rfl rfl ?_) | (refine vg 69 (.tmp 9) rfl ?_;refine sD (h9') Tryz.underlying69 rfl afD (.tmp 9) rfl rfl ?_) | (go_at_call 34;refine (adM s As cs _ (bD.bd hs).2.2).mono ?_;rw [hd1];rintro e w1 ⟨rfl,hb1⟩;have HG9:=hide (HG9.out.below hb1);have h9':=h9.below hb1;have h7':=h7.below hb1;have h8':=h8.below hb1;dsimp only) | (go_at_call 27;refine (ZJ x.x A9 c9 _ (jl.bd hp9).2.2).mono ?_;rw [hd2];rintro e w2 ⟨rfl,hb2⟩;have HG9:=hide (HG9.out.below hb2);have aaJ:=h7'.below hb2;have aaR:=h8'.below hb2;have adf:=h9'.below hb2;dsimp only) | (go_at_call 43;refine (ac9 _ r s As cs _ ((hs.below hb1).below hb2)).mono ?_;rw [hE1];rintro e w3 ⟨rfl,hb3⟩;have HG9:=hide (HG9.out.below hb3);have h9s:=adf.below hb3;dsimp only) | (go_at_call 30;refine (AL _ x.x A9 c9 _ (Reads.below (Reads.below (Reads.below hp9 hb1) hb2) hb3)).mono ?_;rw [hE2];rintro e w4 ⟨rfl,hb4⟩;have HG9:=hide (HG9.out.below hb4);dsimp only))
   refine PD.out _ _ ?_
   go_wp2_with (first | (go_at_call 17;refine (QJ _ HG9.out).mono ?_;rintro e w9 ⟨rfl,U6⟩;dsimp only))
   go_ret
   exact ⟨rfl,VY hbw U6⟩
 · have hg':¬ (60:Int)<(r.game.size:Int):=by omega
   by_cases h20:s.ay.length≤20
   · have hd1:decide (s.ay.length≤20)=true:=decide_eq_true h20
     clear h20
     by_cases hsx:x.x.kind.size≤60∧x.x.aA.length≤18
     · have hd2:decide (x.x.kind.size≤60∧x.x.aA.length≤18)=true:=decide_eq_true hsx
       clear hsx
       obtain ⟨E1,hE1⟩:∃ E,M.jf r s=E:=⟨_,rfl⟩
       obtain ⟨E2,hE2⟩:∃ E,M.cZ x.x=E:=⟨_,rfl⟩
       by_cases z1:E1=0
       · subst z1
         by_cases z2:E2=0
         · subst z2
           go_wp2_with (first | (refine aN 25 (.tmp 7) rfl ?_;refine aG (aaJ) Tryz.underlying25 rfl aeQ rfl (.tmp 7) rfl rfl ?_) | (refine aN 25 (.tmp 7) rfl ?_;refine su (aaJ) Tryz.underlying25 rfl aeQ rfl (.tmp 7) rfl rfl ?_) | (refine vg 25 (.tmp 7) rfl ?_;refine sD (aaJ) Tryz.underlying25 rfl aeQ (.tmp 7) rfl rfl ?_) | (refine aN 42 (.tmp 8) rfl ?_;refine aG (aaR) Tryz.underlying42 rfl ZP rfl (.tmp 8) rfl rfl ?_) | (refine aN 42 (.tmp 8) rfl ?_;refine su (aaR) Tryz.underlying42 rfl ZP rfl (.tmp 8) rfl rfl ?_) | (refine vg 42 (.tmp 8) rfl ?_;refine sD (aaR) Tryz.underlying42 rfl ZP (.tmp 8) rfl rfl ?_) | (refine aN 69 (.tmp 9) rfl ?_;refine aG (h9s) Tryz.underlying69 rfl afD rfl (.tmp 9) rfl rfl ?_) | (refine aN 69 (.tmp 9) rfl ?_;refine su (h9s) Tryz.underlying69 rfl afD rfl (.tmp 9) rfl rfl ?_) | (refine vg 69 (.tmp 9) rfl ?_;refine sD (h9s) Tryz.underlying69 rfl afD (.tmp 9) rfl rfl ?_) | (refine aN 42 (.tmp 8) rfl ?_;refine aG (h8) Tryz.underlying42 rfl ZP rfl (.tmp 8) rfl rfl ?_) | (refine aN 42 (.tmp 8) rfl ?_;refine su (h8) Tryz.underlying42 rfl ZP rfl (.tmp 8) rfl rfl ?_) | (refine vg 42 (.tmp 8) rfl ?_;refine sD (h8) Tryz.underlying42 rfl ZP (.tmp 8) rfl rfl ?_) | (refine aN 69 (.tmp 9) rfl ?_;refine aG (h9') Tryz.underlying69 rfl afD rfl (.tmp 9) rfl rfl ?_) | (refine aN 69 (.tmp 9) rfl ?_;refine su (h9') Tryz.underlying69 rfl afD rfl (.tmp 9) rfl rfl ?_) | (refine vg 69 (.tmp 9) rfl ?_;refine sD (h9') Tryz.underlying69 rfl afD (.tmp 9) rfl rfl ?_) | (go_at_call 34;refine (adM s As cs _ (bD.bd hs).2.2).mono ?_;rw [hd1];rintro e w1 ⟨rfl,hb1⟩;have HG9:=hide (HG9.out.below hb1);have h9':=h9.below hb1;have h7':=h7.below hb1;have h8':=h8.below hb1;dsimp only) | (go_at_call 27;refine (ZJ x.x A9 c9 _ (jl.bd hp9).2.2).mono ?_;rw [hd2];rintro e w2 ⟨rfl,hb2⟩;have HG9:=hide (HG9.out.below hb2);have aaJ:=h7'.below hb2;have aaR:=h8'.below hb2;have adf:=h9'.below hb2;dsimp only) | (go_at_call 43;refine (ac9 _ r s As cs _ ((hs.below hb1).below hb2)).mono ?_;rw [hE1];rintro e w3 ⟨rfl,hb3⟩;have HG9:=hide (HG9.out.below hb3);have h9s:=adf.below hb3;dsimp only) | (go_at_call 30;refine (AL _ x.x A9 c9 _ (Reads.below (Reads.below (Reads.below hp9 hb1) hb2) hb3)).mono ?_;rw [hE2];rintro e w4 ⟨rfl,hb4⟩;have HG9:=hide (HG9.out.below hb4);dsimp only))
           refine PD.out _ _ ?_
           go_wp2
           refine HK.out _ _ ?_
           apply HN.out
           exact ⟨(((hE.below hb1).below hb2).below hb3).below hb4,hE1,hE2⟩
         · have z2':(E2 != 0)=true:=by simpa using z2
           clear z2
           go_wp2_with (first | (refine aN 25 (.tmp 7) rfl ?_;refine aG (aaJ) Tryz.underlying25 rfl aeQ rfl (.tmp 7) rfl rfl ?_) | (refine aN 25 (.tmp 7) rfl ?_;refine su (aaJ) Tryz.underlying25 rfl aeQ rfl (.tmp 7) rfl rfl ?_) | (refine vg 25 (.tmp 7) rfl ?_;refine sD (aaJ) Tryz.underlying25 rfl aeQ (.tmp 7) rfl rfl ?_) | (refine aN 42 (.tmp 8) rfl ?_;refine aG (aaR) Tryz.underlying42 rfl ZP rfl (.tmp 8) rfl rfl ?_) | (refine aN 42 (.tmp 8) rfl ?_;refine su (aaR) Tryz.underlying42 rfl ZP rfl (.tmp 8) rfl rfl ?_) | (refine vg 42 (.tmp 8) rfl ?_;refine sD (aaR) Tryz.underlying42 rfl ZP (.tmp 8) rfl rfl ?_) | (refine aN 69 (.tmp 9) rfl ?_;refine aG (h9s) Tryz.underlying69 rfl afD rfl (.tmp 9) rfl rfl ?_) | (refine aN 69 (.tmp 9) rfl ?_;refine su (h9s) Tryz.underlying69 rfl afD rfl (.tmp 9) rfl rfl ?_) | (refine vg 69 (.tmp 9) rfl ?_;refine sD (h9s) Tryz.underlying69 rfl afD (.tmp 9) rfl rfl ?_) | (refine aN 42 (.tmp 8) rfl ?_;refine aG (h8) Tryz.underlying42 rfl ZP rfl (.tmp 8) rfl rfl ?_) | (refine aN 42 (.tmp 8) rfl ?_;refine su (h8) Tryz.underlying42 rfl ZP rfl (.tmp 8) rfl rfl ?_) | (refine vg 42 (.tmp 8) rfl ?_;refine sD (h8) Tryz.underlying42 rfl ZP (.tmp 8) rfl rfl ?_) | (refine aN 69 (.tmp 9) rfl ?_;refine aG (h9') Tryz.underlying69 rfl afD rfl (.tmp 9) rfl rfl ?_) | (refine aN 69 (.tmp 9) rfl ?_;refine su (h9') Tryz.underlying69 rfl afD rfl (.tmp 9) rfl rfl ?_) | (refine vg 69 (.tmp 9) rfl ?_;refine sD (h9') Tryz.underlying69 rfl afD (.tmp 9) rfl rfl ?_) | (go_at_call 34;refine (adM s As cs _ (bD.bd hs).2.2).mono ?_;rw [hd1];rintro e w1 ⟨rfl,hb1⟩;have HG9:=hide (HG9.out.below hb1);have h9':=h9.below hb1;have h7':=h7.below hb1;have h8':=h8.below hb1;dsimp only) | (go_at_call 27;refine (ZJ x.x A9 c9 _ (jl.bd hp9).2.2).mono ?_;rw [hd2];rintro e w2 ⟨rfl,hb2⟩;have HG9:=hide (HG9.out.below hb2);have aaJ:=h7'.below hb2;have aaR:=h8'.below hb2;have adf:=h9'.below hb2;dsimp only) | (go_at_call 43;refine (ac9 _ r s As cs _ ((hs.below hb1).below hb2)).mono ?_;rw [hE1];rintro e w3 ⟨rfl,hb3⟩;have HG9:=hide (HG9.out.below hb3);have h9s:=adf.below hb3;dsimp only) | (go_at_call 30;refine (AL _ x.x A9 c9 _ (Reads.below (Reads.below (Reads.below hp9 hb1) hb2) hb3)).mono ?_;rw [hE2];rintro e w4 ⟨rfl,hb4⟩;have HG9:=hide (HG9.out.below hb4);dsimp only))
           refine PD.out _ _ ?_
           go_wp2_with (first | (go_at_call 17;refine (QJ _ HG9.out).mono ?_;rintro e w9 ⟨rfl,U6⟩;dsimp only))
           go_ret
           exact ⟨rfl,VY (VY (VY (VY (VY hbw hb1) hb2) hb3) hb4) U6⟩
       · have z1':(E1 != 0)=true:=by simpa using z1
         clear z1
         go_wp2_with (first | (refine aN 25 (.tmp 7) rfl ?_;refine aG (aaJ) Tryz.underlying25 rfl aeQ rfl (.tmp 7) rfl rfl ?_) | (refine aN 25 (.tmp 7) rfl ?_;refine su (aaJ) Tryz.underlying25 rfl aeQ rfl (.tmp 7) rfl rfl ?_) | (refine vg 25 (.tmp 7) rfl ?_;refine sD (aaJ) Tryz.underlying25 rfl aeQ (.tmp 7) rfl rfl ?_) | (refine aN 42 (.tmp 8) rfl ?_;refine aG (aaR) Tryz.underlying42 rfl ZP rfl (.tmp 8) rfl rfl ?_) | (refine aN 42 (.tmp 8) rfl ?_;refine su (aaR) Tryz.underlying42 rfl ZP rfl (.tmp 8) rfl rfl ?_) | (refine vg 42 (.tmp 8) rfl ?_;refine sD (aaR) Tryz.underlying42 rfl ZP (.tmp 8) rfl rfl ?_) | (refine aN 69 (.tmp 9) rfl ?_;refine aG (h9s) Tryz.underlying69 rfl afD rfl (.tmp 9) rfl rfl ?_) | (refine aN 69 (.tmp 9) rfl ?_;refine su (h9s) Tryz.underlying69 rfl afD rfl (.tmp 9) rfl rfl ?_) | (refine vg 69 (.tmp 9) rfl ?_;refine sD (h9s) Tryz.underlying69 rfl afD (.tmp 9) rfl rfl ?_) | (refine aN 42 (.tmp 8) rfl ?_;refine aG (h8) Tryz.underlying42 rfl ZP rfl (.tmp 8) rfl rfl ?_) | (refine aN 42 (.tmp 8) rfl ?_;refine su (h8) Tryz.underlying42 rfl ZP rfl (.tmp 8) rfl rfl ?_) | (refine vg 42 (.tmp 8) rfl ?_;refine sD (h8) Tryz.underlying42 rfl ZP (.tmp 8) rfl rfl ?_) | (refine aN 69 (.tmp 9) rfl ?_;refine aG (h9') Tryz.underlying69 rfl afD rfl (.tmp 9) rfl rfl ?_) | (refine aN 69 (.tmp 9) rfl ?_;refine su (h9') Tryz.underlying69 rfl afD rfl (.tmp 9) rfl rfl ?_) | (refine vg 69 (.tmp 9) rfl ?_;refine sD (h9') Tryz.underlying69 rfl afD (.tmp 9) rfl rfl ?_) | (go_at_call 34;refine (adM s As cs _ (bD.bd hs).2.2).mono ?_;rw [hd1];rintro e w1 ⟨rfl,hb1⟩;have HG9:=hide (HG9.out.below hb1);have h9':=h9.below hb1;have h7':=h7.below hb1;have h8':=h8.below hb1;dsimp only) | (go_at_call 27;refine (ZJ x.x A9 c9 _ (jl.bd hp9).2.2).mono ?_;rw [hd2];rintro e w2 ⟨rfl,hb2⟩;have HG9:=hide (HG9.out.below hb2);have aaJ:=h7'.below hb2;have aaR:=h8'.below hb2;have adf:=h9'.below hb2;dsimp only) | (go_at_call 43;refine (ac9 _ r s As cs _ ((hs.below hb1).below hb2)).mono ?_;rw [hE1];rintro e w3 ⟨rfl,hb3⟩;have HG9:=hide (HG9.out.below hb3);have h9s:=adf.below hb3;dsimp only) | (go_at_call 30;refine (AL _ x.x A9 c9 _ (Reads.below (Reads.below (Reads.below hp9 hb1) hb2) hb3)).mono ?_;rw [hE2];rintro e w4 ⟨rfl,hb4⟩;have HG9:=hide (HG9.out.below hb4);dsimp only))
         refine PD.out _ _ ?_
         go_wp2_with (first | (go_at_call 17;refine (QJ _ HG9.out).mono ?_;rintro e w9 ⟨rfl,U6⟩;dsimp only))
         go_ret
         exact ⟨rfl,VY (VY (VY (VY hbw hb1) hb2) hb3) U6⟩
     · have hd2:decide (x.x.kind.size≤60∧x.x.aA.length≤18)=false:=decide_eq_false hsx
       clear hsx
       go_wp2_with (first | (refine aN 25 (.tmp 7) rfl ?_;refine aG (aaJ) Tryz.underlying25 rfl aeQ rfl (.tmp 7) rfl rfl ?_) | (refine aN 25 (.tmp 7) rfl ?_;refine su (aaJ) Tryz.underlying25 rfl aeQ rfl (.tmp 7) rfl rfl ?_) | (refine vg 25 (.tmp 7) rfl ?_;refine sD (aaJ) Tryz.underlying25 rfl aeQ (.tmp 7) rfl rfl ?_) | (refine aN 42 (.tmp 8) rfl ?_;refine aG (aaR) Tryz.underlying42 rfl ZP rfl (.tmp 8) rfl rfl ?_) | (refine aN 42 (.tmp 8) rfl ?_;refine su (aaR) Tryz.underlying42 rfl ZP rfl (.tmp 8) rfl rfl ?_) | (refine vg 42 (.tmp 8) rfl ?_;refine sD (aaR) Tryz.underlying42 rfl ZP (.tmp 8) rfl rfl ?_) | (refine aN 69 (.tmp 9) rfl ?_;refine aG (h9s) Tryz.underlying69 rfl afD rfl (.tmp 9) rfl rfl ?_) | (refine aN 69 (.tmp 9) rfl ?_;refine su (h9s) Tryz.underlying69 rfl afD rfl (.tmp 9) rfl rfl ?_) | (refine vg 69 (.tmp 9) rfl ?_;refine sD (h9s) Tryz.underlying69 rfl afD (.tmp 9) rfl rfl ?_) | (refine aN 42 (.tmp 8) rfl ?_;refine aG (h8) Tryz.underlying42 rfl ZP rfl (.tmp 8) rfl rfl ?_) | (refine aN 42 (.tmp 8) rfl ?_;refine su (h8) Tryz.underlying42 rfl ZP rfl (.tmp 8) rfl rfl ?_) | (refine vg 42 (.tmp 8) rfl ?_;refine sD (h8) Tryz.underlying42 rfl ZP (.tmp 8) rfl rfl ?_) | (refine aN 69 (.tmp 9) rfl ?_;refine aG (h9') Tryz.underlying69 rfl afD rfl (.tmp 9) rfl rfl ?_) | (refine aN 69 (.tmp 9) rfl ?_;refine su (h9') Tryz.underlying69 rfl afD rfl (.tmp 9) rfl rfl ?_) | (refine vg 69 (.tmp 9) rfl ?_;refine sD (h9') Tryz.underlying69 rfl afD (.tmp 9) rfl rfl ?_) | (go_at_call 34;refine (adM s As cs _ (bD.bd hs).2.2).mono ?_;rw [hd1];rintro e w1 ⟨rfl,hb1⟩;have HG9:=hide (HG9.out.below hb1);have h9':=h9.below hb1;have h7':=h7.below hb1;have h8':=h8.below hb1;dsimp only) | (go_at_call 27;refine (ZJ x.x A9 c9 _ (jl.bd hp9).2.2).mono ?_;rw [hd2];rintro e w2 ⟨rfl,hb2⟩;have HG9:=hide (HG9.out.below hb2);have aaJ:=h7'.below hb2;have aaR:=h8'.below hb2;have adf:=h9'.below hb2;dsimp only) | (go_at_call 43;refine (ac9 _ r s As cs _ ((hs.below hb1).below hb2)).mono ?_;rw [hE1];rintro e w3 ⟨rfl,hb3⟩;have HG9:=hide (HG9.out.below hb3);have h9s:=adf.below hb3;dsimp only) | (go_at_call 30;refine (AL _ x.x A9 c9 _ (Reads.below (Reads.below (Reads.below hp9 hb1) hb2) hb3)).mono ?_;rw [hE2];rintro e w4 ⟨rfl,hb4⟩;have HG9:=hide (HG9.out.below hb4);dsimp only))
       refine PD.out _ _ ?_
       go_wp2_with (first | (go_at_call 17;refine (QJ _ HG9.out).mono ?_;rintro e w9 ⟨rfl,U6⟩;dsimp only))
       go_ret
       exact ⟨rfl,VY (VY (VY hbw hb1) hb2) U6⟩
   · have hd1:decide (s.ay.length≤20)=false:=decide_eq_false h20
     clear h20
     go_wp2_with (first | (refine aN 25 (.tmp 7) rfl ?_;refine aG (aaJ) Tryz.underlying25 rfl aeQ rfl (.tmp 7) rfl rfl ?_) | (refine aN 25 (.tmp 7) rfl ?_;refine su (aaJ) Tryz.underlying25 rfl aeQ rfl (.tmp 7) rfl rfl ?_) | (refine vg 25 (.tmp 7) rfl ?_;refine sD (aaJ) Tryz.underlying25 rfl aeQ (.tmp 7) rfl rfl ?_) | (refine aN 42 (.tmp 8) rfl ?_;refine aG (aaR) Tryz.underlying42 rfl ZP rfl (.tmp 8) rfl rfl ?_) | (refine aN 42 (.tmp 8) rfl ?_;refine su (aaR) Tryz.underlying42 rfl ZP rfl (.tmp 8) rfl rfl ?_) | (refine vg 42 (.tmp 8) rfl ?_;refine sD (aaR) Tryz.underlying42 rfl ZP (.tmp 8) rfl rfl ?_) | (refine aN 69 (.tmp 9) rfl ?_;refine aG (h9s) Tryz.underlying69 rfl afD rfl (.tmp 9) rfl rfl ?_) | (refine aN 69 (.tmp 9) rfl ?_;refine su (h9s) Tryz.underlying69 rfl afD rfl (.tmp 9) rfl rfl ?_) | (refine vg 69 (.tmp 9) rfl ?_;refine sD (h9s) Tryz.underlying69 rfl afD (.tmp 9) rfl rfl ?_) | (refine aN 42 (.tmp 8) rfl ?_;refine aG (h8) Tryz.underlying42 rfl ZP rfl (.tmp 8) rfl rfl ?_) | (refine aN 42 (.tmp 8) rfl ?_;refine su (h8) Tryz.underlying42 rfl ZP rfl (.tmp 8) rfl rfl ?_) | (refine vg 42 (.tmp 8) rfl ?_;refine sD (h8) Tryz.underlying42 rfl ZP (.tmp 8) rfl rfl ?_) | (refine aN 69 (.tmp 9) rfl ?_;refine aG (h9') Tryz.underlying69 rfl afD rfl (.tmp 9) rfl rfl ?_) | (refine aN 69 (.tmp 9) rfl ?_;refine su (h9') Tryz.underlying69 rfl afD rfl (.tmp 9) rfl rfl ?_) | (refine vg 69 (.tmp 9) rfl ?_;refine sD (h9') Tryz.underlying69 rfl afD (.tmp 9) rfl rfl ?_) | (go_at_call 34;refine (adM s As cs _ (bD.bd hs).2.2).mono ?_;rw [hd1];rintro e w1 ⟨rfl,hb1⟩;have HG9:=hide (HG9.out.below hb1);have h9':=h9.below hb1;have h7':=h7.below hb1;have h8':=h8.below hb1;dsimp only) | (go_at_call 27;refine (ZJ x.x A9 c9 _ (jl.bd hp9).2.2).mono ?_;rw [hd2];rintro e w2 ⟨rfl,hb2⟩;have HG9:=hide (HG9.out.below hb2);have aaJ:=h7'.below hb2;have aaR:=h8'.below hb2;have adf:=h9'.below hb2;dsimp only) | (go_at_call 43;refine (ac9 _ r s As cs _ ((hs.below hb1).below hb2)).mono ?_;rw [hE1];rintro e w3 ⟨rfl,hb3⟩;have HG9:=hide (HG9.out.below hb3);have h9s:=adf.below hb3;dsimp only) | (go_at_call 30;refine (AL _ x.x A9 c9 _ (Reads.below (Reads.below (Reads.below hp9 hb1) hb2) hb3)).mono ?_;rw [hE2];rintro e w4 ⟨rfl,hb4⟩;have HG9:=hide (HG9.out.below hb4);dsimp only))
     refine PD.out _ _ ?_
     go_wp2_with (first | (go_at_call 17;refine (QJ _ HG9.out).mono ?_;rintro e w9 ⟨rfl,U6⟩;dsimp only))
     go_ret
     exact ⟨rfl,VY (VY hbw hb1) U6⟩
theorem asQ (W0:World) (r:M.Rules) (s:M.State) (x:Sh) (As:Option Addr) (cs:Nat) (HG:Hid (Glob W0)) (HN:Hid (aqA W0 r s x As cs)):aqt W0 r s x As cs:=by
 intro _ _ _ _ _ _ _ _ _ _ _ _ _ _ _ _ _ _ _ _ _ _ _ _ _ _ _ _ _ _ _ _ _ _ _ _ _ _ _ _ _ _ _ _ _ _ _ _ _ _ _ _ _ _ _ _ _ _ _ _ _ _ _ _ _ _ _ _ _ _ _ _ _ _ _ _ _ _ _ _ _ _ _ _ _ _ _ _ _ _ _ _ _ _ _ _ _ _ _ _ _ _ _ _ _ _ _ _ _ _ _ _ _ _ _ _ _ _ _ _ _ _ _ _ _ _ _ _ _ _ _ _ _ _ _ _ _ _ _ _ _ _ _ _ _ _ _ _ _ _ _ _ _ _ _ _ _ _ _ _ _ _ _ _ _ _ _ _ _ _ _ _ _ _ _ _ _ _ _ _ _ _ _ _ _ _ _ _ _ _ _ _ _ _ _ _ _ _ _ _ _ _ _ _ _ _ _ _ _ _ _ _ _ _ _ _ W hf
 dsimp only [aal,dQ,Tryz.f11,Option.getD]
 obtain ⟨hE,hc1,hc2⟩:=hf
 obtain ⟨hF,B7,B8,B9,A9,c9,rfl,h7,rfl,h8,rfl,h9,hp9⟩:=id hE
 obtain ⟨rfl,rfl,rfl,h3,h4,h5,hs,hx,hfit,hbw⟩:=hF
 have hcl:=amY r s x.x As x.a cs x.c W hc1 hc2 hs hx
 have JF:=hide hcl
 have HC:=hide (And.intro hc1 hc2)
 clear hcl hc1 hc2
 apply wp_seq_k
 intro K hK
 have HK:=hide hK
 clear hK
 go_wp2_with (first | (refine aN 23 (.tmp 3) rfl ?_;refine aG (h3) Tryz.underlying23 rfl kV rfl (.tmp 3) rfl rfl ?_) | (refine aN 33 (.tmp 4) rfl ?_;refine aG (h4) Tryz.underlying33 rfl bW rfl (.tmp 4) rfl rfl ?_) | (refine aN 66 (.tmp 5) rfl ?_;refine aG (h5) Tryz.underlying66 rfl aV rfl (.tmp 5) rfl rfl ?_) | (go_at_call 49;refine JF.out.mono ?_;rintro e w1 ⟨rfl,hb1⟩;dsimp only))
 refine HK.out _ _ ?_
 apply HN.out
 exact ⟨hE.below hb1,HC.out,rfl,rfl⟩
theorem asY (W0:World) (r:M.Rules) (s:M.State) (x:Sh) (As:Option Addr) (cs:Nat) (HG:Hid (Glob W0)) (HN:Hid (aqH W0 r s x As cs)):aqA W0 r s x As cs:=by
 intro _ _ _ _ _ _ _ _ _ _ _ _ _ _ _ _ _ _ _ _ _ _ _ _ _ _ _ _ _ _ _ _ _ _ _ _ _ _ _ _ _ _ _ _ _ _ _ _ _ _ _ _ _ _ _ _ _ _ _ _ _ _ _ _ _ _ _ _ _ _ _ _ _ _ _ _ _ _ _ _ _ _ _ _ _ _ _ _ _ _ _ _ _ _ _ _ _ _ _ _ _ _ _ _ _ _ _ _ _ _ _ _ _ _ _ _ _ _ _ _ _ _ _ _ _ _ _ _ _ _ _ _ _ _ _ _ _ _ _ _ _ _ _ _ _ _ _ _ _ _ _ _ _ _ _ _ _ _ _ _ _ _ _ _ _ _ _ _ _ _ _ _ _ _ _ _ _ _ _ _ _ _ _ _ _ _ _ _ _ _ _ _ _ _ _ _ _ _ _ _ _ _ _ _ _ _ _ _ _ _ _ _ _ _ _ _ W hf
 dsimp only [aal,dQ,Tryz.f11,Option.getD]
 obtain ⟨hE,hc,rfl,rfl⟩:=hf
 obtain ⟨hF,B7,B8,B9,A9,c9,rfl,h7,rfl,h8,rfl,h9,hp9⟩:=id hE
 obtain ⟨rfl,rfl,rfl,h3,h4,h5,hs,hx,hfit,hbw⟩:=hF
 have hcl:=afP _ r s x.x As x.a cs x.c W hs hx
 have JF:=hide hcl
 have HC:=hide hc
 clear hcl hc
 apply wp_seq_k
 intro K hK
 have HK:=hide hK
 clear hK
 go_wp2_with (first | (refine aN 23 (.tmp 3) rfl ?_;refine aG (h3) Tryz.underlying23 rfl kV rfl (.tmp 3) rfl rfl ?_) | (refine aN 33 (.tmp 4) rfl ?_;refine aG (h4) Tryz.underlying33 rfl bW rfl (.tmp 4) rfl rfl ?_) | (refine aN 66 (.tmp 5) rfl ?_;refine aG (h5) Tryz.underlying66 rfl aV rfl (.tmp 5) rfl rfl ?_) | (go_at_call 44;refine JF.out.mono ?_;rintro e w1 ⟨A1,c1,rfl,hr1,hb1⟩;have hbx:=Held.new w1 aj 33;dsimp only) | (refine aO 33 (.tmp 12) (.tmp 65) rfl ?_;refine aF hbx (aW (aa0 r s x.x) A1 c1) rfl bW (dL _ _ _) rfl (.tmp 12) (.tmp 65) rfl rfl rfl ?_))
 obtain ⟨hq,hb2⟩:=acH.new hr1 hbx
 have hbb:=hb1.trans (hb2.mono hb1.size)
 refine HK.out _ _ ?_
 apply HN.out
 exact ⟨hE.below hbb,HC.out,⟨rfl,rfl⟩,hq,rfl⟩
theorem as6 (W0:World) (r:M.Rules) (s:M.State) (x:Sh) (As:Option Addr) (cs:Nat) (HG:Hid (Glob W0)) (HN:Hid (aqO W0 r s x As cs)):aqH W0 r s x As cs:=by
 intro _ _ _ _ _ _ _ _ _ _ _ _ _ _ _ _ _ _ _ _ _ _ _ _ _ _ _ _ _ _ _ _ _ _ _ _ _ _ _ _ _ _ _ _ _ _ _ _ _ _ _ _ _ _ _ _ _ _ _ _ _ _ _ _ _ _ _ _ _ _ _ _ _ _ _ _ _ _ _ _ _ _ _ _ _ _ _ _ _ _ _ _ _ _ _ _ _ _ _ _ _ _ _ _ _ _ _ _ _ _ _ _ _ _ _ _ _ _ _ _ _ _ _ _ _ _ _ _ _ _ _ _ _ _ _ _ _ _ _ _ _ _ _ _ _ _ _ _ _ _ _ _ _ _ _ _ _ _ _ _ _ _ _ _ _ _ _ _ _ _ _ _ _ _ _ _ _ _ _ _ _ _ _ _ _ _ _ _ _ _ _ _ _ _ _ _ _ _ _ _ _ _ _ _ _ _ _ _ _ _ _ _ _ _ _ _ _ hf
 dsimp only [aal,dQ,Tryz.f11,Option.getD]
 obtain ⟨hE,hc,⟨rfl,rfl⟩,hq,rfl⟩:=hf
 apply wp_seq_k
 intro K hK
 have HK:=hide hK
 clear hK
 apply wp_seq_k
 intro K2 hK2
 have PD:=hide hK2
 clear hK2
 go_wp2
 refine PD.out _ _ ?_
 go_wp2
 refine HK.out _ _ ?_
 apply HN.out
 exact ⟨hE,hc,rfl,hq,rfl⟩
theorem atd (W0:World) (r:M.Rules) (s:M.State) (x:Sh) (As:Option Addr) (cs:Nat) (HG:Hid (Glob W0)) (HN:Hid (apj W0 r s x As cs)):aqO W0 r s x As cs:=by
 intro _ _ _ _ _ _ _ _ _ _ _ _ _ _ _ _ _ _ _ _ _ _ _ _ _ _ _ _ _ _ _ _ _ _ _ _ _ _ _ _ _ _ _ _ _ _ _ _ _ _ _ _ _ _ _ _ _ _ _ _ _ _ _ _ _ _ _ _ _ _ _ _ _ _ _ _ _ _ _ _ _ _ _ _ _ _ _ _ _ _ _ _ _ _ _ _ _ _ _ _ _ _ _ _ _ _ _ _ _ _ _ _ _ _ _ _ _ _ _ _ _ _ _ _ _ _ _ _ _ _ _ _ _ _ _ _ _ _ _ _ _ _ _ _ _ _ _ _ _ _ _ _ _ _ _ _ _ _ _ _ _ _ _ _ _ _ _ _ _ _ _ _ _ _ _ _ _ _ _ _ _ _ _ _ _ _ _ _ _ _ _ _ _ _ _ _ _ _ _ _ _ _ _ _ _ _ _ _ _ _ _ _ _ _ _ _ _ hf
 dsimp only [aal,dQ,Tryz.f11,Option.getD]
 obtain ⟨hE,hc,rfl,hq,rfl⟩:=hf
 obtain ⟨hF,B7,B8,B9,A9,c9,rfl,h7,rfl,h8,rfl,h9,hp9⟩:=id hE
 obtain ⟨rfl,rfl,rfl,h3,h4,h5,hs,hx,hfit,hbw⟩:=hF
 have HG9:=hide (HG.out.below hbw)
 have hne:=ao4 hc.1 hc.2
 obtain ⟨lg,Vb⟩:∃ q,M.legal r s x.x=q:=⟨_,rfl⟩
 obtain ⟨ne,hn⟩:∃ q,aaB r s x.x=q:=⟨_,rfl⟩
 rw [Vb,hn] at hne
 rw [Vb,hn]
 have HC:=hide hc
 have HLG:=hide Vb
 have VJ:=hide hn
 clear hc Vb hn
 apply wp_seq_k
 intro K hK
 have HK:=hide hK
 clear hK
 apply wp_seq_k
 intro K2 hK2
 have PD:=hide hK2
 clear hK2
 by_cases hl:lg=0
 · subst hl
   rw [if_neg (by simp)] at hne
   by_cases hz:ne=0
   · subst hz
     have hns:aa0 r s x.x=(M.next r s x.x):=if_pos VJ.out
     have VN:=hide hns
     have HNE:=hide hne
     clear hns hne
     go_wp2
     refine PD.out _ _ ?_
     go_wp2
     refine HK.out _ _ ?_
     apply HN.out
     have hq2:=hq
     rw [VN.out] at hq2
     exact ⟨hE,⟨HC.out.1,HC.out.2,HLG.out,HNE.out.symm⟩,hq2⟩
   · have h3:ne=3:=by rcases M.afr (r:=r) (s:=(M.next r s x.x)) with h | h <;> omega
     subst h3
     clear hne hz
     go_wp2
     refine PD.out _ _ ?_
     go_wp2_with (first | (go_at_call 17;refine (QJ _ HG9.out).mono ?_;rintro e w9 ⟨rfl,U6⟩;dsimp only))
     go_ret
     exact ⟨rfl,VY hbw U6⟩
 · rw [if_pos hl] at hne
   subst hne
   have hl1:(lg != 0)=true:=by simpa using hl
   have hl2:(lg == 0)=false:=by simpa using hl
   clear hl
   go_wp2
   refine PD.out _ _ ?_
   go_wp2_with (first | (go_at_call 17;refine (QJ _ HG9.out).mono ?_;rintro e w9 ⟨rfl,U6⟩;dsimp only))
   go_ret
   exact ⟨rfl,VY hbw U6⟩
theorem aq2 (W0:World) (r:M.Rules) (s:M.State) (x:Sh) (As:Option Addr) (cs:Nat) (HG:Hid (Glob W0)) (HN:Hid (apr W0 r s x As cs)):apj W0 r s x As cs:=by
 intro _ _ _ _ _ _ _ _ _ _ _ _ _ _ _ _ _ _ _ _ _ _ _ _ _ _ _ _ _ _ _ _ _ _ _ _ _ _ _ _ _ _ _ _ _ _ _ _ _ _ _ _ _ _ _ _ _ _ _ _ _ _ _ _ _ _ _ _ _ _ _ _ _ _ _ _ _ _ _ _ _ _ _ _ _ _ _ _ _ _ _ _ _ _ _ _ _ _ _ _ _ _ _ _ _ _ _ _ _ _ _ _ _ _ _ _ _ _ _ _ _ _ _ _ _ _ _ _ _ _ _ _ _ _ _ _ _ _ _ _ _ _ _ _ _ _ _ _ _ _ _ _ _ _ _ _ _ _ _ _ _ _ _ _ _ _ _ _ _ _ _ _ _ _ _ _ _ _ _ _ _ _ _ _ _ _ _ _ _ _ _ _ _ _ _ _ _ _ _ _ _ _ _ _ _ _ _ _ _ _ _ _ _ _ _ _ _ hf
 dsimp only [aal,dQ,Tryz.f11,Option.getD]
 obtain ⟨hE,hok,hq⟩:=hf
 obtain ⟨hF,B7,B8,B9,A9,c9,rfl,h7,rfl,h8,rfl,h9,hp9⟩:=id hE
 obtain ⟨rfl,rfl,rfl,h3,h4,h5,hs,hx,hfit,hbw⟩:=hF
 obtain ⟨B12,Yw,c12,rfl,h12,r12⟩:=id hq
 have k10:=h12.cell (j:=12) rfl
 have s10:=h4.cell (j:=12) rfl
 apply wp_seq_k
 intro K hK
 have HK:=hide hK
 clear hK
 go_wp2
 refine HK.out _ _ ?_
 apply HN.out
 exact ⟨hE,hok,hq,rfl⟩
theorem aq9 (W0:World) (r:M.Rules) (s:M.State) (x:Sh) (As:Option Addr) (cs:Nat) (HG:Hid (Glob W0)) (HN:Hid (apy W0 r s x As cs)):apr W0 r s x As cs:=by
 intro _ _ _ _ _ _ _ _ _ _ _ _ _ _ _ _ _ _ _ _ _ _ _ _ _ _ _ _ _ _ _ _ _ _ _ _ _ _ _ _ _ _ _ _ _ _ _ _ _ _ _ _ _ _ _ _ _ _ _ _ _ _ _ _ _ _ _ _ _ _ _ _ _ _ _ _ _ _ _ _ _ _ _ _ _ _ _ _ _ _ _ _ _ _ _ _ _ _ _ _ _ _ _ _ _ _ _ _ _ _ _ _ _ _ _ _ _ _ _ _ _ _ _ _ _ _ _ _ _ _ _ _ _ _ _ _ _ _ _ _ _ _ _ _ _ _ _ _ _ _ _ _ _ _ _ _ _ _ _ _ _ _ _ _ _ _ _ _ _ _ _ _ _ _ _ _ _ _ _ _ _ _ _ _ _ _ _ _ _ _ _ _ _ _ _ _ _ _ _ _ _ _ _ _ _ _ _ _ _ _ _ _ _ _ _ _ W hf
 dsimp only [aal,dQ,Tryz.f11,Option.getD]
 obtain ⟨hE,hok,hq,rfl⟩:=hf
 obtain ⟨hF,B7,B8,B9,A9,c9,rfl,h7,rfl,h8,rfl,h9,hp9⟩:=id hE
 obtain ⟨rfl,rfl,rfl,h3,h4,h5,hs,hx,hfit,hbw⟩:=hF
 obtain ⟨B12,Yw,c12,rfl,h12,r12⟩:=id hq
 have k6:=h12.cell (j:=6) rfl
 have s6:=h4.cell (j:=6) rfl
 have Y1:=(M.abA (M.aad hok.ck).1 (M.aad hok.ck).2 (by omega) hok.sh hok.lg).1
 obtain ⟨tn,htn⟩:∃ q,(M.next r s x.x)=q:=⟨_,rfl⟩
 rw [htn] at Y1 k6 r12 h12
 rw [htn]
 obtain ⟨rk,hrk⟩:∃ q,decide (s.aZ<tn.aZ)=q:=⟨_,rfl⟩
 have aqV:∀ k∈tn.ay,k∈s.ay∨rk=true:=fun k hk=>by rcases Y1 k hk with h | h;exact .inl h;exact .inr (by rw [← hrk];exact decide_eq_true h)
 have HLW:=hide aqV
 have HRK:=hide hrk
 have HTN:=hide htn
 rw [hrk]
 obtain ⟨u1,u2,u3⟩:=bD.bd r12
 clear Y1 aqV hrk htn
 apply wp_seq_k
 intro K1 hK1
 have Q9:=hide hK1
 clear hK1
 apply wp_seq_k
 intro K2 hK2
 have PD:=hide hK2
 clear hK2
 go_wp2
 refine PD.out _ _ ?_
 go_wp2
 go_loopw [100] (fun i wr=>∃ k:Nat,k≤tn.ay.length∧i= .int .i64 k∧wr=W) (fun i _=>tn.ay.length - (intOf i).toNat)
 case atStart=>exact ⟨0,Nat.zero_le _,rfl,rfl⟩
 case round=>
  obtain ⟨k,hk,rfl,rfl⟩:=hrel
  by_cases hlt:k<tn.ay.length
  · have hin:=HLW.out _ (List.getElem_mem hlt)
    obtain ⟨b,o,rfl,_,hbl,hc⟩:=r12.at_ k hlt
    have hck:=hc k hlt
    clear hc
    obtain ⟨bb,hbb⟩:∃ q,tn.ay[k]=q:=⟨_,rfl⟩
    rw [hbb] at hck hin
    have i2:(k:Int)<(tn.ay.length:Int):=by omega
    clear hbb
    by_cases hm:bb∈s.ay
    · have HM:=hide hm
      clear hm hin
      go_wp2_with (go_at_call 54;refine (aeE _ As cs s.ay _ _ hs HM.out).mono ?_;rintro e dO ⟨rfl,rfl⟩)
      go_roundw
      case rel=>exact ⟨k+1,by omega,by go_num,by first | rfl | trivial⟩
      case measure=>simp [intOf];omega
    · obtain rfl:rk=true:=hin.resolve_left hm
      have HM:=hide hm
      clear hm hin
      go_wp2_with (go_at_call 54;refine (ael _ As cs s.ay _ _ hs HM.out).mono ?_;rintro e dO ⟨rfl,rfl⟩)
      go_roundw
      case rel=>exact ⟨k+1,by omega,by go_num,by first | rfl | trivial⟩
      case measure=>simp [intOf];omega
  · have i2:¬ (k:Int)<(tn.ay.length:Int):=by omega
    clear hlt
    go_wp2
    refine Q9.out _ _ ?_
    apply HN.out
    exact ⟨hE,hok,hq,by rw [HTN.out,HRK.out]⟩
theorem arj (W0:World) (r:M.Rules) (s:M.State) (x:Sh) (As:Option Addr) (cs:Nat) (HG:Hid (Glob W0)) (HN:Hid (apF W0 r s x As cs)):apy W0 r s x As cs:=by
 intro _ _ _ _ _ _ _ _ _ _ _ _ _ _ _ _ _ _ _ _ _ _ _ _ _ _ _ _ _ _ _ _ _ _ _ _ _ _ _ _ _ _ _ _ _ _ _ _ _ _ _ _ _ _ _ _ _ _ _ _ _ _ _ _ _ _ _ _ _ _ _ _ _ _ _ _ _ _ _ _ _ _ _ _ _ _ _ _ _ _ _ _ _ _ _ _ _ _ _ _ _ _ _ _ _ _ _ _ _ _ _ _ _ _ _ _ _ _ _ _ _ _ _ _ _ _ _ _ _ _ _ _ _ _ _ _ _ _ _ _ _ _ _ _ _ _ _ _ _ _ _ _ _ _ _ _ _ _ _ _ _ _ _ _ _ _ _ _ _ _ _ _ _ _ _ _ _ _ _ _ _ _ _ _ _ _ _ _ _ _ _ _ _ _ _ _ _ _ _ _ _ _ _ _ _ _ _ _ _ _ _ _ _ _ _ _ W hf
 dsimp only [aal,dQ,Tryz.f11,Option.getD]
 obtain ⟨hE,hok,hq,rfl⟩:=hf
 obtain ⟨hF,B7,B8,B9,A9,c9,rfl,h7,rfl,h8,rfl,h9,hp9⟩:=id hE
 obtain ⟨rfl,rfl,rfl,h3,h4,h5,hs,hx,hfit,hbw⟩:=hF
 obtain ⟨B12,Yw,c12,rfl,h12,r12⟩:=id hq
 have k6:=h12.cell (j:=6) rfl
 have s6:=h4.cell (j:=6) rfl
 obtain ⟨Ax,hAx⟩:∃ a,x.a=a:=⟨_,rfl⟩
 have x6:=h5.cell (j:=6) rfl
 rw [hAx] at x6 hx
 have HAX:=hide hAx
 clear hAx
 have Y1:=(M.abA (M.aad hok.ck).1 (M.aad hok.ck).2 (by omega) hok.sh hok.lg).2.1
 obtain ⟨tn,htn⟩:∃ q,(M.next r s x.x)=q:=⟨_,rfl⟩
 rw [htn] at Y1 k6 r12 h12
 have HLW:=hide Y1
 have HTN:=hide htn
 obtain ⟨u1,u2,u3⟩:=bD.bd hs
 obtain ⟨v1,v2,v3⟩:=jl.bd hx
 obtain ⟨y1,y2,y3⟩:=bD.bd r12
 rw [htn]
 obtain ⟨rk,hrk⟩:∃ q,decide (s.aZ<tn.aZ)=q:=⟨_,rfl⟩
 have HRK:=hide hrk
 rw [hrk]
 clear Y1 htn hrk
 apply wp_seq_k
 intro K1 hK1
 have Q9:=hide hK1
 clear hK1
 apply wp_seq_k
 intro K2 hK2
 have PD:=hide hK2
 clear hK2
 go_wp2
 refine PD.out _ _ ?_
 go_wp2
 go_loopw [117] (fun i wr=>∃ k:Nat,k≤s.ay.length∧i= .int .i64 k∧Below W.heap.size W wr) (fun i _=>s.ay.length - (intOf i).toNat)
 case atStart=>exact ⟨0,Nat.zero_le _,rfl,Below.refl _ _⟩
 case round=>
  obtain ⟨k,hk,rfl,hb⟩:=hrel
  by_cases hlt:k<s.ay.length
  · have hin:=HLW.out _ (List.getElem_mem hlt)
    obtain ⟨b,o,rfl,_,hbl,hc⟩:=(hs.below hb).at_ k hlt
    have hck:=hc k hlt
    clear hc
    obtain ⟨bb,hbb⟩:∃ q,s.ay[k]=q:=⟨_,rfl⟩
    rw [hbb] at hck hin
    have i2:(k:Int)<(s.ay.length:Int):=by omega
    have x6':=(h5.below hb).cell (j:=6) rfl
    rw [HAX.out] at x6'
    clear hbb
    go_wp2
    go_loopw [19,124] (fun v i wr2=>∃ m:Nat,m≤x.x.aA.length∧i= .int .i64 m∧v= .bool ((x.x.aA.take m).any (fun q=>decide (q.aJ=bb)))∧Below W.heap.size W wr2) (fun _ i _=>x.x.aA.length - (intOf i).toNat)
    case atStart=>exact ⟨0,Nat.zero_le _,rfl,rfl,hb⟩
    case round=>
     obtain ⟨m,hm,rfl,rfl,hb2⟩:=hrel
     by_cases hlm:m<x.x.aA.length
     · obtain ⟨b',o',rfl,_,atl,hc'⟩:=jl.at_ (Reads.below hx hb2) m hlm
       obtain ⟨hcb,hcp⟩:=hc' m hlm
       clear hc'
       have htk:(x.x.aA.take (m+1)).any (fun q=>decide (q.aJ=bb))=((x.x.aA.take m).any (fun q=>decide (q.aJ=bb)) || decide (x.x.aA[m].aJ=bb)):=by rw [List.take_succ_eq_append_getElem hlm,List.any_append];simp
       obtain ⟨pq,hpq⟩:∃ q,x.x.aA[m]=q:=⟨_,rfl⟩
       rw [hpq] at htk hcb hcp
       obtain ⟨pt,hpt⟩:∃ q,(x.x.aA.take m).any (fun q=>decide (q.aJ=bb))=q:=⟨_,rfl⟩
       rw [hpt] at htk ⊢
       have HTK:=hide htk
       have h00:wr.rangeAt b' (o'+m*2) (afa pq):=fun j v hj=>by
        match j,hj with
        | 0,hj=>obtain rfl:=Option.some.inj hj;exact hcb
        | 1,hj=>obtain rfl:=Option.some.inj hj;exact hcp
       have hbx:=Held.new wr [.int .i64 0,.int .i64 0] 107
       have hX:=hbx.whole (afa pq) rfl
       have Ol:Below wr.heap.size wr ((wr.alloc (.cells #[.int .i64 0,.int .i64 0] 107)).setCells wr.heap.size 0 (afa pq)):=below_setCells _ (Nat.le_refl _) _ _ _ _ ((Below.refl _ _).alloc (Nat.le_refl _) _)
       have hb3:=hb2.trans (Ol.mono hb2.size)
       have c0:((wr.alloc (.cells #[.int .i64 0,.int .i64 0] 107)).setCells wr.heap.size 0 (afa pq)).cell? ⟨wr.heap.size,0,none⟩=some (.int .i64 pq.aJ):=hX.cell (j:=0) rfl
       have j2:(m:Int)<(x.x.aA.length:Int):=by omega
       have hxx:x.x.aA.length≤x.c:=v1
       have HB3:=hide hb3
       clear hpq hpt htk hcb hcp hb3 Ol
       cases pt with
       | true=>
         go_wp2_with (first | (refine aN 107 (.tmp 126) rfl ?_;refine jh (g:=b') (o:=o'+m*2) h00 Tryz.underlying107 rfl acX rfl (.tmp 126) rfl rfl ?_) | (refine aO 107 (.tmp 21) (.tmp 127) rfl ?_;refine aF hbx (afa pq) rfl acX (afj pq) rfl (.tmp 21) (.tmp 127) rfl rfl rfl ?_))
         go_roundw
         case rel=>exact ⟨m+1,by omega,by go_num,by rw [HTK.out];rfl,HB3.out⟩
         case measure=>simp [intOf];omega
       | false=>
         go_wp2_with (first | (refine aN 107 (.tmp 126) rfl ?_;refine jh (g:=b') (o:=o'+m*2) h00 Tryz.underlying107 rfl acX rfl (.tmp 126) rfl rfl ?_) | (refine aO 107 (.tmp 21) (.tmp 127) rfl ?_;refine aF hbx (afa pq) rfl acX (afj pq) rfl (.tmp 21) (.tmp 127) rfl rfl rfl ?_))
         go_roundw
         case rel=>exact ⟨m+1,by omega,by go_num,by rw [HTK.out];first | rfl | simp,HB3.out⟩
         case measure=>simp [intOf];omega
     · have hke:m=x.x.aA.length:=by omega
       subst hke
       rw [List.take_length]
       have j2:¬ (x.x.aA.length:Int)<(x.x.aA.length:Int):=by omega
       have k6':=(h12.below hb2).cell (j:=6) rfl
       by_cases hmm:bb∈tn.ay
       · have HM:=hide hmm
         obtain ⟨pa,hpa⟩:∃ q,x.x.aA.any (fun q=>decide (q.aJ=bb))=q:=⟨_,rfl⟩
         rw [hpa]
         clear hmm hin hpa
         go_wp2_with (go_at_call 54;refine (aeE _ Yw c12 tn.ay _ _ (r12.below hb2) HM.out).mono ?_;rintro e dO ⟨rfl,rfl⟩)
         go_roundw
         case rel=>exact ⟨k+1,by omega,by go_num,hb2⟩
         case measure=>simp [intOf];omega
       · obtain ⟨q,hq1,hq2⟩:=hin.resolve_left hmm
         have hpa:x.x.aA.any (fun q=>decide (q.aJ=bb))=true:=List.any_eq_true.2 ⟨q,hq1,decide_eq_true hq2⟩
         have HM:=hide hmm
         rw [hpa]
         clear hmm hin hpa hq1 hq2
         go_wp2_with (go_at_call 54;refine (ael _ Yw c12 tn.ay _ _ (r12.below hb2) HM.out).mono ?_;rintro e dO ⟨rfl,rfl⟩)
         go_roundw
         case rel=>exact ⟨k+1,by omega,by go_num,hb2⟩
         case measure=>simp [intOf];omega
  · have i2:¬ (k:Int)<(s.ay.length:Int):=by omega
    clear hlt
    go_wp2
    refine Q9.out _ _ ?_
    apply HN.out
    exact ⟨hE.below hb,hok,hq.below hb,by rw [HTN.out,HRK.out]⟩
theorem ars (W0:World) (r:M.Rules) (s:M.State) (x:Sh) (As:Option Addr) (cs:Nat) (HG:Hid (Glob W0)) (HN:Hid (apM W0 r s x As cs)):apF W0 r s x As cs:=by
 intro _ _ _ _ _ _ _ _ _ _ _ _ _ _ _ _ _ _ _ _ _ _ _ _ _ _ _ _ _ _ _ _ _ _ _ _ _ _ _ _ _ _ _ _ _ _ _ _ _ _ _ _ _ _ _ _ _ _ _ _ _ _ _ _ _ _ _ _ _ _ _ _ _ _ _ _ _ _ _ _ _ _ _ _ _ _ _ _ _ _ _ _ _ _ _ _ _ _ _ _ _ _ _ _ _ _ _ _ _ _ _ _ _ _ _ _ _ _ _ _ _ _ _ _ _ _ _ _ _ _ _ _ _ _ _ _ _ _ _ _ _ _ _ _ _ _ _ _ _ _ _ _ _ _ _ _ _ _ _ _ _ _ _ _ _ _ _ _ _ _ _ _ _ _ _ _ _ _ _ _ _ _ _ _ _ _ _ _ _ _ _ _ _ _ _ _ _ _ _ _ _ _ _ _ _ _ _ _ _ _ _ _ _ _ _ _ _ hf
 dsimp only [aal,dQ,Tryz.f11,Option.getD]
 obtain ⟨hE,hok,hq,rfl⟩:=hf
 obtain ⟨hF,B7,B8,B9,A9,c9,rfl,h7,rfl,h8,rfl,h9,hp9⟩:=id hE
 obtain ⟨rfl,rfl,rfl,h3,h4,h5,hs,hx,hfit,hbw⟩:=hF
 obtain ⟨B12,Yw,c12,rfl,h12,r12⟩:=id hq
 obtain ⟨⟨t1,t2⟩,t3,t4⟩:=am5 hok.nu
 have hks:=(M.aad hok.ck).2
 obtain ⟨q1,q2⟩:=hks.s0
 obtain ⟨q3,q4⟩:=hks.s1
 have hp:=(M.uw hok.sh).aC
 have Y1:=(M.abA (M.aad hok.ck).1 (M.aad hok.ck).2 (by omega) hok.sh hok.lg).2.2
 obtain ⟨tn,htn⟩:∃ q,(M.next r s x.x)=q:=⟨_,rfl⟩
 rw [htn] at Y1 h12 t1 t2 t3 t4
 have HTN:=hide htn
 rw [htn]
 have HOK:=hide hok
 obtain ⟨rk,hrk⟩:∃ q,decide (s.aZ<tn.aZ)=q:=⟨_,rfl⟩
 have HRK:=hide hrk
 clear hok hrk
 apply wp_seq_k
 intro K hK
 have HK:=hide hK
 clear hK
 rcases hp with hp | hp
 · have HPP:=hide hp
   have k7:=h12.cell (j:=7) rfl
   have s7:=h4.cell (j:=7) rfl
   have x0:=h5.cell (j:=0) rfl
   rw [hp] at x0
   clear hp Y1 hks htn
   go_quiet (fail)
   go_wp2
   refine HK.out _ _ ?_
   apply HN.out
   exact ⟨hE.below (below_drewN (Below.refl _ _) _),HOK.out,hq.below (below_drewN (Below.refl _ _) _),by rw [HTN.out],by rw [HTN.out,HPP.out];rfl⟩
 · have HPP:=hide hp
   have k7:=h12.cell (j:=8) rfl
   have s7:=h4.cell (j:=8) rfl
   have x0:=h5.cell (j:=0) rfl
   rw [hp] at x0
   clear hp Y1 hks htn
   go_quiet (fail)
   go_wp2
   refine HK.out _ _ ?_
   apply HN.out
   exact ⟨hE.below (below_drewN (Below.refl _ _) _),HOK.out,hq.below (below_drewN (Below.refl _ _) _),by rw [HTN.out],by rw [HTN.out,HPP.out];rfl⟩
theorem arB (W0:World) (r:M.Rules) (s:M.State) (x:Sh) (As:Option Addr) (cs:Nat) (HG:Hid (Glob W0)) (HN:Hid (apT W0 r s x As cs)):apM W0 r s x As cs:=by
 intro _ _ _ _ _ _ _ _ _ _ _ _ _ _ _ _ _ _ _ _ _ _ _ _ _ _ _ _ _ _ _ _ _ _ _ _ _ _ _ _ _ _ _ _ _ _ _ _ _ _ _ _ _ _ _ _ _ _ _ _ _ _ _ _ _ _ _ _ _ _ _ _ _ _ _ _ _ _ _ _ _ _ _ _ _ _ _ _ _ _ _ _ _ _ _ _ _ _ _ _ _ _ _ _ _ _ _ _ _ _ _ _ _ _ _ _ _ _ _ _ _ _ _ _ _ _ _ _ _ _ _ _ _ _ _ _ _ _ _ _ _ _ _ _ _ _ _ _ _ _ _ _ _ _ _ _ _ _ _ _ _ _ _ _ _ _ _ _ _ _ _ _ _ _ _ _ _ _ _ _ _ _ _ _ _ _ _ _ _ _ _ _ _ _ _ _ _ _ _ _ _ _ _ _ _ _ _ _ _ _ _ _ _ _ _ _ _ hf
 dsimp only [aal,dQ,Tryz.f11,Option.getD]
 obtain ⟨hE,hok,hq,rfl,rfl⟩:=hf
 obtain ⟨hF,B7,B8,B9,A9,c9,rfl,h7,rfl,h8,rfl,h9,hp9⟩:=id hE
 obtain ⟨rfl,rfl,rfl,h3,h4,h5,hs,hx,hfit,hbw⟩:=hF
 obtain ⟨B12,Yw,c12,rfl,h12,r12⟩:=id hq
 obtain ⟨⟨t1,t2⟩,t3,t4⟩:=am5 hok.nu
 have hks:=(M.aad hok.ck).2
 obtain ⟨q1,q2⟩:=hks.s0
 obtain ⟨q3,q4⟩:=hks.s1
 have hp:=(M.uw hok.sh).aC
 have Y1:=(M.abA (M.aad hok.ck).1 (M.aad hok.ck).2 (by omega) hok.sh hok.lg).2.2
 obtain ⟨tn,htn⟩:∃ q,(M.next r s x.x)=q:=⟨_,rfl⟩
 rw [htn] at Y1 h12 t1 t2 t3 t4
 have HTN:=hide htn
 rw [htn]
 have HOK:=hide hok
 obtain ⟨rk,hrk⟩:∃ q,decide (s.aZ<tn.aZ)=q:=⟨_,rfl⟩
 have HRK:=hide hrk
 rw [hrk]
 obtain ⟨v1,v2,v3⟩:=jl.bd hx
 clear hok hrk
 apply wp_seq_k
 intro K hK
 have HK:=hide hK
 clear hK
 apply wp_seq_k
 intro K2 hK2
 have PD:=hide hK2
 clear hK2
 rcases hp with hp | hp
 · have hoth:tn.s1=s.s1:=by have h:=Y1.2.2.1;rw [hp] at h;exact h
   have hgn:x.x.aA=[]→tn.s0 - s.s0≤0:=fun h0=>by have h:=Y1.2.1 h0;rw [hp] at h;exact h
   have k7:=h12.cell (j:=8) rfl
   have s7:=h4.cell (j:=8) rfl
   rw [hoth] at k7
   have x0:=h5.cell (j:=0) rfl
   have x6:=h5.cell (j:=6) rfl
   have g0:=h3.cell (j:=0) rfl
   have e1:(s.s1 != s.s1)=false:=by simp
   have hst:rk=true→r.game=M.aB:=fun h=>Y1.1 (of_decide_eq_true (HRK.out.trans h))
   rw [hp] at x0
   rw [hp,show tn.score 0 - s.score 0=tn.s0 - s.s0 from rfl]
   obtain ⟨gn,hgn1⟩:∃ q,tn.s0 - s.s0=q:=⟨_,rfl⟩
   rw [hgn1] at hgn ⊢
   have HPP:=hide hp
   have HGN:=hide hgn1
   clear hp Y1 hks htn hgn1 hoth
   cases rk with
   | true=>
     have e3:(r.game.toList == [115,116,114,97,105,103,104,116])=true:=by rw [hst rfl];decide+kernel
     have e2:(r.game.toList != [115,116,114,97,105,103,104,116])=false:=by simp [bne,e3]
     clear hst
     by_cases hl0:x.x.aA=[]
     · have hl1:((x.x.aA.length:Int) == 0)=true:=by rw [hl0];rfl
       have hg1:¬ (0<gn):=by have:=hgn hl0;omega
       clear hgn hl0
       go_quiet (fail)
       go_wp2
       refine PD.out _ _ ?_
       go_wp2
       refine HK.out _ _ ?_
       apply HN.out
       exact ⟨hE.below (below_drewN (Below.refl _ _) _),HOK.out,hq.below (below_drewN (Below.refl _ _) _),by rw [HTN.out,HRK.out],by rw [HTN.out,HPP.out, ← HGN.out];rfl⟩
     · have hl1:((x.x.aA.length:Int) == 0)=false:=by simpa using hl0
       clear hgn hl0
       go_quiet (fail)
       go_wp2
       refine PD.out _ _ ?_
       go_wp2
       refine HK.out _ _ ?_
       apply HN.out
       exact ⟨hE.below (below_drewN (Below.refl _ _) _),HOK.out,hq.below (below_drewN (Below.refl _ _) _),by rw [HTN.out,HRK.out],by rw [HTN.out,HPP.out, ← HGN.out];rfl⟩
   | false=>
     clear hst
     by_cases hl0:x.x.aA=[]
     · have hl1:((x.x.aA.length:Int) == 0)=true:=by rw [hl0];rfl
       have hg1:¬ (0<gn):=by have:=hgn hl0;omega
       clear hgn hl0
       go_quiet (fail)
       go_wp2
       refine PD.out _ _ ?_
       go_wp2
       refine HK.out _ _ ?_
       apply HN.out
       exact ⟨hE.below (below_drewN (Below.refl _ _) _),HOK.out,hq.below (below_drewN (Below.refl _ _) _),by rw [HTN.out,HRK.out],by rw [HTN.out,HPP.out, ← HGN.out];rfl⟩
     · have hl1:((x.x.aA.length:Int) == 0)=false:=by simpa using hl0
       clear hgn hl0
       go_quiet (fail)
       go_wp2
       refine PD.out _ _ ?_
       go_wp2
       refine HK.out _ _ ?_
       apply HN.out
       exact ⟨hE.below (below_drewN (Below.refl _ _) _),HOK.out,hq.below (below_drewN (Below.refl _ _) _),by rw [HTN.out,HRK.out],by rw [HTN.out,HPP.out, ← HGN.out];rfl⟩
 · have hoth:tn.s0=s.s0:=by have h:=Y1.2.2.1;rw [hp] at h;exact h
   have hgn:x.x.aA=[]→tn.s1 - s.s1≤0:=fun h0=>by have h:=Y1.2.1 h0;rw [hp] at h;exact h
   have k7:=h12.cell (j:=7) rfl
   have s7:=h4.cell (j:=7) rfl
   rw [hoth] at k7
   have x0:=h5.cell (j:=0) rfl
   have x6:=h5.cell (j:=6) rfl
   have g0:=h3.cell (j:=0) rfl
   have e1:(s.s0 != s.s0)=false:=by simp
   have hst:rk=true→r.game=M.aB:=fun h=>Y1.1 (of_decide_eq_true (HRK.out.trans h))
   rw [hp] at x0
   rw [hp,show tn.score 1 - s.score 1=tn.s1 - s.s1 from rfl]
   obtain ⟨gn,hgn1⟩:∃ q,tn.s1 - s.s1=q:=⟨_,rfl⟩
   rw [hgn1] at hgn ⊢
   have HPP:=hide hp
   have HGN:=hide hgn1
   clear hp Y1 hks htn hgn1 hoth
   cases rk with
   | true=>
     have e3:(r.game.toList == [115,116,114,97,105,103,104,116])=true:=by rw [hst rfl];decide+kernel
     have e2:(r.game.toList != [115,116,114,97,105,103,104,116])=false:=by simp [bne,e3]
     clear hst
     by_cases hl0:x.x.aA=[]
     · have hl1:((x.x.aA.length:Int) == 0)=true:=by rw [hl0];rfl
       have hg1:¬ (0<gn):=by have:=hgn hl0;omega
       clear hgn hl0
       go_quiet (fail)
       go_wp2
       refine PD.out _ _ ?_
       go_wp2
       refine HK.out _ _ ?_
       apply HN.out
       exact ⟨hE.below (below_drewN (Below.refl _ _) _),HOK.out,hq.below (below_drewN (Below.refl _ _) _),by rw [HTN.out,HRK.out],by rw [HTN.out,HPP.out, ← HGN.out];rfl⟩
     · have hl1:((x.x.aA.length:Int) == 0)=false:=by simpa using hl0
       clear hgn hl0
       go_quiet (fail)
       go_wp2
       refine PD.out _ _ ?_
       go_wp2
       refine HK.out _ _ ?_
       apply HN.out
       exact ⟨hE.below (below_drewN (Below.refl _ _) _),HOK.out,hq.below (below_drewN (Below.refl _ _) _),by rw [HTN.out,HRK.out],by rw [HTN.out,HPP.out, ← HGN.out];rfl⟩
   | false=>
     clear hst
     by_cases hl0:x.x.aA=[]
     · have hl1:((x.x.aA.length:Int) == 0)=true:=by rw [hl0];rfl
       have hg1:¬ (0<gn):=by have:=hgn hl0;omega
       clear hgn hl0
       go_quiet (fail)
       go_wp2
       refine PD.out _ _ ?_
       go_wp2
       refine HK.out _ _ ?_
       apply HN.out
       exact ⟨hE.below (below_drewN (Below.refl _ _) _),HOK.out,hq.below (below_drewN (Below.refl _ _) _),by rw [HTN.out,HRK.out],by rw [HTN.out,HPP.out, ← HGN.out];rfl⟩
     · have hl1:((x.x.aA.length:Int) == 0)=false:=by simpa using hl0
       clear hgn hl0
       go_quiet (fail)
       go_wp2
       refine PD.out _ _ ?_
       go_wp2
       refine HK.out _ _ ?_
       apply HN.out
       exact ⟨hE.below (below_drewN (Below.refl _ _) _),HOK.out,hq.below (below_drewN (Below.refl _ _) _),by rw [HTN.out,HRK.out],by rw [HTN.out,HPP.out, ← HGN.out];rfl⟩
theorem arI (W0:World) (r:M.Rules) (s:M.State) (x:Sh) (As:Option Addr) (cs:Nat) (HG:Hid (Glob W0)):apT W0 r s x As cs:=by
 intro _ _ _ _ _ _ _ _ _ _ _ _ _ _ _ _ _ _ _ _ _ _ _ _ _ _ _ _ _ _ _ _ _ _ _ _ _ _ _ _ _ _ _ _ _ _ _ _ _ _ _ _ _ _ _ _ _ _ _ _ _ _ _ _ _ _ _ _ _ _ _ _ _ _ _ _ _ _ _ _ _ _ _ _ _ _ _ _ _ _ _ _ _ _ _ _ _ _ _ _ _ _ _ _ _ _ _ _ _ _ _ _ _ _ _ _ _ _ _ _ _ _ _ _ _ _ _ _ _ _ _ _ _ _ _ _ _ _ _ _ _ _ _ _ _ _ _ _ _ _ _ _ _ _ _ _ _ _ _ _ _ _ _ _ _ _ _ _ _ _ _ _ _ _ _ _ _ _ _ _ _ _ _ _ _ _ _ _ _ _ _ _ _ _ _ _ _ _ _ _ _ _ _ _ _ _ _ _ _ _ _ _ _ _ _ _ _ hf
 dsimp only [aal,dQ,Tryz.f11,Option.getD]
 obtain ⟨hE,hok,hq,rfl,rfl⟩:=hf
 obtain ⟨hF,B7,B8,B9,A9,c9,rfl,h7,rfl,h8,rfl,h9,hp9⟩:=id hE
 obtain ⟨rfl,rfl,rfl,h3,h4,h5,hs,hx,hfit,hbw⟩:=hF
 obtain ⟨B12,Yw,c12,rfl,h12,r12⟩:=id hq
 have Y1:=(M.abA (M.aad hok.ck).1 (M.aad hok.ck).2 (by omega) hok.sh hok.lg).2.2.2.2.2
 have HG9:=hide (HG.out.below hbw)
 obtain ⟨tn,htn⟩:∃ q,(M.next r s x.x)=q:=⟨_,rfl⟩
 rw [htn] at Y1 h12 ⊢
 have k0:=h12.cell (j:=0) rfl
 have k13:=h12.cell (j:=13) rfl
 have k14:=h12.cell (j:=14) rfl
 have s0:=h4.cell (j:=0) rfl
 obtain ⟨hw1,hw2⟩:=Y1
 obtain ⟨gn,hgn⟩:∃ q,tn.score x.x.aC - s.score x.x.aC=q:=⟨_,rfl⟩
 rw [hgn] at hw1 ⊢
 obtain ⟨rk,hrk⟩:∃ q,decide (s.aZ<tn.aZ)=q:=⟨_,rfl⟩
 have hw3:(tn.turn != s.turn)=true∨tn.over=true∨0<gn∨rk=true:=by
  rcases hw1 with h | h | h | h
  · exact .inl (by simpa using h)
  · exact .inr (.inl h)
  · exact .inr (.inr (.inl h))
  · exact .inr (.inr (.inr (by rw [← hrk];exact decide_eq_true h)))
 have hw4:(tn.bC == 0)=true∨tn.over=true:=hw2.imp (fun h=>by simpa using h) id
 rw [hrk]
 obtain ⟨y1,hy1⟩:∃ q,(tn.turn != s.turn)=q:=⟨_,rfl⟩
 obtain ⟨y2,hy2⟩:∃ q,tn.over=q:=⟨_,rfl⟩
 obtain ⟨y3,hy3⟩:∃ q,(tn.bC == 0)=q:=⟨_,rfl⟩
 rw [hy1,hy2] at hw3
 rw [hy2,hy3] at hw4
 rw [hy2] at k13
 clear hw1 hw2 hgn hrk htn hy2 hok hE hq h12 h3 h4 h5 h7 h8 h9 hs hx hp9 r12
 apply wp_seq_k
 intro K hK
 have HK:=hide hK
 clear hK
 cases y1 <;> cases y2
 · have hw5:y3=true:=by simpa using hw4
   subst hw5
   by_cases hg:0<gn
   · clear hw3 hw4
     go_wp2_with (first | (go_at_call 17;refine (QJ _ HG9.out).mono ?_;rintro e w9 ⟨rfl,U6⟩;dsimp only))
     refine HK.out _ _ ?_
     go_wp2
     go_ret
     exact ⟨rfl,VY hbw U6⟩
   · have hw6:rk=true:=by simpa [hg] using hw3
     subst hw6
     clear hw3 hw4
     go_wp2_with (first | (go_at_call 17;refine (QJ _ HG9.out).mono ?_;rintro e w9 ⟨rfl,U6⟩;dsimp only))
     refine HK.out _ _ ?_
     go_wp2
     go_ret
     exact ⟨rfl,VY hbw U6⟩
 · clear hw3 hw4
   cases y3 <;> (go_wp2_with (first | (go_at_call 17;refine (QJ _ HG9.out).mono ?_;rintro e w9 ⟨rfl,U6⟩;dsimp only));refine HK.out _ _ ?_;go_wp2;go_ret;exact ⟨rfl,VY hbw U6⟩)
 · have hw5:y3=true:=by simpa using hw4
   subst hw5
   clear hw3 hw4
   go_wp2_with (first | (go_at_call 17;refine (QJ _ HG9.out).mono ?_;rintro e w9 ⟨rfl,U6⟩;dsimp only))
   refine HK.out _ _ ?_
   go_wp2
   go_ret
   exact ⟨rfl,VY hbw U6⟩
 · clear hw3 hw4
   cases y3 <;> (go_wp2_with (first | (go_at_call 17;refine (QJ _ HG9.out).mono ?_;rintro e w9 ⟨rfl,U6⟩;dsimp only));refine HK.out _ _ ?_;go_wp2;go_ret;exact ⟨rfl,VY hbw U6⟩)
theorem amR (W0:World) (hg:Glob W0) (r:M.Rules) (s:M.State) (As:Option Addr) (cs:Nat) (x:Sh) (hs:bD W0 (fun _=>True) As cs s.ay) (hf:acO W0 x):
 Calls Tryz.prog 11 #[jM r,wF s As cs,iO x.x x.a x.c] W0 fun e w'=>e= .returned (.bool true)∧Below W0.heap.size W0 w':=by
 have HG:=hide hg
 have hall:=asC W0 r s x As cs HG (hide (asJ W0 r s x As cs HG (hide (asQ W0 r s x As cs HG (hide (asY W0 r s x As cs HG (hide (as6 W0 r s x As cs HG (hide (atd W0 r s x As cs HG (hide (aq2 W0 r s x As cs HG (hide (aq9 W0 r s x As cs HG (hide (arj W0 r s x As cs HG (hide (ars W0 r s x As cs HG (hide (arB W0 r s x As cs HG (hide (arI W0 r s x As cs HG))))))))))))))))))))))
 have asj:=hide hall
 clear hall
 go_enter Tryz.func11,Tryz.ntmps11
 apply wp_seq_k
 intro K hK
 have HK:=hide hK
 clear hK
 have hB:=(((bU.nil W0).new (by simp) ([.string r.game,.int .i64 r.target,.int .i64 r.aY]) 23).new (by simp) (aW s As cs) 33).new (by simp) (au x) 66
 go_wp2
 refine HK.out _ _ ?_
 have HA:=asj.out
 apply HA
 exact ⟨rfl,rfl,rfl,hB.bf rfl,hB.get 1 rfl,hB.get 2 rfl,hs.below hB.bw,Reads.below hf.1 hB.bw,hf.2,hB.bw⟩
end Go.Proofs.YtelpepbpdojikaaGreatDoor
