/- Parts of the proofs about chapter 5 (pool), joined by program. -/
import Derived.Test.YtelpepbpdojikaaGreatDoorKh11
import Derived.Test.YtelpepbpdojikaaGreatDoorKs0
import Derived.Test.YtelpepbpdojikaaGreatDoorKs2
set_option maxHeartbeats 8000000
set_option maxRecDepth 100000
set_option linter.unusedVariables false
set_option linter.unusedSimpArgs false
namespace Go.Proofs.YtelpepbpdojikaaGreatDoor
open Go.RowKit
theorem aa0:(Tryz.prog.info? 31).map (·.size)=some 2:=by kernel_rfl
theorem ahL {r:M.Rules} {l:List Sh} {n:Nat} (h:ain r l n):wP r l=0:=by unfold wP;rw [h.rules,h.log];rfl
theorem akh (r:M.Rules) (l:List Sh) (n:Nat) (hO:ain r l n) (A:Option Addr) (c:Nat) (W:World) (hp:wG W (fun _=>True) A c l):
 Calls Tryz.prog 18 #[jM r,.slice A l.length c] W fun e w'=>∃ A1 c1 A2 n2 c2,e= .returned (.tuple #[wF (M.final r (M.start r) (plain l)) A1 c1,.slice A2 n2 c2,.int .i64 0])∧bD w' (fun b=>W.heap.size≤b) A1 c1 (M.final r (M.start r) (plain l)).ay∧Below W.heap.size W w':=by
 have h0:=ahL hO
 have hs:sW r l=(M.final r (M.start r) (plain l)):=if_pos h0
 refine (Gj _ r l A c W hp).mono ?_
 rintro e w' ⟨A1,c1,A2,c2,rfl,h1,_,hb⟩
 rw [hs] at h1
 exact ⟨A1,c1,A2,_,c2,by rw [hs,h0],h1,hb⟩
theorem alq (r:M.Rules) (l:List Sh) (n:Nat) (hO:ain r l n) (A:Option Addr) (c:Nat) (W:World) (hp:wG W (fun _=>True) A c l):
 Calls Tryz.prog 19 #[jM r,.slice A l.length c] W fun e w'=>∃ A2 c2,e= .returned (.tuple #[.slice A2 l.length c2,.int .i64 0])∧Reads w' (fun b=>W.heap.size≤b) 6 A2 l.length c2 ((smN r l).flatMap aaR)∧Below W.heap.size W w':=by
 have h0:=ahL hO
 have hs:lH r l=smN r l:=if_pos h0
 refine (Io _ r l A c W hp).mono ?_
 rintro e w' ⟨A2,c2,rfl,h1,hb⟩
 rw [hs,abr] at h1
 exact ⟨A2,c2,by rw [hs,h0,abr],h1,hb⟩
theorem al1 (r:M.Rules) (l:List Sh) (n:Nat) (hO:ain r l n) (A:Option Addr) (c:Nat) (W:World) (hp:wG W (fun _=>True) A c l):
 Calls Tryz.prog 24 #[jM r,.slice A l.length c] W fun e w'=>∃ A2 c2,e= .returned (.tuple #[.slice A2 (smR r l).length c2,.int .i64 0])∧Reads w' (fun b=>W.heap.size≤b) 2 A2 (smR r l).length c2 ((smR r l).flatMap adf)∧Below W.heap.size W w':=by
 have h0:=ahL hO
 have hs:lM r l=smR r l:=if_pos h0
 refine (Ny _ r l A c W hp).mono ?_
 rintro e w' ⟨A2,c2,rfl,h1,hb⟩
 rw [hs] at h1
 exact ⟨A2,c2,by rw [hs,h0],h1,hb⟩
theorem ali {r:M.Rules} {l:List Sh} {n:Nat} (h:ain r l n):∀ x∈plain l,M.cZ x=0:=((M.ajF _).1 h.log).2
@[reducible] def aoC (W0:World) (r:M.Rules) (l:List Sh) (Al:Option Addr) (cl:Nat):Prop:=∀ (z0 z1 z2 z3 z4 z5 z6 z7 z8 z9 z10 z11 z12 z13 kD kK kF z17 kL jQ z20 z21 z22 z23 z24 z25 z26 z27 z28 z29 z30 z31 z32 z33 z34 z35 z36 z37 z38 z39 z40 z41 z42 z43 z44 z45 z46 z47 z48 z49 z50 z51 z52 z53 z54 z55 z56 z57 z58 z59 z60 z61 z62 z63 z64 z65 z66 z67 z68 z69 z70 z71 z72 z73 z74 z75 z76 z77 z78 z79 z80 mM z82 z83 z84 z85 z86 z87 mO z89 mP z91 mQ z93 mV mW mX mY mZ ng eU eX eY fA fB z105 fC z107 fD z109 fF fG fH fJ fK fM z116 z117 fO z119 fP fQ fU fV z124 fZ gq z127 gu gy z130 z131 gB gG gI gJ gK gQ z138 z139 gU z141 gV z143 gW z145 z146 gZ z148 ig iq iw z152 iy z154 iC z156 z157 iD z159 z160 iE z162 iF z164 iG iH z167 z168 nK nM z171 nN z173 nO z175 nP nR nS nT nU nV z182 z183 nX nY nZ og oh oq ou oz oC z193 z194 oD z196 oG z198 oH oI z201 oJ z203 oK oL z206 oM z208 oN:Value) (W:World),(ad1 W0 r l Al cl z1 z2 W)→(aat 1).wp Tryz.prog (bodyPost Tryz.prog Tryz.f6 (fun e w'=>e= .returned (.bool true)∧Below W0.heap.size W0 w')) {tmps:= #[z0,z1,z2,z3,z4,z5,z6,z7,z8,z9,z10,z11,z12,z13,kD,kK,kF,z17,kL,jQ,z20,z21,z22,z23,z24,z25,z26,z27,z28,z29,z30,z31,z32,z33,z34,z35,z36,z37,z38,z39,z40,z41,z42,z43,z44,z45,z46,z47,z48,z49,z50,z51,z52,z53,z54,z55,z56,z57,z58,z59,z60,z61,z62,z63,z64,z65,z66,z67,z68,z69,z70,z71,z72,z73,z74,z75,z76,z77,z78,z79,z80,mM,z82,z83,z84,z85,z86,z87,mO,z89,mP,z91,mQ,z93,mV,mW,mX,mY,mZ,ng,eU,eX,eY,fA,fB,z105,fC,z107,fD,z109,fF,fG,fH,fJ,fK,fM,z116,z117,fO,z119,fP,fQ,fU,fV,z124,fZ,gq,z127,gu,gy,z130,z131,gB,gG,gI,gJ,gK,gQ,z138,z139,gU,z141,gV,z143,gW,z145,z146,gZ,z148,ig,iq,iw,z152,iy,z154,iC,z156,z157,iD,z159,z160,iE,z162,iF,z164,iG,iH,z167,z168,nK,nM,z171,nN,z173,nO,z175,nP,nR,nS,nT,nU,nV,z182,z183,nX,nY,nZ,og,oh,oq,ou,oz,oC,z193,z194,oD,z196,oG,z198,oH,oI,z201,oJ,z203,oK,oL,z206,oM,z208,oN],defers:=[] } W
@[reducible] def amv (W0:World) (r:M.Rules) (l:List Sh) (Al:Option Addr) (cl:Nat):Prop:=∀ (z0 z1 z2 z3 z4 z5 z6 z7 z8 z9 z10 z11 z12 z13 kD kK kF z17 kL jQ z20 z21 z22 z23 z24 z25 z26 z27 z28 z29 z30 z31 z32 z33 z34 z35 z36 z37 z38 z39 z40 z41 z42 z43 z44 z45 z46 z47 z48 z49 z50 z51 z52 z53 z54 z55 z56 z57 z58 z59 z60 z61 z62 z63 z64 z65 z66 z67 z68 z69 z70 z71 z72 z73 z74 z75 z76 z77 z78 z79 z80 mM z82 z83 z84 z85 z86 z87 mO z89 mP z91 mQ z93 mV mW mX mY mZ ng eU eX eY fA fB z105 fC z107 fD z109 fF fG fH fJ fK fM z116 z117 fO z119 fP fQ fU fV z124 fZ gq z127 gu gy z130 z131 gB gG gI gJ gK gQ z138 z139 gU z141 gV z143 gW z145 z146 gZ z148 ig iq iw z152 iy z154 iC z156 z157 iD z159 z160 iE z162 iF z164 iG iH z167 z168 nK nM z171 nN z173 nO z175 nP nR nS nT nU nV z182 z183 nX nY nZ og oh oq ou oz oC z193 z194 oD z196 oG z198 oH oI z201 oJ z203 oK oL z206 oM z208 oN:Value) (W:World),(agf W0 r l Al cl z1 z2 z5 z6 W)→(aat 2).wp Tryz.prog (bodyPost Tryz.prog Tryz.f6 (fun e w'=>e= .returned (.bool true)∧Below W0.heap.size W0 w')) {tmps:= #[z0,z1,z2,z3,z4,z5,z6,z7,z8,z9,z10,z11,z12,z13,kD,kK,kF,z17,kL,jQ,z20,z21,z22,z23,z24,z25,z26,z27,z28,z29,z30,z31,z32,z33,z34,z35,z36,z37,z38,z39,z40,z41,z42,z43,z44,z45,z46,z47,z48,z49,z50,z51,z52,z53,z54,z55,z56,z57,z58,z59,z60,z61,z62,z63,z64,z65,z66,z67,z68,z69,z70,z71,z72,z73,z74,z75,z76,z77,z78,z79,z80,mM,z82,z83,z84,z85,z86,z87,mO,z89,mP,z91,mQ,z93,mV,mW,mX,mY,mZ,ng,eU,eX,eY,fA,fB,z105,fC,z107,fD,z109,fF,fG,fH,fJ,fK,fM,z116,z117,fO,z119,fP,fQ,fU,fV,z124,fZ,gq,z127,gu,gy,z130,z131,gB,gG,gI,gJ,gK,gQ,z138,z139,gU,z141,gV,z143,gW,z145,z146,gZ,z148,ig,iq,iw,z152,iy,z154,iC,z156,z157,iD,z159,z160,iE,z162,iF,z164,iG,iH,z167,z168,nK,nM,z171,nN,z173,nO,z175,nP,nR,nS,nT,nU,nV,z182,z183,nX,nY,nZ,og,oh,oq,ou,oz,oC,z193,z194,oD,z196,oG,z198,oH,oI,z201,oJ,z203,oK,oL,z206,oM,z208,oN],defers:=[] } W
@[reducible] def amD (W0:World) (r:M.Rules) (l:List Sh) (Al:Option Addr) (cl:Nat):Prop:=∀ (z0 z1 z2 z3 z4 z5 z6 z7 z8 z9 z10 z11 z12 z13 kD kK kF z17 kL jQ z20 z21 z22 z23 z24 z25 z26 z27 z28 z29 z30 z31 z32 z33 z34 z35 z36 z37 z38 z39 z40 z41 z42 z43 z44 z45 z46 z47 z48 z49 z50 z51 z52 z53 z54 z55 z56 z57 z58 z59 z60 z61 z62 z63 z64 z65 z66 z67 z68 z69 z70 z71 z72 z73 z74 z75 z76 z77 z78 z79 z80 mM z82 z83 z84 z85 z86 z87 mO z89 mP z91 mQ z93 mV mW mX mY mZ ng eU eX eY fA fB z105 fC z107 fD z109 fF fG fH fJ fK fM z116 z117 fO z119 fP fQ fU fV z124 fZ gq z127 gu gy z130 z131 gB gG gI gJ gK gQ z138 z139 gU z141 gV z143 gW z145 z146 gZ z148 ig iq iw z152 iy z154 iC z156 z157 iD z159 z160 iE z162 iF z164 iG iH z167 z168 nK nM z171 nN z173 nO z175 nP nR nS nT nU nV z182 z183 nX nY nZ og oh oq ou oz oC z193 z194 oD z196 oG z198 oH oI z201 oJ z203 oK oL z206 oM z208 oN:Value) (W:World),(ad1 W0 r l Al cl z1 z2 W∧ain r l 24)→(aat 3).wp Tryz.prog (bodyPost Tryz.prog Tryz.f6 (fun e w'=>e= .returned (.bool true)∧Below W0.heap.size W0 w')) {tmps:= #[z0,z1,z2,z3,z4,z5,z6,z7,z8,z9,z10,z11,z12,z13,kD,kK,kF,z17,kL,jQ,z20,z21,z22,z23,z24,z25,z26,z27,z28,z29,z30,z31,z32,z33,z34,z35,z36,z37,z38,z39,z40,z41,z42,z43,z44,z45,z46,z47,z48,z49,z50,z51,z52,z53,z54,z55,z56,z57,z58,z59,z60,z61,z62,z63,z64,z65,z66,z67,z68,z69,z70,z71,z72,z73,z74,z75,z76,z77,z78,z79,z80,mM,z82,z83,z84,z85,z86,z87,mO,z89,mP,z91,mQ,z93,mV,mW,mX,mY,mZ,ng,eU,eX,eY,fA,fB,z105,fC,z107,fD,z109,fF,fG,fH,fJ,fK,fM,z116,z117,fO,z119,fP,fQ,fU,fV,z124,fZ,gq,z127,gu,gy,z130,z131,gB,gG,gI,gJ,gK,gQ,z138,z139,gU,z141,gV,z143,gW,z145,z146,gZ,z148,ig,iq,iw,z152,iy,z154,iC,z156,z157,iD,z159,z160,iE,z162,iF,z164,iG,iH,z167,z168,nK,nM,z171,nN,z173,nO,z175,nP,nR,nS,nT,nU,nV,z182,z183,nX,nY,nZ,og,oh,oq,ou,oz,oC,z193,z194,oD,z196,oG,z198,oH,oI,z201,oJ,z203,oK,oL,z206,oM,z208,oN],defers:=[] } W
@[reducible] def amK (W0:World) (r:M.Rules) (l:List Sh) (Al:Option Addr) (cl:Nat):Prop:=∀ (z0 z1 z2 z3 z4 z5 z6 z7 z8 z9 z10 z11 z12 z13 kD kK kF z17 kL jQ z20 z21 z22 z23 z24 z25 z26 z27 z28 z29 z30 z31 z32 z33 z34 z35 z36 z37 z38 z39 z40 z41 z42 z43 z44 z45 z46 z47 z48 z49 z50 z51 z52 z53 z54 z55 z56 z57 z58 z59 z60 z61 z62 z63 z64 z65 z66 z67 z68 z69 z70 z71 z72 z73 z74 z75 z76 z77 z78 z79 z80 mM z82 z83 z84 z85 z86 z87 mO z89 mP z91 mQ z93 mV mW mX mY mZ ng eU eX eY fA fB z105 fC z107 fD z109 fF fG fH fJ fK fM z116 z117 fO z119 fP fQ fU fV z124 fZ gq z127 gu gy z130 z131 gB gG gI gJ gK gQ z138 z139 gU z141 gV z143 gW z145 z146 gZ z148 ig iq iw z152 iy z154 iC z156 z157 iD z159 z160 iE z162 iF z164 iG iH z167 z168 nK nM z171 nN z173 nO z175 nP nR nS nT nU nV z182 z183 nX nY nZ og oh oq ou oz oC z193 z194 oD z196 oG z198 oH oI z201 oJ z203 oK oL z206 oM z208 oN:Value) (W:World),((ad1 W0 r l Al cl z1 z2 W∧ain r l 24)∧aiZ (M.sumOf 0 (smN r l)) (M.sumOf 1 (smN r l)) z7 W∧z9= .int .i64 0)→(aat 4).wp Tryz.prog (bodyPost Tryz.prog Tryz.f6 (fun e w'=>e= .returned (.bool true)∧Below W0.heap.size W0 w')) {tmps:= #[z0,z1,z2,z3,z4,z5,z6,z7,z8,z9,z10,z11,z12,z13,kD,kK,kF,z17,kL,jQ,z20,z21,z22,z23,z24,z25,z26,z27,z28,z29,z30,z31,z32,z33,z34,z35,z36,z37,z38,z39,z40,z41,z42,z43,z44,z45,z46,z47,z48,z49,z50,z51,z52,z53,z54,z55,z56,z57,z58,z59,z60,z61,z62,z63,z64,z65,z66,z67,z68,z69,z70,z71,z72,z73,z74,z75,z76,z77,z78,z79,z80,mM,z82,z83,z84,z85,z86,z87,mO,z89,mP,z91,mQ,z93,mV,mW,mX,mY,mZ,ng,eU,eX,eY,fA,fB,z105,fC,z107,fD,z109,fF,fG,fH,fJ,fK,fM,z116,z117,fO,z119,fP,fQ,fU,fV,z124,fZ,gq,z127,gu,gy,z130,z131,gB,gG,gI,gJ,gK,gQ,z138,z139,gU,z141,gV,z143,gW,z145,z146,gZ,z148,ig,iq,iw,z152,iy,z154,iC,z156,z157,iD,z159,z160,iE,z162,iF,z164,iG,iH,z167,z168,nK,nM,z171,nN,z173,nO,z175,nP,nR,nS,nT,nU,nV,z182,z183,nX,nY,nZ,og,oh,oq,ou,oz,oC,z193,z194,oD,z196,oG,z198,oH,oI,z201,oJ,z203,oK,oL,z206,oM,z208,oN],defers:=[] } W
@[reducible] def amR (W0:World) (r:M.Rules) (l:List Sh) (Al:Option Addr) (cl:Nat):Prop:=∀ (z0 z1 z2 z3 z4 z5 z6 z7 z8 z9 z10 z11 z12 z13 kD kK kF z17 kL jQ z20 z21 z22 z23 z24 z25 z26 z27 z28 z29 z30 z31 z32 z33 z34 z35 z36 z37 z38 z39 z40 z41 z42 z43 z44 z45 z46 z47 z48 z49 z50 z51 z52 z53 z54 z55 z56 z57 z58 z59 z60 z61 z62 z63 z64 z65 z66 z67 z68 z69 z70 z71 z72 z73 z74 z75 z76 z77 z78 z79 z80 mM z82 z83 z84 z85 z86 z87 mO z89 mP z91 mQ z93 mV mW mX mY mZ ng eU eX eY fA fB z105 fC z107 fD z109 fF fG fH fJ fK fM z116 z117 fO z119 fP fQ fU fV z124 fZ gq z127 gu gy z130 z131 gB gG gI gJ gK gQ z138 z139 gU z141 gV z143 gW z145 z146 gZ z148 ig iq iw z152 iy z154 iC z156 z157 iD z159 z160 iE z162 iF z164 iG iH z167 z168 nK nM z171 nN z173 nO z175 nP nR nS nT nU nV z182 z183 nX nY nZ og oh oq ou oz oC z193 z194 oD z196 oG z198 oH oI z201 oJ z203 oK oL z206 oM z208 oN:Value) (W:World),((ad1 W0 r l Al cl z1 z2 W∧ain r l 24)∧(aiZ (M.sumOf 0 (smN r l)) (M.sumOf 1 (smN r l)) z7 W∧z9= .int .i64 0)∧agn 6 ((smN r l).flatMap aaR) l.length z10 W∧z11= .int .i64 0)→(aat 5).wp Tryz.prog (bodyPost Tryz.prog Tryz.f6 (fun e w'=>e= .returned (.bool true)∧Below W0.heap.size W0 w')) {tmps:= #[z0,z1,z2,z3,z4,z5,z6,z7,z8,z9,z10,z11,z12,z13,kD,kK,kF,z17,kL,jQ,z20,z21,z22,z23,z24,z25,z26,z27,z28,z29,z30,z31,z32,z33,z34,z35,z36,z37,z38,z39,z40,z41,z42,z43,z44,z45,z46,z47,z48,z49,z50,z51,z52,z53,z54,z55,z56,z57,z58,z59,z60,z61,z62,z63,z64,z65,z66,z67,z68,z69,z70,z71,z72,z73,z74,z75,z76,z77,z78,z79,z80,mM,z82,z83,z84,z85,z86,z87,mO,z89,mP,z91,mQ,z93,mV,mW,mX,mY,mZ,ng,eU,eX,eY,fA,fB,z105,fC,z107,fD,z109,fF,fG,fH,fJ,fK,fM,z116,z117,fO,z119,fP,fQ,fU,fV,z124,fZ,gq,z127,gu,gy,z130,z131,gB,gG,gI,gJ,gK,gQ,z138,z139,gU,z141,gV,z143,gW,z145,z146,gZ,z148,ig,iq,iw,z152,iy,z154,iC,z156,z157,iD,z159,z160,iE,z162,iF,z164,iG,iH,z167,z168,nK,nM,z171,nN,z173,nO,z175,nP,nR,nS,nT,nU,nV,z182,z183,nX,nY,nZ,og,oh,oq,ou,oz,oC,z193,z194,oD,z196,oG,z198,oH,oI,z201,oJ,z203,oK,oL,z206,oM,z208,oN],defers:=[] } W
@[reducible] def amY (W0:World) (r:M.Rules) (l:List Sh) (Al:Option Addr) (cl:Nat):Prop:=∀ (z0 z1 z2 z3 z4 z5 z6 z7 z8 z9 z10 z11 z12 z13 kD kK kF z17 kL jQ z20 z21 z22 z23 z24 z25 z26 z27 z28 z29 z30 z31 z32 z33 z34 z35 z36 z37 z38 z39 z40 z41 z42 z43 z44 z45 z46 z47 z48 z49 z50 z51 z52 z53 z54 z55 z56 z57 z58 z59 z60 z61 z62 z63 z64 z65 z66 z67 z68 z69 z70 z71 z72 z73 z74 z75 z76 z77 z78 z79 z80 mM z82 z83 z84 z85 z86 z87 mO z89 mP z91 mQ z93 mV mW mX mY mZ ng eU eX eY fA fB z105 fC z107 fD z109 fF fG fH fJ fK fM z116 z117 fO z119 fP fQ fU fV z124 fZ gq z127 gu gy z130 z131 gB gG gI gJ gK gQ z138 z139 gU z141 gV z143 gW z145 z146 gZ z148 ig iq iw z152 iy z154 iC z156 z157 iD z159 z160 iE z162 iF z164 iG iH z167 z168 nK nM z171 nN z173 nO z175 nP nR nS nT nU nV z182 z183 nX nY nZ og oh oq ou oz oC z193 z194 oD z196 oG z198 oH oI z201 oJ z203 oK oL z206 oM z208 oN:Value) (W:World),((ad1 W0 r l Al cl z1 z2 W∧ain r l 24)∧(aiZ (M.sumOf 0 (smN r l)) (M.sumOf 1 (smN r l)) z7 W∧z9= .int .i64 0)∧(agn 6 ((smN r l).flatMap aaR) l.length z10 W∧z11= .int .i64 0)∧agn 2 ((smR r l).flatMap adf) (smR r l).length z12 W∧z13= .int .i64 0)→(aat 6).wp Tryz.prog (bodyPost Tryz.prog Tryz.f6 (fun e w'=>e= .returned (.bool true)∧Below W0.heap.size W0 w')) {tmps:= #[z0,z1,z2,z3,z4,z5,z6,z7,z8,z9,z10,z11,z12,z13,kD,kK,kF,z17,kL,jQ,z20,z21,z22,z23,z24,z25,z26,z27,z28,z29,z30,z31,z32,z33,z34,z35,z36,z37,z38,z39,z40,z41,z42,z43,z44,z45,z46,z47,z48,z49,z50,z51,z52,z53,z54,z55,z56,z57,z58,z59,z60,z61,z62,z63,z64,z65,z66,z67,z68,z69,z70,z71,z72,z73,z74,z75,z76,z77,z78,z79,z80,mM,z82,z83,z84,z85,z86,z87,mO,z89,mP,z91,mQ,z93,mV,mW,mX,mY,mZ,ng,eU,eX,eY,fA,fB,z105,fC,z107,fD,z109,fF,fG,fH,fJ,fK,fM,z116,z117,fO,z119,fP,fQ,fU,fV,z124,fZ,gq,z127,gu,gy,z130,z131,gB,gG,gI,gJ,gK,gQ,z138,z139,gU,z141,gV,z143,gW,z145,z146,gZ,z148,ig,iq,iw,z152,iy,z154,iC,z156,z157,iD,z159,z160,iE,z162,iF,z164,iG,iH,z167,z168,nK,nM,z171,nN,z173,nO,z175,nP,nR,nS,nT,nU,nV,z182,z183,nX,nY,nZ,og,oh,oq,ou,oz,oC,z193,z194,oD,z196,oG,z198,oH,oI,z201,oJ,z203,oK,oL,z206,oM,z208,oN],defers:=[] } W
theorem aoX (W0:World) (r:M.Rules) (l:List Sh) (Al:Option Addr) (cl:Nat) (HG:Hid (Glob W0)) (HN:Hid (amv W0 r l Al cl)):aoC W0 r l Al cl:=by
 intro _ _ _ _ _ _ _ _ _ _ _ _ _ _ _ _ _ _ _ _ _ _ _ _ _ _ _ _ _ _ _ _ _ _ _ _ _ _ _ _ _ _ _ _ _ _ _ _ _ _ _ _ _ _ _ _ _ _ _ _ _ _ _ _ _ _ _ _ _ _ _ _ _ _ _ _ _ _ _ _ _ _ _ _ _ _ _ _ _ _ _ _ _ _ _ _ _ _ _ _ _ _ _ _ _ _ _ _ _ _ _ _ _ _ _ _ _ _ _ _ _ _ _ _ _ _ _ _ _ _ _ _ _ _ _ _ _ _ _ _ _ _ _ _ _ _ _ _ _ _ _ _ _ _ _ _ _ _ _ _ _ _ _ _ _ _ _ _ _ _ _ _ _ _ _ _ _ _ _ _ _ _ _ _ _ _ _ _ _ _ _ _ _ _ _ _ _ _ _ _ _ _ _ _ _ _ _ _ _ _ W hf
 dsimp only [aat,dQ,Tryz.f6,Option.getD]
 have hF:=hf
 obtain ⟨rfl,rfl,h2,_,_,_,_⟩:=hf
 have hr2:∀ W',(fun w':World=>Below W.heap.size W w') W'→W'.rangeAt W0.heap.size 0 ([.string r.game,.int .i64 r.target,.int .i64 r.aY]):=fun W' h=>(h2.below h).range
 apply wp_seq_k
 intro K hK
 have HK:=hide hK
 clear hK
 refine wp_region_held_drew (S:=(fun w':World=>Below W.heap.size W w')) (by kernel_rfl) ?Nk (fun hHeld=>?_)
 case Nk=>exact (Below.refl _ _).drew
 refine wpAnyH_take (i:=0) (oi:=_) (v:=_) (ga rfl) (by kernel_rfl) (by kernel_rfl) (by kernel_rfl) (fun _ _ _ h=>h) (yieldsIf_load_mid (by rfl) _ _ (by rfl) _ _ (by rfl) _ _ hr2 Tryz.underlying23 rfl (by kernel_rfl)) (by assumption) ?_
 try simp only [Act.put,la,lz,ls]
 refine tk 1 ?_
 refine wpAnyH_ready (rs:=[2,3]) (by kernel_rfl) (by simp) ?_
 refine AllReadyH.cons (o:=_) (ga rfl) (fun K hK=>?_) (AllReadyH.cons (o:=_) (ga rfl) (fun K hK=>?_) AllReadyH.nil)
 · go_simp
   (go_at_call 15;refine (aeC (fun _=>True) l Al cl _ (hF.rl.below hHeld) hF.ll hF.pl).mono ?_;rintro e w6 ⟨l',A6,c6,hpl,rfl,kP,hb6⟩;have iR:W.heap.size≤w6.heap.size:=Nat.le_trans hHeld.size hb6.size)
   refine hK.out _ _ ?alU (fun hHeld=>?_)
   case alU=>(exact hHeld.trans (hb6.mono hHeld.size))
   clear hK K
   try simp only [Act.put,la,lz,ls]
   refine tr 3 fun K hK=>?_
   go_simp
   refine hK.out _ _ ?akC (fun hHeld=>?_)
   case akC=>(exact Below.alloc hHeld hHeld.size _)
   clear hK K
   try simp only [Act.put,la,lz,ls]
   refine tr 4 fun K hK=>?_
   refine bF (cs:=[.string ⟨#[]⟩,.int .i64 0,.int .i64 0]) (by first | exact (Held.newAt _ [.string ⟨#[]⟩,.int .i64 0,.int .i64 0] 25 (by first | rfl | simp)) | exact (Held.newAt _ [.string ⟨#[]⟩,.int .i64 0,.int .i64 0] 25 (by first | rfl | simp)).drew.below hb6) [.string r.game,.int .i64 r.target,.int .i64 r.aY] rfl afK (xI _ _ _) (.tmp 5) (.tmp 21) rfl rfl rfl ?_
   refine hK.out _ _ ?akQ (fun hHeld=>?_)
   case akQ=>(exact below_setCells _ (by first | exact Nat.le_refl _ | exact iR | exact Nat.le_succ _ | exact Nat.le_succ_of_le iR) _ _ _ _ hHeld)
   clear hK K
   try simp only [Act.put,la,lz,ls]
   refine tk 5 ?_
   refine wpAnyH_done (by kernel_rfl) ?_ _
   refine HK.out _ _ ?_
   apply HN.out
   refine ⟨hF.below hHeld,_,A6,c6,l',rfl,?_,rfl,hpl,?_⟩
   · exact Held.whole (cs:=[.string ⟨#[]⟩,.int .i64 0,.int .i64 0]) (by first | exact (Held.newAt _ [.string ⟨#[]⟩,.int .i64 0,.int .i64 0] 25 (by first | rfl | simp)) | exact (Held.newAt _ [.string ⟨#[]⟩,.int .i64 0,.int .i64 0] 25 (by first | rfl | simp)).drew.below hb6) _ rfl
   · exact wG.more (wG.aiB kP (by first | exact Below.refl _ _ | exact (Below.refl _ _).alloc (Nat.le_refl _) _) (fun b hl h=>by have hq:=hb6.size;(try simp at hq);(try simp at h);intro e;omega)) (fun _ _ _=>trivial)
 · go_simp
   refine hK.out _ _ ?akJ (fun hHeld=>?_)
   case akJ=>(exact Below.alloc hHeld hHeld.size _)
   clear hK K
   try simp only [Act.put,la,lz,ls]
   refine tr 2 fun K hK=>?_
   go_simp
   (go_at_call 15;refine (aeC (fun _=>True) l Al cl _ (hF.rl.below hHeld) hF.ll hF.pl).mono ?_;rintro e w6 ⟨l',A6,c6,hpl,rfl,kP,hb6⟩;have iR:W.heap.size≤w6.heap.size:=Nat.le_trans hHeld.size hb6.size)
   refine hK.out _ _ ?akv (fun hHeld=>?_)
   case akv=>(exact hHeld.trans (hb6.mono hHeld.size))
   clear hK K
   try simp only [Act.put,la,lz,ls]
   refine tr 4 fun K hK=>?_
   refine bF (cs:=[.string ⟨#[]⟩,.int .i64 0,.int .i64 0]) (by first | exact (Held.newAt _ [.string ⟨#[]⟩,.int .i64 0,.int .i64 0] 25 (by first | rfl | simp)) | exact (Held.newAt _ [.string ⟨#[]⟩,.int .i64 0,.int .i64 0] 25 (by first | rfl | simp)).drew.below hb6) [.string r.game,.int .i64 r.target,.int .i64 r.aY] rfl afK (xI _ _ _) (.tmp 5) (.tmp 21) rfl rfl rfl ?_
   refine hK.out _ _ ?akX (fun hHeld=>?_)
   case akX=>(exact below_setCells _ (by first | exact Nat.le_refl _ | exact iR | exact Nat.le_succ _ | exact Nat.le_succ_of_le iR) _ _ _ _ hHeld)
   clear hK K
   try simp only [Act.put,la,lz,ls]
   refine tk 5 ?_
   refine wpAnyH_done (by kernel_rfl) ?_ _
   refine HK.out _ _ ?_
   apply HN.out
   refine ⟨hF.below hHeld,_,A6,c6,l',rfl,?_,rfl,hpl,?_⟩
   · exact Held.whole (cs:=[.string ⟨#[]⟩,.int .i64 0,.int .i64 0]) (by first | exact (Held.newAt _ [.string ⟨#[]⟩,.int .i64 0,.int .i64 0] 25 (by first | rfl | simp)) | exact (Held.newAt _ [.string ⟨#[]⟩,.int .i64 0,.int .i64 0] 25 (by first | rfl | simp)).drew.below hb6) _ rfl
   · exact wG.more (wG.aiB kP (by first | exact Below.refl _ _ | exact (Below.refl _ _).alloc (Nat.le_refl _) _) (fun b hl h=>by have hq:=hb6.size;(try simp at hq);(try simp at h);intro e;omega)) (fun _ _ _=>trivial)
theorem ao4 (W0:World) (r:M.Rules) (l:List Sh) (Al:Option Addr) (cl:Nat) (HG:Hid (Glob W0)) (HN:Hid (amD W0 r l Al cl)):amv W0 r l Al cl:=by
 intro _ _ _ _ _ _ _ _ _ _ _ _ _ _ _ _ _ _ _ _ _ _ _ _ _ _ _ _ _ _ _ _ _ _ _ _ _ _ _ _ _ _ _ _ _ _ _ _ _ _ _ _ _ _ _ _ _ _ _ _ _ _ _ _ _ _ _ _ _ _ _ _ _ _ _ _ _ _ _ _ _ _ _ _ _ _ _ _ _ _ _ _ _ _ _ _ _ _ _ _ _ _ _ _ _ _ _ _ _ _ _ _ _ _ _ _ _ _ _ _ _ _ _ _ _ _ _ _ _ _ _ _ _ _ _ _ _ _ _ _ _ _ _ _ _ _ _ _ _ _ _ _ _ _ _ _ _ _ _ _ _ _ _ _ _ _ _ _ _ _ _ _ _ _ _ _ _ _ _ _ _ _ _ _ _ _ _ _ _ _ _ _ _ _ _ _ _ _ _ _ _ _ _ _ _ _ _ _ _ _ _ hf
 dsimp only [aat,dQ,Tryz.f6,Option.getD]
 have hE:=hf
 obtain ⟨hF,B5,A6,c6,l',rfl,h5,rfl,hpl,h6⟩:=id hE
 have hF':=hF
 obtain ⟨rfl,rfl,h2,hl,ap7,ap0,hbw⟩:=hF'
 have k0:=h2.cell (j:=0) rfl
 have HG9:=hide (HG.out.below hbw)
 apply wp_seq_k
 intro K hK
 have HK:=hide hK
 clear hK
 apply wp_seq_k
 intro K2 hK2
 have PD:=hide hK2
 clear hK2
 by_cases hg:60<r.game.size
 · have hg':(60:Int)<(r.game.size:Int):=by omega
   go_wp2_with (first | (refine aN 25 (.tmp 5) rfl ?_;refine aG (h5') Tryz.underlying25 rfl afK rfl (.tmp 5) rfl rfl ?_) | (refine aN 25 (.tmp 5) rfl ?_;refine su (h5') Tryz.underlying25 rfl afK rfl (.tmp 5) rfl rfl ?_) | (refine vg 25 (.tmp 5) rfl ?_;refine sD (h5') Tryz.underlying25 rfl afK (.tmp 5) rfl rfl ?_) | (go_at_call 16;refine (aeX _ l' A6 c6 24 _ h6).mono ?_;rw [hpl,hd2];rintro e w2 ⟨rfl,hb2⟩;have HG9:=hide (HG9.out.below hb2);have h5':=h5.below hb2;have h6':=h6.below hb2;dsimp only) | (go_at_call 20;refine (adi _ r l' A6 c6 _ h6').mono ?_;rw [hpl,hEq];rintro e w3 ⟨rfl,hb3⟩;have HG9:=hide (HG9.out.below hb3);dsimp only))
   refine PD.out _ _ ?_
   go_wp2_with (first | (go_at_call 17;refine (QJ _ HG9.out).mono ?_;rintro e w9 ⟨rfl,U6⟩;dsimp only))
   go_ret
   exact ⟨rfl,VY hbw U6⟩
 · have hg':¬ (60:Int)<(r.game.size:Int):=by omega
   obtain ⟨sb,hd2⟩:∃ q,ZL (plain l) 24=q:=⟨_,rfl⟩
   cases sb with
   | true=>
     by_cases Rw:l.length≤24
     · have aoJ:¬ (24:Int)<(l.length:Int):=by omega
       obtain ⟨E,hEq⟩:∃ E,aU [M.aH r,M.je (plain l)]=E:=⟨_,rfl⟩
       by_cases h0:E=0
       · subst h0
         have HOK:=hide (show ain r l 24 from ⟨Rw,(ahD hEq).1,(ahD hEq).2⟩)
         clear Rw
         go_wp2_with (first | (refine aN 25 (.tmp 5) rfl ?_;refine aG (h5') Tryz.underlying25 rfl afK rfl (.tmp 5) rfl rfl ?_) | (refine aN 25 (.tmp 5) rfl ?_;refine su (h5') Tryz.underlying25 rfl afK rfl (.tmp 5) rfl rfl ?_) | (refine vg 25 (.tmp 5) rfl ?_;refine sD (h5') Tryz.underlying25 rfl afK (.tmp 5) rfl rfl ?_) | (go_at_call 16;refine (aeX _ l' A6 c6 24 _ h6).mono ?_;rw [hpl,hd2];rintro e w2 ⟨rfl,hb2⟩;have HG9:=hide (HG9.out.below hb2);have h5':=h5.below hb2;have h6':=h6.below hb2;dsimp only) | (go_at_call 20;refine (adi _ r l' A6 c6 _ h6').mono ?_;rw [hpl,hEq];rintro e w3 ⟨rfl,hb3⟩;have HG9:=hide (HG9.out.below hb3);dsimp only))
         refine PD.out _ _ ?_
         go_wp2
         refine HK.out _ _ ?_
         apply HN.out
         exact ⟨(hF.below hb2).below hb3,HOK.out⟩
       · have hn0:(E != 0)=true:=by simpa using h0
         clear h0 Rw
         go_wp2_with (first | (refine aN 25 (.tmp 5) rfl ?_;refine aG (h5') Tryz.underlying25 rfl afK rfl (.tmp 5) rfl rfl ?_) | (refine aN 25 (.tmp 5) rfl ?_;refine su (h5') Tryz.underlying25 rfl afK rfl (.tmp 5) rfl rfl ?_) | (refine vg 25 (.tmp 5) rfl ?_;refine sD (h5') Tryz.underlying25 rfl afK (.tmp 5) rfl rfl ?_) | (go_at_call 16;refine (aeX _ l' A6 c6 24 _ h6).mono ?_;rw [hpl,hd2];rintro e w2 ⟨rfl,hb2⟩;have HG9:=hide (HG9.out.below hb2);have h5':=h5.below hb2;have h6':=h6.below hb2;dsimp only) | (go_at_call 20;refine (adi _ r l' A6 c6 _ h6').mono ?_;rw [hpl,hEq];rintro e w3 ⟨rfl,hb3⟩;have HG9:=hide (HG9.out.below hb3);dsimp only))
         refine PD.out _ _ ?_
         go_wp2_with (first | (go_at_call 17;refine (QJ _ HG9.out).mono ?_;rintro e w9 ⟨rfl,U6⟩;dsimp only))
         go_ret
         exact ⟨rfl,VY (VY (VY hbw hb2) hb3) U6⟩
     · have aoJ:(24:Int)<(l.length:Int):=by omega
       clear Rw
       go_wp2_with (first | (refine aN 25 (.tmp 5) rfl ?_;refine aG (h5') Tryz.underlying25 rfl afK rfl (.tmp 5) rfl rfl ?_) | (refine aN 25 (.tmp 5) rfl ?_;refine su (h5') Tryz.underlying25 rfl afK rfl (.tmp 5) rfl rfl ?_) | (refine vg 25 (.tmp 5) rfl ?_;refine sD (h5') Tryz.underlying25 rfl afK (.tmp 5) rfl rfl ?_) | (go_at_call 16;refine (aeX _ l' A6 c6 24 _ h6).mono ?_;rw [hpl,hd2];rintro e w2 ⟨rfl,hb2⟩;have HG9:=hide (HG9.out.below hb2);have h5':=h5.below hb2;have h6':=h6.below hb2;dsimp only) | (go_at_call 20;refine (adi _ r l' A6 c6 _ h6').mono ?_;rw [hpl,hEq];rintro e w3 ⟨rfl,hb3⟩;have HG9:=hide (HG9.out.below hb3);dsimp only))
       refine PD.out _ _ ?_
       go_wp2_with (first | (go_at_call 17;refine (QJ _ HG9.out).mono ?_;rintro e w9 ⟨rfl,U6⟩;dsimp only))
       go_ret
       exact ⟨rfl,VY (VY hbw hb2) U6⟩
   | false=>
     go_wp2_with (first | (refine aN 25 (.tmp 5) rfl ?_;refine aG (h5') Tryz.underlying25 rfl afK rfl (.tmp 5) rfl rfl ?_) | (refine aN 25 (.tmp 5) rfl ?_;refine su (h5') Tryz.underlying25 rfl afK rfl (.tmp 5) rfl rfl ?_) | (refine vg 25 (.tmp 5) rfl ?_;refine sD (h5') Tryz.underlying25 rfl afK (.tmp 5) rfl rfl ?_) | (go_at_call 16;refine (aeX _ l' A6 c6 24 _ h6).mono ?_;rw [hpl,hd2];rintro e w2 ⟨rfl,hb2⟩;have HG9:=hide (HG9.out.below hb2);have h5':=h5.below hb2;have h6':=h6.below hb2;dsimp only) | (go_at_call 20;refine (adi _ r l' A6 c6 _ h6').mono ?_;rw [hpl,hEq];rintro e w3 ⟨rfl,hb3⟩;have HG9:=hide (HG9.out.below hb3);dsimp only))
     refine PD.out _ _ ?_
     go_wp2_with (first | (go_at_call 17;refine (QJ _ HG9.out).mono ?_;rintro e w9 ⟨rfl,U6⟩;dsimp only))
     go_ret
     exact ⟨rfl,VY (VY hbw hb2) U6⟩
theorem apb (W0:World) (r:M.Rules) (l:List Sh) (Al:Option Addr) (cl:Nat) (HG:Hid (Glob W0)) (HN:Hid (amK W0 r l Al cl)):amD W0 r l Al cl:=by
 intro _ _ _ _ _ _ _ _ _ _ _ _ _ _ _ _ _ _ _ _ _ _ _ _ _ _ _ _ _ _ _ _ _ _ _ _ _ _ _ _ _ _ _ _ _ _ _ _ _ _ _ _ _ _ _ _ _ _ _ _ _ _ _ _ _ _ _ _ _ _ _ _ _ _ _ _ _ _ _ _ _ _ _ _ _ _ _ _ _ _ _ _ _ _ _ _ _ _ _ _ _ _ _ _ _ _ _ _ _ _ _ _ _ _ _ _ _ _ _ _ _ _ _ _ _ _ _ _ _ _ _ _ _ _ _ _ _ _ _ _ _ _ _ _ _ _ _ _ _ _ _ _ _ _ _ _ _ _ _ _ _ _ _ _ _ _ _ _ _ _ _ _ _ _ _ _ _ _ _ _ _ _ _ _ _ _ _ _ _ _ _ _ _ _ _ _ _ _ _ _ _ _ _ _ _ _ _ _ _ _ W hf
 dsimp only [aat,dQ,Tryz.f6,Option.getD]
 obtain ⟨hA,hO⟩:=hf
 have hA':=hA
 obtain ⟨rfl,rfl,h2,hl,_,_,hbw⟩:=hA'
 have hcl:=akh r l 24 hO Al cl W hl
 have JF:=hide hcl
 clear hcl
 apply wp_seq_k
 intro K hK
 have HK:=hide hK
 clear hK
 go_wp2_with (first | (refine aN 23 (.tmp 2) rfl ?_;refine aG (h2) Tryz.underlying23 rfl kV rfl (.tmp 2) rfl rfl ?_) | (go_at_call 18;refine JF.out.mono ?_;rintro e w1 ⟨A1,c1,A2,n2,c2,rfl,hr1,hb1⟩;have hbx:=Held.new w1 aj 33;dsimp only) | (refine aO 33 (.tmp 7) (.tmp 49) rfl ?_;refine aF hbx (aW (M.final r (M.start r) (plain l)) A1 c1) rfl bW (dL _ _ _) rfl (.tmp 7) (.tmp 49) rfl rfl rfl ?_))
 have hb2:Below w1.heap.size w1 ((w1.alloc (.cells aj.toArray 33)).setCells w1.heap.size 0 (aW (M.final r (M.start r) (plain l)) A1 c1)):=below_setCells _ (Nat.le_refl _) _ _ _ _ ((Below.refl _ _).alloc (Nat.le_refl _) _)
 have hbb:=hb1.trans (hb2.mono hb1.size)
 have hso:=M.aiS (r:=r) (ali hO)
 refine HK.out _ _ ?_
 apply HN.out
 exact ⟨⟨hA.below hbb,hO⟩,⟨_,_,rfl,hbx.whole _ rfl,by rw [← show (M.final r (M.start r) (plain l)).s0=M.sumOf 0 (smN r l) from hso.1];rfl,by rw [← show (M.final r (M.start r) (plain l)).s1=M.sumOf 1 (smN r l) from hso.2.1];rfl⟩,rfl⟩
theorem apj (W0:World) (r:M.Rules) (l:List Sh) (Al:Option Addr) (cl:Nat) (HG:Hid (Glob W0)) (HN:Hid (amR W0 r l Al cl)):amK W0 r l Al cl:=by
 intro _ _ _ _ _ _ _ _ _ _ _ _ _ _ _ _ _ _ _ _ _ _ _ _ _ _ _ _ _ _ _ _ _ _ _ _ _ _ _ _ _ _ _ _ _ _ _ _ _ _ _ _ _ _ _ _ _ _ _ _ _ _ _ _ _ _ _ _ _ _ _ _ _ _ _ _ _ _ _ _ _ _ _ _ _ _ _ _ _ _ _ _ _ _ _ _ _ _ _ _ _ _ _ _ _ _ _ _ _ _ _ _ _ _ _ _ _ _ _ _ _ _ _ _ _ _ _ _ _ _ _ _ _ _ _ _ _ _ _ _ _ _ _ _ _ _ _ _ _ _ _ _ _ _ _ _ _ _ _ _ _ _ _ _ _ _ _ _ _ _ _ _ _ _ _ _ _ _ _ _ _ _ _ _ _ _ _ _ _ _ _ _ _ _ _ _ _ _ _ _ _ _ _ _ _ _ _ _ _ _ W hf
 dsimp only [aat,dQ,Tryz.f6,Option.getD]
 obtain ⟨⟨hA,hO⟩,h7,rfl⟩:=hf
 have hA':=hA
 obtain ⟨rfl,rfl,h2,hl,_,_,hbw⟩:=hA'
 have hcl:=alq r l 24 hO Al cl W hl
 have JF:=hide hcl
 clear hcl
 apply wp_seq_k
 intro K hK
 have HK:=hide hK
 clear hK
 go_wp2_with (first | (refine aN 23 (.tmp 2) rfl ?_;refine aG (h2) Tryz.underlying23 rfl kV rfl (.tmp 2) rfl rfl ?_) | (go_at_call 19;refine JF.out.mono ?_;rintro e w1 ⟨A1,c1,rfl,hr1,hb1⟩;dsimp only))
 refine HK.out _ _ ?_
 apply HN.out
 exact ⟨⟨hA.below hb1,hO⟩,⟨h7.below hb1,rfl⟩,⟨A1,c1,rfl,Reads.more hr1 (fun _ _ _=>trivial)⟩,rfl⟩
theorem apr (W0:World) (r:M.Rules) (l:List Sh) (Al:Option Addr) (cl:Nat) (HG:Hid (Glob W0)) (HN:Hid (amY W0 r l Al cl)):amR W0 r l Al cl:=by
 intro _ _ _ _ _ _ _ _ _ _ _ _ _ _ _ _ _ _ _ _ _ _ _ _ _ _ _ _ _ _ _ _ _ _ _ _ _ _ _ _ _ _ _ _ _ _ _ _ _ _ _ _ _ _ _ _ _ _ _ _ _ _ _ _ _ _ _ _ _ _ _ _ _ _ _ _ _ _ _ _ _ _ _ _ _ _ _ _ _ _ _ _ _ _ _ _ _ _ _ _ _ _ _ _ _ _ _ _ _ _ _ _ _ _ _ _ _ _ _ _ _ _ _ _ _ _ _ _ _ _ _ _ _ _ _ _ _ _ _ _ _ _ _ _ _ _ _ _ _ _ _ _ _ _ _ _ _ _ _ _ _ _ _ _ _ _ _ _ _ _ _ _ _ _ _ _ _ _ _ _ _ _ _ _ _ _ _ _ _ _ _ _ _ _ _ _ _ _ _ _ _ _ _ _ _ _ _ _ _ _ W hf
 dsimp only [aat,dQ,Tryz.f6,Option.getD]
 obtain ⟨⟨hA,hO⟩,⟨h7,rfl⟩,h10,rfl⟩:=hf
 have hA':=hA
 obtain ⟨rfl,rfl,h2,hl,_,_,hbw⟩:=hA'
 have hcl:=al1 r l 24 hO Al cl W hl
 have JF:=hide hcl
 clear hcl
 apply wp_seq_k
 intro K hK
 have HK:=hide hK
 clear hK
 go_wp2_with (first | (refine aN 23 (.tmp 2) rfl ?_;refine aG (h2) Tryz.underlying23 rfl kV rfl (.tmp 2) rfl rfl ?_) | (go_at_call 24;refine JF.out.mono ?_;rintro e w1 ⟨A1,c1,rfl,hr1,hb1⟩;dsimp only))
 refine HK.out _ _ ?_
 apply HN.out
 exact ⟨⟨hA.below hb1,hO⟩,⟨h7.below hb1,rfl⟩,⟨h10.below hb1,rfl⟩,⟨A1,c1,rfl,Reads.more hr1 (fun _ _ _=>trivial)⟩,rfl⟩
theorem apy (W0:World) (r:M.Rules) (l:List Sh) (Al:Option Addr) (cl:Nat) (HG:Hid (Glob W0)) (HN:Hid (am5 W0 r l Al cl)):amY W0 r l Al cl:=by
 intro _ _ _ _ _ _ _ _ _ _ _ _ _ _ _ _ _ _ _ _ _ _ _ _ _ _ _ _ _ _ _ _ _ _ _ _ _ _ _ _ _ _ _ _ _ _ _ _ _ _ _ _ _ _ _ _ _ _ _ _ _ _ _ _ _ _ _ _ _ _ _ _ _ _ _ _ _ _ _ _ _ _ _ _ _ _ _ _ _ _ _ _ _ _ _ _ _ _ _ _ _ _ _ _ _ _ _ _ _ _ _ _ _ _ _ _ _ _ _ _ _ _ _ _ _ _ _ _ _ _ _ _ _ _ _ _ _ _ _ _ _ _ _ _ _ _ _ _ _ _ _ _ _ _ _ _ _ _ _ _ _ _ _ _ _ _ _ _ _ _ _ _ _ _ _ _ _ _ _ _ _ _ _ _ _ _ _ _ _ _ _ _ _ _ _ _ _ _ _ _ _ _ _ _ _ _ _ _ _ _ _ hf
 dsimp only [aat,dQ,Tryz.f6,Option.getD]
 obtain ⟨⟨hA,hO⟩,⟨h7,rfl⟩,⟨h10,rfl⟩,h12,rfl⟩:=hf
 obtain ⟨Yv,c10,rfl,Sz⟩:=h10
 obtain ⟨rfl,rfl,h2,hl,_,_,hbw⟩:=hA
 have hbl:=(wG.bd hl).2.2
 apply wp_seq_k
 intro K hK
 have HK:=hide hK
 clear hK
 apply wp_seq_k
 intro K2 hK2
 have PD:=hide hK2
 clear hK2
 go_wp2
 refine PD.out _ _ ?_
 go_wp2
 refine HK.out _ _ ?_
 apply HN.out
 exact ⟨⟨rfl,rfl,h2,hl.1,h7,hO.len,ali hO,hbw⟩,⟨Yv,c10,rfl,Sz⟩,h12⟩
theorem aoo (W0:World) (r:M.Rules) (l:List Sh) (Al:Option Addr) (cl:Nat) (HG:Hid (Glob W0)):amf W0 r l Al cl:=by
 intro _ _ _ _ _ _ _ _ _ _ _ _ _ _ _ _ _ _ _ _ _ _ _ _ _ _ _ _ _ _ _ _ _ _ _ _ _ _ _ _ _ _ _ _ _ _ _ _ _ _ _ _ _ _ _ _ _ _ _ _ _ _ _ _ _ _ _ _ _ _ _ _ _ _ _ _ _ _ _ _ _ _ _ _ _ _ _ _ _ _ _ _ _ _ _ _ _ _ _ _ _ _ _ _ _ _ _ _ _ _ _ _ _ _ _ _ _ _ _ _ _ _ _ _ _ _ _ _ _ _ _ _ _ _ _ _ _ _ _ _ _ _ _ _ _ _ _ _ _ _ _ _ _ _ _ _ _ _ _ _ _ _ _ _ _ _ _ _ _ _ _ _ _ _ _ _ _ _ _ _ _ _ _ _ _ _ _ _ _ _ _ _ _ _ _ _ _ _ _ _ _ _ _ _ _ _ _ _ _ _ W hf
 dsimp only [aat,dQ,Tryz.f6,Option.getD]
 obtain ⟨hD,Xo,h15,h18⟩:=hf
 obtain ⟨rfl,rfl,h2,hrl,h7,hlen,aew,hbw⟩:=hD
 obtain ⟨B7,cs7,rfl,hB7,c7,c8⟩:=h7
 obtain ⟨VE,rfl,Ob⟩:=Xo
 obtain ⟨B15,rfl,alG⟩:=h15
 obtain ⟨B18,rfl,ako⟩:=h18
 have HG9:=hide (HG.out.below hbw)
 have g7:W.rangeAt B7 7 [.int .i64 (M.sumOf 0 (smN r l)),.int .i64 (M.sumOf 1 (smN r l))]:=fun j v hj=>by
  match j,hj with
  | 0,hj=>obtain rfl:=Option.some.inj hj;exact hB7.cell c7
  | 1,hj=>obtain rfl:=Option.some.inj hj;exact hB7.cell c8
 have hso:=M.aiS (r:=r) aew
 have q0:M.aad 0 (smR r l)=M.aal 0 (smN r l):=hso.2.2.1
 have q1:M.aad 1 (smR r l)=M.aal 1 (smN r l):=hso.2.2.2
 rw [q0,q1] at ako
 obtain ⟨s0,hs0⟩:∃ s,M.sumOf 0 (smN r l)=s:=⟨_,rfl⟩
 obtain ⟨s1,hs1⟩:∃ s,M.sumOf 1 (smN r l)=s:=⟨_,rfl⟩
 obtain ⟨u0,hu0⟩:∃ s,M.aal 0 (smN r l)=s:=⟨_,rfl⟩
 obtain ⟨u1,hu1⟩:∃ s,M.aal 1 (smN r l)=s:=⟨_,rfl⟩
 rw [hs0,hs1] at g7 Ob
 rw [hu0,hu1] at alG ako
 have p1:=abf s0 s1 s0 s1
 have p2:=abf u0 u1 u0 u1
 simp only [beq_self_eq_true,Bool.and_self] at p1 p2
 clear hso q0 q1 hs0 hs1 hu0 hu1 c7 c8 hrl
 apply wp_seq_k
 intro K hK
 have HK:=hide hK
 clear hK
 go_wp2_with (first | (refine aN 31 (.tmp 198) rfl ?_;refine jh (g:=B7) (o:=7) g7 Tryz.underlying31 rfl aa0 rfl (.tmp 198) rfl rfl ?_) | (refine aN 31 (.tmp 14) rfl ?_;refine aG (Ob) Tryz.underlying31 rfl aa0 rfl (.tmp 14) rfl rfl ?_) | (refine aN 31 (.tmp 14) rfl ?_;refine su (Ob) Tryz.underlying31 rfl aa0 rfl (.tmp 14) rfl rfl ?_) | (refine vg 31 (.tmp 14) rfl ?_;refine sD (Ob) Tryz.underlying31 rfl aa0 (.tmp 14) rfl rfl ?_) | (refine aN 31 (.tmp 18) rfl ?_;refine aG (ako) Tryz.underlying31 rfl aa0 rfl (.tmp 18) rfl rfl ?_) | (refine aN 31 (.tmp 18) rfl ?_;refine su (ako) Tryz.underlying31 rfl aa0 rfl (.tmp 18) rfl rfl ?_) | (refine vg 31 (.tmp 18) rfl ?_;refine sD (ako) Tryz.underlying31 rfl aa0 (.tmp 18) rfl rfl ?_) | (refine aN 31 (.tmp 15) rfl ?_;refine aG (alG) Tryz.underlying31 rfl aa0 rfl (.tmp 15) rfl rfl ?_) | (refine aN 31 (.tmp 15) rfl ?_;refine su (alG) Tryz.underlying31 rfl aa0 rfl (.tmp 15) rfl rfl ?_) | (refine vg 31 (.tmp 15) rfl ?_;refine sD (alG) Tryz.underlying31 rfl aa0 (.tmp 15) rfl rfl ?_) | (go_at_call 17;refine (QJ _ HG9.out).mono ?_;rintro e w9 ⟨rfl,U6⟩;dsimp only))
 refine HK.out _ _ ?_
 go_wp2
 go_ret
 exact ⟨rfl,VY hbw U6⟩
theorem alz (W0:World) (hg:Glob W0) (r:M.Rules) (l:List Sh) (Al:Option Addr) (cl:Nat) (hl:wG W0 (fun _=>True) Al cl l) (hpl:∀ e∈l,e.x.aA.length*16≤140737488355328) (hll:l.length*80≤140737488355328):
 Calls Tryz.prog 6 #[jM r,.slice Al l.length cl] W0 fun e w'=>e= .returned (.bool true)∧Below W0.heap.size W0 w':=by
 have HG:=hide hg
 have hall:=aoX W0 r l Al cl HG (hide (ao4 W0 r l Al cl HG (hide (apb W0 r l Al cl HG (hide (apj W0 r l Al cl HG (hide (apr W0 r l Al cl HG (hide (apy W0 r l Al cl HG (hide (apF W0 r l Al cl (hide (aoh W0 r l Al cl (hide (aoo W0 r l Al cl HG))))))))))))))))
 have aov:=hide hall
 clear hall
 go_enter Tryz.func6,Tryz.ntmps6
 apply wp_seq_k
 intro K hK
 have HK:=hide hK
 clear hK
 have hB:=(bU.nil W0).new (by simp) ([.string r.game,.int .i64 r.target,.int .i64 r.aY]) 23
 go_wp2
 refine HK.out _ _ ?_
 have HA:=aov.out
 apply HA
 exact ⟨rfl,rfl,hB.bf rfl,hl.below hB.bw,hpl,hll,hB.bw⟩
end Go.Proofs.YtelpepbpdojikaaGreatDoor
