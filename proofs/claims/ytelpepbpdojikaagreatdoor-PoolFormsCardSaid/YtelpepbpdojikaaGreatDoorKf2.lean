/- Parts of the proofs about chapter 5 (pool), joined by program. -/
import Derived.Test.YtelpepbpdojikaaGreatDoorKf0
import Derived.Test.YtelpepbpdojikaaGreatDoorKf1
import Derived.Test.YtelpepbpdojikaaGreatDoorKg31
import Derived.Test.YtelpepbpdojikaaGreatDoorKh8
set_option maxHeartbeats 8000000
set_option maxRecDepth 100000
set_option linter.unusedVariables false
set_option linter.unusedSimpArgs false
namespace Go.Proofs.YtelpepbpdojikaaGreatDoor
open Go.RowKit
noncomputable def aat (n:Nat):Code:=dQ n ((Tryz.f8).body.getD .skip)
structure FmA (W0:World) (r:M.Rules) (s:M.State) (l:List Sh) (As Al:Option Addr) (cs cl:Nat) (v2 v3 v4:Value) (W:World):Prop where
 e2:v2= .slice Al l.length cl
 e3:v3=ptr W0.heap.size
 e4:v4=ptr (W0.heap.size+1)
 h3:Held W W0.heap.size [.string r.game,.int .i64 r.target,.int .i64 r.aY] 23
 h4:Held W (W0.heap.size+1) (aW s As cs) 33
 rs:bD W (fun _=>True) As cs s.ay
 rl:wG W (fun _=>True) Al cl l
 pl:∀ e∈l,e.x.aA.length*16≤140737488355328
 ll:l.length*80≤140737488355328
 bw:Below W0.heap.size W0 W
theorem FmA.below {W0 W W':World} {r:M.Rules} {s:M.State} {l:List Sh} {As Al:Option Addr} {cs cl:Nat} {v2 v3 v4:Value} (h:FmA W0 r s l As Al cs cl v2 v3 v4 W) (hb:Below W.heap.size W W'):FmA W0 r s l As Al cs cl v2 v3 v4 W':=
 ⟨h.e2,h.e3,h.e4,h.h3.below hb,h.h4.below hb,h.rs.below hb,h.rl.below hb,h.pl,h.ll,VY h.bw hb⟩
def FmB (W0:World) (r:M.Rules) (s:M.State) (l:List Sh) (As Al:Option Addr) (cs cl:Nat) (v2 v3 v4 v7 v8 v9:Value) (W:World):Prop:=
 FmA W0 r s l As Al cs cl v2 v3 v4 W∧∃ B7 B8 A9 c9 l',v7=ptr B7∧Held W B7 [.string r.game,.int .i64 r.target,.int .i64 r.aY] 25∧v8=ptr B8∧Held W B8 (aW s As cs) 42∧v9= .slice A9 l'.length c9∧plain l'=plain l∧wG W (fun _=>True) A9 c9 l'
theorem FmB.below {W0 W W':World} {r:M.Rules} {s:M.State} {l:List Sh} {As Al:Option Addr} {cs cl:Nat} {v2 v3 v4 v7 v8 v9:Value} (h:FmB W0 r s l As Al cs cl v2 v3 v4 v7 v8 v9 W) (hb:Below W.heap.size W W'):FmB W0 r s l As Al cs cl v2 v3 v4 v7 v8 v9 W':=by
 obtain ⟨h1,B7,B8,A9,c9,l',e7,h7,e8,h8,e9,hp,h9⟩:=h
 exact ⟨h1.below hb,B7,B8,A9,c9,l',e7,h7.below hb,e8,h8.below hb,e9,hp,h9.below hb⟩
def FmS (s:M.State) (t:TypeId) (v:Value) (W:World):Prop:=∃ B A c,v=ptr B∧Held W B (aW s A c) t∧bD W (fun _=>True) A c s.ay
theorem FmS.below {s:M.State} {t:TypeId} {v:Value} {W W':World} (h:FmS s t v W) (hb:Below W.heap.size W W'):FmS s t v W':=by
 obtain ⟨B,A,c,h1,h2,h3⟩:=h
 exact ⟨B,A,c,h1,h2.below hb,h3.below hb⟩
def fmT (r:M.Rules):M.State:=if M.aH r=0 then M.start r else M.zero
theorem ael (r:M.Rules) (W:World):Calls Tryz.prog 36 #[jM r] W fun e w'=>∃ A' c',e= .returned (.tuple #[wF (fmT r) A' c',.int .i64 (M.aH r)])∧bD w' (fun b=>W.heap.size≤b) A' c' (fmT r).ay∧Below W.heap.size W w':=acX r W
theorem aad (S:Nat→Prop) (r:M.Rules) (s:M.State) (A:Option Addr) (c:Nat) (w:World) (hp:bD w S A c s.ay):
 Calls Tryz.prog 43 #[jM r,wF s A c] w fun e w'=>e= .returned (.int .i64 (M.jf r s))∧Below w.heap.size w w':=by
 by_cases h:M.dw r s=0
 · obtain ⟨g,tg,fo⟩:=r
   have ho:=Om h
   by_cases hg:s.group=0
   · exact ZO S g tg fo s A c w hp ho (by simpa using hg)
   · have he:g=M.aQ:=ho.game.resolve_left hg
     subst he
     exact ZH S tg fo s A c w hp ho (by simpa using hg)
 · have:=Z4 r s A c w hp.bd.2.2 h
   have hck:M.jf r s=M.dw r s:=by unfold M.jf;rw [if_pos h]
   rw [hck]
   exact this
theorem aal:(Tryz.prog.info? 25).map (·.size)=some 3:=by kernel_rfl
theorem wG.abA {w6 X:World} {S:Nat→Prop} {A:Option Addr} {c g7 g8 o7 o8:Nat} {l:List Sh} {v7 v8:List Value} (h:wG w6 S A c l) (hb:Below w6.heap.size w6 X) (hg:∀ b,b<w6.heap.size→S b→b≠g7∧b≠g8):wG ((X.setCells g7 o7 v7).setCells g8 o8 v8) S A c l:=
 h.keep (by rw [setCells_size,setCells_size];exact hb.size) fun b i hs hl=>(kN _ _ _ _ (hg b hl hs).2).trans ((kN _ _ _ _ (hg b hl hs).1).trans (hb.cell (p:=⟨b,i,none⟩) hl))
@[reducible] def ai6 (W0:World) (r:M.Rules) (s:M.State) (l:List Sh) (As Al:Option Addr) (cs cl:Nat):Prop:=∀ (z0 z1 z2 z3 z4 z5 z6 z7 z8 z9 z10 z11 z12 z13 kD kK kF z17 kL jQ z20 z21 z22 z23 z24 z25 z26 z27 z28 z29 z30 z31 z32 z33 z34 z35 z36 z37 z38 z39 z40 z41 z42 z43 z44 z45 z46 z47 z48 z49 z50 z51 z52 z53 z54 z55 z56 z57 z58 z59 z60 z61 z62 z63 z64 z65 z66 z67 z68 z69 z70 z71 z72 z73 z74 z75 z76 z77 z78 z79 z80 mM z82 z83 z84 z85 z86 z87 mO z89 mP z91 mQ z93 mV mW:Value) (W:World),(FmA W0 r s l As Al cs cl z2 z3 z4 W)→(aat 1).wp Tryz.prog (bodyPost Tryz.prog Tryz.f8 (fun e w'=>e= .returned (.bool true)∧Below W0.heap.size W0 w')) {tmps:= #[z0,z1,z2,z3,z4,z5,z6,z7,z8,z9,z10,z11,z12,z13,kD,kK,kF,z17,kL,jQ,z20,z21,z22,z23,z24,z25,z26,z27,z28,z29,z30,z31,z32,z33,z34,z35,z36,z37,z38,z39,z40,z41,z42,z43,z44,z45,z46,z47,z48,z49,z50,z51,z52,z53,z54,z55,z56,z57,z58,z59,z60,z61,z62,z63,z64,z65,z66,z67,z68,z69,z70,z71,z72,z73,z74,z75,z76,z77,z78,z79,z80,mM,z82,z83,z84,z85,z86,z87,mO,z89,mP,z91,mQ,z93,mV,mW],defers:=[] } W
@[reducible] def ahT (W0:World) (r:M.Rules) (s:M.State) (l:List Sh) (As Al:Option Addr) (cs cl:Nat):Prop:=∀ (z0 z1 z2 z3 z4 z5 z6 z7 z8 z9 z10 z11 z12 z13 kD kK kF z17 kL jQ z20 z21 z22 z23 z24 z25 z26 z27 z28 z29 z30 z31 z32 z33 z34 z35 z36 z37 z38 z39 z40 z41 z42 z43 z44 z45 z46 z47 z48 z49 z50 z51 z52 z53 z54 z55 z56 z57 z58 z59 z60 z61 z62 z63 z64 z65 z66 z67 z68 z69 z70 z71 z72 z73 z74 z75 z76 z77 z78 z79 z80 mM z82 z83 z84 z85 z86 z87 mO z89 mP z91 mQ z93 mV mW:Value) (W:World),(FmB W0 r s l As Al cs cl z2 z3 z4 z7 z8 z9 W)→(aat 2).wp Tryz.prog (bodyPost Tryz.prog Tryz.f8 (fun e w'=>e= .returned (.bool true)∧Below W0.heap.size W0 w')) {tmps:= #[z0,z1,z2,z3,z4,z5,z6,z7,z8,z9,z10,z11,z12,z13,kD,kK,kF,z17,kL,jQ,z20,z21,z22,z23,z24,z25,z26,z27,z28,z29,z30,z31,z32,z33,z34,z35,z36,z37,z38,z39,z40,z41,z42,z43,z44,z45,z46,z47,z48,z49,z50,z51,z52,z53,z54,z55,z56,z57,z58,z59,z60,z61,z62,z63,z64,z65,z66,z67,z68,z69,z70,z71,z72,z73,z74,z75,z76,z77,z78,z79,z80,mM,z82,z83,z84,z85,z86,z87,mO,z89,mP,z91,mQ,z93,mV,mW],defers:=[] } W
@[reducible] def ah1 (W0:World) (r:M.Rules) (s:M.State) (l:List Sh) (As Al:Option Addr) (cs cl:Nat):Prop:=∀ (z0 z1 z2 z3 z4 z5 z6 z7 z8 z9 z10 z11 z12 z13 kD kK kF z17 kL jQ z20 z21 z22 z23 z24 z25 z26 z27 z28 z29 z30 z31 z32 z33 z34 z35 z36 z37 z38 z39 z40 z41 z42 z43 z44 z45 z46 z47 z48 z49 z50 z51 z52 z53 z54 z55 z56 z57 z58 z59 z60 z61 z62 z63 z64 z65 z66 z67 z68 z69 z70 z71 z72 z73 z74 z75 z76 z77 z78 z79 z80 mM z82 z83 z84 z85 z86 z87 mO z89 mP z91 mQ z93 mV mW:Value) (W:World),(FmB W0 r s l As Al cs cl z2 z3 z4 z7 z8 z9 W)→(aat 3).wp Tryz.prog (bodyPost Tryz.prog Tryz.f8 (fun e w'=>e= .returned (.bool true)∧Below W0.heap.size W0 w')) {tmps:= #[z0,z1,z2,z3,z4,z5,z6,z7,z8,z9,z10,z11,z12,z13,kD,kK,kF,z17,kL,jQ,z20,z21,z22,z23,z24,z25,z26,z27,z28,z29,z30,z31,z32,z33,z34,z35,z36,z37,z38,z39,z40,z41,z42,z43,z44,z45,z46,z47,z48,z49,z50,z51,z52,z53,z54,z55,z56,z57,z58,z59,z60,z61,z62,z63,z64,z65,z66,z67,z68,z69,z70,z71,z72,z73,z74,z75,z76,z77,z78,z79,z80,mM,z82,z83,z84,z85,z86,z87,mO,z89,mP,z91,mQ,z93,mV,mW],defers:=[] } W
@[reducible] def ah9 (W0:World) (r:M.Rules) (s:M.State) (l:List Sh) (As Al:Option Addr) (cs cl:Nat):Prop:=∀ (z0 z1 z2 z3 z4 z5 z6 z7 z8 z9 z10 z11 z12 z13 kD kK kF z17 kL jQ z20 z21 z22 z23 z24 z25 z26 z27 z28 z29 z30 z31 z32 z33 z34 z35 z36 z37 z38 z39 z40 z41 z42 z43 z44 z45 z46 z47 z48 z49 z50 z51 z52 z53 z54 z55 z56 z57 z58 z59 z60 z61 z62 z63 z64 z65 z66 z67 z68 z69 z70 z71 z72 z73 z74 z75 z76 z77 z78 z79 z80 mM z82 z83 z84 z85 z86 z87 mO z89 mP z91 mQ z93 mV mW:Value) (W:World),(FmB W0 r s l As Al cs cl z2 z3 z4 z7 z8 z9 W)→(aat 4).wp Tryz.prog (bodyPost Tryz.prog Tryz.f8 (fun e w'=>e= .returned (.bool true)∧Below W0.heap.size W0 w')) {tmps:= #[z0,z1,z2,z3,z4,z5,z6,z7,z8,z9,z10,z11,z12,z13,kD,kK,kF,z17,kL,jQ,z20,z21,z22,z23,z24,z25,z26,z27,z28,z29,z30,z31,z32,z33,z34,z35,z36,z37,z38,z39,z40,z41,z42,z43,z44,z45,z46,z47,z48,z49,z50,z51,z52,z53,z54,z55,z56,z57,z58,z59,z60,z61,z62,z63,z64,z65,z66,z67,z68,z69,z70,z71,z72,z73,z74,z75,z76,z77,z78,z79,z80,mM,z82,z83,z84,z85,z86,z87,mO,z89,mP,z91,mQ,z93,mV,mW],defers:=[] } W
@[reducible] def aik (W0:World) (r:M.Rules) (s:M.State) (l:List Sh) (As Al:Option Addr) (cs cl:Nat):Prop:=∀ (z0 z1 z2 z3 z4 z5 z6 z7 z8 z9 z10 z11 z12 z13 kD kK kF z17 kL jQ z20 z21 z22 z23 z24 z25 z26 z27 z28 z29 z30 z31 z32 z33 z34 z35 z36 z37 z38 z39 z40 z41 z42 z43 z44 z45 z46 z47 z48 z49 z50 z51 z52 z53 z54 z55 z56 z57 z58 z59 z60 z61 z62 z63 z64 z65 z66 z67 z68 z69 z70 z71 z72 z73 z74 z75 z76 z77 z78 z79 z80 mM z82 z83 z84 z85 z86 z87 mO z89 mP z91 mQ z93 mV mW:Value) (W:World),(FmB W0 r s l As Al cs cl z2 z3 z4 z7 z8 z9 W∧FmS (fmT r) 33 z11 W∧z12= .int .i64 (M.aH r))→(aat 5).wp Tryz.prog (bodyPost Tryz.prog Tryz.f8 (fun e w'=>e= .returned (.bool true)∧Below W0.heap.size W0 w')) {tmps:= #[z0,z1,z2,z3,z4,z5,z6,z7,z8,z9,z10,z11,z12,z13,kD,kK,kF,z17,kL,jQ,z20,z21,z22,z23,z24,z25,z26,z27,z28,z29,z30,z31,z32,z33,z34,z35,z36,z37,z38,z39,z40,z41,z42,z43,z44,z45,z46,z47,z48,z49,z50,z51,z52,z53,z54,z55,z56,z57,z58,z59,z60,z61,z62,z63,z64,z65,z66,z67,z68,z69,z70,z71,z72,z73,z74,z75,z76,z77,z78,z79,z80,mM,z82,z83,z84,z85,z86,z87,mO,z89,mP,z91,mQ,z93,mV,mW],defers:=[] } W
@[reducible] def ait (W0:World) (r:M.Rules) (s:M.State) (l:List Sh) (As Al:Option Addr) (cs cl:Nat):Prop:=∀ (z0 z1 z2 z3 z4 z5 z6 z7 z8 z9 z10 z11 z12 z13 kD kK kF z17 kL jQ z20 z21 z22 z23 z24 z25 z26 z27 z28 z29 z30 z31 z32 z33 z34 z35 z36 z37 z38 z39 z40 z41 z42 z43 z44 z45 z46 z47 z48 z49 z50 z51 z52 z53 z54 z55 z56 z57 z58 z59 z60 z61 z62 z63 z64 z65 z66 z67 z68 z69 z70 z71 z72 z73 z74 z75 z76 z77 z78 z79 z80 mM z82 z83 z84 z85 z86 z87 mO z89 mP z91 mQ z93 mV mW:Value) (W:World),(FmB W0 r s l As Al cs cl z2 z3 z4 z7 z8 z9 W∧FmS (fmT r) 33 z11 W∧z12= .int .i64 (M.aH r)∧z13= .int .i64 (M.aH r))→(aat 6).wp Tryz.prog (bodyPost Tryz.prog Tryz.f8 (fun e w'=>e= .returned (.bool true)∧Below W0.heap.size W0 w')) {tmps:= #[z0,z1,z2,z3,z4,z5,z6,z7,z8,z9,z10,z11,z12,z13,kD,kK,kF,z17,kL,jQ,z20,z21,z22,z23,z24,z25,z26,z27,z28,z29,z30,z31,z32,z33,z34,z35,z36,z37,z38,z39,z40,z41,z42,z43,z44,z45,z46,z47,z48,z49,z50,z51,z52,z53,z54,z55,z56,z57,z58,z59,z60,z61,z62,z63,z64,z65,z66,z67,z68,z69,z70,z71,z72,z73,z74,z75,z76,z77,z78,z79,z80,mM,z82,z83,z84,z85,z86,z87,mO,z89,mP,z91,mQ,z93,mV,mW],defers:=[] } W
@[reducible] def aiC (W0:World) (r:M.Rules) (s:M.State) (l:List Sh) (As Al:Option Addr) (cs cl:Nat):Prop:=∀ (z0 z1 z2 z3 z4 z5 z6 z7 z8 z9 z10 z11 z12 z13 kD kK kF z17 kL jQ z20 z21 z22 z23 z24 z25 z26 z27 z28 z29 z30 z31 z32 z33 z34 z35 z36 z37 z38 z39 z40 z41 z42 z43 z44 z45 z46 z47 z48 z49 z50 z51 z52 z53 z54 z55 z56 z57 z58 z59 z60 z61 z62 z63 z64 z65 z66 z67 z68 z69 z70 z71 z72 z73 z74 z75 z76 z77 z78 z79 z80 mM z82 z83 z84 z85 z86 z87 mO z89 mP z91 mQ z93 mV mW:Value) (W:World),(FmB W0 r s l As Al cs cl z2 z3 z4 z7 z8 z9 W∧FmS (fmT r) 33 z11 W∧z12= .int .i64 (M.aH r)∧z13= .int .i64 (M.aH r)∧FmS (fmT r) 42 kD W)→(aat 8).wp Tryz.prog (bodyPost Tryz.prog Tryz.f8 (fun e w'=>e= .returned (.bool true)∧Below W0.heap.size W0 w')) {tmps:= #[z0,z1,z2,z3,z4,z5,z6,z7,z8,z9,z10,z11,z12,z13,kD,kK,kF,z17,kL,jQ,z20,z21,z22,z23,z24,z25,z26,z27,z28,z29,z30,z31,z32,z33,z34,z35,z36,z37,z38,z39,z40,z41,z42,z43,z44,z45,z46,z47,z48,z49,z50,z51,z52,z53,z54,z55,z56,z57,z58,z59,z60,z61,z62,z63,z64,z65,z66,z67,z68,z69,z70,z71,z72,z73,z74,z75,z76,z77,z78,z79,z80,mM,z82,z83,z84,z85,z86,z87,mO,z89,mP,z91,mQ,z93,mV,mW],defers:=[] } W
theorem ajk (W0:World) (r:M.Rules) (s:M.State) (l:List Sh) (As Al:Option Addr) (cs cl:Nat) (HG:Hid (Glob W0)) (HN:Hid (ahT W0 r s l As Al cs cl)):ai6 W0 r s l As Al cs cl:=by
 intro _ _ _ _ _ _ _ _ _ _ _ _ _ _ _ _ _ _ _ _ _ _ _ _ _ _ _ _ _ _ _ _ _ _ _ _ _ _ _ _ _ _ _ _ _ _ _ _ _ _ _ _ _ _ _ _ _ _ _ _ _ _ _ _ _ _ _ _ _ _ _ _ _ _ _ _ _ _ _ _ _ _ _ _ _ _ _ _ _ _ _ _ _ _ _ _ W hf
 dsimp only [aat,dQ,Tryz.f8,Option.getD]
 have hF:=hf
 obtain ⟨rfl,rfl,rfl,h3,h4,_,_,_,_,_⟩:=hf
 have hr3:∀ W',(fun w':World=>Below W.heap.size W w') W'→W'.rangeAt W0.heap.size 0 ([.string r.game,.int .i64 r.target,.int .i64 r.aY]):=fun W' h=>(h3.below h).range
 have hr4:∀ W',(fun w':World=>Below W.heap.size W w') W'→W'.rangeAt (W0.heap.size+1) 0 (aW s As cs):=fun W' h=>(h4.below h).range
 apply wp_seq_k
 intro K hK
 have HK:=hide hK
 clear hK
 refine wp_region_held_drew (S:=(fun w':World=>Below W.heap.size W w')) (by kernel_rfl) ?eP (fun hHeld=>?_)
 case eP=>exact (Below.refl _ _).drew
 refine wpAnyH_take (i:=0) (oi:=_) (v:=_) (ga rfl) (by kernel_rfl) (by kernel_rfl) (by kernel_rfl) (fun _ _ _ h=>h) (yieldsIf_load_mid (by rfl) _ _ (by rfl) _ _ (by rfl) _ _ hr3 Tryz.underlying23 rfl (by kernel_rfl)) (by assumption) ?_
 try simp only [Act.put,la,lz,ls]
 refine wpAnyH_take (i:=1) (oi:=_) (v:=_) (ga rfl) (by kernel_rfl) (by kernel_rfl) (by kernel_rfl) (fun _ _ _ h=>h) (yieldsIf_load_mid (by rfl) _ _ (by rfl) _ _ (by rfl) _ _ hr4 Tryz.underlying33 rfl (by kernel_rfl)) (by assumption) ?_
 try simp only [Act.put,la,lz,ls]
 refine tk 2 ?_
 refine wpAnyH_ready (rs:=[3,4,5]) (by kernel_rfl) (by simp) ?_
 refine AllReadyH.cons (o:=_) (ga rfl) (fun K hK=>?_) (AllReadyH.cons (o:=_) (ga rfl) (fun K hK=>?_) (AllReadyH.cons (o:=_) (ga rfl) (fun K hK=>?_) AllReadyH.nil))
 · go_simp
   (go_at_call 15;refine (aeC (fun _=>True) l Al cl _ (hF.rl.below hHeld) hF.ll hF.pl).mono ?_;rintro e w6 ⟨l',A6,c6,hpl,rfl,kP,hb6⟩;have iR:W.heap.size≤w6.heap.size:=Nat.le_trans hHeld.size hb6.size)
   refine hK.out _ _ ?aeM (fun hHeld=>?_)
   case aeM=>(exact hHeld.trans (hb6.mono hHeld.size))
   clear hK K
   try simp only [Act.put,la,lz,ls]
   refine wpAnyH_ready (rs:=[4,5]) (by kernel_rfl) (by simp) ?_
   refine AllReadyH.cons (o:=_) (ga rfl) (fun K hK=>?_) (AllReadyH.cons (o:=_) (ga rfl) (fun K hK=>?_) AllReadyH.nil)
   · go_simp
     refine hK.out _ _ ?afj (fun hHeld=>?_)
     case afj=>(exact Below.alloc hHeld hHeld.size _)
     clear hK K
     try simp only [Act.put,la,lz,ls]
     refine tr 5 fun K hK=>?_
     go_simp
     refine hK.out _ _ ?afH (fun hHeld=>?_)
     case afH=>(exact Below.alloc hHeld hHeld.size _)
     clear hK K
     try simp only [Act.put,la,lz,ls]
     refine tr 6 fun K hK=>?_
     refine bF (cs:=[.string ⟨#[]⟩,.int .i64 0,.int .i64 0]) (by first | exact Held.newAt _ [.string ⟨#[]⟩,.int .i64 0,.int .i64 0] 25 (by first | rfl | simp) | exact (Held.newAt _ [.string ⟨#[]⟩,.int .i64 0,.int .i64 0] 25 (by first | rfl | simp)).alloc _ | exact ((Held.newAt _ [.string ⟨#[]⟩,.int .i64 0,.int .i64 0] 25 (by first | rfl | simp)).drew.below hb6).alloc _ | exact ((Held.newAt _ [.string ⟨#[]⟩,.int .i64 0,.int .i64 0] 25 (by first | rfl | simp)).alloc _).drew.below hb6 | exact (Held.newAt _ [.string ⟨#[]⟩,.int .i64 0,.int .i64 0] 25 (by first | rfl | simp)).drew.below hb6) [.string r.game,.int .i64 r.target,.int .i64 r.aY] rfl aal (xI _ _ _) (.tmp 7) (.tmp 15) rfl rfl rfl ?_
     refine hK.out _ _ ?agi (fun hHeld=>?_)
     case agi=>(exact below_setCells _ (by first | exact Nat.le_refl _ | exact iR | exact Nat.le_succ _ | exact Nat.le_succ_of_le iR) _ _ _ _ hHeld)
     clear hK K
     try simp only [Act.put,la,lz,ls]
     refine tr 7 fun K hK=>?_
     refine bF (cs:=aj) (Held.others (by have hq:=hb6.size;(try simp at hq);first | omega | (simp;done) | (simp;omega)) _ _ _ (by first | exact Held.newAt _ aj 42 (by first | rfl | simp) | exact (Held.newAt _ aj 42 (by first | rfl | simp)).alloc _ | exact ((Held.newAt _ aj 42 (by first | rfl | simp)).drew.below hb6).alloc _ | exact ((Held.newAt _ aj 42 (by first | rfl | simp)).alloc _).drew.below hb6 | exact (Held.newAt _ aj 42 (by first | rfl | simp)).drew.below hb6)) (aW s As cs) rfl ZP (dL _ _ _) (.tmp 8) (.tmp 16) rfl rfl rfl ?_
     refine hK.out _ _ ?agP (fun hHeld=>?_)
     case agP=>(exact below_setCells _ (by first | exact Nat.le_refl _ | exact iR | exact Nat.le_succ _ | exact Nat.le_succ_of_le iR) _ _ _ _ hHeld)
     clear hK K
     try simp only [Act.put,la,lz,ls]
     refine tk 8 ?_
     refine wpAnyH_done (by kernel_rfl) ?_ _
     refine HK.out _ _ ?_
     apply HN.out
     refine ⟨hF.below hHeld,_,_,A6,c6,l',rfl,?_,rfl,?_,rfl,hpl,?_⟩
     · exact Held.others (by have hq:=hb6.size;(try simp at hq);first | omega | (simp;done) | (simp;omega)) _ _ _ (Held.whole (cs:=[.string ⟨#[]⟩,.int .i64 0,.int .i64 0]) (by first | exact Held.newAt _ [.string ⟨#[]⟩,.int .i64 0,.int .i64 0] 25 (by first | rfl | simp) | exact (Held.newAt _ [.string ⟨#[]⟩,.int .i64 0,.int .i64 0] 25 (by first | rfl | simp)).alloc _ | exact ((Held.newAt _ [.string ⟨#[]⟩,.int .i64 0,.int .i64 0] 25 (by first | rfl | simp)).drew.below hb6).alloc _ | exact ((Held.newAt _ [.string ⟨#[]⟩,.int .i64 0,.int .i64 0] 25 (by first | rfl | simp)).alloc _).drew.below hb6 | exact (Held.newAt _ [.string ⟨#[]⟩,.int .i64 0,.int .i64 0] 25 (by first | rfl | simp)).drew.below hb6) _ rfl)
     · exact Held.whole (cs:=aj) (Held.others (by have hq:=hb6.size;(try simp at hq);first | omega | (simp;done) | (simp;omega)) _ _ _ (by first | exact Held.newAt _ aj 42 (by first | rfl | simp) | exact (Held.newAt _ aj 42 (by first | rfl | simp)).alloc _ | exact ((Held.newAt _ aj 42 (by first | rfl | simp)).drew.below hb6).alloc _ | exact ((Held.newAt _ aj 42 (by first | rfl | simp)).alloc _).drew.below hb6 | exact (Held.newAt _ aj 42 (by first | rfl | simp)).drew.below hb6)) _ rfl
     · exact wG.more (wG.abA kP (by first | exact Below.refl _ _ | exact (Below.refl _ _).alloc (Nat.le_refl _) _ | exact ((Below.refl _ _).alloc (Nat.le_refl _) _).alloc (by simp) _) (fun b hl h=>by have hq:=hb6.size;(try simp at hq);(try simp at h);constructor <;> (intro e;omega))) (fun _ _ _=>trivial)
   · go_simp
     refine hK.out _ _ ?afP (fun hHeld=>?_)
     case afP=>(exact Below.alloc hHeld hHeld.size _)
     clear hK K
     try simp only [Act.put,la,lz,ls]
     refine tr 4 fun K hK=>?_
     go_simp
     refine hK.out _ _ ?afr (fun hHeld=>?_)
     case afr=>(exact Below.alloc hHeld hHeld.size _)
     clear hK K
     try simp only [Act.put,la,lz,ls]
     refine tr 6 fun K hK=>?_
     refine bF (cs:=[.string ⟨#[]⟩,.int .i64 0,.int .i64 0]) (by first | exact Held.newAt _ [.string ⟨#[]⟩,.int .i64 0,.int .i64 0] 25 (by first | rfl | simp) | exact (Held.newAt _ [.string ⟨#[]⟩,.int .i64 0,.int .i64 0] 25 (by first | rfl | simp)).alloc _ | exact ((Held.newAt _ [.string ⟨#[]⟩,.int .i64 0,.int .i64 0] 25 (by first | rfl | simp)).drew.below hb6).alloc _ | exact ((Held.newAt _ [.string ⟨#[]⟩,.int .i64 0,.int .i64 0] 25 (by first | rfl | simp)).alloc _).drew.below hb6 | exact (Held.newAt _ [.string ⟨#[]⟩,.int .i64 0,.int .i64 0] 25 (by first | rfl | simp)).drew.below hb6) [.string r.game,.int .i64 r.target,.int .i64 r.aY] rfl aal (xI _ _ _) (.tmp 7) (.tmp 15) rfl rfl rfl ?_
     refine hK.out _ _ ?agr (fun hHeld=>?_)
     case agr=>(exact below_setCells _ (by first | exact Nat.le_refl _ | exact iR | exact Nat.le_succ _ | exact Nat.le_succ_of_le iR) _ _ _ _ hHeld)
     clear hK K
     try simp only [Act.put,la,lz,ls]
     refine tr 7 fun K hK=>?_
     refine bF (cs:=aj) (Held.others (by have hq:=hb6.size;(try simp at hq);first | omega | (simp;done) | (simp;omega)) _ _ _ (by first | exact Held.newAt _ aj 42 (by first | rfl | simp) | exact (Held.newAt _ aj 42 (by first | rfl | simp)).alloc _ | exact ((Held.newAt _ aj 42 (by first | rfl | simp)).drew.below hb6).alloc _ | exact ((Held.newAt _ aj 42 (by first | rfl | simp)).alloc _).drew.below hb6 | exact (Held.newAt _ aj 42 (by first | rfl | simp)).drew.below hb6)) (aW s As cs) rfl ZP (dL _ _ _) (.tmp 8) (.tmp 16) rfl rfl rfl ?_
     refine hK.out _ _ ?agY (fun hHeld=>?_)
     case agY=>(exact below_setCells _ (by first | exact Nat.le_refl _ | exact iR | exact Nat.le_succ _ | exact Nat.le_succ_of_le iR) _ _ _ _ hHeld)
     clear hK K
     try simp only [Act.put,la,lz,ls]
     refine tk 8 ?_
     refine wpAnyH_done (by kernel_rfl) ?_ _
     refine HK.out _ _ ?_
     apply HN.out
     refine ⟨hF.below hHeld,_,_,A6,c6,l',rfl,?_,rfl,?_,rfl,hpl,?_⟩
     · exact Held.others (by have hq:=hb6.size;(try simp at hq);first | omega | (simp;done) | (simp;omega)) _ _ _ (Held.whole (cs:=[.string ⟨#[]⟩,.int .i64 0,.int .i64 0]) (by first | exact Held.newAt _ [.string ⟨#[]⟩,.int .i64 0,.int .i64 0] 25 (by first | rfl | simp) | exact (Held.newAt _ [.string ⟨#[]⟩,.int .i64 0,.int .i64 0] 25 (by first | rfl | simp)).alloc _ | exact ((Held.newAt _ [.string ⟨#[]⟩,.int .i64 0,.int .i64 0] 25 (by first | rfl | simp)).drew.below hb6).alloc _ | exact ((Held.newAt _ [.string ⟨#[]⟩,.int .i64 0,.int .i64 0] 25 (by first | rfl | simp)).alloc _).drew.below hb6 | exact (Held.newAt _ [.string ⟨#[]⟩,.int .i64 0,.int .i64 0] 25 (by first | rfl | simp)).drew.below hb6) _ rfl)
     · exact Held.whole (cs:=aj) (Held.others (by have hq:=hb6.size;(try simp at hq);first | omega | (simp;done) | (simp;omega)) _ _ _ (by first | exact Held.newAt _ aj 42 (by first | rfl | simp) | exact (Held.newAt _ aj 42 (by first | rfl | simp)).alloc _ | exact ((Held.newAt _ aj 42 (by first | rfl | simp)).drew.below hb6).alloc _ | exact ((Held.newAt _ aj 42 (by first | rfl | simp)).alloc _).drew.below hb6 | exact (Held.newAt _ aj 42 (by first | rfl | simp)).drew.below hb6)) _ rfl
     · exact wG.more (wG.abA kP (by first | exact Below.refl _ _ | exact (Below.refl _ _).alloc (Nat.le_refl _) _ | exact ((Below.refl _ _).alloc (Nat.le_refl _) _).alloc (by simp) _) (fun b hl h=>by have hq:=hb6.size;(try simp at hq);(try simp at h);constructor <;> (intro e;omega))) (fun _ _ _=>trivial)
 · go_simp
   refine hK.out _ _ ?afz (fun hHeld=>?_)
   case afz=>(exact Below.alloc hHeld hHeld.size _)
   clear hK K
   try simp only [Act.put,la,lz,ls]
   refine wpAnyH_ready (rs:=[3,5]) (by kernel_rfl) (by simp) ?_
   refine AllReadyH.cons (o:=_) (ga rfl) (fun K hK=>?_) (AllReadyH.cons (o:=_) (ga rfl) (fun K hK=>?_) AllReadyH.nil)
   · go_simp
     (go_at_call 15;refine (aeC (fun _=>True) l Al cl _ (hF.rl.below hHeld) hF.ll hF.pl).mono ?_;rintro e w6 ⟨l',A6,c6,hpl,rfl,kP,hb6⟩;have iR:W.heap.size≤w6.heap.size:=Nat.le_trans hHeld.size hb6.size)
     refine hK.out _ _ ?aeU (fun hHeld=>?_)
     case aeU=>(exact hHeld.trans (hb6.mono hHeld.size))
     clear hK K
     try simp only [Act.put,la,lz,ls]
     refine tr 5 fun K hK=>?_
     go_simp
     refine hK.out _ _ ?Ll (fun hHeld=>?_)
     case Ll=>(exact Below.alloc hHeld hHeld.size _)
     clear hK K
     try simp only [Act.put,la,lz,ls]
     refine tr 6 fun K hK=>?_
     refine bF (cs:=[.string ⟨#[]⟩,.int .i64 0,.int .i64 0]) (by first | exact Held.newAt _ [.string ⟨#[]⟩,.int .i64 0,.int .i64 0] 25 (by first | rfl | simp) | exact (Held.newAt _ [.string ⟨#[]⟩,.int .i64 0,.int .i64 0] 25 (by first | rfl | simp)).alloc _ | exact ((Held.newAt _ [.string ⟨#[]⟩,.int .i64 0,.int .i64 0] 25 (by first | rfl | simp)).drew.below hb6).alloc _ | exact ((Held.newAt _ [.string ⟨#[]⟩,.int .i64 0,.int .i64 0] 25 (by first | rfl | simp)).alloc _).drew.below hb6 | exact (Held.newAt _ [.string ⟨#[]⟩,.int .i64 0,.int .i64 0] 25 (by first | rfl | simp)).drew.below hb6) [.string r.game,.int .i64 r.target,.int .i64 r.aY] rfl aal (xI _ _ _) (.tmp 7) (.tmp 15) rfl rfl rfl ?_
     refine hK.out _ _ ?agz (fun hHeld=>?_)
     case agz=>(exact below_setCells _ (by first | exact Nat.le_refl _ | exact iR | exact Nat.le_succ _ | exact Nat.le_succ_of_le iR) _ _ _ _ hHeld)
     clear hK K
     try simp only [Act.put,la,lz,ls]
     refine tr 7 fun K hK=>?_
     refine bF (cs:=aj) (Held.others (by have hq:=hb6.size;(try simp at hq);first | omega | (simp;done) | (simp;omega)) _ _ _ (by first | exact Held.newAt _ aj 42 (by first | rfl | simp) | exact (Held.newAt _ aj 42 (by first | rfl | simp)).alloc _ | exact ((Held.newAt _ aj 42 (by first | rfl | simp)).drew.below hb6).alloc _ | exact ((Held.newAt _ aj 42 (by first | rfl | simp)).alloc _).drew.below hb6 | exact (Held.newAt _ aj 42 (by first | rfl | simp)).drew.below hb6)) (aW s As cs) rfl ZP (dL _ _ _) (.tmp 8) (.tmp 16) rfl rfl rfl ?_
     refine hK.out _ _ ?ag6 (fun hHeld=>?_)
     case ag6=>(exact below_setCells _ (by first | exact Nat.le_refl _ | exact iR | exact Nat.le_succ _ | exact Nat.le_succ_of_le iR) _ _ _ _ hHeld)
     clear hK K
     try simp only [Act.put,la,lz,ls]
     refine tk 8 ?_
     refine wpAnyH_done (by kernel_rfl) ?_ _
     refine HK.out _ _ ?_
     apply HN.out
     refine ⟨hF.below hHeld,_,_,A6,c6,l',rfl,?_,rfl,?_,rfl,hpl,?_⟩
     · exact Held.others (by have hq:=hb6.size;(try simp at hq);first | omega | (simp;done) | (simp;omega)) _ _ _ (Held.whole (cs:=[.string ⟨#[]⟩,.int .i64 0,.int .i64 0]) (by first | exact Held.newAt _ [.string ⟨#[]⟩,.int .i64 0,.int .i64 0] 25 (by first | rfl | simp) | exact (Held.newAt _ [.string ⟨#[]⟩,.int .i64 0,.int .i64 0] 25 (by first | rfl | simp)).alloc _ | exact ((Held.newAt _ [.string ⟨#[]⟩,.int .i64 0,.int .i64 0] 25 (by first | rfl | simp)).drew.below hb6).alloc _ | exact ((Held.newAt _ [.string ⟨#[]⟩,.int .i64 0,.int .i64 0] 25 (by first | rfl | simp)).alloc _).drew.below hb6 | exact (Held.newAt _ [.string ⟨#[]⟩,.int .i64 0,.int .i64 0] 25 (by first | rfl | simp)).drew.below hb6) _ rfl)
     · exact Held.whole (cs:=aj) (Held.others (by have hq:=hb6.size;(try simp at hq);first | omega | (simp;done) | (simp;omega)) _ _ _ (by first | exact Held.newAt _ aj 42 (by first | rfl | simp) | exact (Held.newAt _ aj 42 (by first | rfl | simp)).alloc _ | exact ((Held.newAt _ aj 42 (by first | rfl | simp)).drew.below hb6).alloc _ | exact ((Held.newAt _ aj 42 (by first | rfl | simp)).alloc _).drew.below hb6 | exact (Held.newAt _ aj 42 (by first | rfl | simp)).drew.below hb6)) _ rfl
     · exact wG.more (wG.abA kP (by first | exact Below.refl _ _ | exact (Below.refl _ _).alloc (Nat.le_refl _) _ | exact ((Below.refl _ _).alloc (Nat.le_refl _) _).alloc (by simp) _) (fun b hl h=>by have hq:=hb6.size;(try simp at hq);(try simp at h);constructor <;> (intro e;omega))) (fun _ _ _=>trivial)
   · go_simp
     refine hK.out _ _ ?afX (fun hHeld=>?_)
     case afX=>(exact Below.alloc hHeld hHeld.size _)
     clear hK K
     try simp only [Act.put,la,lz,ls]
     refine tr 3 fun K hK=>?_
     go_simp
     (go_at_call 15;refine (aeC (fun _=>True) l Al cl _ (hF.rl.below hHeld) hF.ll hF.pl).mono ?_;rintro e w6 ⟨l',A6,c6,hpl,rfl,kP,hb6⟩;have iR:W.heap.size≤w6.heap.size:=Nat.le_trans hHeld.size hb6.size)
     refine hK.out _ _ ?ae2 (fun hHeld=>?_)
     case ae2=>(exact hHeld.trans (hb6.mono hHeld.size))
     clear hK K
     try simp only [Act.put,la,lz,ls]
     refine tr 6 fun K hK=>?_
     refine bF (cs:=[.string ⟨#[]⟩,.int .i64 0,.int .i64 0]) (by first | exact Held.newAt _ [.string ⟨#[]⟩,.int .i64 0,.int .i64 0] 25 (by first | rfl | simp) | exact (Held.newAt _ [.string ⟨#[]⟩,.int .i64 0,.int .i64 0] 25 (by first | rfl | simp)).alloc _ | exact ((Held.newAt _ [.string ⟨#[]⟩,.int .i64 0,.int .i64 0] 25 (by first | rfl | simp)).drew.below hb6).alloc _ | exact ((Held.newAt _ [.string ⟨#[]⟩,.int .i64 0,.int .i64 0] 25 (by first | rfl | simp)).alloc _).drew.below hb6 | exact (Held.newAt _ [.string ⟨#[]⟩,.int .i64 0,.int .i64 0] 25 (by first | rfl | simp)).drew.below hb6) [.string r.game,.int .i64 r.target,.int .i64 r.aY] rfl aal (xI _ _ _) (.tmp 7) (.tmp 15) rfl rfl rfl ?_
     refine hK.out _ _ ?agH (fun hHeld=>?_)
     case agH=>(exact below_setCells _ (by first | exact Nat.le_refl _ | exact iR | exact Nat.le_succ _ | exact Nat.le_succ_of_le iR) _ _ _ _ hHeld)
     clear hK K
     try simp only [Act.put,la,lz,ls]
     refine tr 7 fun K hK=>?_
     refine bF (cs:=aj) (Held.others (by have hq:=hb6.size;(try simp at hq);first | omega | (simp;done) | (simp;omega)) _ _ _ (by first | exact Held.newAt _ aj 42 (by first | rfl | simp) | exact (Held.newAt _ aj 42 (by first | rfl | simp)).alloc _ | exact ((Held.newAt _ aj 42 (by first | rfl | simp)).drew.below hb6).alloc _ | exact ((Held.newAt _ aj 42 (by first | rfl | simp)).alloc _).drew.below hb6 | exact (Held.newAt _ aj 42 (by first | rfl | simp)).drew.below hb6)) (aW s As cs) rfl ZP (dL _ _ _) (.tmp 8) (.tmp 16) rfl rfl rfl ?_
     refine hK.out _ _ ?ahe (fun hHeld=>?_)
     case ahe=>(exact below_setCells _ (by first | exact Nat.le_refl _ | exact iR | exact Nat.le_succ _ | exact Nat.le_succ_of_le iR) _ _ _ _ hHeld)
     clear hK K
     try simp only [Act.put,la,lz,ls]
     refine tk 8 ?_
     refine wpAnyH_done (by kernel_rfl) ?_ _
     refine HK.out _ _ ?_
     apply HN.out
     refine ⟨hF.below hHeld,_,_,A6,c6,l',rfl,?_,rfl,?_,rfl,hpl,?_⟩
     · exact Held.others (by have hq:=hb6.size;(try simp at hq);first | omega | (simp;done) | (simp;omega)) _ _ _ (Held.whole (cs:=[.string ⟨#[]⟩,.int .i64 0,.int .i64 0]) (by first | exact Held.newAt _ [.string ⟨#[]⟩,.int .i64 0,.int .i64 0] 25 (by first | rfl | simp) | exact (Held.newAt _ [.string ⟨#[]⟩,.int .i64 0,.int .i64 0] 25 (by first | rfl | simp)).alloc _ | exact ((Held.newAt _ [.string ⟨#[]⟩,.int .i64 0,.int .i64 0] 25 (by first | rfl | simp)).drew.below hb6).alloc _ | exact ((Held.newAt _ [.string ⟨#[]⟩,.int .i64 0,.int .i64 0] 25 (by first | rfl | simp)).alloc _).drew.below hb6 | exact (Held.newAt _ [.string ⟨#[]⟩,.int .i64 0,.int .i64 0] 25 (by first | rfl | simp)).drew.below hb6) _ rfl)
     · exact Held.whole (cs:=aj) (Held.others (by have hq:=hb6.size;(try simp at hq);first | omega | (simp;done) | (simp;omega)) _ _ _ (by first | exact Held.newAt _ aj 42 (by first | rfl | simp) | exact (Held.newAt _ aj 42 (by first | rfl | simp)).alloc _ | exact ((Held.newAt _ aj 42 (by first | rfl | simp)).drew.below hb6).alloc _ | exact ((Held.newAt _ aj 42 (by first | rfl | simp)).alloc _).drew.below hb6 | exact (Held.newAt _ aj 42 (by first | rfl | simp)).drew.below hb6)) _ rfl
     · exact wG.more (wG.abA kP (by first | exact Below.refl _ _ | exact (Below.refl _ _).alloc (Nat.le_refl _) _ | exact ((Below.refl _ _).alloc (Nat.le_refl _) _).alloc (by simp) _) (fun b hl h=>by have hq:=hb6.size;(try simp at hq);(try simp at h);constructor <;> (intro e;omega))) (fun _ _ _=>trivial)
 · go_simp
   refine hK.out _ _ ?af8 (fun hHeld=>?_)
   case af8=>(exact Below.alloc hHeld hHeld.size _)
   clear hK K
   try simp only [Act.put,la,lz,ls]
   refine wpAnyH_ready (rs:=[3,4]) (by kernel_rfl) (by simp) ?_
   refine AllReadyH.cons (o:=_) (ga rfl) (fun K hK=>?_) (AllReadyH.cons (o:=_) (ga rfl) (fun K hK=>?_) AllReadyH.nil)
   · go_simp
     (go_at_call 15;refine (aeC (fun _=>True) l Al cl _ (hF.rl.below hHeld) hF.ll hF.pl).mono ?_;rintro e w6 ⟨l',A6,c6,hpl,rfl,kP,hb6⟩;have iR:W.heap.size≤w6.heap.size:=Nat.le_trans hHeld.size hb6.size)
     refine hK.out _ _ ?afa (fun hHeld=>?_)
     case afa=>(exact hHeld.trans (hb6.mono hHeld.size))
     clear hK K
     try simp only [Act.put,la,lz,ls]
     refine tr 4 fun K hK=>?_
     go_simp
     refine hK.out _ _ ?adx (fun hHeld=>?_)
     case adx=>(exact Below.alloc hHeld hHeld.size _)
     clear hK K
     try simp only [Act.put,la,lz,ls]
     refine tr 6 fun K hK=>?_
     refine bF (cs:=[.string ⟨#[]⟩,.int .i64 0,.int .i64 0]) (by first | exact Held.newAt _ [.string ⟨#[]⟩,.int .i64 0,.int .i64 0] 25 (by first | rfl | simp) | exact (Held.newAt _ [.string ⟨#[]⟩,.int .i64 0,.int .i64 0] 25 (by first | rfl | simp)).alloc _ | exact ((Held.newAt _ [.string ⟨#[]⟩,.int .i64 0,.int .i64 0] 25 (by first | rfl | simp)).drew.below hb6).alloc _ | exact ((Held.newAt _ [.string ⟨#[]⟩,.int .i64 0,.int .i64 0] 25 (by first | rfl | simp)).alloc _).drew.below hb6 | exact (Held.newAt _ [.string ⟨#[]⟩,.int .i64 0,.int .i64 0] 25 (by first | rfl | simp)).drew.below hb6) [.string r.game,.int .i64 r.target,.int .i64 r.aY] rfl aal (xI _ _ _) (.tmp 7) (.tmp 15) rfl rfl rfl ?_
     refine hK.out _ _ ?adO (fun hHeld=>?_)
     case adO=>(exact below_setCells _ (by first | exact Nat.le_refl _ | exact iR | exact Nat.le_succ _ | exact Nat.le_succ_of_le iR) _ _ _ _ hHeld)
     clear hK K
     try simp only [Act.put,la,lz,ls]
     refine tr 7 fun K hK=>?_
     refine bF (cs:=aj) (Held.others (by have hq:=hb6.size;(try simp at hq);first | omega | (simp;done) | (simp;omega)) _ _ _ (by first | exact Held.newAt _ aj 42 (by first | rfl | simp) | exact (Held.newAt _ aj 42 (by first | rfl | simp)).alloc _ | exact ((Held.newAt _ aj 42 (by first | rfl | simp)).drew.below hb6).alloc _ | exact ((Held.newAt _ aj 42 (by first | rfl | simp)).alloc _).drew.below hb6 | exact (Held.newAt _ aj 42 (by first | rfl | simp)).drew.below hb6)) (aW s As cs) rfl ZP (dL _ _ _) (.tmp 8) (.tmp 16) rfl rfl rfl ?_
     refine hK.out _ _ ?ad5 (fun hHeld=>?_)
     case ad5=>(exact below_setCells _ (by first | exact Nat.le_refl _ | exact iR | exact Nat.le_succ _ | exact Nat.le_succ_of_le iR) _ _ _ _ hHeld)
     clear hK K
     try simp only [Act.put,la,lz,ls]
     refine tk 8 ?_
     refine wpAnyH_done (by kernel_rfl) ?_ _
     refine HK.out _ _ ?_
     apply HN.out
     refine ⟨hF.below hHeld,_,_,A6,c6,l',rfl,?_,rfl,?_,rfl,hpl,?_⟩
     · exact Held.others (by have hq:=hb6.size;(try simp at hq);first | omega | (simp;done) | (simp;omega)) _ _ _ (Held.whole (cs:=[.string ⟨#[]⟩,.int .i64 0,.int .i64 0]) (by first | exact Held.newAt _ [.string ⟨#[]⟩,.int .i64 0,.int .i64 0] 25 (by first | rfl | simp) | exact (Held.newAt _ [.string ⟨#[]⟩,.int .i64 0,.int .i64 0] 25 (by first | rfl | simp)).alloc _ | exact ((Held.newAt _ [.string ⟨#[]⟩,.int .i64 0,.int .i64 0] 25 (by first | rfl | simp)).drew.below hb6).alloc _ | exact ((Held.newAt _ [.string ⟨#[]⟩,.int .i64 0,.int .i64 0] 25 (by first | rfl | simp)).alloc _).drew.below hb6 | exact (Held.newAt _ [.string ⟨#[]⟩,.int .i64 0,.int .i64 0] 25 (by first | rfl | simp)).drew.below hb6) _ rfl)
     · exact Held.whole (cs:=aj) (Held.others (by have hq:=hb6.size;(try simp at hq);first | omega | (simp;done) | (simp;omega)) _ _ _ (by first | exact Held.newAt _ aj 42 (by first | rfl | simp) | exact (Held.newAt _ aj 42 (by first | rfl | simp)).alloc _ | exact ((Held.newAt _ aj 42 (by first | rfl | simp)).drew.below hb6).alloc _ | exact ((Held.newAt _ aj 42 (by first | rfl | simp)).alloc _).drew.below hb6 | exact (Held.newAt _ aj 42 (by first | rfl | simp)).drew.below hb6)) _ rfl
     · exact wG.more (wG.abA kP (by first | exact Below.refl _ _ | exact (Below.refl _ _).alloc (Nat.le_refl _) _ | exact ((Below.refl _ _).alloc (Nat.le_refl _) _).alloc (by simp) _) (fun b hl h=>by have hq:=hb6.size;(try simp at hq);(try simp at h);constructor <;> (intro e;omega))) (fun _ _ _=>trivial)
   · go_simp
     refine hK.out _ _ ?adG (fun hHeld=>?_)
     case adG=>(exact Below.alloc hHeld hHeld.size _)
     clear hK K
     try simp only [Act.put,la,lz,ls]
     refine tr 3 fun K hK=>?_
     go_simp
     (go_at_call 15;refine (aeC (fun _=>True) l Al cl _ (hF.rl.below hHeld) hF.ll hF.pl).mono ?_;rintro e w6 ⟨l',A6,c6,hpl,rfl,kP,hb6⟩;have iR:W.heap.size≤w6.heap.size:=Nat.le_trans hHeld.size hb6.size)
     refine hK.out _ _ ?adp (fun hHeld=>?_)
     case adp=>(exact hHeld.trans (hb6.mono hHeld.size))
     clear hK K
     try simp only [Act.put,la,lz,ls]
     refine tr 6 fun K hK=>?_
     refine bF (cs:=[.string ⟨#[]⟩,.int .i64 0,.int .i64 0]) (by first | exact Held.newAt _ [.string ⟨#[]⟩,.int .i64 0,.int .i64 0] 25 (by first | rfl | simp) | exact (Held.newAt _ [.string ⟨#[]⟩,.int .i64 0,.int .i64 0] 25 (by first | rfl | simp)).alloc _ | exact ((Held.newAt _ [.string ⟨#[]⟩,.int .i64 0,.int .i64 0] 25 (by first | rfl | simp)).drew.below hb6).alloc _ | exact ((Held.newAt _ [.string ⟨#[]⟩,.int .i64 0,.int .i64 0] 25 (by first | rfl | simp)).alloc _).drew.below hb6 | exact (Held.newAt _ [.string ⟨#[]⟩,.int .i64 0,.int .i64 0] 25 (by first | rfl | simp)).drew.below hb6) [.string r.game,.int .i64 r.target,.int .i64 r.aY] rfl aal (xI _ _ _) (.tmp 7) (.tmp 15) rfl rfl rfl ?_
     refine hK.out _ _ ?adW (fun hHeld=>?_)
     case adW=>(exact below_setCells _ (by first | exact Nat.le_refl _ | exact iR | exact Nat.le_succ _ | exact Nat.le_succ_of_le iR) _ _ _ _ hHeld)
     clear hK K
     try simp only [Act.put,la,lz,ls]
     refine tr 7 fun K hK=>?_
     refine bF (cs:=aj) (Held.others (by have hq:=hb6.size;(try simp at hq);first | omega | (simp;done) | (simp;omega)) _ _ _ (by first | exact Held.newAt _ aj 42 (by first | rfl | simp) | exact (Held.newAt _ aj 42 (by first | rfl | simp)).alloc _ | exact ((Held.newAt _ aj 42 (by first | rfl | simp)).drew.below hb6).alloc _ | exact ((Held.newAt _ aj 42 (by first | rfl | simp)).alloc _).drew.below hb6 | exact (Held.newAt _ aj 42 (by first | rfl | simp)).drew.below hb6)) (aW s As cs) rfl ZP (dL _ _ _) (.tmp 8) (.tmp 16) rfl rfl rfl ?_
     refine hK.out _ _ ?aed (fun hHeld=>?_)
     case aed=>(exact below_setCells _ (by first | exact Nat.le_refl _ | exact iR | exact Nat.le_succ _ | exact Nat.le_succ_of_le iR) _ _ _ _ hHeld)
     clear hK K
     try simp only [Act.put,la,lz,ls]
     refine tk 8 ?_
     refine wpAnyH_done (by kernel_rfl) ?_ _
     refine HK.out _ _ ?_
     apply HN.out
     refine ⟨hF.below hHeld,_,_,A6,c6,l',rfl,?_,rfl,?_,rfl,hpl,?_⟩
     · exact Held.others (by have hq:=hb6.size;(try simp at hq);first | omega | (simp;done) | (simp;omega)) _ _ _ (Held.whole (cs:=[.string ⟨#[]⟩,.int .i64 0,.int .i64 0]) (by first | exact Held.newAt _ [.string ⟨#[]⟩,.int .i64 0,.int .i64 0] 25 (by first | rfl | simp) | exact (Held.newAt _ [.string ⟨#[]⟩,.int .i64 0,.int .i64 0] 25 (by first | rfl | simp)).alloc _ | exact ((Held.newAt _ [.string ⟨#[]⟩,.int .i64 0,.int .i64 0] 25 (by first | rfl | simp)).drew.below hb6).alloc _ | exact ((Held.newAt _ [.string ⟨#[]⟩,.int .i64 0,.int .i64 0] 25 (by first | rfl | simp)).alloc _).drew.below hb6 | exact (Held.newAt _ [.string ⟨#[]⟩,.int .i64 0,.int .i64 0] 25 (by first | rfl | simp)).drew.below hb6) _ rfl)
     · exact Held.whole (cs:=aj) (Held.others (by have hq:=hb6.size;(try simp at hq);first | omega | (simp;done) | (simp;omega)) _ _ _ (by first | exact Held.newAt _ aj 42 (by first | rfl | simp) | exact (Held.newAt _ aj 42 (by first | rfl | simp)).alloc _ | exact ((Held.newAt _ aj 42 (by first | rfl | simp)).drew.below hb6).alloc _ | exact ((Held.newAt _ aj 42 (by first | rfl | simp)).alloc _).drew.below hb6 | exact (Held.newAt _ aj 42 (by first | rfl | simp)).drew.below hb6)) _ rfl
     · exact wG.more (wG.abA kP (by first | exact Below.refl _ _ | exact (Below.refl _ _).alloc (Nat.le_refl _) _ | exact ((Below.refl _ _).alloc (Nat.le_refl _) _).alloc (by simp) _) (fun b hl h=>by have hq:=hb6.size;(try simp at hq);(try simp at h);constructor <;> (intro e;omega))) (fun _ _ _=>trivial)
theorem ajr (W0:World) (r:M.Rules) (s:M.State) (l:List Sh) (As Al:Option Addr) (cs cl:Nat) (HG:Hid (Glob W0)) (HN:Hid (ah1 W0 r s l As Al cs cl)):ahT W0 r s l As Al cs cl:=by
 intro _ _ _ _ _ _ _ _ _ _ _ _ _ _ _ _ _ _ _ _ _ _ _ _ _ _ _ _ _ _ _ _ _ _ _ _ _ _ _ _ _ _ _ _ _ _ _ _ _ _ _ _ _ _ _ _ _ _ _ _ _ _ _ _ _ _ _ _ _ _ _ _ _ _ _ _ _ _ _ _ _ _ _ _ _ _ _ _ _ _ _ _ _ _ _ _ _ hf
 dsimp only [aat,dQ,Tryz.f8,Option.getD]
 have hE:=hf
 obtain ⟨hF,B7,B8,A9,c9,l',rfl,h7,rfl,h8,rfl,hpl,h9⟩:=id hE
 have hF':=hF
 obtain ⟨rfl,rfl,rfl,h3,h4,hs,hl,aeE,aew,hbw⟩:=hF'
 have k0:=h3.cell (j:=0) rfl
 have HG9:=hide (HG.out.below hbw)
 apply wp_seq_k
 intro K hK
 have HK:=hide hK
 clear hK
 apply wp_seq_k
 intro K2 hK2
 have PD:=hide hK2
 clear hK2
 by_cases hg:60<r.game.size
 · have hg':(60:Int)<(r.game.size:Int):=by omega
   go_wp2_with (first | (refine aN 42 (.tmp 8) rfl ?_;refine aG (h8) Tryz.underlying42 rfl ZP rfl (.tmp 8) rfl rfl ?_) | (refine aN 42 (.tmp 8) rfl ?_;refine su (h8) Tryz.underlying42 rfl ZP rfl (.tmp 8) rfl rfl ?_) | (refine vg 42 (.tmp 8) rfl ?_;refine sD (h8) Tryz.underlying42 rfl ZP (.tmp 8) rfl rfl ?_) | (go_at_call 34;refine (adM s As cs _ (bD.bd hs).2.2).mono ?_;rw [hd1];rintro e w1 ⟨rfl,hb1⟩;have HG9:=hide (HG9.out.below hb1);dsimp only) | (go_at_call 16;refine (aeX _ l' A9 c9 24 _ (h9.below hb1)).mono ?_;rw [hpl,hd2];rintro e w2 ⟨rfl,hb2⟩;have HG9:=hide (HG9.out.below hb2);dsimp only))
   refine PD.out _ _ ?_
   go_wp2_with (first | (go_at_call 17;refine (QJ _ HG9.out).mono ?_;rintro e w9 ⟨rfl,U6⟩;dsimp only))
   go_ret
   exact ⟨rfl,VY hbw U6⟩
 · have hg':¬ (60:Int)<(r.game.size:Int):=by omega
   by_cases h20:s.ay.length≤20
   · have hd1:decide (s.ay.length≤20)=true:=decide_eq_true h20
     obtain ⟨sb,hd2⟩:∃ q,ZL (plain l) 24=q:=⟨_,rfl⟩
     clear h20
     cases sb with
     | true=>
       go_wp2_with (first | (refine aN 42 (.tmp 8) rfl ?_;refine aG (h8) Tryz.underlying42 rfl ZP rfl (.tmp 8) rfl rfl ?_) | (refine aN 42 (.tmp 8) rfl ?_;refine su (h8) Tryz.underlying42 rfl ZP rfl (.tmp 8) rfl rfl ?_) | (refine vg 42 (.tmp 8) rfl ?_;refine sD (h8) Tryz.underlying42 rfl ZP (.tmp 8) rfl rfl ?_) | (go_at_call 34;refine (adM s As cs _ (bD.bd hs).2.2).mono ?_;rw [hd1];rintro e w1 ⟨rfl,hb1⟩;have HG9:=hide (HG9.out.below hb1);dsimp only) | (go_at_call 16;refine (aeX _ l' A9 c9 24 _ (h9.below hb1)).mono ?_;rw [hpl,hd2];rintro e w2 ⟨rfl,hb2⟩;have HG9:=hide (HG9.out.below hb2);dsimp only))
       have hE2:=(hE.below hb1).below hb2
       refine PD.out _ _ ?_
       go_wp2
       refine HK.out _ _ ?_
       apply HN.out
       exact hE2
     | false=>
       go_wp2_with (first | (refine aN 42 (.tmp 8) rfl ?_;refine aG (h8) Tryz.underlying42 rfl ZP rfl (.tmp 8) rfl rfl ?_) | (refine aN 42 (.tmp 8) rfl ?_;refine su (h8) Tryz.underlying42 rfl ZP rfl (.tmp 8) rfl rfl ?_) | (refine vg 42 (.tmp 8) rfl ?_;refine sD (h8) Tryz.underlying42 rfl ZP (.tmp 8) rfl rfl ?_) | (go_at_call 34;refine (adM s As cs _ (bD.bd hs).2.2).mono ?_;rw [hd1];rintro e w1 ⟨rfl,hb1⟩;have HG9:=hide (HG9.out.below hb1);dsimp only) | (go_at_call 16;refine (aeX _ l' A9 c9 24 _ (h9.below hb1)).mono ?_;rw [hpl,hd2];rintro e w2 ⟨rfl,hb2⟩;have HG9:=hide (HG9.out.below hb2);dsimp only))
       refine PD.out _ _ ?_
       go_wp2_with (first | (go_at_call 17;refine (QJ _ HG9.out).mono ?_;rintro e w9 ⟨rfl,U6⟩;dsimp only))
       go_ret
       exact ⟨rfl,VY (VY (VY hbw hb1) hb2) U6⟩
   · have hd1:decide (s.ay.length≤20)=false:=decide_eq_false h20
     clear h20
     go_wp2_with (first | (refine aN 42 (.tmp 8) rfl ?_;refine aG (h8) Tryz.underlying42 rfl ZP rfl (.tmp 8) rfl rfl ?_) | (refine aN 42 (.tmp 8) rfl ?_;refine su (h8) Tryz.underlying42 rfl ZP rfl (.tmp 8) rfl rfl ?_) | (refine vg 42 (.tmp 8) rfl ?_;refine sD (h8) Tryz.underlying42 rfl ZP (.tmp 8) rfl rfl ?_) | (go_at_call 34;refine (adM s As cs _ (bD.bd hs).2.2).mono ?_;rw [hd1];rintro e w1 ⟨rfl,hb1⟩;have HG9:=hide (HG9.out.below hb1);dsimp only) | (go_at_call 16;refine (aeX _ l' A9 c9 24 _ (h9.below hb1)).mono ?_;rw [hpl,hd2];rintro e w2 ⟨rfl,hb2⟩;have HG9:=hide (HG9.out.below hb2);dsimp only))
     refine PD.out _ _ ?_
     go_wp2_with (first | (go_at_call 17;refine (QJ _ HG9.out).mono ?_;rintro e w9 ⟨rfl,U6⟩;dsimp only))
     go_ret
     exact ⟨rfl,VY (VY hbw hb1) U6⟩
theorem ajy (W0:World) (r:M.Rules) (s:M.State) (l:List Sh) (As Al:Option Addr) (cs cl:Nat) (HG:Hid (Glob W0)) (HN:Hid (ah9 W0 r s l As Al cs cl)):ah1 W0 r s l As Al cs cl:=by
 intro _ _ _ _ _ _ _ _ _ _ _ _ _ _ _ _ _ _ _ _ _ _ _ _ _ _ _ _ _ _ _ _ _ _ _ _ _ _ _ _ _ _ _ _ _ _ _ _ _ _ _ _ _ _ _ _ _ _ _ _ _ _ _ _ _ _ _ _ _ _ _ _ _ _ _ _ _ _ _ _ _ _ _ _ _ _ _ _ _ _ _ _ _ _ _ _ W hf
 dsimp only [aat,dQ,Tryz.f8,Option.getD]
 have hE:=hf
 obtain ⟨hF,B7,B8,A9,c9,l',rfl,h7,rfl,h8,rfl,hpl,h9⟩:=id hE
 have hF':=hF
 obtain ⟨rfl,rfl,rfl,h3,h4,hs,hl,aeE,aew,hbw⟩:=hF'
 have ako:=(wG.bd hl).2.2
 have hlen:l'.length=l.length:=by have:=congrArg List.length hpl;rwa [eF,eF] at this
 have HLEN:=hide hlen
 clear hlen
 apply wp_seq_k
 intro K hK
 have HK:=hide hK
 clear hK
 apply wp_seq_k
 intro K2 hK2
 have PD:=hide hK2
 clear hK2
 go_wp2
 refine PD.out _ _ ?_
 go_wp2
 go_loopw [37] (fun i wr=>∃ k:Nat,k≤l.length∧i= .int .i64 k∧Below W.heap.size W wr) (fun i _=>l.length - (intOf i).toNat)
 case atStart=>exact ⟨0,Nat.zero_le _,rfl,Below.refl _ _⟩
 case round=>
  obtain ⟨k,hk,rfl,hb⟩:=hrel
  by_cases hlt:k<l.length∧k<24
  · have hm:(k:Int)<min (l.length:Int) 24:=by omega
    obtain ⟨hlt1,hlt2⟩:=hlt
    have hlen:=HLEN.out
    have hlt3:k<l'.length:=by omega
    obtain ⟨b,o,rfl,_,hbl,hcs⟩:=Reads.at_ (hl.below hb).1 (by omega)
    obtain ⟨b',o',rfl,_,akh,hcs'⟩:=Reads.at_ (h9.below hb).1 (by omega)
    have hx:l'[k].x=l[k].x:=by rw [← Iu l' k hlt3, ← Iu l k hlt1];exact List.getElem_of_eq hpl _
    have hq1:=(hl.below hb).aA k hlt1
    have hq2:=(h9.below hb).aA k hlt3
    obtain ⟨a',c',he'⟩:∃ a' c',l'[k]=(⟨l[k].x,a',c'⟩:Sh):=⟨l'[k].a,l'[k].c,by rw [← hx]⟩
    have g1:∀ W',(fun w':World=>Below wr.heap.size wr w') W'→W'.rangeAt b (o+k*7) (au l[k]):=fun W' h j v hj=>by
     have hj7:j<7:=(List.getElem?_eq_some_iff.1 hj).1
     rw [Nat.add_assoc]
     exact (Below.cell h (p:=⟨b,_,none⟩) hbl).trans (hcs _ _ ((jI l k hlt1 j hj7).trans hj))
    have g2:∀ W',(fun w':World=>Below wr.heap.size wr w') W'→W'.rangeAt b' (o'+k*7) (au ⟨l[k].x,a',c'⟩):=fun W' h j v hj=>by
     rw [← he'] at hj
     have hj7:j<7:=(List.getElem?_eq_some_iff.1 hj).1
     rw [Nat.add_assoc]
     exact (Below.cell h (p:=⟨b',_,none⟩) akh).trans (hcs' _ _ ((jI l' k hlt3 j hj7).trans hj))
    rw [he'] at hq2
    have hc1:=vS (fun _=>True) l[k].x l[k].a l[k].c
    have hc2:=AL (fun _=>True) l[k].x a' c'
    obtain ⟨E,hE1⟩:∃ E,M.cZ l[k].x=E:=⟨_,rfl⟩
    rw [hE1] at hc1 hc2
    have HC1:=hide hc1
    have HC2:=hide hc2
    have i1:(0:Int)≤(k:Int):=by omega
    have i2:(k:Int)<(l.length:Int):=by omega
    have i3:(k:Int)<(l'.length:Int):=by omega
    have HX:=hide hx
    have HE':=hide he'
    clear hc1 hc2 hE1 hcs hcs' hx he' hlen
    go_upto_region 7 with (fail)
    refine wp_region_held_drew (S:=(fun w':World=>Below wr.heap.size wr w')) (by kernel_rfl) ?jw (fun hHeld=>?_)
    case jw=>exact (Below.refl _ _).drew
    refine tk 0 ?_
    refine tk 1 ?_
    refine tk 2 ?_
    refine wpAnyH_take (i:=3) (oi:=_) (v:=_) (ga rfl) (by kernel_rfl) (by kernel_rfl) (by kernel_rfl) (fun _ _ _ h=>h) (yieldsIf_load_mid (by rfl) _ _ (by rfl) _ _ (by rfl) _ _ g1 Tryz.underlying66 rfl (by kernel_rfl)) (by assumption) ?_
    try simp only [Act.put,la,lz,ls]
    refine tk 5 ?_
    refine tk 6 ?_
    refine tk 7 ?_
    refine wpAnyH_take (i:=8) (oi:=_) (v:=_) (ga rfl) (by kernel_rfl) (by kernel_rfl) (by kernel_rfl) (fun _ _ _ h=>h) (yieldsIf_load_mid (by rfl) _ _ (by rfl) _ _ (by rfl) _ _ g2 Tryz.underlying69 rfl (by kernel_rfl)) (by assumption) ?_
    try simp only [Act.put,la,lz,ls]
    refine tr 4 fun K hK=>?_
    go_simp
    first | (go_at_call 35;refine (HC1.out _ (Reads.below hq1 hHeld)).mono ?_;rintro e w6 ⟨rfl,hb6⟩) | (go_at_call 30;refine (HC2.out _ (Reads.below hq2 hHeld)).mono ?_;rintro e w7 ⟨rfl,hb7⟩)
    refine hK.out _ _ ?aiK (fun hHeld=>?_)
    case aiK=>(exact hHeld.trans (hb6.mono hHeld.size))
    clear hK K
    try simp only [Act.put,la,lz,ls]
    refine tr 9 fun K hK=>?_
    go_simp
    first | (go_at_call 35;refine (HC1.out _ (Reads.below hq1 hHeld)).mono ?_;rintro e w6 ⟨rfl,hb6⟩) | (go_at_call 30;refine (HC2.out _ (Reads.below hq2 hHeld)).mono ?_;rintro e w7 ⟨rfl,hb7⟩)
    refine hK.out _ _ ?aiS (fun hHeld=>?_)
    case aiS=>(exact hHeld.trans (hb7.mono hHeld.size))
    clear hK K
    try simp only [Act.put,la,lz,ls]
    refine tk 10 ?_
    refine wpAnyH_done (by kernel_rfl) ?_ _
    go_wp2
    go_roundw
    case rel=>exact ⟨k+1,by omega,by go_num,hb.trans (hHeld.mono hb.size)⟩
    case measure=>simp [intOf];omega
  · have hm:¬ (k:Int)<min (l.length:Int) 24:=by omega
    have HLT:=hide hlt
    clear hlt
    go_wp2
    refine HK.out _ _ ?_
    apply HN.out
    exact hE.below hb
theorem ajF (W0:World) (r:M.Rules) (s:M.State) (l:List Sh) (As Al:Option Addr) (cs cl:Nat) (HG:Hid (Glob W0)) (HN:Hid (aik W0 r s l As Al cs cl)):ah9 W0 r s l As Al cs cl:=by
 intro _ _ _ _ _ _ _ _ _ _ _ _ _ _ _ _ _ _ _ _ _ _ _ _ _ _ _ _ _ _ _ _ _ _ _ _ _ _ _ _ _ _ _ _ _ _ _ _ _ _ _ _ _ _ _ _ _ _ _ _ _ _ _ _ _ _ _ _ _ _ _ _ _ _ _ _ _ _ _ _ _ _ _ _ _ _ _ _ _ _ _ _ _ _ _ _ W hf
 dsimp only [aat,dQ,Tryz.f8,Option.getD]
 have hE:=hf
 obtain ⟨hF,B7,B8,A9,c9,l',rfl,h7,rfl,h8,rfl,hpl,h9⟩:=id hE
 have hF':=hF
 obtain ⟨rfl,rfl,rfl,h3,h4,hs,hl,aeE,aew,hbw⟩:=hF'
 have hcl:=ael r W
 have JF:=hide hcl
 clear hcl
 apply wp_seq_k
 intro K hK
 have HK:=hide hK
 clear hK
 go_wp2_with (first | (refine aN 23 (.tmp 3) rfl ?_;refine aG (h3) Tryz.underlying23 rfl kV rfl (.tmp 3) rfl rfl ?_) | (go_at_call 36;refine JF.out.mono ?_;rintro e w1 ⟨A1,c1,rfl,hr1,hb1⟩;have hbx:=Held.new w1 aj 33;dsimp only) | (refine aO 33 (.tmp 11) (.tmp 55) rfl ?_;refine aF hbx (aW (fmT r) A1 c1) rfl bW (dL _ _ _) rfl (.tmp 11) (.tmp 55) rfl rfl rfl ?_))
 have hb2:Below w1.heap.size w1 ((w1.alloc (.cells aj.toArray 33)).setCells w1.heap.size 0 (aW (fmT r) A1 c1)):=below_setCells _ (Nat.le_refl _) _ _ _ _ ((Below.refl _ _).alloc (Nat.le_refl _) _)
 have hbb:=hb1.trans (hb2.mono hb1.size)
 refine HK.out _ _ ?_
 apply HN.out
 exact ⟨hE.below hbb,⟨_,A1,c1,rfl,hbx.whole _ rfl,bD.more (hr1.below hb2) (fun _ _ _=>trivial)⟩,rfl⟩
theorem ajM (W0:World) (r:M.Rules) (s:M.State) (l:List Sh) (As Al:Option Addr) (cs cl:Nat) (HG:Hid (Glob W0)) (HN:Hid (ait W0 r s l As Al cs cl)):aik W0 r s l As Al cs cl:=by
 intro _ _ _ _ _ _ _ _ _ _ _ _ _ _ _ _ _ _ _ _ _ _ _ _ _ _ _ _ _ _ _ _ _ _ _ _ _ _ _ _ _ _ _ _ _ _ _ _ _ _ _ _ _ _ _ _ _ _ _ _ _ _ _ _ _ _ _ _ _ _ _ _ _ _ _ _ _ _ _ _ _ _ _ _ _ _ _ _ _ _ _ _ _ _ _ _ W hf
 dsimp only [aat,dQ,Tryz.f8,Option.getD]
 obtain ⟨hE,h11,rfl⟩:=hf
 obtain ⟨hF,B7,B8,A9,c9,l',rfl,h7,rfl,h8,rfl,hpl,h9⟩:=id hE
 have hF':=hF
 obtain ⟨rfl,rfl,rfl,h3,h4,hs,hl,aeE,aew,hbw⟩:=hF'
 have hcl:=Zk r W
 have JF:=hide hcl
 clear hcl
 apply wp_seq_k
 intro K hK
 have HK:=hide hK
 clear hK
 go_wp2_with (first | (refine aN 25 (.tmp 7) rfl ?_;refine aG (h7) Tryz.underlying25 rfl aal rfl (.tmp 7) rfl rfl ?_) | (go_at_call 37;refine JF.out.mono ?_;rintro e w1 ⟨rfl,hb1⟩;dsimp only))
 refine HK.out _ _ ?_
 apply HN.out
 exact ⟨hE.below hb1,h11.below hb1,rfl,rfl⟩
theorem ajT (W0:World) (r:M.Rules) (s:M.State) (l:List Sh) (As Al:Option Addr) (cs cl:Nat) (HG:Hid (Glob W0)) (HN:Hid (aiC W0 r s l As Al cs cl)):ait W0 r s l As Al cs cl:=by
 intro _ _ _ _ _ _ _ _ _ _ _ _ _ _ _ _ _ _ _ _ _ _ _ _ _ _ _ _ _ _ _ _ _ _ _ _ _ _ _ _ _ _ _ _ _ _ _ _ _ _ _ _ _ _ _ _ _ _ _ _ _ _ _ _ _ _ _ _ _ _ _ _ _ _ _ _ _ _ _ _ _ _ _ _ _ _ _ _ _ _ _ _ _ _ _ _ W hf
 dsimp only [aat,dQ,Tryz.f8,Option.getD]
 obtain ⟨hE,h11,rfl,rfl⟩:=hf
 obtain ⟨hF,B7,B8,A9,c9,l',rfl,h7,rfl,h8,rfl,hpl,h9⟩:=id hE
 have hF':=hF
 obtain ⟨rfl,rfl,rfl,h3,h4,hs,hl,aeE,aew,hbw⟩:=hF'
 obtain ⟨E,hEq⟩:∃ E,M.aH r=E:=⟨_,rfl⟩
 have HEQ:=hide hEq
 rw [hEq]
 clear hEq
 apply wp_seq_k
 intro K hK
 have HK:=hide hK
 clear hK
 go_wp2
 refine HK.out _ _ ?_
 apply wp_seq_k
 intro K1 hK1
 have Q9:=hide hK1
 clear hK1
 apply wp_seq_k
 intro K2 hK2
 have PD:=hide hK2
 clear hK2
 have hz:=Held.new W aj 42
 have hba:=(Below.refl W.heap.size W).alloc (Nat.le_refl _) (.cells aj.toArray 42)
 by_cases h0:E=0
 · subst h0
   have hT:fmT r=M.start r:=if_pos HEQ.out
   have hcl:=fun W=>aeJ r W
   have JF:=hide hcl
   have HT:=hide hT
   clear hcl hT
   have h7':=h7.below hba
   go_wp2
   refine PD.out _ _ ?_
   go_wp2_with (first | (refine aN 25 (.tmp 7) rfl ?_;refine aG (h7') Tryz.underlying25 rfl aal rfl (.tmp 7) rfl rfl ?_) | (go_at_call 38;refine (JF.out _).mono ?_;rintro e w1 ⟨A1,c1,rfl,hr1,hb1⟩;have hz1:=hz.below hb1;dsimp only) | (refine aO 42 (.tmp 14) (.tmp 62) rfl ?_;refine aF hz1 (aW (M.start r) A1 c1) rfl ZP (dL _ _ _) rfl (.tmp 14) (.tmp 62) rfl rfl rfl ?_))
   have hbb:Below W.heap.size W (w1.setCells W.heap.size 0 (aW (M.start r) A1 c1)):=below_setCells _ (Nat.le_refl _) _ _ _ _ (hba.trans (hb1.mono (by simp)))
   refine Q9.out _ _ ?_
   apply HN.out
   refine ⟨hE.below hbb,h11.below hbb,by rw [HEQ.out],by rw [HEQ.out],?_⟩
   rw [HT.out]
   exact ⟨_,A1,c1,rfl,hz1.whole _ rfl,bD.more (Reads.keep hr1 (by rw [setCells_size];exact Nat.le_refl _) (fun b o hb hlt=>kN _ _ _ _ (by simp at hb;omega))) (fun _ _ _=>trivial)⟩
 · have hb0:(E == 0)=false:=by simpa using h0
   have hT:fmT r=M.zero:=if_neg (by rw [HEQ.out];exact h0)
   have HT:=hide hT
   clear h0 hT
   go_wp2
   refine PD.out _ _ ?_
   go_wp2
   refine Q9.out _ _ ?_
   apply HN.out
   refine ⟨hE.below hba,h11.below hba,by rw [HEQ.out],by rw [HEQ.out],?_⟩
   rw [HT.out]
   exact ⟨_,none,0,rfl,hz,Reads.none_ _ _ _⟩
theorem aj0 (W0:World) (r:M.Rules) (s:M.State) (l:List Sh) (As Al:Option Addr) (cs cl:Nat) (HG:Hid (Glob W0)):aiC W0 r s l As Al cs cl:=by
 intro _ _ _ _ _ _ _ _ _ _ _ _ _ _ _ _ _ _ _ _ _ _ _ _ _ _ _ _ _ _ _ _ _ _ _ _ _ _ _ _ _ _ _ _ _ _ _ _ _ _ _ _ _ _ _ _ _ _ _ _ _ _ _ _ _ _ _ _ _ _ _ _ _ _ _ _ _ _ _ _ _ _ _ _ _ _ _ _ _ _ _ _ _ _ _ _ W hf
 dsimp only [aat,dQ,Tryz.f8,Option.getD]
 obtain ⟨hE,h11,rfl,rfl,Xo⟩:=hf
 obtain ⟨hF,B7,B8,A9,c9,l',rfl,h7,rfl,h8,rfl,hpl,h9⟩:=id hE
 have hF':=hF
 obtain ⟨rfl,rfl,rfl,h3,h4,hs,hl,aeE,aew,hbw⟩:=hF'
 obtain ⟨B11,A11,c11,rfl,aj9,acG⟩:=h11
 obtain ⟨VE,Yx,c14,rfl,Ob,acP⟩:=Xo
 have hTT:(fmT r).eq (fmT r)=true:=M.State.eq_iff.2 rfl
 have HGW:=hide (HG.out.below hbw)
 have HBW:=hide hbw
 have g3:∀ W',(fun w':World=>Below W.heap.size W w') W'→W'.rangeAt W0.heap.size 0 ([.string r.game,.int .i64 r.target,.int .i64 r.aY]):=fun W' h=>(h3.below h).range
 have g4:∀ W',(fun w':World=>Below W.heap.size W w') W'→W'.rangeAt (W0.heap.size+1) 0 (aW s As cs):=fun W' h=>(h4.below h).range
 have g7:∀ W',(fun w':World=>Below W.heap.size W w') W'→W'.rangeAt B7 0 ([.string r.game,.int .i64 r.target,.int .i64 r.aY]):=fun W' h=>(h7.below h).range
 have g8:∀ W',(fun w':World=>Below W.heap.size W w') W'→W'.rangeAt B8 0 (aW s As cs):=fun W' h=>(h8.below h).range
 have g11:∀ W',(fun w':World=>Below W.heap.size W w') W'→W'.rangeAt B11 0 (aW (fmT r) A11 c11):=fun W' h=>(aj9.below h).range
 have g14:∀ W',(fun w':World=>Below W.heap.size W w') W'→W'.rangeAt VE 0 (aW (fmT r) Yx c14):=fun W' h=>(Ob.below h).range
 apply wp_seq_k
 intro K hK
 have HK:=hide hK
 clear hK
 refine wp_region_held_drew (S:=(fun w':World=>Below W.heap.size W w')) (by kernel_rfl) ?lJ (fun hHeld=>?_)
 case lJ=>exact (Below.refl _ _).drew
 refine wpAnyH_take (i:=0) (oi:=_) (v:=_) (ga rfl) (by kernel_rfl) (by kernel_rfl) (by kernel_rfl) (fun _ _ _ h=>h) (yieldsIf_load_mid (by rfl) _ _ (by rfl) _ _ (by rfl) _ _ g3 Tryz.underlying23 rfl (by kernel_rfl)) (by assumption) ?_
 try simp only [Act.put,la,lz,ls]
 refine tk 2 ?_
 refine tr 1 fun K hK=>?_
 go_simp
 first | (go_at_call 39;refine (dP r _).mono ?_;rintro e w20 ⟨rfl,abS⟩) | (go_at_call 40;refine (Hq _ l Al cl _ (hl.below hHeld)).mono ?_;rintro e w21 ⟨rfl,ab1⟩) | (go_at_call 41;refine (aaE _ l' A9 c9 _ (h9.below hHeld)).mono ?_;rw [hpl];rintro e w22 ⟨rfl,RY⟩) | (go_at_call 42;refine (xW _ r s As cs _ (hs.below hHeld)).mono ?_;rintro e w23 ⟨rfl,ab9⟩) | (go_at_call 43;refine (aad _ r s As cs _ (hs.below hHeld)).mono ?_;rintro e w24 ⟨rfl,acn⟩) | (go_at_call 23;refine (afi _ _ (fmT r) (fmT r) A11 Yx c11 c14 _ (acG.below hHeld) (acP.below hHeld)).mono ?_;rw [hTT];rintro e w25 ⟨rfl,acy⟩) | (go_at_call 17;refine (QJ _ (HGW.out.below hHeld)).mono ?_;rintro e w9 ⟨rfl,U6⟩)
 refine hK.out _ _ ?Tt (fun hHeld=>?_)
 case Tt=>(exact hHeld.trans (abS.mono hHeld.size))
 clear hK K
 try simp only [Act.put,la,lz,ls]
 refine tk 3 ?_
 refine tk 4 ?_
 refine tk 5 ?_
 refine tk 7 ?_
 refine tr 6 fun K hK=>?_
 go_simp
 first | (go_at_call 39;refine (dP r _).mono ?_;rintro e w20 ⟨rfl,abS⟩) | (go_at_call 40;refine (Hq _ l Al cl _ (hl.below hHeld)).mono ?_;rintro e w21 ⟨rfl,ab1⟩) | (go_at_call 41;refine (aaE _ l' A9 c9 _ (h9.below hHeld)).mono ?_;rw [hpl];rintro e w22 ⟨rfl,RY⟩) | (go_at_call 42;refine (xW _ r s As cs _ (hs.below hHeld)).mono ?_;rintro e w23 ⟨rfl,ab9⟩) | (go_at_call 43;refine (aad _ r s As cs _ (hs.below hHeld)).mono ?_;rintro e w24 ⟨rfl,acn⟩) | (go_at_call 23;refine (afi _ _ (fmT r) (fmT r) A11 Yx c11 c14 _ (acG.below hHeld) (acP.below hHeld)).mono ?_;rw [hTT];rintro e w25 ⟨rfl,acy⟩) | (go_at_call 17;refine (QJ _ (HGW.out.below hHeld)).mono ?_;rintro e w9 ⟨rfl,U6⟩)
 refine hK.out _ _ ?aiZ (fun hHeld=>?_)
 case aiZ=>(exact hHeld.trans (ab1.mono hHeld.size))
 clear hK K
 try simp only [Act.put,la,lz,ls]
 refine tr 8 fun K hK=>?_
 go_simp
 first | (go_at_call 39;refine (dP r _).mono ?_;rintro e w20 ⟨rfl,abS⟩) | (go_at_call 40;refine (Hq _ l Al cl _ (hl.below hHeld)).mono ?_;rintro e w21 ⟨rfl,ab1⟩) | (go_at_call 41;refine (aaE _ l' A9 c9 _ (h9.below hHeld)).mono ?_;rw [hpl];rintro e w22 ⟨rfl,RY⟩) | (go_at_call 42;refine (xW _ r s As cs _ (hs.below hHeld)).mono ?_;rintro e w23 ⟨rfl,ab9⟩) | (go_at_call 43;refine (aad _ r s As cs _ (hs.below hHeld)).mono ?_;rintro e w24 ⟨rfl,acn⟩) | (go_at_call 23;refine (afi _ _ (fmT r) (fmT r) A11 Yx c11 c14 _ (acG.below hHeld) (acP.below hHeld)).mono ?_;rw [hTT];rintro e w25 ⟨rfl,acy⟩) | (go_at_call 17;refine (QJ _ (HGW.out.below hHeld)).mono ?_;rintro e w9 ⟨rfl,U6⟩)
 refine hK.out _ _ ?TA (fun hHeld=>?_)
 case TA=>(exact hHeld.trans (RY.mono hHeld.size))
 clear hK K
 try simp only [Act.put,la,lz,ls]
 refine tk 9 ?_
 refine tk 10 ?_
 refine tk 11 ?_
 refine wpAnyH_take (i:=12) (oi:=_) (v:=_) (ga rfl) (by kernel_rfl) (by kernel_rfl) (by kernel_rfl) (fun _ _ _ h=>h) (yieldsIf_load_mid (by rfl) _ _ (by rfl) _ _ (by rfl) _ _ g3 Tryz.underlying23 rfl (by kernel_rfl)) (by assumption) ?_
 try simp only [Act.put,la,lz,ls]
 refine wpAnyH_take (i:=13) (oi:=_) (v:=_) (ga rfl) (by kernel_rfl) (by kernel_rfl) (by kernel_rfl) (fun _ _ _ h=>h) (yieldsIf_load_mid (by rfl) _ _ (by rfl) _ _ (by rfl) _ _ g4 Tryz.underlying33 rfl (by kernel_rfl)) (by assumption) ?_
 try simp only [Act.put,la,lz,ls]
 refine wpAnyH_take (i:=15) (oi:=_) (v:=_) (ga rfl) (by kernel_rfl) (by kernel_rfl) (by kernel_rfl) (fun _ _ _ h=>h) (yieldsIf_load_mid (by rfl) _ _ (by rfl) _ _ (by rfl) _ _ g7 Tryz.underlying25 rfl (by kernel_rfl)) (by assumption) ?_
 try simp only [Act.put,la,lz,ls]
 refine wpAnyH_take (i:=16) (oi:=_) (v:=_) (ga rfl) (by kernel_rfl) (by kernel_rfl) (by kernel_rfl) (fun _ _ _ h=>h) (yieldsIf_load_mid (by rfl) _ _ (by rfl) _ _ (by rfl) _ _ g8 Tryz.underlying42 rfl (by kernel_rfl)) (by assumption) ?_
 try simp only [Act.put,la,lz,ls]
 refine tr 14 fun K hK=>?_
 go_simp
 first | (go_at_call 39;refine (dP r _).mono ?_;rintro e w20 ⟨rfl,abS⟩) | (go_at_call 40;refine (Hq _ l Al cl _ (hl.below hHeld)).mono ?_;rintro e w21 ⟨rfl,ab1⟩) | (go_at_call 41;refine (aaE _ l' A9 c9 _ (h9.below hHeld)).mono ?_;rw [hpl];rintro e w22 ⟨rfl,RY⟩) | (go_at_call 42;refine (xW _ r s As cs _ (hs.below hHeld)).mono ?_;rintro e w23 ⟨rfl,ab9⟩) | (go_at_call 43;refine (aad _ r s As cs _ (hs.below hHeld)).mono ?_;rintro e w24 ⟨rfl,acn⟩) | (go_at_call 23;refine (afi _ _ (fmT r) (fmT r) A11 Yx c11 c14 _ (acG.below hHeld) (acP.below hHeld)).mono ?_;rw [hTT];rintro e w25 ⟨rfl,acy⟩) | (go_at_call 17;refine (QJ _ (HGW.out.below hHeld)).mono ?_;rintro e w9 ⟨rfl,U6⟩)
 refine hK.out _ _ ?ahm (fun hHeld=>?_)
 case ahm=>(exact hHeld.trans (ab9.mono hHeld.size))
 clear hK K
 try simp only [Act.put,la,lz,ls]
 refine tr 17 fun K hK=>?_
 go_simp
 first | (go_at_call 39;refine (dP r _).mono ?_;rintro e w20 ⟨rfl,abS⟩) | (go_at_call 40;refine (Hq _ l Al cl _ (hl.below hHeld)).mono ?_;rintro e w21 ⟨rfl,ab1⟩) | (go_at_call 41;refine (aaE _ l' A9 c9 _ (h9.below hHeld)).mono ?_;rw [hpl];rintro e w22 ⟨rfl,RY⟩) | (go_at_call 42;refine (xW _ r s As cs _ (hs.below hHeld)).mono ?_;rintro e w23 ⟨rfl,ab9⟩) | (go_at_call 43;refine (aad _ r s As cs _ (hs.below hHeld)).mono ?_;rintro e w24 ⟨rfl,acn⟩) | (go_at_call 23;refine (afi _ _ (fmT r) (fmT r) A11 Yx c11 c14 _ (acG.below hHeld) (acP.below hHeld)).mono ?_;rw [hTT];rintro e w25 ⟨rfl,acy⟩) | (go_at_call 17;refine (QJ _ (HGW.out.below hHeld)).mono ?_;rintro e w9 ⟨rfl,U6⟩)
 refine hK.out _ _ ?ahu (fun hHeld=>?_)
 case ahu=>(exact hHeld.trans (acn.mono hHeld.size))
 clear hK K
 try simp only [Act.put,la,lz,ls]
 refine tk 18 ?_
 refine tk 19 ?_
 refine tk 20 ?_
 refine tk 21 ?_
 refine tk 22 ?_
 refine tk 23 ?_
 refine tk 24 ?_
 refine tk 25 ?_
 refine wpAnyH_take (i:=26) (oi:=_) (v:=_) (ga rfl) (by kernel_rfl) (by kernel_rfl) (by kernel_rfl) (fun _ _ _ h=>h) (yieldsIf_load_mid (by rfl) _ _ (by rfl) _ _ (by rfl) _ _ g11 Tryz.underlying33 rfl (by kernel_rfl)) (by assumption) ?_
 try simp only [Act.put,la,lz,ls]
 refine wpAnyH_take (i:=27) (oi:=_) (v:=_) (ga rfl) (by kernel_rfl) (by kernel_rfl) (by kernel_rfl) (fun _ _ _ h=>h) (yieldsIf_load_mid (by rfl) _ _ (by rfl) _ _ (by rfl) _ _ g14 Tryz.underlying42 rfl (by kernel_rfl)) (by assumption) ?_
 try simp only [Act.put,la,lz,ls]
 refine tr 28 fun K hK=>?_
 go_simp
 first | (go_at_call 39;refine (dP r _).mono ?_;rintro e w20 ⟨rfl,abS⟩) | (go_at_call 40;refine (Hq _ l Al cl _ (hl.below hHeld)).mono ?_;rintro e w21 ⟨rfl,ab1⟩) | (go_at_call 41;refine (aaE _ l' A9 c9 _ (h9.below hHeld)).mono ?_;rw [hpl];rintro e w22 ⟨rfl,RY⟩) | (go_at_call 42;refine (xW _ r s As cs _ (hs.below hHeld)).mono ?_;rintro e w23 ⟨rfl,ab9⟩) | (go_at_call 43;refine (aad _ r s As cs _ (hs.below hHeld)).mono ?_;rintro e w24 ⟨rfl,acn⟩) | (go_at_call 23;refine (afi _ _ (fmT r) (fmT r) A11 Yx c11 c14 _ (acG.below hHeld) (acP.below hHeld)).mono ?_;rw [hTT];rintro e w25 ⟨rfl,acy⟩) | (go_at_call 17;refine (QJ _ (HGW.out.below hHeld)).mono ?_;rintro e w9 ⟨rfl,U6⟩)
 refine hK.out _ _ ?ahC (fun hHeld=>?_)
 case ahC=>(exact hHeld.trans (acy.mono hHeld.size))
 clear hK K
 try simp only [Act.put,la,lz,ls]
 refine tk 29 ?_
 refine tk 30 ?_
 refine tr 31 fun K hK=>?_
 go_simp
 first | (go_at_call 39;refine (dP r _).mono ?_;rintro e w20 ⟨rfl,abS⟩) | (go_at_call 40;refine (Hq _ l Al cl _ (hl.below hHeld)).mono ?_;rintro e w21 ⟨rfl,ab1⟩) | (go_at_call 41;refine (aaE _ l' A9 c9 _ (h9.below hHeld)).mono ?_;rw [hpl];rintro e w22 ⟨rfl,RY⟩) | (go_at_call 42;refine (xW _ r s As cs _ (hs.below hHeld)).mono ?_;rintro e w23 ⟨rfl,ab9⟩) | (go_at_call 43;refine (aad _ r s As cs _ (hs.below hHeld)).mono ?_;rintro e w24 ⟨rfl,acn⟩) | (go_at_call 23;refine (afi _ _ (fmT r) (fmT r) A11 Yx c11 c14 _ (acG.below hHeld) (acP.below hHeld)).mono ?_;rw [hTT];rintro e w25 ⟨rfl,acy⟩) | (go_at_call 17;refine (QJ _ (HGW.out.below hHeld)).mono ?_;rintro e w9 ⟨rfl,U6⟩)
 refine hK.out _ _ ?ahL (fun hHeld=>?_)
 case ahL=>(exact hHeld.trans (U6.mono hHeld.size))
 clear hK K
 try simp only [Act.put,la,lz,ls]
 refine tk 32 ?_
 refine tk 33 ?_
 refine wpAnyH_done (by kernel_rfl) ?_ _
 refine HK.out _ _ ?_
 go_wp2
 go_ret
 exact ⟨rfl,VY HBW.out hHeld⟩
theorem ac5 (W0:World) (hg:Glob W0) (r:M.Rules) (s:M.State) (As:Option Addr) (cs:Nat) (l:List Sh) (Al:Option Addr) (cl:Nat) (hs:bD W0 (fun _=>True) As cs s.ay) (hl:wG W0 (fun _=>True) Al cl l) (hpl:∀ e∈l,e.x.aA.length*16≤140737488355328) (hll:l.length*80≤140737488355328):
 Calls Tryz.prog 8 #[jM r,wF s As cs,.slice Al l.length cl] W0 fun e w'=>e= .returned (.bool true)∧Below W0.heap.size W0 w':=by
 have HG:=hide hg
 have hall:=ajk W0 r s l As Al cs cl HG (hide (ajr W0 r s l As Al cs cl HG (hide (ajy W0 r s l As Al cs cl HG (hide (ajF W0 r s l As Al cs cl HG (hide (ajM W0 r s l As Al cs cl HG (hide (ajT W0 r s l As Al cs cl HG (hide (aj0 W0 r s l As Al cs cl HG))))))))))))
 have ajd:=hide hall
 clear hall
 go_enter Tryz.func8,Tryz.ntmps8
 apply wp_seq_k
 intro K hK
 have HK:=hide hK
 clear hK
 have hB:=((bU.nil W0).new (by simp) ([.string r.game,.int .i64 r.target,.int .i64 r.aY]) 23).new (by simp) (aW s As cs) 33
 go_wp2
 refine HK.out _ _ ?_
 have HA:=ajd.out
 apply HA
 exact ⟨rfl,rfl,rfl,hB.bf rfl,hB.get 1 rfl,hs.below hB.bw,hl.below hB.bw,hpl,hll,hB.bw⟩
end Go.Proofs.YtelpepbpdojikaaGreatDoor
