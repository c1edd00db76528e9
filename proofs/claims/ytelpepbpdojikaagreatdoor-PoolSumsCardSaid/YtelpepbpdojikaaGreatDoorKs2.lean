/- Parts of the proofs about chapter 5 (pool), joined by program. -/
import Derived.Test.YtelpepbpdojikaaGreatDoorKg27
import Derived.Test.YtelpepbpdojikaaGreatDoorKh10
import Derived.Test.YtelpepbpdojikaaGreatDoorKs1
set_option maxHeartbeats 8000000
set_option maxRecDepth 100000
set_option linter.unusedVariables false
set_option linter.unusedSimpArgs false
namespace Go.Proofs.YtelpepbpdojikaaGreatDoor
open Go.RowKit
noncomputable def aat (n:Nat):Code:=dQ n ((Tryz.f6).body.getD .skip)
def aaR (x:M.Note):List Value:=[.int .i64 x.number,.int .i64 x.aC,.int .i64 x.rule,.int .i64 x.iW,.int .i64 x.points,.bool x.turn]
def adf (a:M.Run):List Value:=[.int .i64 a.aC,.int .i64 a.points]
theorem ajM (a:M.Note):(aaR a).length=6:=rfl
theorem ak4 (a:M.Run):(adf a).length=2:=rfl
theorem ajT (a:M.Note):∀ v∈aaR a,v.oneCell'=true:=by simp [aaR,Value.oneCell']
theorem alb (a:M.Run):∀ v∈adf a,v.oneCell'=true:=by simp [adf,Value.oneCell']
theorem afr:(Tryz.prog.info? 54).map (·.size)=some 6:=by kernel_rfl
theorem ag6:(Tryz.prog.info? 63).map (·.size)=some 2:=by kernel_rfl
def smN (r:M.Rules) (l:List Sh):List M.Note:=M.notes r (M.start r) 1 (plain l)
def smR (r:M.Rules) (l:List Sh):List M.Run:=M.runs r (plain l)
theorem abr (r:M.Rules) (l:List Sh):(smN r l).length=l.length:=(M.aa8 _ _ _ _).trans (eF l)
def aiZ (a b:Int) (v:Value) (W:World):Prop:=∃ B cs,v=ptr B∧Held W B cs 33∧cs[7]? =some (.int .i64 a)∧cs[8]? =some (.int .i64 b)
theorem aiZ.below {a b:Int} {v:Value} {W W':World} (h:aiZ a b v W) (hb:Below W.heap.size W W'):aiZ a b v W':=by
 obtain ⟨B,cs,h1,h2,h3⟩:=h
 exact ⟨B,cs,h1,h2.below hb,h3⟩
structure SmD (W0:World) (r:M.Rules) (l:List Sh) (Al:Option Addr) (cl:Nat) (v1 v2 v7:Value) (W:World):Prop where
 e1:v1= .slice Al l.length cl
 e2:v2=ptr W0.heap.size
 h2:Held W W0.heap.size [.string r.game,.int .i64 r.target,.int .i64 r.aY] 23
 rl:Reads W (fun _=>True) 7 Al l.length cl (l.flatMap au)
 b7:aiZ (M.sumOf 0 (smN r l)) (M.sumOf 1 (smN r l)) v7 W
 len:l.length≤24
 log:∀ x∈plain l,M.cZ x=0
 bw:Below W0.heap.size W0 W
theorem SmD.below {W0 W W':World} {r:M.Rules} {l:List Sh} {Al:Option Addr} {cl:Nat} {v1 v2 v7:Value} (h:SmD W0 r l Al cl v1 v2 v7 W) (hb:Below W.heap.size W W'):SmD W0 r l Al cl v1 v2 v7 W':=
 ⟨h.e1,h.e2,h.h2.below hb,Reads.below h.rl hb,h.b7.below hb,h.len,h.log,aiu h.bw hb⟩
def smL (s0 s1 u0 u1:Int):List (List Value × TypeId):=[([.int .i64 s0,.int .i64 s1],31),([.int .i64 u0,.int .i64 u1],31)]
@[reducible] def am5 (W0:World) (r:M.Rules) (l:List Sh) (Al:Option Addr) (cl:Nat):Prop:=∀ (z0 z1 z2 z3 z4 z5 z6 z7 z8 z9 z10 z11 z12 z13 kD kK kF z17 kL jQ z20 z21 z22 z23 z24 z25 z26 z27 z28 z29 z30 z31 z32 z33 z34 z35 z36 z37 z38 z39 z40 z41 z42 z43 z44 z45 z46 z47 z48 z49 z50 z51 z52 z53 z54 z55 z56 z57 z58 z59 z60 z61 z62 z63 z64 z65 z66 z67 z68 z69 z70 z71 z72 z73 z74 z75 z76 z77 z78 z79 z80 mM z82 z83 z84 z85 z86 z87 mO z89 mP z91 mQ z93 mV mW mX mY mZ ng eU eX eY fA fB z105 fC z107 fD z109 fF fG fH fJ fK fM z116 z117 fO z119 fP fQ fU fV z124 fZ gq z127 gu gy z130 z131 gB gG gI gJ gK gQ z138 z139 gU z141 gV z143 gW z145 z146 gZ z148 ig iq iw z152 iy z154 iC z156 z157 iD z159 z160 iE z162 iF z164 iG iH z167 z168 nK nM z171 nN z173 nO z175 nP nR nS nT nU nV z182 z183 nX nY nZ og oh oq ou oz oC z193 z194 oD z196 oG z198 oH oI z201 oJ z203 oK oL z206 oM z208 oN:Value) (W:World),(SmD W0 r l Al cl z1 z2 z7 W∧agn 6 ((smN r l).flatMap aaR) l.length z10 W∧agn 2 ((smR r l).flatMap adf) (smR r l).length z12 W)→(aat 7).wp Tryz.prog (bodyPost Tryz.prog Tryz.f6 (fun e w'=>e= .returned (.bool true)∧Below W0.heap.size W0 w')) {tmps:= #[z0,z1,z2,z3,z4,z5,z6,z7,z8,z9,z10,z11,z12,z13,kD,kK,kF,z17,kL,jQ,z20,z21,z22,z23,z24,z25,z26,z27,z28,z29,z30,z31,z32,z33,z34,z35,z36,z37,z38,z39,z40,z41,z42,z43,z44,z45,z46,z47,z48,z49,z50,z51,z52,z53,z54,z55,z56,z57,z58,z59,z60,z61,z62,z63,z64,z65,z66,z67,z68,z69,z70,z71,z72,z73,z74,z75,z76,z77,z78,z79,z80,mM,z82,z83,z84,z85,z86,z87,mO,z89,mP,z91,mQ,z93,mV,mW,mX,mY,mZ,ng,eU,eX,eY,fA,fB,z105,fC,z107,fD,z109,fF,fG,fH,fJ,fK,fM,z116,z117,fO,z119,fP,fQ,fU,fV,z124,fZ,gq,z127,gu,gy,z130,z131,gB,gG,gI,gJ,gK,gQ,z138,z139,gU,z141,gV,z143,gW,z145,z146,gZ,z148,ig,iq,iw,z152,iy,z154,iC,z156,z157,iD,z159,z160,iE,z162,iF,z164,iG,iH,z167,z168,nK,nM,z171,nN,z173,nO,z175,nP,nR,nS,nT,nU,nV,z182,z183,nX,nY,nZ,og,oh,oq,ou,oz,oC,z193,z194,oD,z196,oG,z198,oH,oI,z201,oJ,z203,oK,oL,z206,oM,z208,oN],defers:=[] } W
@[reducible] def al8 (W0:World) (r:M.Rules) (l:List Sh) (Al:Option Addr) (cl:Nat):Prop:=∀ (z0 z1 z2 z3 z4 z5 z6 z7 z8 z9 z10 z11 z12 z13 kD kK kF z17 kL jQ z20 z21 z22 z23 z24 z25 z26 z27 z28 z29 z30 z31 z32 z33 z34 z35 z36 z37 z38 z39 z40 z41 z42 z43 z44 z45 z46 z47 z48 z49 z50 z51 z52 z53 z54 z55 z56 z57 z58 z59 z60 z61 z62 z63 z64 z65 z66 z67 z68 z69 z70 z71 z72 z73 z74 z75 z76 z77 z78 z79 z80 mM z82 z83 z84 z85 z86 z87 mO z89 mP z91 mQ z93 mV mW mX mY mZ ng eU eX eY fA fB z105 fC z107 fD z109 fF fG fH fJ fK fM z116 z117 fO z119 fP fQ fU fV z124 fZ gq z127 gu gy z130 z131 gB gG gI gJ gK gQ z138 z139 gU z141 gV z143 gW z145 z146 gZ z148 ig iq iw z152 iy z154 iC z156 z157 iD z159 z160 iE z162 iF z164 iG iH z167 z168 nK nM z171 nN z173 nO z175 nP nR nS nT nU nV z182 z183 nX nY nZ og oh oq ou oz oC z193 z194 oD z196 oG z198 oH oI z201 oJ z203 oK oL z206 oM z208 oN:Value) (W:World),(SmD W0 r l Al cl z1 z2 z7 W∧agn 2 ((smR r l).flatMap adf) (smR r l).length z12 W∧af7 (M.sumOf 0 (smN r l)) (M.sumOf 1 (smN r l)) kD W∧af7 (M.aal 0 (smN r l)) (M.aal 1 (smN r l)) kK W)→(aat 9).wp Tryz.prog (bodyPost Tryz.prog Tryz.f6 (fun e w'=>e= .returned (.bool true)∧Below W0.heap.size W0 w')) {tmps:= #[z0,z1,z2,z3,z4,z5,z6,z7,z8,z9,z10,z11,z12,z13,kD,kK,kF,z17,kL,jQ,z20,z21,z22,z23,z24,z25,z26,z27,z28,z29,z30,z31,z32,z33,z34,z35,z36,z37,z38,z39,z40,z41,z42,z43,z44,z45,z46,z47,z48,z49,z50,z51,z52,z53,z54,z55,z56,z57,z58,z59,z60,z61,z62,z63,z64,z65,z66,z67,z68,z69,z70,z71,z72,z73,z74,z75,z76,z77,z78,z79,z80,mM,z82,z83,z84,z85,z86,z87,mO,z89,mP,z91,mQ,z93,mV,mW,mX,mY,mZ,ng,eU,eX,eY,fA,fB,z105,fC,z107,fD,z109,fF,fG,fH,fJ,fK,fM,z116,z117,fO,z119,fP,fQ,fU,fV,z124,fZ,gq,z127,gu,gy,z130,z131,gB,gG,gI,gJ,gK,gQ,z138,z139,gU,z141,gV,z143,gW,z145,z146,gZ,z148,ig,iq,iw,z152,iy,z154,iC,z156,z157,iD,z159,z160,iE,z162,iF,z164,iG,iH,z167,z168,nK,nM,z171,nN,z173,nO,z175,nP,nR,nS,nT,nU,nV,z182,z183,nX,nY,nZ,og,oh,oq,ou,oz,oC,z193,z194,oD,z196,oG,z198,oH,oI,z201,oJ,z203,oK,oL,z206,oM,z208,oN],defers:=[] } W
@[reducible] def amf (W0:World) (r:M.Rules) (l:List Sh) (Al:Option Addr) (cl:Nat):Prop:=∀ (z0 z1 z2 z3 z4 z5 z6 z7 z8 z9 z10 z11 z12 z13 kD kK kF z17 kL jQ z20 z21 z22 z23 z24 z25 z26 z27 z28 z29 z30 z31 z32 z33 z34 z35 z36 z37 z38 z39 z40 z41 z42 z43 z44 z45 z46 z47 z48 z49 z50 z51 z52 z53 z54 z55 z56 z57 z58 z59 z60 z61 z62 z63 z64 z65 z66 z67 z68 z69 z70 z71 z72 z73 z74 z75 z76 z77 z78 z79 z80 mM z82 z83 z84 z85 z86 z87 mO z89 mP z91 mQ z93 mV mW mX mY mZ ng eU eX eY fA fB z105 fC z107 fD z109 fF fG fH fJ fK fM z116 z117 fO z119 fP fQ fU fV z124 fZ gq z127 gu gy z130 z131 gB gG gI gJ gK gQ z138 z139 gU z141 gV z143 gW z145 z146 gZ z148 ig iq iw z152 iy z154 iC z156 z157 iD z159 z160 iE z162 iF z164 iG iH z167 z168 nK nM z171 nN z173 nO z175 nP nR nS nT nU nV z182 z183 nX nY nZ og oh oq ou oz oC z193 z194 oD z196 oG z198 oH oI z201 oJ z203 oK oL z206 oM z208 oN:Value) (W:World),(SmD W0 r l Al cl z1 z2 z7 W∧af7 (M.sumOf 0 (smN r l)) (M.sumOf 1 (smN r l)) kD W∧af7 (M.aal 0 (smN r l)) (M.aal 1 (smN r l)) kK W∧af7 (M.aad 0 (smR r l)) (M.aad 1 (smR r l)) kL W)→(aat 11).wp Tryz.prog (bodyPost Tryz.prog Tryz.f6 (fun e w'=>e= .returned (.bool true)∧Below W0.heap.size W0 w')) {tmps:= #[z0,z1,z2,z3,z4,z5,z6,z7,z8,z9,z10,z11,z12,z13,kD,kK,kF,z17,kL,jQ,z20,z21,z22,z23,z24,z25,z26,z27,z28,z29,z30,z31,z32,z33,z34,z35,z36,z37,z38,z39,z40,z41,z42,z43,z44,z45,z46,z47,z48,z49,z50,z51,z52,z53,z54,z55,z56,z57,z58,z59,z60,z61,z62,z63,z64,z65,z66,z67,z68,z69,z70,z71,z72,z73,z74,z75,z76,z77,z78,z79,z80,mM,z82,z83,z84,z85,z86,z87,mO,z89,mP,z91,mQ,z93,mV,mW,mX,mY,mZ,ng,eU,eX,eY,fA,fB,z105,fC,z107,fD,z109,fF,fG,fH,fJ,fK,fM,z116,z117,fO,z119,fP,fQ,fU,fV,z124,fZ,gq,z127,gu,gy,z130,z131,gB,gG,gI,gJ,gK,gQ,z138,z139,gU,z141,gV,z143,gW,z145,z146,gZ,z148,ig,iq,iw,z152,iy,z154,iC,z156,z157,iD,z159,z160,iE,z162,iF,z164,iG,iH,z167,z168,nK,nM,z171,nN,z173,nO,z175,nP,nR,nS,nT,nU,nV,z182,z183,nX,nY,nZ,og,oh,oq,ou,oz,oC,z193,z194,oD,z196,oG,z198,oH,oI,z201,oJ,z203,oK,oL,z206,oM,z208,oN],defers:=[] } W
def ah9:List Value:=[.int .i64 0,.int .i64 0,.int .i64 0,.int .i64 0,.int .i64 0,.bool false]
theorem aiK (a:Sh):(au a).length=7:=rfl
theorem apF (W0:World) (r:M.Rules) (l:List Sh) (Al:Option Addr) (cl:Nat) (HN:Hid (al8 W0 r l Al cl)):am5 W0 r l Al cl:=by
 intro _ _ _ _ _ _ _ _ _ _ _ _ _ _ _ _ _ _ _ _ _ _ _ _ _ _ _ _ _ _ _ _ _ _ _ _ _ _ _ _ _ _ _ _ _ _ _ _ _ _ _ _ _ _ _ _ _ _ _ _ _ _ _ _ _ _ _ _ _ _ _ _ _ _ _ _ _ _ _ _ _ _ _ _ _ _ _ _ _ _ _ _ _ _ _ _ _ _ _ _ _ _ _ _ _ _ _ _ _ _ _ _ _ _ _ _ _ _ _ _ _ _ _ _ _ _ _ _ _ _ _ _ _ _ _ _ _ _ _ _ _ _ _ _ _ _ _ _ _ _ _ _ _ _ _ _ _ _ _ _ _ _ _ _ _ _ _ _ _ _ _ _ _ _ _ _ _ _ _ _ _ _ _ _ _ _ _ _ _ _ _ _ _ _ _ _ _ _ _ _ _ _ _ _ _ _ _ _ _ _ W hf
 dsimp only [aat,dQ,Tryz.f6,Option.getD]
 obtain ⟨hD,hN,hR⟩:=hf
 have hD':=hD
 obtain ⟨rfl,rfl,h2,hrl,_,hlen,aew,hbw⟩:=hD'
 obtain ⟨Yv,c10,rfl,hnr⟩:=hN
 apply wp_seq_k
 intro K hK
 have HK:=hide hK
 clear hK
 have hB0:=((bU.nil W).new (by simp) [.int .i64 0,.int .i64 0] 31).new (by simp) [.int .i64 0,.int .i64 0] 31
 go_wp2
 refine HK.out _ _ ?_
 apply wp_seq_k
 intro K1 hK1
 have Q9:=hide hK1
 clear hK1
 apply wp_seq_k
 intro K2 hK2
 have PD:=hide hK2
 clear hK2
 go_wp2
 refine PD.out _ _ ?_
 go_wp2
 go_loopw [83] (fun i wr=>∃ k:Nat,k≤l.length∧i= .int .i64 k∧bU W wr (smL (M.sumOf 0 ((smN r l).take k)) (M.sumOf 1 ((smN r l).take k)) (M.aal 0 ((smN r l).take k)) (M.aal 1 ((smN r l).take k)))) (fun i _=>l.length - (intOf i).toNat)
 case atStart=>exact ⟨0,Nat.zero_le _,rfl,hB0⟩
 case round=>
  obtain ⟨k,hk,rfl,hB⟩:=hrel
  by_cases hlt:k<l.length
  · have hkn:k<(smN r l).length:=by rw [abr];exact hlt
    have O9:M.ajy r (plain l) k (smN r l)[k]:=M.agi aew k hkn
    have hn0:=M.adW (r:=r) aew (by rw [eF];exact hlen) 0 k
    have hn1:=M.adW (r:=r) aew (by rw [eF];exact hlen) 1 k
    have e0:=M.af8 0 (smN r l) k hkn
    have e1:=M.af8 1 (smN r l) k hkn
    have f0:=M.ahm 0 (smN r l) k hkn
    have f1:=M.ahm 1 (smN r l) k hkn
    obtain ⟨b,o,rfl,_,hbl,hcs⟩:=Reads.at_ (hnr.below hB.bw) (by omega)
    obtain ⟨b',o',rfl,_,anc,hcs'⟩:=Reads.at_ (Reads.below hrl hB.bw) (by omega)
    have h00:=ahp ajM hcs k hkn
    have hPg:=ahp aiK hcs' k hlt
    have hpx:l[k].x.aC=(smN r l)[k].aC:=by rw [← Iu l k hlt];exact O9.aC _
    have hq:wr.cell? ⟨b',o'+k*7,none⟩=some (.int .i64 (smN r l)[k].aC):=by have h:=hPg 0 _ rfl;rw [hpx] at h;exact h
    have hk0:=(h2.below hB.bw).cell (j:=0) rfl
    have aoQ:=(h2.below hB.bw).lt
    obtain ⟨a,ha⟩:∃ a,(smN r l)[k]=a:=⟨_,rfl⟩
    change (-384≤M.sumOf 0 ((smN r l).take k)∧M.sumOf 0 ((smN r l).take k)≤384)∧0≤M.aal 0 ((smN r l).take k)∧M.aal 0 ((smN r l).take k)≤384 at hn0
    change (-384≤M.sumOf 1 ((smN r l).take k)∧M.sumOf 1 ((smN r l).take k)≤384)∧0≤M.aal 1 ((smN r l).take k)∧M.aal 1 ((smN r l).take k)≤384 at hn1
    rw [ha] at O9 h00 hq e0 e1 f0 f1
    obtain ⟨s0,hs0⟩:∃ s,M.sumOf 0 ((smN r l).take k)=s:=⟨_,rfl⟩
    obtain ⟨s1,hs1⟩:∃ s,M.sumOf 1 ((smN r l).take k)=s:=⟨_,rfl⟩
    obtain ⟨u0,hu0⟩:∃ s,M.aal 0 ((smN r l).take k)=s:=⟨_,rfl⟩
    obtain ⟨u1,hu1⟩:∃ s,M.aal 1 ((smN r l).take k)=s:=⟨_,rfl⟩
    rw [hs0,hs1,hu0,hu1] at hB
    rw [hs0,hu0] at hn0
    rw [hs1,hu1] at hn1
    rw [hs0] at e0
    rw [hs1] at e1
    rw [hu0] at f0
    rw [hu1] at f1
    have i1:(0:Int)≤(k:Int):=by omega
    have i2:(k:Int)<(l.length:Int):=by omega
    have i3:(k:Int)<24:=by omega
    have hbx:=Held.new wr ah9 54
    have hB2:bU W ((wr.alloc (.cells ah9.toArray 54)).setCells wr.heap.size 0 (aaR a)) (smL s0 s1 u0 u1):=(hB.alloc (by simp [smL]) _).PS (by have:=hB.size (by simp [smL]);exact this) _ _
    have hX2:Held ((wr.alloc (.cells ah9.toArray 54)).setCells wr.heap.size 0 (aaR a)) wr.heap.size (aaR a) 54:=hbx.whole _ rfl
    have hbb:Below wr.heap.size wr ((wr.alloc (.cells ah9.toArray 54)).setCells wr.heap.size 0 (aaR a)):=below_setCells _ (Nat.le_refl _) _ _ _ _ ((Below.refl _ _).alloc (Nat.le_refl _) _)
    have hSZ:=hide (hB.size (by simp [smL]))
    have HE:=hide (And.intro (And.intro e0 e1) (And.intro f0 f1))
    clear e0 e1 f0 f1 hs0 hs1 hu0 hu1 hcs hcs' hPg ha hpx hkn
    go_upto_region 13 with (first | (refine aN 54 (.tmp 86) rfl ?_;refine jh (g:=b) (o:=o+k*6) h00 Tryz.underlying54 rfl afr rfl (.tmp 86) rfl rfl ?_) | (refine aO 54 (.tmp 17) (.tmp 87) rfl ?_;refine aF hbx (aaR a) rfl afr (ajT a) rfl (.tmp 17) (.tmp 87) rfl rfl rfl ?_))
    obtain ⟨w2,hw2⟩:∃ w2,((wr.alloc (.cells #[.int .i64 0,.int .i64 0,.int .i64 0,.int .i64 0,.int .i64 0,.bool false] 54)).setCells wr.heap.size 0 (aaR a))=w2:=⟨_,rfl⟩
    rw [hw2]
    change ((wr.alloc (.cells #[.int .i64 0,.int .i64 0,.int .i64 0,.int .i64 0,.int .i64 0,.bool false] 54)).setCells wr.heap.size 0 (aaR a))=w2 at hw2
    have hB3:bU W w2 (smL s0 s1 u0 u1):=hw2 ▸ hB2
    have XH:Held w2 wr.heap.size (aaR a) 54:=hw2 ▸ hX2
    have U8:Below wr.heap.size wr w2:=hw2 ▸ hbb
    clear hB2 hX2 hbb hbx hw2 h00 hB
    obtain ⟨g,hg⟩:∃ g,wr.heap.size=g:=⟨_,rfl⟩
    rw [hg] at XH
    rw [hg]
    have hgs:W.heap.size+1<g:=by have h:=hSZ.out;simp [smL] at h;omega
    dsimp only [Act.put]
    go_cut [141] from 88 to 140 (fun v141 wx=>v141= .bool false∧bU W wx (smL s0 s1 u0 u1)∧Held wx g (aaR a) 54)
    case first=>
     have c0:=XH.cell (j:=0) rfl
     have c1:=XH.cell (j:=1) rfl
     have c2:=XH.cell (j:=2) rfl
     have c3:=XH.cell (j:=3) rfl
     have c4:=XH.cell (j:=4) rfl
     have c5:=XH.cell (j:=5) rfl
     have cq:=(U8.cell (p:=⟨b',o'+k*7,none⟩) anc).trans hq
     have cr:=(U8.cell (p:=⟨W0.heap.size,0,none⟩) aoQ).trans hk0
     clear hq hk0
     obtain ⟨nu,pl,ru,fo,pt,tu⟩:=a
     obtain ⟨d1,d2,d3,d4,d5,d6,d7,d8⟩:=O9
     simp only at d1 d3 d4 d5 d6 d7 d8 c0 c1 c2 c3 c4 c5 cq
     subst d1
     clear d2 d3 d7 d8
     by_cases hr:ru=0
     · subst hr
       clear d5
       by_cases hf:fo=0
       · subst hf
         clear d4
         by_cases hgm:r.game=M.aB
         · have h1:(r.game.toList == [115,116,114,97,105,103,104,116])=true:=by rw [hgm];decide+kernel
           have h2:(r.game.toList != [115,116,114,97,105,103,104,116])=false:=by simp [bne,h1]
           clear d6 hgm
           go_quiet (fail)
           go_wp2
           go_meet
           exact ⟨rfl,hB3.drewN _,XH.drewN _⟩
         · have h1:(r.game.toList == [115,116,114,97,105,103,104,116])=false:=beq_eq_false_iff_ne.2 (bQ hgm)
           have h2:(r.game.toList != [115,116,114,97,105,103,104,116])=true:=by simp [bne,h1]
           have h3:=d6 hgm
           have h4:¬ (pt<0):=by omega
           clear d6 hgm
           go_quiet (fail)
           go_wp2
           go_meet
           exact ⟨rfl,hB3.drewN _,XH.drewN _⟩
       · have f1:(fo != 0)=true:=by simpa using hf
         have f2:=d4 hf
         have f3:¬ (0<pt):=by omega
         clear d4 hf
         by_cases hgm:r.game=M.aB
         · have h1:(r.game.toList == [115,116,114,97,105,103,104,116])=true:=by rw [hgm];decide+kernel
           have h2:(r.game.toList != [115,116,114,97,105,103,104,116])=false:=by simp [bne,h1]
           clear d6 hgm
           go_quiet (fail)
           go_wp2
           go_meet
           exact ⟨rfl,hB3.drewN _,XH.drewN _⟩
         · have h1:(r.game.toList == [115,116,114,97,105,103,104,116])=false:=beq_eq_false_iff_ne.2 (bQ hgm)
           have h2:(r.game.toList != [115,116,114,97,105,103,104,116])=true:=by simp [bne,h1]
           have h3:=d6 hgm
           have h4:¬ (pt<0):=by omega
           clear d6 hgm
           go_quiet (fail)
           go_wp2
           go_meet
           exact ⟨rfl,hB3.drewN _,XH.drewN _⟩
     · obtain ⟨rfl,rfl,rfl⟩:=d5 hr
       have r1:(ru != 0)=true:=by simpa using hr
       clear d4 d5 d6 hr
       rcases h1:(r.game.toList == [115,116,114,97,105,103,104,116]) with _ | _
       all_goals
        have h2:(r.game.toList != [115,116,114,97,105,103,104,116])= !(r.game.toList == [115,116,114,97,105,103,104,116]):=rfl
        rw [h1] at h2
        go_quiet (fail)
        go_wp2
        go_meet
        exact ⟨rfl,hB3.drewN _,XH.drewN _⟩
    case rest=>
     obtain ⟨rfl,hB4,Wi⟩:=hcut
     have c1:=Wi.cell (j:=1) rfl
     have c4:=Wi.cell (j:=4) rfl
     have n1:=O9.one
     have n2:=O9.lo
     have n3:=O9.hi
     obtain ⟨⟨e0,e1⟩,f0,f1⟩:=HE.out
     have HD:=hide hD
     clear O9 hq hk0 hB3 XH U8 HE hD anc hbl hrl hnr
     obtain ⟨nu,pl,ru,fo,pt,tu⟩:=a
     simp only at n1 n2 n3 c1 c4 e0 e1 f0 f1
     rcases n1 with rfl | rfl
     · go_upto_region 15 with (fail)
       have b0:=(hB4.bf rfl).cell (j:=0) rfl
       have bf0:=(hB4.bf rfl).frozen 0
       have hw1:IntKind.i64.wrap (s0+pt)=s0+pt:=IntWalk.i64_in _ (by omega)
       have HE0:=hide e0
       have HE1:=hide e1
       have HF0:=hide f0
       have HF1:=hide f1
       clear e0 e1 f0 f1
       refine wp_region_held_drew (S:=(fun w':World=>∀ q,w'.cell? ⟨g,q,none⟩=wc.cell? ⟨g,q,none⟩)) (by kernel_rfl) ?jw (fun hHeld=>?_)
       case jw=>exact fun q=>rfl
       refine tk 0 ?_
       refine tk 1 ?_
       refine tk 2 ?_
       refine tk 4 ?_
       refine tk 5 ?_
       refine tr 3 fun K hK=>?_
       go_simp
       refine hK.out _ _ ?Tm (fun hHeld=>?_)
       case Tm=>(exact hHeld)
       clear hK K
       try simp only [Act.put,la,lz,ls]
       refine tk 6 ?_
       refine tk 7 ?_
       refine tr 8 fun K hK=>?_
       go_simp
       refine hK.out _ _ ?Tq (fun hHeld=>?_)
       case Tq=>(exact fun q=>(aem (by omega)).trans (hHeld q))
       clear hK K
       try simp only [Act.put,la,lz,ls]
       refine wpAnyH_done (by kernel_rfl) ?_ _
       obtain ⟨w3,hw3⟩:∃ w3,(wc.setCell ⟨W.heap.size,0,none⟩ (.int .i64 (s0+pt))).drew=w3:=⟨_,rfl⟩
       rw [hw3]
       have NM:bU W w3 (smL (s0+pt) s1 u0 u1):=by rw [← hw3];exact (hB4.set 0 rfl 0 (.int .i64 (s0+pt))).drew
       have hX5:Held w3 g (aaR ⟨nu,0,ru,fo,pt,tu⟩) 54:=by rw [← hw3];exact (Wi.other (show g≠W.heap.size by omega) 0 (.int .i64 (s0+pt))).drew
       clear hHeld hw3 hw1 bf0 b0 c1 c4
       go_upto_region 16 with (fail)
       have c1:=hX5.cell (j:=1) rfl
       have c4:=hX5.cell (j:=4) rfl
       have b0:=(NM.get 1 rfl).cell (j:=0) rfl
       have bf0:=(NM.get 1 rfl).frozen 0
       have hw1:IntKind.i64.wrap (u0+max pt 0)=u0+max pt 0:=IntWalk.i64_in _ (by omega)
       refine wp_region_held_drew (S:=(fun w':World=>∀ q,w'.cell? ⟨g,q,none⟩=w3.cell? ⟨g,q,none⟩)) (by kernel_rfl) ?eP (fun hHeld=>?_)
       case eP=>exact fun q=>rfl
       refine tk 0 ?_
       refine tk 1 ?_
       refine tk 2 ?_
       refine tk 4 ?_
       refine tk 5 ?_
       refine tk 6 ?_
       refine tr 3 fun K hK=>?_
       go_simp
       refine hK.out _ _ ?La (fun hHeld=>?_)
       case La=>(exact hHeld)
       clear hK K
       try simp only [Act.put,la,lz,ls]
       refine tk 7 ?_
       refine tk 8 ?_
       refine tr 9 fun K hK=>?_
       go_simp
       refine hK.out _ _ ?ank (fun hHeld=>?_)
       case ank=>(exact fun q=>(aem (by omega)).trans (hHeld q))
       clear hK K
       try simp only [Act.put,la,lz,ls]
       refine wpAnyH_done (by kernel_rfl) ?_ _
       have hB6:bU W (w3.setCell ⟨W.heap.size+1,0,none⟩ (.int .i64 (u0+max pt 0))).drew (smL (s0+pt) s1 (u0+max pt 0) u1):=(NM.set 1 rfl 0 (.int .i64 (u0+max pt 0))).drew
       have e0':M.sumOf 0 ((smN r l).take (k+1))=s0+pt:=by have h:=HE0.out;simpa using h
       have e1':M.sumOf 1 ((smN r l).take (k+1))=s1:=by have h:=HE1.out;simpa using h
       have f0':M.aal 0 ((smN r l).take (k+1))=u0+max pt 0:=by have h:=HF0.out;simpa using h
       have f1':M.aal 1 ((smN r l).take (k+1))=u1:=by have h:=HF1.out;simpa using h
       go_wp2
       go_roundw
       case rel=>exact ⟨k+1,by omega,by go_num,by rw [e0',e1',f0',f1'];(have hmx:(if pt<0 then 0 else pt)=max pt 0:=by split <;> omega);(try rw [hmx]);exact hB6⟩
       case measure=>simp [intOf];omega
     · go_upto_region 15 with (fail)
       have b0:=(hB4.bf rfl).cell (j:=1) rfl
       have bf0:=(hB4.bf rfl).frozen 1
       have hw1:IntKind.i64.wrap (s1+pt)=s1+pt:=IntWalk.i64_in _ (by omega)
       have HE0:=hide e0
       have HE1:=hide e1
       have HF0:=hide f0
       have HF1:=hide f1
       clear e0 e1 f0 f1
       refine wp_region_held_drew (S:=(fun w':World=>∀ q,w'.cell? ⟨g,q,none⟩=wc.cell? ⟨g,q,none⟩)) (by kernel_rfl) ?rQ (fun hHeld=>?_)
       case rQ=>exact fun q=>rfl
       refine tk 0 ?_
       refine tk 1 ?_
       refine tk 2 ?_
       refine tk 4 ?_
       refine tk 5 ?_
       refine tr 3 fun K hK=>?_
       go_simp
       refine hK.out _ _ ?anI (fun hHeld=>?_)
       case anI=>(exact hHeld)
       clear hK K
       try simp only [Act.put,la,lz,ls]
       refine tk 6 ?_
       refine tk 7 ?_
       refine tr 8 fun K hK=>?_
       go_simp
       refine hK.out _ _ ?anP (fun hHeld=>?_)
       case anP=>(exact fun q=>(aem (by omega)).trans (hHeld q))
       clear hK K
       try simp only [Act.put,la,lz,ls]
       refine wpAnyH_done (by kernel_rfl) ?_ _
       obtain ⟨w3,hw3⟩:∃ w3,(wc.setCell ⟨W.heap.size,1,none⟩ (.int .i64 (s1+pt))).drew=w3:=⟨_,rfl⟩
       rw [hw3]
       have NM:bU W w3 (smL s0 (s1+pt) u0 u1):=by rw [← hw3];exact (hB4.set 0 rfl 1 (.int .i64 (s1+pt))).drew
       have hX5:Held w3 g (aaR ⟨nu,1,ru,fo,pt,tu⟩) 54:=by rw [← hw3];exact (Wi.other (show g≠W.heap.size by omega) 1 (.int .i64 (s1+pt))).drew
       clear hHeld hw3 hw1 bf0 b0 c1 c4
       go_upto_region 16 with (fail)
       have c1:=hX5.cell (j:=1) rfl
       have c4:=hX5.cell (j:=4) rfl
       have b0:=(NM.get 1 rfl).cell (j:=1) rfl
       have bf0:=(NM.get 1 rfl).frozen 1
       have hw1:IntKind.i64.wrap (u1+max pt 0)=u1+max pt 0:=IntWalk.i64_in _ (by omega)
       refine wp_region_held_drew (S:=(fun w':World=>∀ q,w'.cell? ⟨g,q,none⟩=w3.cell? ⟨g,q,none⟩)) (by kernel_rfl) ?lJ (fun hHeld=>?_)
       case lJ=>exact fun q=>rfl
       refine tk 0 ?_
       refine tk 1 ?_
       refine tk 2 ?_
       refine tk 4 ?_
       refine tk 5 ?_
       refine tk 6 ?_
       refine tr 3 fun K hK=>?_
       go_simp
       refine hK.out _ _ ?ant (fun hHeld=>?_)
       case ant=>(exact hHeld)
       clear hK K
       try simp only [Act.put,la,lz,ls]
       refine tk 7 ?_
       refine tk 8 ?_
       refine tr 9 fun K hK=>?_
       go_simp
       refine hK.out _ _ ?anB (fun hHeld=>?_)
       case anB=>(exact fun q=>(aem (by omega)).trans (hHeld q))
       clear hK K
       try simp only [Act.put,la,lz,ls]
       refine wpAnyH_done (by kernel_rfl) ?_ _
       have hB6:bU W (w3.setCell ⟨W.heap.size+1,1,none⟩ (.int .i64 (u1+max pt 0))).drew (smL s0 (s1+pt) u0 (u1+max pt 0)):=(NM.set 1 rfl 1 (.int .i64 (u1+max pt 0))).drew
       have e0':M.sumOf 0 ((smN r l).take (k+1))=s0:=by have h:=HE0.out;simpa using h
       have e1':M.sumOf 1 ((smN r l).take (k+1))=s1+pt:=by have h:=HE1.out;simpa using h
       have f0':M.aal 0 ((smN r l).take (k+1))=u0:=by have h:=HF0.out;simpa using h
       have f1':M.aal 1 ((smN r l).take (k+1))=u1+max pt 0:=by have h:=HF1.out;simpa using h
       go_wp2
       go_roundw
       case rel=>exact ⟨k+1,by omega,by go_num,by rw [e0',e1',f0',f1'];(have hmx:(if pt<0 then 0 else pt)=max pt 0:=by split <;> omega);(try rw [hmx]);exact hB6⟩
       case measure=>simp [intOf];omega
  · have hke:k=l.length:=by omega
    have htk:(smN r l).take k=smN r l:=by rw [hke, ← abr r l];exact List.take_length
    rw [htk] at hB
    have i9:¬ ((k:Int)<(l.length:Int)):=by omega
    clear hlt hke htk
    go_wp2
    refine Q9.out _ _ ?_
    apply HN.out
    exact ⟨hD.below hB.bw,hR.below hB.bw,⟨_,rfl,hB.bf rfl⟩,⟨_,rfl,hB.get 1 rfl⟩⟩
def smM (s0 s1:Int):List (List Value × TypeId):=[([.int .i64 s0,.int .i64 s1],31)]
theorem aoh (W0:World) (r:M.Rules) (l:List Sh) (Al:Option Addr) (cl:Nat) (HN:Hid (amf W0 r l Al cl)):al8 W0 r l Al cl:=by
 intro _ _ _ _ _ _ _ _ _ _ _ _ _ _ _ _ _ _ _ _ _ _ _ _ _ _ _ _ _ _ _ _ _ _ _ _ _ _ _ _ _ _ _ _ _ _ _ _ _ _ _ _ _ _ _ _ _ _ _ _ _ _ _ _ _ _ _ _ _ _ _ _ _ _ _ _ _ _ _ _ _ _ _ _ _ _ _ _ _ _ _ _ _ _ _ _ _ _ _ _ _ _ _ _ _ _ _ _ _ _ _ _ _ _ _ _ _ _ _ _ _ _ _ _ _ _ _ _ _ _ _ _ _ _ _ _ _ _ _ _ _ _ _ _ _ _ _ _ _ _ _ _ _ _ _ _ _ _ _ _ _ _ _ _ _ _ _ _ _ _ _ _ _ _ _ _ _ _ _ _ _ _ _ _ _ _ _ _ _ _ _ _ _ _ _ _ _ _ _ _ _ _ _ _ _ _ _ _ _ _ W hf
 dsimp only [aat,dQ,Tryz.f6,Option.getD]
 obtain ⟨hD,hR,Xo,h15⟩:=hf
 have hD':=hD
 obtain ⟨rfl,rfl,h2,hrl,_,hlen,aew,hbw⟩:=hD'
 obtain ⟨Yw,c12,rfl,hrr⟩:=hR
 apply wp_seq_k
 intro K hK
 have HK:=hide hK
 clear hK
 have hB0:=(bU.nil W).new (by simp) [.int .i64 0,.int .i64 0] 31
 go_wp2
 refine HK.out _ _ ?_
 apply wp_seq_k
 intro K1 hK1
 have Q9:=hide hK1
 clear hK1
 apply wp_seq_k
 intro K2 hK2
 have PD:=hide hK2
 clear hK2
 go_wp2
 refine PD.out _ _ ?_
 go_wp2
 go_loopw [162] (fun i wr=>∃ k:Nat,k≤(smR r l).length∧i= .int .i64 k∧bU W wr (smM (M.aad 0 ((smR r l).take k)) (M.aad 1 ((smR r l).take k)))) (fun i _=>(smR r l).length - (intOf i).toNat)
 case atStart=>exact ⟨0,Nat.zero_le _,rfl,hB0⟩
 case round=>
  obtain ⟨k,hk,rfl,hB⟩:=hrel
  by_cases hlt:k<(smR r l).length
  · have hgood:M.ajr r (smR r l)[k]:=M.adO aew _ (List.getElem_mem hlt)
    have hpos:∀ a∈smR r l,0<a.points:=fun a ha=>(M.adO aew a ha).1
    have hn0:=M.ab1 (r:=r) aew (by rw [eF];exact hlen) 0 k
    have hn1:=M.ab1 (r:=r) aew (by rw [eF];exact hlen) 1 k
    have hm0:=M.ab1 (r:=r) aew (by rw [eF];exact hlen) 0 (smR r l).length
    have hm1:=M.ab1 (r:=r) aew (by rw [eF];exact hlen) 1 (smR r l).length
    change 0≤M.aad 0 ((smR r l).take k)∧M.aad 0 ((smR r l).take k)≤384 at hn0
    change 0≤M.aad 1 ((smR r l).take k)∧M.aad 1 ((smR r l).take k)≤384 at hn1
    change 0≤M.aad 0 ((smR r l).take (smR r l).length)∧M.aad 0 ((smR r l).take (smR r l).length)≤384 at hm0
    change 0≤M.aad 1 ((smR r l).take (smR r l).length)∧M.aad 1 ((smR r l).take (smR r l).length)≤384 at hm1
    rw [List.take_length] at hm0 hm1
    have e0:=M.acn 0 (smR r l) k hlt
    have e1:=M.acn 1 (smR r l) k hlt
    have hmax:(smR r l)[k].points≤384:=by
     rcases hgood.2.1 with h | h
     · exact Int.le_trans (M.aiC 0 (smR r l) hpos k hlt h) hm0.2
     · exact Int.le_trans (M.aiC 1 (smR r l) hpos k hlt h) hm1.2
    have apT:=Reads.bd hrr
    obtain ⟨b,o,rfl,_,hbl,hcs⟩:=Reads.at_ (hrr.below hB.bw) (by omega)
    have h00:=ahp ak4 hcs k hlt
    have hk0:=(h2.below hB.bw).cell (j:=0) rfl
    obtain ⟨a,ha⟩:∃ a,(smR r l)[k]=a:=⟨_,rfl⟩
    rw [ha] at hgood h00 e0 e1 hmax
    obtain ⟨s0,hs0⟩:∃ s,M.aad 0 ((smR r l).take k)=s:=⟨_,rfl⟩
    obtain ⟨s1,hs1⟩:∃ s,M.aad 1 ((smR r l).take k)=s:=⟨_,rfl⟩
    rw [hs0,hs1] at hB
    rw [hs0] at hn0 e0
    rw [hs1] at hn1 e1
    have i1:(0:Int)≤(k:Int):=by omega
    have i2:(k:Int)<((smR r l).length:Int):=by omega
    have hbx:=Held.new wr [.int .i64 0,.int .i64 0] 63
    have hB2:bU W ((wr.alloc (.cells #[.int .i64 0,.int .i64 0] 63)).setCells wr.heap.size 0 (adf a)) (smM s0 s1):=(hB.alloc (by simp [smM]) _).PS (by have:=hB.size (by simp [smM]);exact this) _ _
    have hX2:Held ((wr.alloc (.cells #[.int .i64 0,.int .i64 0] 63)).setCells wr.heap.size 0 (adf a)) wr.heap.size (adf a) 63:=hbx.whole _ rfl
    have hbb:Below wr.heap.size wr ((wr.alloc (.cells #[.int .i64 0,.int .i64 0] 63)).setCells wr.heap.size 0 (adf a)):=below_setCells _ (Nat.le_refl _) _ _ _ _ ((Below.refl _ _).alloc (Nat.le_refl _) _)
    have hSZ:=hide (hB.size (by simp [smM]))
    clear hs0 hs1 hcs ha hpos hm0 hm1
    go_upto_region 22 with (first | (refine aN 63 (.tmp 164) rfl ?_;refine jh (g:=b) (o:=o+k*2) h00 Tryz.underlying63 rfl ag6 rfl (.tmp 164) rfl rfl ?_) | (refine aO 63 (.tmp 20) (.tmp 165) rfl ?_;refine aF hbx (adf a) rfl ag6 (alb a) rfl (.tmp 20) (.tmp 165) rfl rfl rfl ?_))
    obtain ⟨w2,hw2⟩:∃ w2,((wr.alloc (.cells #[.int .i64 0,.int .i64 0] 63)).setCells wr.heap.size 0 (adf a))=w2:=⟨_,rfl⟩
    rw [hw2]
    have hB3:bU W w2 (smM s0 s1):=hw2 ▸ hB2
    have XH:Held w2 wr.heap.size (adf a) 63:=hw2 ▸ hX2
    have U8:Below wr.heap.size wr w2:=hw2 ▸ hbb
    clear hB2 hX2 hbb hbx hw2 h00
    obtain ⟨g,hg⟩:∃ g,wr.heap.size=g:=⟨_,rfl⟩
    rw [hg] at XH
    rw [hg]
    have hgs:W.heap.size<g:=by have h:=hSZ.out;simp [smM] at h;omega
    dsimp only [Act.put]
    have c0:=XH.cell (j:=0) rfl
    have c1:=XH.cell (j:=1) rfl
    have cr:=(U8.cell (p:=⟨W0.heap.size,0,none⟩) ((h2.below hB.bw).lt)).trans hk0
    clear hk0 hB U8
    obtain ⟨pl,pt⟩:=a
    obtain ⟨d1,d2,d3⟩:=hgood
    simp only at d1 d2 d3 c0 c1 e0 e1 hmax
    have HE:=hide (And.intro e0 e1)
    clear e0 e1
    go_cut [188] from 166 to 187 (fun apM wx=>apM= .bool false∧wx=w2)
    case first=>
     have j1:¬ (pt≤0):=by omega
     have j2:¬ (pl<0):=by omega
     have j3:¬ (1<pl):=by omega
     rcases hb:(r.game.toList == [110,105,110,101]) with _ | _
     · clear d3
       go_wp2
       go_meet
       exact ⟨rfl,rfl⟩
     · have Wp:r.game=M.bM:=of_decide_eq_true ((bJ r.game [110,105,110,101]).symm.trans hb)
       have j4:¬ (9<pt):=by have:=d3 Wp;omega
       clear d3 Wp
       go_wp2
       go_meet
       exact ⟨rfl,rfl⟩
    case rest=>
     obtain ⟨rfl,rfl⟩:=hcut
     clear cr d3
     rcases d2 with rfl | rfl
     · go_upto_region 24 with (fail)
       have b0:=(hB3.bf rfl).cell (j:=0) rfl
       have bf0:=(hB3.bf rfl).frozen 0
       have hw1:IntKind.i64.wrap (s0+pt)=s0+pt:=IntWalk.i64_in _ (by omega)
       refine wp_region_held_drew (S:=(fun w':World=>∀ q,w'.cell? ⟨g,q,none⟩=wc.cell? ⟨g,q,none⟩)) (by kernel_rfl) ?uQ (fun hHeld=>?_)
       case uQ=>exact fun q=>rfl
       refine tk 0 ?_
       refine tk 1 ?_
       refine tk 2 ?_
       refine tk 4 ?_
       refine tk 5 ?_
       refine tr 3 fun K hK=>?_
       go_simp
       refine hK.out _ _ ?anW (fun hHeld=>?_)
       case anW=>(exact hHeld)
       clear hK K
       try simp only [Act.put,la,lz,ls]
       refine tk 6 ?_
       refine tk 7 ?_
       refine tr 8 fun K hK=>?_
       go_simp
       refine hK.out _ _ ?MX (fun hHeld=>?_)
       case MX=>(exact fun q=>(aem (by omega)).trans (hHeld q))
       clear hK K
       try simp only [Act.put,la,lz,ls]
       refine wpAnyH_done (by kernel_rfl) ?_ _
       have hB6:bU W (wc.setCell ⟨W.heap.size,0,none⟩ (.int .i64 (s0+pt))).drew (smM (s0+pt) s1):=(hB3.set 0 rfl 0 (.int .i64 (s0+pt))).drew
       have e0':M.aad 0 ((smR r l).take (k+1))=s0+pt:=by have h:=HE.out.1;simpa using h
       have e1':M.aad 1 ((smR r l).take (k+1))=s1:=by have h:=HE.out.2;simpa using h
       go_wp2
       go_roundw
       case rel=>exact ⟨k+1,by omega,by go_num,by rw [e0',e1'];exact hB6⟩
       case measure=>simp [intOf];omega
     · go_upto_region 24 with (fail)
       have b0:=(hB3.bf rfl).cell (j:=1) rfl
       have bf0:=(hB3.bf rfl).frozen 1
       have hw1:IntKind.i64.wrap (s1+pt)=s1+pt:=IntWalk.i64_in _ (by omega)
       refine wp_region_held_drew (S:=(fun w':World=>∀ q,w'.cell? ⟨g,q,none⟩=wc.cell? ⟨g,q,none⟩)) (by kernel_rfl) ?zV (fun hHeld=>?_)
       case zV=>exact fun q=>rfl
       refine tk 0 ?_
       refine tk 1 ?_
       refine tk 2 ?_
       refine tk 4 ?_
       refine tk 5 ?_
       refine tr 3 fun K hK=>?_
       go_simp
       refine hK.out _ _ ?an3 (fun hHeld=>?_)
       case an3=>(exact hHeld)
       clear hK K
       try simp only [Act.put,la,lz,ls]
       refine tk 6 ?_
       refine tk 7 ?_
       refine tr 8 fun K hK=>?_
       go_simp
       refine hK.out _ _ ?aoa (fun hHeld=>?_)
       case aoa=>(exact fun q=>(aem (by omega)).trans (hHeld q))
       clear hK K
       try simp only [Act.put,la,lz,ls]
       refine wpAnyH_done (by kernel_rfl) ?_ _
       have hB6:bU W (wc.setCell ⟨W.heap.size,1,none⟩ (.int .i64 (s1+pt))).drew (smM s0 (s1+pt)):=(hB3.set 0 rfl 1 (.int .i64 (s1+pt))).drew
       have e0':M.aad 0 ((smR r l).take (k+1))=s0:=by have h:=HE.out.1;simpa using h
       have e1':M.aad 1 ((smR r l).take (k+1))=s1+pt:=by have h:=HE.out.2;simpa using h
       go_wp2
       go_roundw
       case rel=>exact ⟨k+1,by omega,by go_num,by rw [e0',e1'];exact hB6⟩
       case measure=>simp [intOf];omega
  · have hke:k=(smR r l).length:=by omega
    have htk:(smR r l).take k=smR r l:=by rw [hke];exact List.take_length
    rw [htk] at hB
    have i9:¬ ((k:Int)<((smR r l).length:Int)):=by omega
    clear hlt hke htk
    go_wp2
    refine Q9.out _ _ ?_
    apply HN.out
    exact ⟨hD.below hB.bw,Xo.below hB.bw,h15.below hB.bw,⟨_,rfl,hB.bf rfl⟩⟩
end Go.Proofs.YtelpepbpdojikaaGreatDoor
