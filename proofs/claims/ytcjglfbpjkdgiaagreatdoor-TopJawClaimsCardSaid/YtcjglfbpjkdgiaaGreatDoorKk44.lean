/- Parts of a proof. -/
import Derived.Test.YtcjglfbpjkdgiaaGreatDoorKk43
set_option maxHeartbeats 16000000
set_option maxRecDepth 100000
set_option linter.unusedVariables false
set_option linter.unusedSimpArgs false
namespace Go.Proofs.YtcjglfbpjkdgiaaGreatDoor
open Go.RowKit
structure AX (W0:World) (r:M.Rules) (l:List Sh) (Al:Option Addr) (cl:Nat) (p q:Int) (v1 v3 v5:Value) (W:World):Prop where
 e1:v1= .slice Al l.length cl
 e3:v3=ptr W0.heap.size
 e5:v5=ptr (W0.heap.size+1)
 h3:Held W W0.heap.size ([.string r.game,.int .i64 r.target,.int .i64 r.bD]) 23
 h5:Held W (W0.heap.size+1) ([.int .u8 p,.int .u8 q]) 60
 pl:∀ e∈l,e.x.aC.length*16≤140737488355328
 ll:l.length*80≤140737488355328
 pr:0≤p∧p≤255
 qr:0≤q∧q≤255
 bw:Below W0.heap.size W0 W
theorem AX.below {W0 W W':World} {r:M.Rules} {l:List Sh} {Al:Option Addr} {cl:Nat} {p q:Int} {v1 v3 v5:Value} (h:AX W0 r l Al cl p q v1 v3 v5 W) (hb:Below W.heap.size W W'):AX W0 r l Al cl p q v1 v3 v5 W':=
 ⟨h.e1,h.e3,h.e5,h.h3.below hb,h.h5.below hb,h.pl,h.ll,h.pr,h.qr,jv h.bw hb⟩
theorem AX.far {W0 W:World} {r:M.Rules} {l:List Sh} {Al:Option Addr} {cl:Nat} {p q:Int} {v1 v3 v5:Value} (h:AX W0 r l Al cl p q v1 v3 v5 W) {g:Nat} (hg:W0.heap.size+2≤g) (o:Nat) (v:Value):AX W0 r l Al cl p q v1 v3 v5 (W.setCell ⟨g,o,none⟩ v):=
 ⟨h.e1,h.e3,h.e5,h.h3.other (by omega) o v,h.h5.other (by omega) o v,h.pl,h.ll,h.pr,h.qr,h.bw.setCell (p:=⟨g,o,none⟩) (by show W0.heap.size≤g;omega) v⟩
theorem AX.rl {W0 W:World} {r:M.Rules} {l:List Sh} {Al:Option Addr} {cl:Nat} {p q:Int} {v1 v3 v5:Value} (h:AX W0 r l Al cl p q v1 v3 v5 W) (HL:Hid (jQ W0 (fun b=>b<W0.heap.size) Al cl l)):jQ W (fun _=>True) Al cl l:=(HL.out.below h.bw).more (fun _ _ _=>trivial)
def CkL (W0:World) (l:List Sh) (N:List M.Note) (v7 v10:Value) (W:World):Prop:=∃ Bs A c,v10=ptr Bs∧W0.heap.size+1<Bs∧Held W Bs (vG (0,0)) 51∧v7= .slice A l.length c∧Reads W (fun b=>b<Bs) 6 A l.length c (noteCells N)
theorem Uu {W:World} {D D':Nat} {e:TypeId} {size n:Nat} {v:Value} {xs:List Value} (h:W.ownsRow D e size v n xs) (hd:D'≤D):W.ownsRow D' e size v n xs:=by
 obtain ⟨h1,h2 | ⟨g,cap,cur,h3,h4,h5⟩⟩:=h
 · exact ⟨h1,.inl h2⟩
 · exact ⟨h1,.inr ⟨g,cap,cur,h3,Nat.le_trans hd h4,h5⟩⟩
theorem Rl:(Tryz.prog.info? 51).map (fun i=>(i.zero,i.size,i.bytes))=some (some (.agg #[.int .i64 0,.int .i64 0]),2,16):=by kernel_rfl
theorem pz:(Tryz.prog.info? 51).map (·.size)=some 2:=by kernel_rfl
theorem Xx (a:Int × Int):∀ v∈vG a,v.oneCell'=true:=by simp [vG,Value.oneCell']
theorem uJ {ops:Array Oper} {rest:List Oper} {op:Oper} {a:Act} {W:World} {Q:Exit→Act→World→Prop} {g o:Nat} {cs:List Value} {t:TypeId} {d:TypeDesc} (h:W.rangeAt g o cs) (hu:Tryz.prog.underlying t=some d) (hd:d.isRow=true) (hi:(Tryz.prog.info? t).map (·.size)=some cs.length) (hw:Region.wanted op (yielded ops a.tmps)=true) (x:Operand) (ho:op.op= .load t x) (hx:a.eval x= .pointer (some ⟨g,o,none⟩))
 (k:wpList Tryz.prog ops Q rest (a.put op.dst (.agg cs.toArray)) W):sO Tryz.prog ops Q op rest a W:=
 BigFrame.wpList_want hw fun _ hK=>wp_load_mid t x ho g o hx cs d h hu hd hi (hK _ _ k)
theorem uK {op:Oper} {a:Act} {W:World} {Q:Exit→Act→World→Prop} {g o:Nat} {cs:List Value} {t:TypeId} {d:TypeDesc} {K:Act→World→Prop} (h:W.rangeAt g o cs) (hu:Tryz.prog.underlying t=some d) (hd:d.isRow=true) (hi:(Tryz.prog.info? t).map (·.size)=some cs.length) (x:Operand) (ho:op.op= .load t x) (hx:a.eval x= .pointer (some ⟨g,o,none⟩))
 (k:K (a.put op.dst (.agg cs.toArray)) W):LH Tryz.prog Q op K a W:=wp_load_mid t x ho g o hx cs d h hu hd hi k
theorem Y4 {r:M.Rules} {l:List Sh} (h:jg r l 20) (k:Nat) (hk:k≤l.length):M.Ok r (1+16*(k:Int)) (M.jf r (plain l) k):=by
 rw [zA];exact yh h.rules (fun e he=>((M.jJ _).1 h.log).2 _ (List.mem_map_of_mem he)) k hk
theorem FT {r:M.Rules} {l:List Sh} (h:jg r l 20) (k:Nat) (hk:k≤l.length):(-400≤(M.dN r (plain l) k).1∧(M.dN r (plain l) k).1≤400)∧ -400≤(M.dN r (plain l) k).2∧(M.dN r (plain l) k).2≤400:=by
 have h1:=Y4 h k hk;have a:=h1.s0;have b:=h1.s1;have c:=h.len
 unfold M.dN
 omega
theorem Xu {r:M.Rules} {l:List Sh}:M.jf r (plain l) l.length=(M.final r (M.start r) (plain l)):=by unfold M.jf;rw [← aW l,List.take_length]
theorem Xv {r:M.Rules} {s:M.State} {x:M.aV} {n:Int} (hr:M.aQ r=0) (h1:M.eH r s=0) (h2:M.bT x=0) (hok:M.Ok r n s) (hn:0≤n) (hn2:n≤900) (hl:M.legal r s x=0):qG r s x=0∧uI r s x=M.next r s x:=by
 have hE:qG r s x=if M.legal r s x≠0 then 18 else M.dK r (M.next r s x):=by unfold qG;rw [h1,h2];rfl
 have hk:=M.OX hr hok (M.lV h2) (M.lawful hl) hn;have h3:=M.DK hr hk (by omega);rw [M.Ah hr hk] at h3
 have h4:qG r s x=0:=by rw [hE,if_neg (by simp [hl]),h3]
 exact ⟨h4,if_pos h4⟩
noncomputable def lD (n:Nat):Code:=eP n ((Tryz.f4).body.getD .skip)
@[reducible] def zC (W0:World) (r:M.Rules) (l:List Sh) (Al:Option Addr) (cl:Nat) (p q:Int) (F:Value→Value→Value→Value→Value→Value→Value→Value→Value→Value→Value→Value→Value→Value→Value→Value→Value→Value→World→Prop) (n:Nat):Prop:=∀ (z0 z1 z2 z3 z4 z5 z6 z7 z8 z9 z10 z11 z12 z13 qM qN qO z17 qP oV z20 z21 z22 z23 z24 z25 z26 z27 z28 z29 z30 z31 z32 z33 z34 z35 z36 z37 z38 z39 z40 z41 z42 z43 z44 z45 z46 z47 z48 z49 z50 z51 z52 z53 z54 z55 z56 z57 z58 z59 z60 z61 z62 z63 z64 z65 z66 z67 z68 z69 z70 z71 z72 z73 z74 z75 z76 z77 z78 z79 z80 yB z82 z83 z84 z85 z86 z87 yC z89 yD z91 yE z93 yF yG yH yI yJ yK lX lY lZ l7 l9 z105 mg z107 mD z109 mF mG mJ mM mO mP z116 z117 mQ z119 mV mW mX mY z124 mZ ng z127 ni ny z130 z131 nC nD nG nH nI nJ z138 z139 nK z141 nM z143 nN z145 z146 nO z148 nP nR nS z152 nT z154 nU z156 z157 nV z159 z160 nX z162 nY z164 nZ og z167 z168 axO axV z171 ax2 z173 ax9 z175 ayg ayn ayu ayB ayI ayP z182 z183 ayW ay3 aza azh azo azv azC azJ azQ z193 z194 azX z196 az4 z198 aAb aAi z201 aAp z203 aAw aAD z206 aAK z208 aAR z210 aAY z212 z213 aA5 aBd aBk aBr z218 aBy aBF aBM z222 aBT aB0 aB7 z226 z227 z228 z229 aCe aCl z232 z233 z234 aCs z236 aCz aCG aCN aCU aC1:Value) (W:World),F z1 z3 z5 z7 z8 z9 z10 z11 oV z20 z21 z22 z23 z24 z25 z26 z30 z31 W→(lD n).wp Tryz.prog (bodyPost Tryz.prog Tryz.f4 (fun e w'=>e= .returned (.bool true)∧Below W0.heap.size W0 w')) {tmps:= #[z0,z1,z2,z3,z4,z5,z6,z7,z8,z9,z10,z11,z12,z13,qM,qN,qO,z17,qP,oV,z20,z21,z22,z23,z24,z25,z26,z27,z28,z29,z30,z31,z32,z33,z34,z35,z36,z37,z38,z39,z40,z41,z42,z43,z44,z45,z46,z47,z48,z49,z50,z51,z52,z53,z54,z55,z56,z57,z58,z59,z60,z61,z62,z63,z64,z65,z66,z67,z68,z69,z70,z71,z72,z73,z74,z75,z76,z77,z78,z79,z80,yB,z82,z83,z84,z85,z86,z87,yC,z89,yD,z91,yE,z93,yF,yG,yH,yI,yJ,yK,lX,lY,lZ,l7,l9,z105,mg,z107,mD,z109,mF,mG,mJ,mM,mO,mP,z116,z117,mQ,z119,mV,mW,mX,mY,z124,mZ,ng,z127,ni,ny,z130,z131,nC,nD,nG,nH,nI,nJ,z138,z139,nK,z141,nM,z143,nN,z145,z146,nO,z148,nP,nR,nS,z152,nT,z154,nU,z156,z157,nV,z159,z160,nX,z162,nY,z164,nZ,og,z167,z168,axO,axV,z171,ax2,z173,ax9,z175,ayg,ayn,ayu,ayB,ayI,ayP,z182,z183,ayW,ay3,aza,azh,azo,azv,azC,azJ,azQ,z193,z194,azX,z196,az4,z198,aAb,aAi,z201,aAp,z203,aAw,aAD,z206,aAK,z208,aAR,z210,aAY,z212,z213,aA5,aBd,aBk,aBr,z218,aBy,aBF,aBM,z222,aBT,aB0,aB7,z226,z227,z228,z229,aCe,aCl,z232,z233,z234,aCs,z236,aCz,aCG,aCN,aCU,aC1],defers:=[] } W
@[reducible] def agX (W0:World) (r:M.Rules) (l:List Sh) (Al:Option Addr) (cl:Nat) (p q:Int):Prop:=zC W0 r l Al cl p q (fun z1 z3 z5 _ _ _ _ _ _ _ _ _ _ _ _ _ _ _ W=>AX W0 r l Al cl p q z1 z3 z5 W) 1
@[reducible] def Zw (W0:World) (r:M.Rules) (l:List Sh) (Al:Option Addr) (cl:Nat) (p q:Int):Prop:=zC W0 r l Al cl p q (fun z1 z3 z5 _ _ _ _ _ _ _ _ _ _ _ _ _ _ _ W=>(AX W0 r l Al cl p q z1 z3 z5 W∧jg r l 20)) 2
@[reducible] def Zx (W0:World) (r:M.Rules) (l:List Sh) (Al:Option Addr) (cl:Nat) (p q:Int):Prop:=zC W0 r l Al cl p q (fun z1 z3 z5 z7 z8 _ _ _ _ _ _ _ _ _ _ _ _ _ W=>(AX W0 r l Al cl p q z1 z3 z5 W∧jg r l 20)∧Pq (M.notes r (M.start r) 1 (plain l)) z7 W∧z8= .int .i64 0) 3
@[reducible] def Zy (W0:World) (r:M.Rules) (l:List Sh) (Al:Option Addr) (cl:Nat) (p q:Int):Prop:=zC W0 r l Al cl p q (fun z1 z3 z5 z7 _ _ _ _ _ _ _ _ _ _ _ _ _ _ W=>(AX W0 r l Al cl p q z1 z3 z5 W∧jg r l 20)∧Pq (M.notes r (M.start r) 1 (plain l)) z7 W) 4
@[reducible] def Zz (W0:World) (r:M.Rules) (l:List Sh) (Al:Option Addr) (cl:Nat) (p q:Int):Prop:=zC W0 r l Al cl p q (fun z1 z3 z5 z7 _ z9 z10 z11 _ _ _ _ _ _ _ _ _ _ W=>(AX W0 r l Al cl p q z1 z3 z5 W∧jg r l 20)∧CkL W0 l (M.notes r (M.start r) 1 (plain l)) z7 z10 W∧z9= .slice none 0 0∧z11= .slice none 0 0) 7
@[reducible] def RU (W0:World) (r:M.Rules) (l:List Sh) (Al:Option Addr) (cl:Nat) (p q:Int):Prop:=zC W0 r l Al cl p q (fun z1 z3 z5 _ _ z9 _ z11 _ _ _ _ _ _ _ _ _ _ W=>(AX W0 r l Al cl p q z1 z3 z5 W∧jg r l 20)∧Sm (W0.heap.size+2) (M.scores r (plain l)) z9 W∧LK (plain l) z11 W) 8
@[reducible] def RV (W0:World) (r:M.Rules) (l:List Sh) (Al:Option Addr) (cl:Nat) (p q:Int):Prop:=zC W0 r l Al cl p q (fun z1 z3 z5 _ _ z9 _ z11 oV z20 _ _ _ _ _ _ _ _ W=>(AX W0 r l Al cl p q z1 z3 z5 W∧jg r l 20)∧Sm (W0.heap.size+2) (M.scores r (plain l)) z9 W∧LK (plain l) z11 W∧oV= .int .i64 0∧z20= .int .i64 0) 9
@[reducible] def RX (W0:World) (r:M.Rules) (l:List Sh) (Al:Option Addr) (cl:Nat) (p q:Int):Prop:=zC W0 r l Al cl p q (fun z1 z3 z5 _ _ z9 _ z11 oV z20 z21 z22 z23 _ _ _ _ _ W=>(AX W0 r l Al cl p q z1 z3 z5 W∧jg r l 20)∧Sm (W0.heap.size+2) (M.scores r (plain l)) z9 W∧LK (plain l) z11 W∧(oV= .int .i64 0∧z20= .int .i64 0)∧DW z9 (M.final r (M.start r) (plain l)) 53 z21 W∧(∃ A c,z22= .slice A (M.gQ r (M.start r) 1 (plain l)).length c)∧z23= .int .i64 0) 10
@[reducible] def RY (W0:World) (r:M.Rules) (l:List Sh) (Al:Option Addr) (cl:Nat) (p q:Int):Prop:=zC W0 r l Al cl p q (fun z1 z3 z5 _ _ z9 _ _ oV z20 z21 z22 z23 z24 z25 z26 _ _ W=>(AX W0 r l Al cl p q z1 z3 z5 W∧jg r l 20)∧Sm (W0.heap.size+2) (M.scores r (plain l)) z9 W∧(oV= .int .i64 0∧z20= .int .i64 0)∧(DW z9 (M.final r (M.start r) (plain l)) 53 z21 W∧(∃ A c,z22= .slice A (M.gQ r (M.start r) 1 (plain l)).length c)∧z23= .int .i64 0)∧yM (M.final r (M.start r) (plain l)) 53 z24 W∧(∃ A c,z25= .slice A (M.gQ r (M.start r) 1 (plain l)).length c)∧z26= .int .i64 0) 11
@[reducible] def RZ (W0:World) (r:M.Rules) (l:List Sh) (Al:Option Addr) (cl:Nat) (p q:Int):Prop:=zC W0 r l Al cl p q (fun z1 z3 z5 _ _ z9 _ _ _ _ z21 _ _ _ _ _ _ _ W=>(AX W0 r l Al cl p q z1 z3 z5 W∧jg r l 20)∧Sm (W0.heap.size+2) (M.scores r (plain l)) z9 W∧DW z9 (M.final r (M.start r) (plain l)) 53 z21 W) 12
@[reducible] def Si (W0:World) (r:M.Rules) (l:List Sh) (Al:Option Addr) (cl:Nat) (p q:Int):Prop:=zC W0 r l Al cl p q (fun z1 z3 z5 _ _ _ _ _ _ _ z21 _ _ _ _ _ _ _ W=>(AX W0 r l Al cl p q z1 z3 z5 W∧jg r l 20)∧yM (M.final r (M.start r) (plain l)) 53 z21 W) 13
@[reducible] def Sj (W0:World) (r:M.Rules) (l:List Sh) (Al:Option Addr) (cl:Nat) (p q:Int):Prop:=zC W0 r l Al cl p q (fun z1 z3 z5 _ _ _ _ _ _ _ z21 _ _ _ _ _ _ _ W=>(AX W0 r l Al cl p q z1 z3 z5 W∧jg r l 20)∧yM (M.final r (M.start r) (plain l)) 53 z21 W∧(M.final r (M.start r) (plain l)).over=false) 14
@[reducible] def Sl (W0:World) (r:M.Rules) (l:List Sh) (Al:Option Addr) (cl:Nat) (p q:Int):Prop:=zC W0 r l Al cl p q (fun z1 z3 z5 _ _ _ _ _ _ _ z21 _ _ _ _ _ z30 z31 W=>AX W0 r l Al cl p q z1 z3 z5 W∧yM (M.final r (M.start r) (plain l)) 53 z21 W∧yM {(M.final r (M.start r) (plain l)) with over:=true,bP:=1 - p.tmod 2 } 53 z30 W∧z31= .int .i64 0) 15
theorem aqS (W0:World) (r:M.Rules) (l:List Sh) (Al:Option Addr) (cl:Nat) (p q:Int) (HG:Hid (Glob W0)) (HL:Hid (jQ W0 (fun b=>b<W0.heap.size) Al cl l)) (HN:Hid (Zw W0 r l Al cl p q)):agX W0 r l Al cl p q:=by
 dsimp only [agX,zC]
 intros
 rename_i W hf
 dsimp only [lD,eP,Tryz.f4,Option.getD]
 have hA:=hf;obtain ⟨rfl,rfl,rfl,h3,h5,pl,ll,pr,qr,hbw⟩:=id hA;have rl:=hA.rl HL;obtain ⟨jb,hjb⟩:∃ q,jlB r l 20=q:=⟨_,rfl⟩;have hjl:=MO r l Al cl 20 W rl ll pl;rw [hjb] at hjl;have HJL:=hide hjl;clear hjl rl;apply wp_seq_k;intro K hK;have HK:=hide hK;clear hK;apply wp_seq_k;intro K2 hK2;have AY:=hide hK2;clear hK2
 cases jb with
 | false=>
   go_wp2_with (first | (refine aB 23 (.tmp 3) rfl ?_;refine ak (h3) Tryz.underlying23 rfl dB rfl (.tmp 3) rfl rfl ?_) | (go_at_call 6;refine (HJL.out).mono ?_;rintro e w2 ⟨rfl,hb2⟩;have HG9:=hide (HG.out.below (jv hbw hb2));dsimp only))
   refine AY.out _ _ ?_
   go_wp2_with (first | (go_at_call 9;refine (tq _ HG9.out).mono ?_;rintro e w9 ⟨rfl,OE⟩;dsimp only))
   go_ret;exact ⟨rfl,jv (jv hbw hb2) OE⟩
 | true=>
   have HOK:=hide (jg.of hjb);clear hjb
   go_wp2_with (first | (refine aB 23 (.tmp 3) rfl ?_;refine ak (h3) Tryz.underlying23 rfl dB rfl (.tmp 3) rfl rfl ?_) | (go_at_call 6;refine (HJL.out).mono ?_;rintro e w2 ⟨rfl,hb2⟩;have HG9:=hide (HG.out.below (jv hbw hb2));dsimp only))
   refine AY.out _ _ ?_;go_wp2;refine HK.out _ _ ?_;apply HN.out;exact ⟨hA.below hb2,HOK.out⟩
theorem aqZ (W0:World) (r:M.Rules) (l:List Sh) (Al:Option Addr) (cl:Nat) (p q:Int) (HG:Hid (Glob W0)) (HL:Hid (jQ W0 (fun b=>b<W0.heap.size) Al cl l)) (HN:Hid (Zx W0 r l Al cl p q)):Zw W0 r l Al cl p q:=by
 dsimp only [Zw,zC]
 intros
 rename_i W hf
 dsimp only [lD,eP,Tryz.f4,Option.getD]
 have hB:=hf;obtain ⟨hA,hO⟩:=id hB;obtain ⟨rfl,rfl,rfl,h3,h5,pl,ll,pr,qr,hbw⟩:=id hA;have rl:=hA.rl HL;have hck:=hO.log;have hrl:=hO.rules;have HC:=hide (Uk (L:=l) hrl hck rl);apply wp_seq_k;intro K hK;have HK:=hide hK;clear hK
 go_wp2_with (first | (refine aB 23 (.tmp 3) rfl ?_;refine ak (h3) Tryz.underlying23 rfl dB rfl (.tmp 3) rfl rfl ?_) | (go_at_call 12;refine HC.out.mono ?_;rintro e w1 ⟨v,rfl,hn,hb1⟩;dsimp only))
 refine HK.out _ _ ?_;apply HN.out;exact ⟨⟨hB.1.below hb1,hB.2⟩,hn,rfl⟩
theorem aq6 (W0:World) (r:M.Rules) (l:List Sh) (Al:Option Addr) (cl:Nat) (p q:Int) (HG:Hid (Glob W0)) (HL:Hid (jQ W0 (fun b=>b<W0.heap.size) Al cl l)) (HN:Hid (Zy W0 r l Al cl p q)):Zx W0 r l Al cl p q:=by
 dsimp only [Zx,zC]
 intros
 rename_i W hf
 dsimp only [lD,eP,Tryz.f4,Option.getD]
 obtain ⟨hB,hn,rfl⟩:=hf;obtain ⟨hA,hO⟩:=id hB;obtain ⟨rfl,rfl,rfl,h3,h5,pl,ll,pr,qr,hbw⟩:=id hA;have rl:=hA.rl HL;have hck:=hO.log;have hrl:=hO.rules;obtain ⟨A7,c7,rfl,r7⟩:=id hn
 have q1:(((M.notes r (M.start r) 1 (plain l)).length:Int) != (l.length:Int))=false:=by rw [M.pX,aW];simp
 apply wp_seq_k;intro K hK;have HK:=hide hK;clear hK;apply wp_seq_k;intro K2 hK2;have AY:=hide hK2;clear hK2;go_wp2;refine AY.out _ _ ?_;go_wp2;refine HK.out _ _ ?_;apply HN.out;exact ⟨hB,hn⟩
theorem arf (W0:World) (r:M.Rules) (l:List Sh) (Al:Option Addr) (cl:Nat) (p q:Int) (HG:Hid (Glob W0)) (HL:Hid (jQ W0 (fun b=>b<W0.heap.size) Al cl l)) (HN:Hid (Zz W0 r l Al cl p q)):Zy W0 r l Al cl p q:=by
 dsimp only [Zy,zC]
 intros
 rename_i W hf
 dsimp only [lD,eP,Tryz.f4,Option.getD]
 obtain ⟨hB,hn⟩:=hf;obtain ⟨hA,hO⟩:=id hB;obtain ⟨rfl,rfl,rfl,h3,h5,pl,ll,pr,qr,hbw⟩:=id hA;have rl:=hA.rl HL;have hck:=hO.log;have hrl:=hO.rules;obtain ⟨A7,c7,rfl,r7⟩:=id hn;have hbx:=Held.new W (vG (0,0)) 51;have hq5:=h5.lt;apply wp_seq_k;intro K1 hK1;have Xl:=hide hK1;clear hK1;go_wp2;refine Xl.out _ _ ?_;apply wp_seq_k;intro K2 hK2;have AY:=hide hK2;clear hK2
 go_wp2_with (refine aO 51 (.tmp 10) (.tmp 52) rfl ?_;refine aF hbx (vG (0,0)) rfl pz (Xx _) rfl (.tmp 10) (.tmp 52) rfl rfl rfl ?_)
 refine AY.out _ _ ?_;refine rD (p:=fun W=>Code.wp _ _ _ _ W) (fun w2 hw2=>?_)
 have hb2:Below W.heap.size W w2:=by rw [hw2];exact below_setCells _ (Nat.le_refl _) _ _ _ _ ((Below.refl _ _).alloc (Nat.le_refl _) _)
 have h10:Held w2 W.heap.size (vG (0,0)) 51:=by rw [hw2];exact hbx.whole _ rfl
 clear hw2 hbx;apply wp_seq_k;intro K3 hK3;have HK3:=hide hK3;clear hK3;go_wp2;refine HK3.out _ _ ?_;apply HN.out
 have e1:(M.notes r (M.start r) 1 (plain l)).length=l.length:=by rw [M.pX,aW]
 refine ⟨⟨hB.1.below hb2,hB.2⟩,⟨W.heap.size,A7,c7,rfl,by omega,h10,by rw [e1],?_⟩,rfl,rfl⟩;rw [e1] at r7;exact Reads.below (Reads.more r7 (fun b hb _=>hb)) hb2
theorem ZO {r:M.Rules} {l:List Sh} (h:jg r l 20) (k:Nat) (hk:k<l.length) (hn:k<(M.notes r (M.start r) 1 (plain l)).length):
 ((M.notes r (M.start r) 1 (plain l))[k].aG=0∧M.dN r (plain l) (k+1)=((M.dN r (plain l) k).1+(M.notes r (M.start r) 1 (plain l))[k].points,(M.dN r (plain l) k).2))∨((M.notes r (M.start r) 1 (plain l))[k].aG=1∧M.dN r (plain l) (k+1)=((M.dN r (plain l) k).1,(M.dN r (plain l) k).2+(M.notes r (M.start r) 1 (plain l))[k].points)):=by
 have hs:∀ x∈plain l,M.bT x=0:=((M.jJ _).1 h.log).2;have h1:=M.Kz r (plain l) (fun x hx=>(M.lV (hs x hx)).aG) k (by rw [aW];exact hk) hn;have h2:=(M.lV (hs _ (List.getElem_mem (by rw [aW];exact hk:k<(plain l).length)))).aG;rw [h1.2]
 rcases h2 with h2 | h2
 · refine .inl ⟨by rw [h1.1,h2],?_⟩
   rw [if_pos (by rw [h1.1,h2]),if_neg (by rw [h1.1,h2];decide)]
   simp
 · refine .inr ⟨by rw [h1.1,h2],?_⟩
   rw [if_neg (by rw [h1.1,h2];decide),if_pos (by rw [h1.1,h2])]
   simp
theorem Xw (r:M.Rules) (l:List Sh) (k:Nat) (hk:k<l.length):(M.scores r (plain l)).take (k+1)=(M.scores r (plain l)).take k++[M.dN r (plain l) (k+1)]:=by
 rw [List.take_succ_eq_append_getElem (by rw [M.jL,aW];exact hk),M.tY _ _ _ (by rw [aW];exact hk)]
theorem aro (W0:World) (r:M.Rules) (l:List Sh) (Al:Option Addr) (cl:Nat) (p q:Int) (HG:Hid (Glob W0)) (HL:Hid (jQ W0 (fun b=>b<W0.heap.size) Al cl l)) (HN:Hid (RU W0 r l Al cl p q)):Zz W0 r l Al cl p q:=by
 dsimp only [Zz,zC]
 intros
 rename_i W hf
 dsimp only [lD,eP,Tryz.f4,Option.getD]
 obtain ⟨hB,⟨Bs,A7,c7,rfl,hBs,hH,rfl,r7⟩,rfl,rfl⟩:=hf;obtain ⟨WL,rfl⟩:∃ q:World,q=W:=⟨_,rfl⟩;obtain ⟨hA,hO⟩:=id hB;obtain ⟨rfl,rfl,rfl,h3,h5,pl,ll,pr,qr,hbw⟩:=id hA;have rl:=hA.rl HL;have hck:=hO.log;have hrl:=hO.rules;have HB:=hide hB;have hI0:=Bz.start hbw (by omega) hH
 have hs0:M.dN r (plain l) 0=(0,0):=by simp [M.dN,M.Fj,M.start]
 clear hH hA hB hO hck hrl rl;apply wp_seq_k;intro K1 hK1;have Xl:=hide hK1;clear hK1;apply wp_seq_k;intro K2 hK2;have AY:=hide hK2;clear hK2;go_wp2;refine AY.out _ _ ?_;go_wp2
 go_loopw [9,11,55] (fun v9 v11 i wr=>∃ (k:Nat) (A9:Option Addr) (c9:Nat) (L:List Sh) (A1:Option Addr) (c1:Nat),k≤l.length∧i= .int .i64 k∧v9= .slice A9 k c9∧v11= .slice A1 k c1∧Aside (plain L=(plain l).take k)∧Bz W0 Bs WL (M.dN r (plain l) k) k ((M.scores r (plain l)).take k) A9 c9 k L A1 c1 wr) (fun _ _ i _=>l.length - (intOf i).toNat)
 case atStart=>exact ⟨0,none,0,[],none,0,Nat.zero_le _,rfl,rfl,rfl,rfl,by rw [hs0];exact hI0⟩
 case round=>
  obtain ⟨k,A9,c9,L,A1,c1,hk,rfl,rfl,rfl,hpL,hI⟩:=hrel;clear hI0
  by_cases hlt:k<l.length
  · have hp:=HL.out.below hI.bw
    obtain ⟨b,o,rfl,hSb,hbl,hcs⟩:=Reads.at_ hp.1 (by omega);have h01:=vC (f:=aA) (n:=7) (fun _=>rfl) hcs k hlt;have hsx:=((M.jJ _).1 HB.out.2.log).2 _ (List.mem_map_of_mem (List.getElem_mem hlt))
    have hkn:k<(M.notes r (M.start r) 1 (plain l)).length:=by rw [M.pX,aW];exact hlt
    have hsum:=ZO HB.out.2 k hlt hkn;have hn0:=FT HB.out.2 k hk;have hn1:=FT HB.out.2 (k+1) hlt;have htk:=Xw r l k hlt
    have hpt:(plain l).take (k+1)=(plain l).take k++[l[k].x]:=by rw [List.take_succ_eq_append_getElem (by rw [aW];exact hlt),zh l k hlt]
    have r7':=Reads.turn r7 hI.Gx (fun b hb h=>by have:=hI.lt;rcases h with h | h <;> omega);obtain ⟨b7,o7,rfl,hS7,ar8,ajh⟩:=Reads.at_ r7' (by omega);have h07:=vC (n:=6) (f:=fun x:M.Note=>[.int .i64 x.number,.int .i64 x.aG,.int .i64 x.rule,.int .i64 x.iw,.int .i64 x.points,.bool x.turn]) (fun _=>rfl) ajh k hkn;obtain ⟨x,hx⟩:∃ q,l[k]=q:=⟨_,rfl⟩;obtain ⟨n,hn⟩:∃ q,(M.notes r (M.start r) 1 (plain l))[k]=q:=⟨_,rfl⟩;obtain ⟨y0,hy0'⟩:∃ q,M.dN r (plain l) k=q:=⟨_,rfl⟩;obtain ⟨y1,hy1'⟩:∃ q,M.dN r (plain l) (k+1)=q:=⟨_,rfl⟩;rw [hx] at h01 hsx hpt;rw [hn] at h07 hsum;rw [hy0'] at hsum hn0 hI;rw [hy1'] at hsum hn1 htk;obtain ⟨s0,s1⟩:=y0;have HX:=hide hx;have HZ:=hide (And.intro hy1' (And.intro htk hpt));have uD:=hide hpL;have hbx:=Held.new wr Zu 27
    have i1:(0:Int)≤(k:Int):=by omega
    have i2:(k:Int)<(l.length:Int):=by omega
    have hlen:=HB.out.2.len;clear hx hn hy0' hy1' hcs ajh hp hkn htk hpt hpL r7'
    go_upto_region 12 with (first | (refine aB 27 (.tmp 58) rfl ?_;refine dH (g:=b) (o:=o+k*7) h01 Tryz.underlying27 rfl bG rfl (.tmp 58) rfl rfl ?_) | (refine aO 27 (.tmp 13) (.tmp 59) rfl ?_;refine aF hbx (aA x) rfl bG (uf _ _ _) rfl (.tmp 13) (.tmp 59) rfl rfl rfl ?_))
    refine rD (p:=fun W=>Code.wp _ _ _ _ W) (fun w1 hw1=>?_)
    have hb1:Below wr.heap.size wr w1:=by rw [hw1];exact below_setCells _ (Nat.le_refl _) _ _ _ _ ((Below.refl _ _).alloc (Nat.le_refl _) _)
    have hx1:Held w1 wr.heap.size (aA x) 27:=by rw [hw1];exact hbx.whole _ rfl
    have hI1:=hI.below hb1;have HI0:=hide (And.intro (fun g (hg:(Value.slice A9 k c9).ownBlock=some g)=>qH hI.Dl hg) (And.intro hI.lt hI.size));have ah5:=Ei h07 ar8 hb1;obtain ⟨nu,pl_,ru,fo,pt,tu⟩:=n;obtain ⟨d0,d1,d2,d3,d4,d5⟩:=Nj ah5
    simp only at d0 d1 d2 d3 d4 d5 hsum
    have hpp:pl_=0∨pl_=1:=by rcases hsum with h | h;exact .inl h.1;exact .inr h.1
    have j1:¬ pl_<0:=by omega
    have j2:¬ 1<pl_:=by omega
    clear hw1 hbx hb1 h01 h07 ah5 hI hpp
    go_upto_region 14 with (fail)
    go_cut [74] from 74 to 87 (fun _ wx=>Bz W0 Bs WL y1 k ((M.scores r (plain l)).take k) A9 c9 k L A1 c1 wx∧Held wx wr.heap.size (aA x) 27)
    case first=>
     rcases hsum with ⟨rfl,rfl⟩ | ⟨rfl,rfl⟩
     · have hw1:IntKind.i64.wrap (s0+pt)=s0+pt:=IntWalk.i64_in _ (by omega)
       have b0:=hI1.bx.cell (j:=0) rfl;have bf0:=hI1.bx.frozen 0;have HS2:=hide ((hI1.sum (s0+pt,s1) 0 (.int .i64 (s0+pt)) rfl).below (Below.refl _ _).drew);have HX2:=hide ((hx1.other (g':=Bs) (by have:=HI0.out.2.1;have:=HI0.out.2.2;omega) 0 (.int .i64 (s0+pt))).drew);clear hI1 hx1;refine wp_region_held_drew (S:=(fun w':World=>∀ o,w'.cell? ⟨b7,o,none⟩=w1.cell? ⟨b7,o,none⟩)) (by kernel_rfl) ?dL (fun hHeld=>?_)
       case dL=>exact fun o=>rfl
       refine tk 0 ?_;refine tk 1 ?_;refine tk 2 ?_;refine tk 3 ?_;refine tk 4 ?_;refine tk 5 ?_;refine tk 7 ?_;refine tk 8 ?_;refine tk 9 ?_;refine tk 10 ?_;refine tk 11 ?_;refine tr 6 fun K hK=>?_;go_simp;refine bW hK (hHeld) fun hHeld=>?_;clear hK K;refine tk 12 ?_;refine tk 13 ?_;refine tr 14 fun K hK=>?_;go_simp;refine bW hK (fun o=>(pV (by omega)).trans (hHeld o)) fun hHeld=>?_;clear hK K;refine wpAnyH_done (by kernel_rfl) ?_ _;go_wp2;go_meet;exact ⟨HS2.out,HX2.out⟩
     · have hw1:IntKind.i64.wrap (s1+pt)=s1+pt:=IntWalk.i64_in _ (by omega)
       have b0:=hI1.bx.cell (j:=1) rfl;have bf0:=hI1.bx.frozen 1;have HS2:=hide ((hI1.sum (s0,s1+pt) 1 (.int .i64 (s1+pt)) rfl).below (Below.refl _ _).drew);have HX2:=hide ((hx1.other (g':=Bs) (by have:=HI0.out.2.1;have:=HI0.out.2.2;omega) 1 (.int .i64 (s1+pt))).drew);clear hI1 hx1;refine wp_region_held_drew (S:=(fun w':World=>∀ o,w'.cell? ⟨b7,o,none⟩=w1.cell? ⟨b7,o,none⟩)) (by kernel_rfl) ?dY (fun hHeld=>?_)
       case dY=>exact fun o=>rfl
       refine tk 0 ?_;refine tk 1 ?_;refine tk 2 ?_;refine tk 3 ?_;refine tk 4 ?_;refine tk 5 ?_;refine tk 7 ?_;refine tk 8 ?_;refine tk 9 ?_;refine tk 10 ?_;refine tk 11 ?_;refine tr 6 fun K hK=>?_;go_simp;refine bW hK (hHeld) fun hHeld=>?_;clear hK K;refine tk 12 ?_;refine tk 13 ?_;refine tr 14 fun K hK=>?_;go_simp;refine bW hK (fun o=>(pV (by omega)).trans (hHeld o)) fun hHeld=>?_;clear hK K;refine wpAnyH_done (by kernel_rfl) ?_ _;go_wp2;go_meet;exact ⟨HS2.out,HX2.out⟩
    case rest=>
     obtain ⟨hI2,hx2⟩:=hcut;obtain ⟨t0,t1⟩:=y1;clear d0 d1 d2 d3 d4 d5 hsum j1 j2 hx1 hI1;obtain ⟨i0,hi0,hz0,hz1,hz2⟩:=info_parts Rl;have hoz:=hI2.Dl;have hbs:Held wc Bs [.int .i64 t0,.int .i64 t1] 51:=hI2.bx;have hs2:=hx2.lt;have hsz2:=hI2.size
     have hlz:((M.scores r (plain l)).take k).length≤l.length:=by rw [List.length_take];omega
     go_upto_region 16 with (first | (refine aB 51 (.tmp 10) rfl ?_;refine ak (hbs) Tryz.underlying51 rfl pz rfl (.tmp 10) rfl rfl ?_) | (at_builtin;(refine wpList_append_lies _ rfl _ _ _ rfl WL.heap.size 51 i0 (.agg #[.int .i64 0,.int .i64 0]) 2 16 Tryz.underlying61 hi0 hz0 hz1 hz2 rfl (by omega) _ _ _ rfl (hoz.alloc _) ⟨wc.heap.size,0,none⟩ 1 1 [.int .i64 t0,.int .i64 t1] rfl rfl (dJ _ _ _ _ rfl) (by simp [Value.oneCell',aA,vG]) (by omega) (by simp only [maxLen];omega) (by omega) (by simp;omega) (wc.heap.size+1) (by simp) ?_)))
     intro g1 cap w3 hown3 hgrow hat hlt3;have hI3:=Bz.claim (z:=(t0,t1)) hI2 hgrow hown3 hat;have hx3:Held w3 wr.heap.size (aA x) 27:=hx2.blk (lG hgrow hx2.lt (fun e=>by have:=HI0.out.1 _ e;omega));have hp3:=(HL.out.below hI3.bw).aC k hlt;rw [HX.out] at hp3;have Xb:=hide (Tt x.x hsx _ x.a x.c w3 hp3);rw [← HZ.out.2.1] at hI3;clear hsz2 hgrow hown3 hat hlt3 hoz hbs hI2 hx2 hp3 hi0 hz0 hz1 hz2 hs2 hlz
     go_upto_region 17 with (first | (refine aB 27 (.tmp 13) rfl ?_;refine ak (hx3) Tryz.underlying27 rfl bG rfl (.tmp 13) rfl rfl ?_) | (go_at_call 16;refine Xb.out.mono ?_;rintro e w4 ⟨rfl,hb4⟩;dsimp only))
     have XR:=hI3.below hb4;have HPA:=hide (Tq _ _ _ _ (M.Jq hsx) w4 (HG.out.below XR.bw) (by have:=M.xZ (M.lV hsx);omega));clear hI3 hx3 Xb
     go_upto_region 18 with (first | (go_at_call 17;refine HPA.out.mono ?_;rintro e w5 ⟨A2,c2,rfl,hr2,hb5⟩;have hbx2:=Held.new w5 Zu 27;dsimp only) | (refine aO 27 (.tmp 16) (.tmp 100) rfl ?_;refine aF hbx2 (aA ⟨x.x,A2,c2⟩) rfl bG (uf _ _ _) rfl (.tmp 16) (.tmp 100) rfl rfl rfl ?_))
     refine rD (p:=fun W=>Code.wp _ _ _ _ W) (fun w6 hw6=>?_)
     have Z5:Below w5.heap.size w5 w6:=by rw [hw6];exact below_setCells _ (Nat.le_refl _) _ _ _ _ ((Below.refl _ _).alloc (Nat.le_refl _) _)
     have h16:Held w6 w5.heap.size (aA ⟨x.x,A2,c2⟩) 27:=by rw [hw6];exact hbx2.whole _ rfl
     have aiW:=hb5.trans (Z5.mono hb5.size);have hI6:=XR.below aiW
     have hr6:fP w6 (fun b=>b≠Bs∧(Value.slice (some ⟨g1,0,none⟩) (k+1) cap).ownBlock≠some b∧(Value.slice A1 k c1).ownBlock≠some b) A2 c2 x.x.aC:=
      Reads.more (Reads.below hr2 Z5) (fun b _ h=>⟨by have:=XR.lt;have:=XR.size;have h:w4.heap.size≤b:=h;omega,fun e=>by have:=qH XR.Dl e;have h:w4.heap.size≤b:=h;omega,fun e=>by have:=qH XR.Dk e;have h:w4.heap.size≤b:=h;omega⟩)
     replace h16:Held w6 w5.heap.size [.int .i64 x.x.aG,.string x.x.kind,.int .i64 x.x.aT,.int .i64 x.x.aP,.int .i64 x.x.first,.bool x.x.cO,.slice A2 x.x.aC.length c2] 27:=h16;clear hw6 hbx2 XR hb5 Z5 aiW hr2 HPA
     go_upto_region 20 with (fail)
     obtain ⟨i0,hi0,hz0,hz1,hz2⟩:=info_parts zZ;have hoz:=hI6.Dk;have hs6:=h16.lt;have aEn:=hI6.size;have hLk:=hI6.Dk.1
     go_upto_region 21 with (first | (refine aB 27 (.tmp 16) rfl ?_;refine ak (h16) Tryz.underlying27 rfl bG rfl (.tmp 16) rfl rfl ?_) | (at_builtin;(refine wpList_append_lies _ rfl _ _ _ rfl WL.heap.size 27 i0 (.agg #[.int .i64 0,.string ⟨#[]⟩,.int .i64 0,.int .i64 0,.int .i64 0,.bool false,.slice none 0 0]) 7 80 Tryz.underlying24 hi0 hz0 hz1 hz2 rfl (by omega) _ _ _ rfl (hoz.alloc _) ⟨w6.heap.size,0,none⟩ 1 1 (aA ⟨x.x,A2,c2⟩) rfl rfl (dJ _ _ _ _ rfl) (by simp [Value.oneCell',aA,vG]) (by omega) (by simp only [maxLen];omega) (by omega) (by simp;omega) (w6.heap.size+1) (by simp) ?_)))
     intro g2 cap2 w7 Ze hgrow hat asV;have HI7:=hide (Bz.read (x:=⟨x.x,A2,c2⟩) hI6 hr6 hgrow Ze hat);clear hgrow Ze hat asV hoz hI6 hr6 h16 hi0 hz0 hz1 hz2;go_wp2
     go_roundw
     case rel=>exact ⟨k+1,_,_,_,_,_,by omega,by go_num,rfl,rfl,(by rw [HZ.out.2.2];show plain (L++[(⟨x.x,A2,c2⟩:Sh)])=_;rw [QB,uD.out];rfl:Aside (plain (L++[(⟨x.x,A2,c2⟩:Sh)])=_)),by rw [HZ.out.1];exact HI7.out⟩
     case measure=>simp [intOf];omega
  · have hke:k=l.length:=by omega
    subst hke
    have i9:¬ ((l.length:Int)<(l.length:Int)):=by omega
    have hsl:(M.scores r (plain l)).length=l.length:=by rw [M.jL,aW]
    have hI':=hI;rw [← hsl,List.take_length,hsl] at hI'
    have XT:L.length=l.length:=by have h:plain L=_:=hpL;have:=congrArg List.length h;rwa [aW,List.length_take,aW,Nat.min_self] at this
    have HF:=hide (show (AX W0 r l Al cl p q _ _ _ wr∧jg r l 20)∧Sm (W0.heap.size+2) (M.scores r (plain l)) (.slice A9 l.length c9) wr∧LK (plain l) (.slice A1 l.length c1) wr from
     ⟨⟨⟨rfl,rfl,rfl,hI.old h3.lt (by omega) h3,hI.old h5.lt (by omega) h5,pl,ll,pr,qr,hI.bw⟩,HB.out.2⟩,
      ⟨A9,c9,by rw [hsl],by rw [hsl];exact Uu hI'.Dl (by have:=hI.lt;omega)⟩,
      ⟨L,A1,c1,by rw [XT],by have h:plain L=_:=hpL;rw [h, ← aW l,List.take_length],Reads.je (by rw [XT];exact hI.Dk) (fun _ _=>trivial) (by rw [XT];have:=HB.out.2.len;omega),fun x hx=>Reads.more (hI.each x hx) (fun _ _ _=>trivial)⟩⟩)
    clear hlt hI hI' hpL hsl XT;go_wp2;refine Xl.out _ _ ?_;apply HN.out;exact HF.out
theorem zH (r:M.Rules) (l:List Sh):(M.scores r (plain l)).length=l.length:=by rw [M.jL,aW]
theorem Tf {D:Nat} {C:List (Int × Int)} {A:Option Addr} {c:Nat} {W:World} (h:W.ownsRow D 51 2 (.slice A C.length c) C.length (C.flatMap vG)) (hn:C.length≤1000):RdC W (fun _=>True) A c C:=Reads.je h (fun _ _=>trivial) (by omega)
theorem Ib {r:M.Rules} {l:List Sh} (h:jg r l 20):Jr r l (M.scores r (plain l))=0∧Nz r l (M.scores r (plain l))=0:=by
 have hE:Jr r l (M.scores r (plain l))=0:=by
  show aS [aS [M.aQ r,M.dO (plain l)],auE l (M.scores r (plain l))]=0
  rw [h.rules,h.log,show auE l (M.scores r (plain l))=0 from if_pos (zH r l)]
  rfl
 exact ⟨hE,by unfold Nz;rw [if_pos hE];exact M.FC r (plain l)⟩
theorem PI {r:M.Rules} {l:List Sh} (h:jg r l 20) (k:Nat) (hk:k<l.length) (z:Int × Int) (hz:z≠M.dN r (plain l) (k+1)):Jr r l ((M.scores r (plain l)).set k z)=0∧Nz r l ((M.scores r (plain l)).set k z)=(k:Int)+1:=by
 have hE:Jr r l ((M.scores r (plain l)).set k z)=0:=by
  show aS [aS [M.aQ r,M.dO (plain l)],auE l ((M.scores r (plain l)).set k z)]=0
  rw [h.rules,h.log,show auE l ((M.scores r (plain l)).set k z)=0 from if_pos (by rw [List.length_set];exact zH r l)]
  rfl
 exact ⟨hE,by unfold Nz;rw [if_pos hE];exact M.H6 r (plain l) k (by rw [aW];exact hk) z hz⟩
theorem ahb (W0:World) (r:M.Rules) (l:List Sh) (Al:Option Addr) (cl:Nat) (p q:Int) (HG:Hid (Glob W0)) (HL:Hid (jQ W0 (fun b=>b<W0.heap.size) Al cl l)) (HN:Hid (RV W0 r l Al cl p q)):RU W0 r l Al cl p q:=by
 dsimp only [RU,zC]
 intros
 rename_i W hf
 dsimp only [lD,eP,Tryz.f4,Option.getD]
 obtain ⟨hB,h9,h11⟩:=hf;obtain ⟨hA,hO⟩:=id hB;obtain ⟨rfl,rfl,rfl,h3,h5,pl,ll,pr,qr,hbw⟩:=id hA;have rl:=hA.rl HL;have hck:=hO.log;have hrl:=hO.rules;obtain ⟨A9,c9,rfl,o9⟩:=id h9;have Z4:=Dq (fun _=>True) (fun _=>True) r l (M.scores r (plain l)) Al A9 cl c9 W rl (Tf o9 (by rw [zH];have:=hO.len;omega));rw [(Ib hO).1,(Ib hO).2] at Z4;have HC:=hide Z4;clear Z4 o9;apply wp_seq_k;intro K hK;have HK:=hide hK;clear hK
 go_wp2_with (first | (refine aB 23 (.tmp 3) rfl ?_;refine ak (h3) Tryz.underlying23 rfl dB rfl (.tmp 3) rfl rfl ?_) | (go_at_call 18;refine HC.out.mono ?_;rintro e w1 ⟨rfl,hb1⟩;dsimp only))
 refine HK.out _ _ ?_;apply HN.out;exact ⟨⟨hB.1.below hb1,hB.2⟩,h9.below hb1,h11.below hb1,rfl,rfl⟩
theorem ahi (W0:World) (r:M.Rules) (l:List Sh) (Al:Option Addr) (cl:Nat) (p q:Int) (HG:Hid (Glob W0)) (HL:Hid (jQ W0 (fun b=>b<W0.heap.size) Al cl l)) (HN:Hid (RX W0 r l Al cl p q)):RV W0 r l Al cl p q:=by
 dsimp only [RV,zC]
 intros
 rename_i W hf
 dsimp only [lD,eP,Tryz.f4,Option.getD]
 obtain ⟨hB,h9,h11,rfl,rfl⟩:=hf;obtain ⟨hA,hO⟩:=id hB;obtain ⟨rfl,rfl,rfl,h3,h5,pl,ll,pr,qr,hbw⟩:=id hA;have rl:=hA.rl HL;have hck:=hO.log;have hrl:=hO.rules;have HR:=hide (EJ (r:=r) (L:=l) (A:=Al) (c:=cl) (W:=W) hrl hck (M.final r (M.start r) (plain l)) rfl rl);have hg9:=h9.lt;apply wp_seq_k;intro K hK;have HK:=hide hK;clear hK
 go_wp2_with (first | (refine aB 23 (.tmp 3) rfl ?_;refine ak (h3) Tryz.underlying23 rfl dB rfl (.tmp 3) rfl rfl ?_) | (go_at_call 14;refine HR.out.mono ?_;rintro e w1 ⟨A1,c1,v2,rfl,⟨A2,c2,rfl⟩,hr1,hb1⟩;have hbx:=Held.new w1 aZ 53;dsimp only) | (refine aO 53 (.tmp 21) (.tmp 125) rfl ?_;refine aF hbx (aJ (M.final r (M.start r) (plain l)) A1 c1) rfl bg (fG _ _ _) rfl (.tmp 21) (.tmp 125) rfl rfl rfl ?_))
 obtain ⟨hq,hb2⟩:=DW.new hg9 hb1 hr1 hbx;have hbb:=hb1.trans (hb2.mono hb1.size);refine HK.out _ _ ?_;apply HN.out;exact ⟨⟨hB.1.below hbb,hB.2⟩,h9.below hbb,h11.below hbb,⟨rfl,rfl⟩,hq,⟨A2,c2,rfl⟩,rfl⟩
theorem ahp (W0:World) (r:M.Rules) (l:List Sh) (Al:Option Addr) (cl:Nat) (p q:Int) (HG:Hid (Glob W0)) (HL:Hid (jQ W0 (fun b=>b<W0.heap.size) Al cl l)) (HN:Hid (RY W0 r l Al cl p q)):RX W0 r l Al cl p q:=by
 dsimp only [RX,zC]
 intros
 rename_i W hf
 dsimp only [lD,eP,Tryz.f4,Option.getD]
 obtain ⟨hB,h9,h11,⟨rfl,rfl⟩,h21,h22,rfl⟩:=hf;obtain ⟨hA,hO⟩:=id hB;obtain ⟨rfl,rfl,rfl,h3,h5,pl,ll,pr,qr,hbw⟩:=id hA;have rl:=hA.rl HL;have hck:=hO.log;have hrl:=hO.rules;obtain ⟨L,A11,c11,rfl,hL,r11⟩:=id h11;have hre:=EJ (r:=r) (L:=L) (A:=A11) (c:=c11) (W:=W) hrl (by rw [hL];exact hck) (M.final r (M.start r) (plain l)) (by rw [hL]) r11;rw [hL] at hre;have HR:=hide hre;clear hre;apply wp_seq_k;intro K hK;have HK:=hide hK;clear hK
 go_wp2_with (first | (refine aB 23 (.tmp 3) rfl ?_;refine ak (h3) Tryz.underlying23 rfl dB rfl (.tmp 3) rfl rfl ?_) | (go_at_call 14;refine HR.out.mono ?_;rintro e w1 ⟨A1,c1,v2,rfl,⟨A2,c2,rfl⟩,hr1,hb1⟩;have hbx:=Held.new w1 aZ 53;dsimp only) | (refine aO 53 (.tmp 24) (.tmp 132) rfl ?_;refine aF hbx (aJ (M.final r (M.start r) (plain l)) A1 c1) rfl bg (fG _ _ _) rfl (.tmp 24) (.tmp 132) rfl rfl rfl ?_))
 obtain ⟨hq,hb2⟩:=yM.new hr1 hbx;have hbb:=hb1.trans (hb2.mono hb1.size);refine HK.out _ _ ?_;apply HN.out;exact ⟨⟨hB.1.below hbb,hB.2⟩,h9.below hbb,⟨rfl,rfl⟩,⟨h21.below hbb,h22,rfl⟩,hq,⟨A2,c2,rfl⟩,rfl⟩
theorem ahw (W0:World) (r:M.Rules) (l:List Sh) (Al:Option Addr) (cl:Nat) (p q:Int) (HG:Hid (Glob W0)) (HL:Hid (jQ W0 (fun b=>b<W0.heap.size) Al cl l)) (HN:Hid (RZ W0 r l Al cl p q)):RY W0 r l Al cl p q:=by
 dsimp only [RY,zC]
 intros
 rename_i W hf
 dsimp only [lD,eP,Tryz.f4,Option.getD]
 obtain ⟨hB,h9,⟨rfl,rfl⟩,⟨h21,⟨A22,c22,rfl⟩,rfl⟩,⟨B24,A24,c24,rfl,g24,s24⟩,⟨A25,c25,rfl⟩,rfl⟩:=hf;obtain ⟨D,RS,A21,c21,rfl,hg9,hDB,g21,Zn⟩:=id h21;have hsm:=WO _ _ (M.final r (M.start r) (plain l)) (M.final r (M.start r) (plain l)) A21 A24 c21 c24 W Zn s24;have he:(M.final r (M.start r) (plain l)).eq (M.final r (M.start r) (plain l))=true:=M.State.eq_iff.2 rfl;rw [he] at hsm;obtain ⟨s,hs⟩:∃ q,(M.final r (M.start r) (plain l))=q:=⟨_,rfl⟩;have HS:=hide hs;have HB:=hide (And.intro hB (And.intro h9 h21));obtain ⟨n,hn⟩:∃ q,(M.gQ r (M.start r) 1 (plain l)).length=q:=⟨_,rfl⟩;rw [hs] at g21 g24 hsm;rw [hn];have RD:=hide hsm
 have q1:((n:Int) != (n:Int))=false:=by simp
 clear hsm he hs hn Zn s24 hg9 hDB hB h9 h21;apply wp_seq_k;intro K hK;have HK:=hide hK;clear hK;apply wp_seq_k;intro K2 hK2;have AY:=hide hK2;clear hK2
 go_wp2_with (first | (refine aB 53 (.tmp 21) rfl ?_;refine ak (g21) Tryz.underlying53 rfl bg rfl (.tmp 21) rfl rfl ?_) | (refine aB 53 (.tmp 21) rfl ?_;refine iE (g21) Tryz.underlying53 rfl bg rfl (.tmp 21) rfl rfl ?_) | (refine iR 53 (.tmp 21) rfl ?_;refine iF (g21) Tryz.underlying53 rfl bg (.tmp 21) rfl rfl ?_) | (refine aB 53 (.tmp 24) rfl ?_;refine ak (g24) Tryz.underlying53 rfl bg rfl (.tmp 24) rfl rfl ?_) | (refine aB 53 (.tmp 24) rfl ?_;refine iE (g24) Tryz.underlying53 rfl bg rfl (.tmp 24) rfl rfl ?_) | (refine iR 53 (.tmp 24) rfl ?_;refine iF (g24) Tryz.underlying53 rfl bg (.tmp 24) rfl rfl ?_) | (go_at_call 15;refine RD.out.mono ?_;rintro e w3 ⟨rfl,hb3⟩;dsimp only))
 refine AY.out _ _ ?_;go_wp2;refine HK.out _ _ ?_;apply HN.out;exact ⟨⟨HB.out.1.1.below hb3,HB.out.1.2⟩,HB.out.2.1.below hb3,HB.out.2.2.below hb3⟩
structure CkF (W0:World) (r:M.Rules) (l:List Sh) (Al:Option Addr) (cl:Nat) (p q:Int) (k:Nat) (z:Int × Int) (g cap:Nat) (v21:Value) (W:World):Prop where
 a:AX W0 r l Al cl p q (.slice Al l.length cl) (ptr W0.heap.size) (ptr (W0.heap.size+1)) W
 s:yM (M.final r (M.start r) (plain l)) 53 v21 W
 own:W.ownsRow (W0.heap.size+2) 51 2 (.slice (some ⟨g,0,none⟩) l.length cap) l.length (((M.scores r (plain l)).set k z).flatMap vG)
theorem CkF.turn {W0 W:World} {r:M.Rules} {l:List Sh} {Al:Option Addr} {cl:Nat} {p q:Int} {k g cap:Nat} {v21:Value} (ha:AX W0 r l Al cl p q (.slice Al l.length cl) (ptr W0.heap.size) (ptr (W0.heap.size+1)) W) (hs:DW (.slice (some ⟨g,0,none⟩) l.length cap) (M.final r (M.start r) (plain l)) 53 v21 W)
 (own:W.ownsRow (W0.heap.size+2) 51 2 (.slice (some ⟨g,0,none⟩) l.length cap) l.length ((M.scores r (plain l)).flatMap vG)) (hk:k<l.length) (z:Int × Int) (o:Nat) (v:Value) (ho:o<2) (he:vG z=(vG (M.dN r (plain l) (k+1))).set o v) (h1:v.oneCell'=true):CkF W0 r l Al cl p q k z g cap v21 ((W.setCell ⟨g,k*2+o,none⟩ v).drew):=by
 have hge:=(dh own (g:=g) rfl).1;obtain ⟨D,B,A,c,rfl,h1',h2,h3,h4⟩:=hs;have hgD:=h1' g rfl;refine ⟨(ha.far hge _ v).below (Below.refl _ _).drew,⟨B,A,c,rfl,(h3.other (by omega) _ v).drew,?_⟩,?_⟩
 · exact bQ.more (Reads.setCell h4 (p:=⟨g,k*2+o,none⟩) (by show ¬ D≤g;omega) v) (fun _ _ _=>trivial)
 · have hkk:k<(M.scores r (plain l)).length:=by rw [zH];exact hk
   rw [Xy _ k hkk o ho z v (by rw [M.tY _ _ _ (by rw [aW];exact hk)];exact he)];exact (own.stored (k*2+o) v).1.drew
theorem ahD (W0:World) (r:M.Rules) (l:List Sh) (Al:Option Addr) (cl:Nat) (p q:Int) (HG:Hid (Glob W0)) (HL:Hid (jQ W0 (fun b=>b<W0.heap.size) Al cl l)) (HN:Hid (Si W0 r l Al cl p q)):RZ W0 r l Al cl p q:=by
 dsimp only [RZ,zC]
 intros
 rename_i W hf
 dsimp only [lD,eP,Tryz.f4,Option.getD]
 obtain ⟨hB,h9,h21⟩:=hf;obtain ⟨hA,hO⟩:=id hB;obtain ⟨rfl,rfl,rfl,h3,h5,pl,ll,pr,qr,hbw⟩:=id hA;have rl:=hA.rl HL;have hck:=hO.log;have hrl:=hO.rules;have hlen:=hO.len;apply wp_seq_k;intro K hK;have HK:=hide hK;clear hK;apply wp_seq_k;intro K2 hK2;have AY:=hide hK2;clear hK2
 by_cases hl0:l.length=0
 · have q0:¬ (0:Int)<(l.length:Int):=by omega
   obtain ⟨D,B,A,c,rfl,_,_,g1,g2⟩:=h21;clear hl0;go_wp2;refine AY.out _ _ ?_;go_wp2;refine HK.out _ _ ?_;apply HN.out;exact ⟨hB,B,A,c,rfl,g1,bQ.more g2 (fun _ _ _=>trivial)⟩
 · have q0:(0:Int)<(l.length:Int):=by omega
   have hk:IL p l<l.length:=aaZ (by omega);have hm:=Yg (p:=p) (l:=l) (by omega) pr.1;have hw:IntKind.i64.wrap p=p:=rO p (by omega) (by omega)
   have h00:((l.length:Int) == 0)=false:=by rw [beq_eq_false_iff_ne];omega
   have h01:(l.length:Int)≠0:=by omega
   have k0:=h5.cell (j:=0) rfl;have k1:=h5.cell (j:=1) rfl;have h5l:=h5.lt;obtain ⟨A9,c9,rfl,o9⟩:=id h9;obtain ⟨D,RS,A21,c21,rfl,hg9,hDB,g21,Zn⟩:=id h21;have hsl:=zH r l;rw [hsl] at o9 h21 ⊢
   obtain ⟨g,cap,hform⟩:∃ g cap,A9=some ⟨g,0,none⟩∧c9=cap:=by
    rcases o9.2 with ⟨_,h0⟩ | ⟨g,cap,cur,hv,_⟩
    · omega
    · cases hv;exact ⟨g,c9,rfl,rfl⟩
   obtain ⟨rfl,rfl⟩:=hform;have hge:=(dh o9 (g:=g) rfl).1;have hsc:=M.tY r (plain l) (IL p l) (by rw [aW];exact hk);have hnr:=FT hO (IL p l+1) hk;have HF:=hide (fun z o v ho he h1=>CkF.turn (k:=IL p l) hA h21 o9 hk z o v ho he h1);obtain ⟨z,hz⟩:∃ q,M.dN r (plain l) (IL p l+1)=q:=⟨_,rfl⟩;have HAU:=hide (fun z' (h:z'≠M.dN r (plain l) (IL p l+1))=>PI hO (IL p l) hk z' h)
   have hcell:∀ o,o<2→W.cell? ⟨g,IL p l*2+o,none⟩=(vG z)[o]? :=fun o ho=>by
    rw [o9.cellAt _ (by omega),flat_get vG 2 Ba _ _ (by rw [hsl];exact hk) o ho,hsc,hz]
   rw [hz] at hnr HF HAU;obtain ⟨s0,s1⟩:=z;have d0:W.cell? ⟨g,IL p l*2,none⟩=some (.int .i64 s0):=hcell 0 (by omega);have d1:W.cell? ⟨g,IL p l*2+1,none⟩=some (.int .i64 s1):=hcell 1 (by omega);have HFZ:=hide (fun o=>o9.frozenAt o);have hq:IntKind.i64.wrap q=q:=rO q (by omega) (by omega)
   have hq1:IntKind.i64.wrap (1+q)=q+1:=by rw [rO _ (by omega) (by omega)];omega
   have hq2:q.tmod 2=0∨q.tmod 2=1:=by rw [Int.tmod_eq_emod_of_nonneg qr.1];omega
   obtain ⟨m,hm2⟩:∃ m,q.tmod 2=m:=⟨_,rfl⟩;rw [hm2] at hq2
   have i1:(0:Int)≤(IL p l:Int):=by omega
   have i2:(IL p l:Int)<(l.length:Int):=by omega
   have HO:=hide hO;have HZ:=hide hz;obtain ⟨kk,hkk⟩:∃ q,IL p l=q:=⟨_,rfl⟩;rw [hkk] at hk hm HF HAU d0 d1 i1 i2;clear hkk hsc hcell hz hB hO hA o9 h9 h21 hsl hck hrl rl h3 h5 pl ll hbw hl0;go_wp2;refine AY.out _ _ ?_
   go_upto_region 29 with (fail)
   go_cut [171] from 162 to 186 (fun _ wx=>∃ z,CkF W0 r l Al cl p q kk z g c9 (ptr RS) wx∧z≠(s0,s1))
   case first=>
    rcases hq2 with rfl | rfl
    · have hw2:IntKind.i64.wrap (s0+(q+1))=s0+(q+1):=IntWalk.i64_in _ (by omega)
      have HW2:=hide (show CkF W0 r l Al cl p q kk (s0+(q+1),s1) g c9 (ptr RS) (W.setCell ⟨g,kk*2,none⟩ (.int .i64 (s0+(q+1)))).drew from HF.out (s0+(q+1),s1) 0 (.int .i64 (s0+(q+1))) (by decide) rfl rfl);have bf0:W.frozen? ⟨g,kk*2,none⟩=false:=HFZ.out (kk*2+0);refine wp_region_held_drew (S:=(fun w':World=>∀ o,w'.cell? ⟨W0.heap.size+1,o,none⟩=W.cell? ⟨W0.heap.size+1,o,none⟩)) (by kernel_rfl) ?jm (fun hHeld=>?_)
      case jm=>exact fun o=>rfl
      refine tk 0 ?_;refine tk 1 ?_;refine tk 2 ?_;refine tk 3 ?_;refine tk 4 ?_;refine tk 5 ?_;refine tk 6 ?_;refine tk 7 ?_;refine tk 9 ?_;refine tk 10 ?_;refine tk 11 ?_;refine tk 12 ?_;refine tk 14 ?_;refine tr 8 fun K hK=>?_;go_simp;refine bW hK (hHeld) fun hHeld=>?_;clear hK K;refine tk 13 ?_;refine tk 15 ?_;refine tr 16 fun K hK=>?_;go_simp;refine bW hK (fun o=>(pV (g:=W0.heap.size+1) (g':=g) (by omega)).trans (hHeld o)) fun hHeld=>?_;clear hK K;refine wpAnyH_done (by kernel_rfl) ?_ _;go_wp2;go_meet;exact ⟨_,HW2.out,fun e=>by have e:=congrArg Prod.fst e;simp at e;omega⟩
    · have hw2:IntKind.i64.wrap (s1+(q+1))=s1+(q+1):=IntWalk.i64_in _ (by omega)
      have HW2:=hide (show CkF W0 r l Al cl p q kk (s0,s1+(q+1)) g c9 (ptr RS) (W.setCell ⟨g,kk*2+1,none⟩ (.int .i64 (s1+(q+1)))).drew from HF.out (s0,s1+(q+1)) 1 (.int .i64 (s1+(q+1))) (by decide) rfl rfl);have bf0:W.frozen? ⟨g,kk*2+1,none⟩=false:=HFZ.out (kk*2+1);refine wp_region_held_drew (S:=(fun w':World=>∀ o,w'.cell? ⟨W0.heap.size+1,o,none⟩=W.cell? ⟨W0.heap.size+1,o,none⟩)) (by kernel_rfl) ?jo (fun hHeld=>?_)
      case jo=>exact fun o=>rfl
      refine tk 0 ?_;refine tk 1 ?_;refine tk 2 ?_;refine tk 3 ?_;refine tk 4 ?_;refine tk 5 ?_;refine tk 6 ?_;refine tk 7 ?_;refine tk 9 ?_;refine tk 10 ?_;refine tk 11 ?_;refine tk 12 ?_;refine tk 14 ?_;refine tr 8 fun K hK=>?_;go_simp;refine bW hK (hHeld) fun hHeld=>?_;clear hK K;refine tk 13 ?_;refine tk 15 ?_;refine tr 16 fun K hK=>?_;go_simp;refine bW hK (fun o=>(pV (g:=W0.heap.size+1) (g':=g) (by omega)).trans (hHeld o)) fun hHeld=>?_;clear hK K;refine wpAnyH_done (by kernel_rfl) ?_ _;go_wp2;go_meet;exact ⟨_,HW2.out,fun e=>by have e:=congrArg Prod.snd e;simp at e;omega⟩
   case rest=>
    obtain ⟨z,⟨ha,hs,ho⟩,hz⟩:=hcut;have hA:=ha;obtain ⟨_,_,_,h3,h5,pl,ll,_,_,hbw⟩:=ha;have Z4:=Dq (fun _=>True) (fun _=>True) r l ((M.scores r (plain l)).set kk z) Al (some ⟨g,0,none⟩) cl c9 wc (hA.rl HL) (Tf (by rw [List.length_set,zH];exact ho) (by rw [List.length_set,zH];have:=HO.out.len;omega));rw [(HAU.out z hz).1,(HAU.out z hz).2,List.length_set,zH] at Z4;have HC:=hide Z4
    have q9:(((kk:Int)+1) != ((kk:Int)+1))=false:=by simp
    have hwk:IntKind.i64.wrap ((kk:Int)+1)=(kk:Int)+1:=rO _ (by omega) (by omega);clear Z4 ho h5 pl ll d0 d1 hq hq1 hm2 hnr
    go_wp2_with (first | (refine aB 23 (.tmp 3) rfl ?_;refine ak (h3) Tryz.underlying23 rfl dB rfl (.tmp 3) rfl rfl ?_) | (go_at_call 18;refine HC.out.mono ?_;rintro e w1 ⟨rfl,hb1⟩;dsimp only))
    refine HK.out _ _ ?_;apply HN.out;exact ⟨⟨hA.below hb1,HO.out⟩,hs.below hb1⟩
theorem ahK (W0:World) (r:M.Rules) (l:List Sh) (Al:Option Addr) (cl:Nat) (p q:Int) (HG:Hid (Glob W0)) (HL:Hid (jQ W0 (fun b=>b<W0.heap.size) Al cl l)) (HN:Hid (Sj W0 r l Al cl p q)):Si W0 r l Al cl p q:=by
 dsimp only [Si,zC]
 intros
 rename_i W hf
 dsimp only [lD,eP,Tryz.f4,Option.getD]
 obtain ⟨hB,h21⟩:=hf;have hbw:=hB.1.bw;have HG9:=hide (HG.out.below hbw);obtain ⟨B,A,c,rfl,h1,h2⟩:=id h21;have k13:=h1.cell (j:=13) rfl;obtain ⟨y,hy⟩:∃ q,(M.final r (M.start r) (plain l)).over=q:=⟨_,rfl⟩;rw [hy] at k13;have HY:=hide hy;have HBB:=hide (And.intro hB h21);clear hy h21 hB h1 h2;apply wp_seq_k;intro K hK;have HK:=hide hK;clear hK;apply wp_seq_k;intro K2 hK2;have AY:=hide hK2;clear hK2
 cases y with
 | true=>
   go_wp2;refine AY.out _ _ ?_
   go_wp2_with (first | (go_at_call 9;refine (tq _ HG9.out).mono ?_;rintro e w9 ⟨rfl,OE⟩;dsimp only))
   go_ret;exact ⟨rfl,jv hbw OE⟩
 | false=>
   go_wp2;refine AY.out _ _ ?_;go_wp2;refine HK.out _ _ ?_;apply HN.out;exact ⟨HBB.out.1,HBB.out.2,HY.out⟩
theorem ahR (W0:World) (r:M.Rules) (l:List Sh) (Al:Option Addr) (cl:Nat) (p q:Int) (HG:Hid (Glob W0)) (HL:Hid (jQ W0 (fun b=>b<W0.heap.size) Al cl l)) (HN:Hid (Sl W0 r l Al cl p q)):Sj W0 r l Al cl p q:=by
 dsimp only [Sj,zC]
 intros
 rename_i W hf
 dsimp only [lD,eP,Tryz.f4,Option.getD]
 obtain ⟨hB,h21,hov⟩:=hf;obtain ⟨hA,hO⟩:=id hB;obtain ⟨rfl,rfl,rfl,h3,h5,pl,ll,pr,qr,hbw⟩:=id hA;have rl:=hA.rl HL;have hck:=hO.log;have hrl:=hO.rules;obtain ⟨RS,A21,c21,rfl,g21,Zn⟩:=id h21;have k0:=h5.cell (j:=0) rfl;have hw:IntKind.i64.wrap p=p:=rO p (by omega) (by omega)
 have hp2:p.tmod 2=0∨p.tmod 2=1:=by rw [Int.tmod_eq_emod_of_nonneg pr.1];omega
 have hok:M.Ok r (1+16*(l.length:Int)) (M.final r (M.start r) (plain l)):=by have:=Y4 hO l.length (Nat.le_refl _);rwa [Xu] at this
 have hlen:=hO.len;have hnx:=Xv hrl (M.DK hrl hok (by omega)) (M.LY _ hp2) hok (by omega) (by omega) (M.D6 r (M.final r (M.start r) (plain l)) (p.tmod 2) hov);have hcl:=Qu (fun _=>True) r (M.final r (M.start r) (plain l)) ⟨p.tmod 2,M.bC,0,0,0,false,[]⟩ A21 none c21 0 W Zn (YL W);rw [hnx.1,hnx.2,M.FV] at hcl;obtain ⟨s,hs⟩:∃ q,(M.final r (M.start r) (plain l))=q:=⟨_,rfl⟩;obtain ⟨m,hm⟩:∃ q,p.tmod 2=q:=⟨_,rfl⟩;have HS:=hide hs;have HM:=hide hm;rw [hs] at g21 hcl;rw [hm] at hcl;obtain ⟨s',hs'⟩:∃ q,{s with over:=true,bP:=1 - m }=q:=⟨_,rfl⟩;rw [hs'] at hcl;have HS':=hide hs';have HC:=hide hcl;have HBB:=hide (And.intro hA h21);clear hs';replace g21:Held W RS [.int .i64 s.turn,.bool s.brk,.bool s.hand,.bool s.push,.bool s.pushed,.int .i64 s.group,.slice A21 s.au.length c21,.int .i64 s.s0,.int .i64 s.s1,.int .i64 s.f0,.int .i64 s.f1,.int .i64 s.run,.int .i64 s.bI,.bool s.over,.int .i64 s.bP] 53:=g21;clear hcl hs hnx hok hov h21 hB hA hO hck hrl rl Zn pl ll hp2;apply wp_seq_k;intro K hK;have HK:=hide hK;clear hK
 go_wp2_with (first | (refine aB 23 (.tmp 3) rfl ?_;refine ak (h3) Tryz.underlying23 rfl dB rfl (.tmp 3) rfl rfl ?_) | (refine aB 53 (.tmp 21) rfl ?_;refine ak (g21) Tryz.underlying53 rfl bg rfl (.tmp 21) rfl rfl ?_) | (go_at_call 19;refine HC.out.mono ?_;rintro e w1 ⟨A1,c1,rfl,hr1,hb1⟩;have hbx:=Held.new w1 aZ 53;dsimp only) | (refine aO 53 (.tmp 30) (.tmp 214) rfl ?_;refine aF hbx (aJ s' A1 c1) rfl bg (fG _ _ _) rfl (.tmp 30) (.tmp 214) rfl rfl rfl ?_))
 obtain ⟨hq,hb2⟩:=yM.new hr1 hbx;have hbb:=hb1.trans (hb2.mono hb1.size);refine HK.out _ _ ?_;apply HN.out;exact ⟨HBB.out.1.below hbb,HBB.out.2.below hbb,by rw [HS.out,HM.out,HS'.out];exact hq,rfl⟩
theorem ahY (W0:World) (r:M.Rules) (l:List Sh) (Al:Option Addr) (cl:Nat) (p q:Int) (HG:Hid (Glob W0)) (HL:Hid (jQ W0 (fun b=>b<W0.heap.size) Al cl l)):Sl W0 r l Al cl p q:=by
 dsimp only [Sl,zC]
 intros
 rename_i W hf
 dsimp only [lD,eP,Tryz.f4,Option.getD]
 obtain ⟨hA,h21,h30,rfl⟩:=hf;obtain ⟨rfl,rfl,rfl,h3,h5,pl,ll,pr,qr,hbw⟩:=id hA;have rl:=hA.rl HL;obtain ⟨RS,A21,c21,rfl,g21,Zn⟩:=h21;obtain ⟨B30,A30,c30,rfl,g30,s30⟩:=h30;have HG9:=hide (HG.out.below hbw);have k0:=h5.cell (j:=0) rfl;have hw:IntKind.i64.wrap p=p:=rO p (by omega) (by omega)
 have hp2:p.tmod 2=0∨p.tmod 2=1:=by rw [Int.tmod_eq_emod_of_nonneg pr.1];omega
 obtain ⟨s,hs⟩:∃ q,(M.final r (M.start r) (plain l))=q:=⟨_,rfl⟩;obtain ⟨m,hm⟩:∃ q,p.tmod 2=q:=⟨_,rfl⟩;rw [hs] at g21 g30;rw [hm] at g30 hp2;have hw1:IntKind.i64.wrap (1 - m)=1 - m:=rO _ (by omega) (by omega);have q1:((1 - m) == (1 - m))=true:=beq_self_eq_true _;have e13:=g30.cell (j:=13) rfl;have e14:=g30.cell (j:=14) rfl;have XK:W.rangeAt B30 7 [.int .i64 s.s0,.int .i64 s.s1]:=Held.sub g30 7 _ (fun j v hj=>by match j,hj with | 0,hj=>exact hj | 1,hj=>exact hj);have XJ:W.rangeAt RS 7 [.int .i64 s.s0,.int .i64 s.s1]:=Held.sub g21 7 _ (fun j v hj=>by match j,hj with | 0,hj=>exact hj | 1,hj=>exact hj);obtain ⟨a,ha⟩:∃ q,s.s0=q:=⟨_,rfl⟩;obtain ⟨b,hb⟩:∃ q,s.s1=q:=⟨_,rfl⟩;rw [ha,hb] at XK XJ;have p1:=oZ a b a b
 simp only [beq_self_eq_true,Bool.and_self] at p1
 clear hs g21 g30 Zn s30 ha hb pl ll rl hp2;apply wp_seq_k;intro K hK;have HK:=hide hK;clear hK
 go_wp2_with (first | (refine aB 51 (.tmp 233) rfl ?_;refine dH (g:=B30) (o:=7) XK Tryz.underlying51 rfl pz rfl (.tmp 233) rfl rfl ?_) | (refine aB 51 (.tmp 233) rfl ?_;refine uJ (g:=B30) (o:=7) XK Tryz.underlying51 rfl pz rfl (.tmp 233) rfl rfl ?_) | (refine iR 51 (.tmp 233) rfl ?_;refine uK (g:=B30) (o:=7) XK Tryz.underlying51 rfl pz (.tmp 233) rfl rfl ?_) | (refine aB 51 (.tmp 235) rfl ?_;refine dH (g:=RS) (o:=7) XJ Tryz.underlying51 rfl pz rfl (.tmp 235) rfl rfl ?_) | (refine aB 51 (.tmp 235) rfl ?_;refine uJ (g:=RS) (o:=7) XJ Tryz.underlying51 rfl pz rfl (.tmp 235) rfl rfl ?_) | (refine iR 51 (.tmp 235) rfl ?_;refine uK (g:=RS) (o:=7) XJ Tryz.underlying51 rfl pz (.tmp 235) rfl rfl ?_) | (go_at_call 9;refine (tq _ HG9.out).mono ?_;rintro e w9 ⟨rfl,OE⟩;dsimp only))
 refine HK.out _ _ ?_;go_wp2;go_ret;exact ⟨rfl,jv hbw OE⟩
theorem LW (W0:World) (hg:Glob W0) (r:M.Rules) (l:List Sh) (Al:Option Addr) (cl:Nat) (p q:Int)
 (rl:jQ W0 (fun _=>True) Al cl l) (pl:∀ e∈l,e.x.aC.length*16≤140737488355328) (ll:l.length*80≤140737488355328) (hp:0≤p∧p≤255) (hq:0≤q∧q≤255):
 Calls Tryz.prog 4 #[iJ r,.slice Al l.length cl,.agg #[.int .u8 p,.int .u8 q]] W0 fun e w'=>e= .returned (.bool true)∧Below W0.heap.size W0 w':=by
 have HG:=hide hg;have HL:=hide (rl.more (S':=fun b=>b<W0.heap.size) (fun b hb _=>hb));have hall:=aqS W0 r l Al cl p q HG HL (hide (aqZ W0 r l Al cl p q HG HL (hide (aq6 W0 r l Al cl p q HG HL (hide (arf W0 r l Al cl p q HG HL (hide (aro W0 r l Al cl p q HG HL (hide (ahb W0 r l Al cl p q HG HL (hide (ahi W0 r l Al cl p q HG HL (hide (ahp W0 r l Al cl p q HG HL (hide (ahw W0 r l Al cl p q HG HL (hide (ahD W0 r l Al cl p q HG HL (hide (ahK W0 r l Al cl p q HG HL (hide (ahR W0 r l Al cl p q HG HL (hide (ahY W0 r l Al cl p q HG HL))))))))))))))))))))))));have ZA:=hide hall;clear hall
 go_enter Tryz.func4,Tryz.ntmps4
 apply wp_seq_k;intro K hK;have HK:=hide hK;clear hK;have hB:=((aX.nil W0).new (by simp) ([.string r.game,.int .i64 r.target,.int .i64 r.bD]) 23).new (by simp) ([.int .u8 p,.int .u8 q]) 60;go_wp2;refine HK.out _ _ ?_;have HA:=ZA.out;apply HA;exact ⟨rfl,rfl,rfl,hB.ah rfl,hB.get 1 rfl,pl,ll,hp,hq,hB.bw⟩
end Go.Proofs.YtcjglfbpjkdgiaaGreatDoor
