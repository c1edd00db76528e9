/- Parts of a proof. -/
import Derived.WalkMore
import Derived.Test.YtcjglfbpjkdgiaaGreatDoorKk24
import Derived.Test.YtcjglfbpjkdgiaaGreatDoorKk29
set_option maxHeartbeats 40000000
set_option maxRecDepth 100000
set_option linter.unusedVariables false
set_option linter.unusedSimpArgs false
namespace Go.Proofs.YtcjglfbpjkdgiaaGreatDoor
open Go.RowKit
def ku:List Value:=[.int .i64 0,.string ⟨#[]⟩,.int .i64 0,.int .i64 0,.int .i64 0,.bool false,.slice none 0 0]
theorem eG:(Tryz.prog.info? 36).map (·.size)=some 7:=by kernel_rfl
theorem Q7:(Tryz.prog.info? 72).map (fun i=>(i.zero,i.size,i.bytes))=some (some (.agg #[.int .i64 0,.int .i64 0]),2,16):=by kernel_rfl
theorem oI (x:M.aV) (A:Option Addr) (c:Nat):∀ v∈aA ⟨x,A,c⟩,v.oneCell'=true:=by simp [aA,Value.oneCell']
structure qQ (w:World) (B b0 o0:Nat) (ws:List (List UInt8)) (x:M.aV) (A:Option Addr) (c:Nat) (W:World):Prop where
 z:Held W w.heap.size ku 36
 bx:Held W B (aA ⟨x,A,c⟩) 36
 lo:w.heap.size<b0∧b0<B
 ws:∀ j (_:j<ws.length),W.cell? ⟨b0,o0+j,none⟩=some (.string ⟨ws[j].toArray⟩)
 own:W.ownsRow (B+1) 72 2 (.slice A x.aC.length c) x.aC.length (bZ x.aC)
 bw:Below w.heap.size w W
theorem qQ.set {w W:World} {B b0 o0:Nat} {ws:List (List UInt8)} {x x':M.aV} {A:Option Addr} {c:Nat} (h:qQ w B b0 o0 ws x A c W) (j:Nat) (u:Value) (he:aA ⟨x',A,c⟩=(aA ⟨x,A,c⟩).set j u) (hp:x'.aC=x.aC):qQ w B b0 o0 ws x' A c (W.setCell ⟨B,j,none⟩ u):=by
 obtain ⟨l1,l2⟩:=h.lo;refine ⟨h.z.other (by omega) _ _,by rw [he];exact h.bx.set j u,h.lo,fun k hk=>(World.cell?_setCell_other _ _ ⟨b0,o0+k,none⟩ u (fun e=>by injection e with e1;omega)).trans (h.ws k hk),?_,h.bw.setCell (p:=⟨B,j,none⟩) (by show w.heap.size≤B;omega) u⟩;rw [hp];exact dV h.own (fun g hg=>Below.heap_setCell W ⟨B,j,none⟩ u g (fun e=>by have:=(dh h.own hg).1;have e:g=B:=e;omega))
theorem qQ.append {w W w4:World} {B b0 o0 g1 k cap:Nat} {ws:List (List UInt8)} {x x':M.aV} {A:Option Addr} {c:Nat} {o:Obj} (h:qQ w B b0 o0 ws x A c W) (hgrow:(W.alloc o).grownBy w4 (Value.slice A x.aC.length c).ownBlock)
 (hown4:w4.ownsRow (B+1) 72 2 (.slice (some ⟨g1,0,none⟩) k cap) k (bZ x'.aC)) (hk:k=x'.aC.length) (he:aA ⟨x',some ⟨g1,0,none⟩,cap⟩=(aA ⟨x,A,c⟩).set 6 (.slice (some ⟨g1,0,none⟩) k cap)):
 Held w4 B (aA ⟨x,A,c⟩) 36∧qQ w B b0 o0 ws x' (some ⟨g1,0,none⟩) cap (w4.setCell ⟨B,6,none⟩ (.slice (some ⟨g1,0,none⟩) k cap)):=by
 obtain ⟨l1,l2⟩:=h.lo;have hBl:=h.bx.lt
 have hno:∀ b,b≤B→some b≠(Value.slice A x.aC.length c).ownBlock:=fun b hb e=>by have:=(dh h.own e.symm).1;omega
 have uw:Held w4 B (aA ⟨x,A,c⟩) 36:=(hgrow.block _ (by simp;omega) (hno _ (Nat.le_refl _))).trans (h.bx.alloc o);have hb4:Below w.heap.size w w4:=((h.bw.alloc (by have:=h.bw.size;omega) o).trans (eX (h.own.alloc o) hgrow (by omega) (by simp;omega)));refine ⟨uw,(show Held w4 w.heap.size ku 36 from (hgrow.block _ (by simp;omega) (hno _ (by omega))).trans (h.z.alloc o)).other (by omega) _ _,by rw [he];exact uw.set 6 _,h.lo,fun j hj=>?_,?_,hb4.setCell (p:=⟨B,6,none⟩) (by show w.heap.size≤B;omega) _⟩
 · rw [World.cell?_setCell_other _ _ ⟨b0,o0+j,none⟩ _ (fun e=>by injection e with e1;omega),hgrow.cell_far ⟨b0,o0+j,none⟩ (by simp;omega) (hno _ (by show b0≤B;omega)),World.cell?_alloc_lt _ _ ⟨b0,o0+j,none⟩ (by show b0<_;omega)]
   exact h.ws j hj
 · rw [← hk]
   refine dV hown4 (fun g hg=>Below.heap_setCell w4 _ _ g (fun e=>by have:=(dh hown4 hg).1;have e:g=B:=e;omega))
def xA:Except Int M.aV→M.aV × Int × Int
 | .error n=>(M.blank,n,25)
 | .ok x=>if M.bT x≠0 then (M.blank,0,M.bT x) else (x,0,0)
theorem Qw (l:List UInt8) (h:¬ 4096<l.length):M.parse l=xA (M.gK (M.words l)):=by
 unfold M.parse xA
 rw [if_neg h]
 cases M.gK (M.words l) <;> rfl
theorem X9 (w:List UInt8) (l:List (List UInt8)) (ha:w≠[97]) (hb:w≠[98]):M.gK (w::l)= .error 1:=by
 rw [M.gK.eq_def];simp only;rw [if_pos ⟨ha,hb⟩]
theorem MI (w:List UInt8) (hw:w=[97]∨w=[98]):M.gK [w]= .error 2:=by
 rw [M.gK.eq_def];simp only;rw [if_neg (by rintro ⟨h1,h2⟩;exact hw.elim h1 h2)]
theorem PX (w k:List UInt8) (l:List (List UInt8)) (hw:w=[97]∨w=[98]) (hk:M.jy k=false):M.gK (w::k::l)= .error 2:=by
 rw [M.gK.eq_def];simp only;rw [if_neg (by rintro ⟨h1,h2⟩;exact hw.elim h1 h2),if_pos hk]
theorem X8 (w k:List UInt8) (l:List (List UInt8)) (hw:w=[97]∨w=[98]) (hk:M.jy k=true):M.gK (w::k::l)=M.kG {M.blank with aG:=if w=[98] then 1 else 0,kind:=⟨k.toArray⟩ } 2 l:=by
 rw [M.gK.eq_def];simp only;rw [if_neg (by rintro ⟨h1,h2⟩;exact hw.elim h1 h2),if_neg (by rw [hk];decide),M.Kr]
theorem S9 {x:M.aV} {n a b:Int} {w:List UInt8} {l:List (List UInt8)} (h:M.dQ 99 w=some (a,b)) (ha:0<a) (hb:0<b):M.kG x n (w::l)=M.jq {x with aT:=a,aP:=b } (n+1) l:=by
 rw [M.kG,h,Option.filter_some,if_pos (by simpa using ⟨ha,hb⟩)]
theorem FH {x:M.aV} {n:Int} {w:List UInt8} {l:List (List UInt8)} (h:∀ a b,M.dQ 99 w=some (a,b)→¬ (0<a∧0<b)):M.kG x n (w::l)=M.jq x n (w::l):=by
 rw [M.kG]
 cases hp:M.dQ 99 w with
 | none=>rfl
 | some q=>rw [Option.filter_some,if_neg (by simpa using h q.1 q.2 hp)]
theorem Yb {x:M.aV} {n a:Int} {w:List UInt8} {l:List (List UInt8)} (h:M.rE w=some a) (ha:0<a):M.jq x n (w::l)=M.eF {x with first:=a } (n+1) l:=by
 rw [M.jq,h,Option.filter_some,if_pos (by simpa using ha)]
theorem F9 {x:M.aV} {n:Int} {w:List UInt8} {l:List (List UInt8)} (h:∀ a,M.rE w=some a→¬ 0<a):M.jq x n (w::l)=M.eF x n (w::l):=by
 rw [M.jq]
 cases hp:M.rE w with
 | none=>rfl
 | some q=>rw [Option.filter_some,if_neg (by simpa using h q hp)]
def eP:Nat→Code→Code
 | 0,c=>c
 | n+1,.seq _ b=>eP n b
 | _+1,c=>c
noncomputable def kW (n:Nat):Code:=eP n ((Tryz.f51).body.getD .skip)
theorem UA (l:List UInt8) (w:World) (ws:List (List UInt8)) (B b0 o0 c0:Nat) (rr:M.aV × Int × Int) (LG:Hid (∀ v∈ws,v.length≤l.length)) (hsz:(ByteArray.mk l.toArray).size=l.length) (hlong:¬ 4096<l.length) (hwn:ws.length≤4097) (hwb:ws.length≤c0∧c0≤9223372036854775807∧ws.length≤17592186044416):∀ (x:M.aV) (k:Nat) (v7:Value) (z1 z3 z4 z8 z9 z10 z11 z12 z13 qM qN qO z17 qP oV z20 z21 z22 z23 z24 z25 z26 z27 z28 z29 z30 z31 z32 z33 z34 z35 z36 z37 z38 z39 z40 z41 z42 z43 z44 z45 z46 z47 z48 z49 z50 z51 z52 z53 z54 z55 z56 z57 z58 z59 z60 z61 z62 z63 z64 z65 z66 z67 z68 z69 z70 z71 z72 z73 z74 z75 z76 z77 z78 z79 z80 yB z82 z83 z84 z85 z86 z87 yC z89 yD z91 yE z93 yF yG yH yI yJ yK lX lY lZ l7 l9 z105 mg z107 mD z109 mF mG mJ mM mO mP z116 z117 mQ z119 mV mW mX mY z124 mZ ng z127 ni ny z130 z131 nC nD nG nH nI nJ z138 z139 nK z141 nM z143 nN z145 z146 nO z148 nP nR nS z152 nT z154 nU z156 z157 nV z159 z160 nX z162 nY z164 nZ og z167 z168:Value) (wx:World),(v7= .int .i64 (k:Int)∧k≤ws.length∧x.aC=[]∧qQ w B b0 o0 ws x none 0 wx∧xA (M.fO x k (ws.drop k))=rr)→(kW 12).wp Tryz.prog (bodyPost Tryz.prog Tryz.f51 (fun e w'=>∃ A c,e= .returned (.tuple #[iy rr.1 A c,.int .i64 rr.2.1,.int .i64 rr.2.2])∧fP w' (fun b=>w.heap.size≤b) A c rr.1.aC∧Below w.heap.size w w')) {tmps:= #[.string ⟨l.toArray⟩,z1,ptr w.heap.size,z3,z4,.slice (some ⟨b0,o0,none⟩) ws.length c0,ptr B,v7,z8,z9,z10,z11,z12,z13,qM,qN,qO,z17,qP,oV,z20,z21,z22,z23,z24,z25,z26,z27,z28,z29,z30,z31,z32,z33,z34,z35,z36,z37,z38,z39,z40,z41,z42,z43,z44,z45,z46,z47,z48,z49,z50,z51,z52,z53,z54,z55,z56,z57,z58,z59,z60,z61,z62,z63,z64,z65,z66,z67,z68,z69,z70,z71,z72,z73,z74,z75,z76,z77,z78,z79,z80,yB,z82,z83,z84,z85,z86,z87,yC,z89,yD,z91,yE,z93,yF,yG,yH,yI,yJ,yK,lX,lY,lZ,l7,l9,z105,mg,z107,mD,z109,mF,mG,mJ,mM,mO,mP,z116,z117,mQ,z119,mV,mW,mX,mY,z124,mZ,ng,z127,ni,ny,z130,z131,nC,nD,nG,nH,nI,nJ,z138,z139,nK,z141,nM,z143,nN,z145,z146,nO,z148,nP,nR,nS,z152,nT,z154,nU,z156,z157,nV,z159,z160,nX,z162,nY,z164,nZ,og,z167,z168],defers:=[] } wx:=by
 intro x k v7 z1 z3 z4 z8 z9 z10 z11 z12 z13 qM qN qO z17 qP oV z20 z21 z22 z23 z24 z25 z26 z27 z28 z29 z30 z31 z32 z33 z34 z35 z36 z37 z38 z39 z40 z41 z42 z43 z44 z45 z46 z47 z48 z49 z50 z51 z52 z53 z54 z55 z56 z57 z58 z59 z60 z61 z62 z63 z64 z65 z66 z67 z68 z69 z70 z71 z72 z73 z74 z75 z76 z77 z78 z79 z80 yB z82 z83 z84 z85 z86 z87 yC z89 yD z91 yE z93 yF yG yH yI yJ yK lX lY lZ l7 l9 z105 mg z107 mD z109 mF mG mJ mM mO mP z116 z117 mQ z119 mV mW mX mY z124 mZ ng z127 ni ny z130 z131 nC nD nG nH nI nJ z138 z139 nK z141 nM z143 nN z145 z146 nO z148 nP nR nS z152 nT z154 nU z156 z157 nV z159 z160 nX z162 nY z164 nZ og z167 z168 wx hrel;obtain ⟨rfl,hk,hxp,st,hend⟩:=hrel;have HE:=hide hend;clear hend
 dsimp only [kW,eP,Tryz.f51,Option.getD]
 go_wp2
 go_loopw [7] (fun v wr=>∃ (k:Nat) (x:M.aV) (A:Option Addr) (c:Nat),v= .int .i64 (k:Int)∧k≤ws.length∧x.aC.length≤k∧qQ w B b0 o0 ws x A c wr∧Aside (xA (M.fO x k (ws.drop k))=rr)) (fun v _=>ws.length - (intOf v).toNat)
 case atStart=>exact ⟨k,x,none,0,rfl,hk,by rw [hxp];exact Nat.zero_le _,st,HE.out⟩
 case round=>
  obtain ⟨k,x,A,c,rfl,hk,hpl,st,HE⟩:=hrel;have HE:=hide HE
  by_cases hlt:k<ws.length
  · have hcw:=st.ws k hlt
    obtain ⟨wk,hwk⟩:∃ q,ws[k]=q:=⟨_,rfl⟩;have hdr:=List.drop_eq_getElem_cons hlt;rw [hwk] at hcw hdr;have HDR:=hide hdr;have hwl:=LG.out wk (by rw [← hwk];exact List.getElem_mem hlt);clear hwk hdr
    have i1:(0:Int)≤(k:Int):=by omega
    have i2:(k:Int)<(ws.length:Int):=by omega
    have hpr:=fun W=>Jp 112 wk W (by omega);have hpe:=Jm 112 wk;have hpv:=fun a b (h:M.dQ 112 wk=some (a,b))=>Jo h;obtain ⟨a1,a2,hpq⟩:∃ a b,zX 112 wk=(a,b):=⟨_,_,rfl⟩;obtain ⟨pb,hpb⟩:∃ b,Dt 112 wk=b:=⟨_,rfl⟩;rw [hpb] at hpe;rw [hpq] at hpv
    simp only [hpq,hpb] at hpr
    rw [show ((112:UInt8).toNat:Int)=112 from rfl] at hpr;have Xb:=hide hpr;have HPE:=hide hpe;have HPV:=hide hpv;clear hpr hpe hpv hpq hpb
    cases pb with
    | true=>
      have hpo:M.dQ 112 wk=some (a1,a2):=by
       cases hq:M.dQ 112 wk with
       | none=>have:=HPE.out;rw [hq] at this;exact absurd this (by decide)
       | some q=>obtain ⟨q1,q2⟩:=q;have:=HPV.out q1 q2 hq;cases this;rfl
      have c6:=st.bx.cell (j:=6) rfl;have f6:=st.bx.frozen 6;obtain ⟨i0,hi0,hz0,hz1,hz2⟩:=info_parts Q7
      have Zc:xA (M.fO {x with aC:=x.aC++[⟨a1,a2⟩] } ((k:Int)+1) (ws.drop (k+1)))=rr:=by
       have:=HE.out
       rw [HDR.out] at this;rw [M.fO,hpo] at this;exact this
      have HE2:=hide Zc;clear Zc hpo
      go_wp2_with (first | (go_at_call 106;refine (Xb.out _).mono ?_;rintro e w3 ⟨rfl,hw3⟩;subst hw3) | (at_builtin;refine wpList_append_lies _ rfl _ _ _ rfl (B+1) 72 i0 (.agg #[.int .i64 0,.int .i64 0]) 2 16 Tryz.underlying34 hi0 hz0 hz1 hz2 rfl (by omega) _ _ _ rfl (st.own.alloc _) ⟨wr.heap.size,0,none⟩ 1 1 [.int .i64 a1,.int .i64 a2] rfl rfl (dJ _ _ _ _ (by simp)) (by simp [Value.oneCell']) (by omega) (by simp only [maxLen];omega) (by omega) (by have:=st.bx.lt;simp;omega) (wr.heap.size+1) (by simp) ?_))
      intro g1 cap w4 hown4 hgrow _ _
      have hpc:bZ (x.aC++[⟨a1,a2⟩])=bZ x.aC++[.int .i64 a1,.int .i64 a2]:=by simp [bZ]
      obtain ⟨uw,hst⟩:=st.append (x':={x with aC:=x.aC++[⟨a1,a2⟩] }) hgrow (by rw [hpc];exact hown4) (by simp) (by simp [aA]);have d6:=uw.cell (j:=6) rfl;have e6:=uw.frozen 6;have HST:=hide hst;clear hst hgrow hown4 hpc;go_wp2
      go_roundw
      case rel=>exact ⟨k+1,{x with aC:=x.aC++[⟨a1,a2⟩] },_,_,by go_num,by omega,by simp;omega,HST.out,HE2.out⟩
      case measure=>simp [intOf] <;> omega
    | false=>
      have hr:rr=(M.blank,(k:Int)+1,25):=by
       have:=HE.out
       rw [HDR.out,M.fO] at this;rw [← this]
       cases hq:M.dQ 112 wk with
       | none=>rfl
       | some q=>have:=HPE.out;rw [hq] at this;cases this
      have HR:=hide hr;clear hr
      go_wp2_with (first | (go_at_call 106;refine (Xb.out _).mono ?_;rintro e w3 ⟨rfl,hw3⟩;subst hw3) | (refine aO 36 (.tmp 2) (.tmp 149) rfl ?_;refine aF (st.z) ku rfl eG (oI M.blank none 0) rfl (.tmp 2) (.tmp 149) rfl rfl rfl ?_))
      have hF:=(st.z).whole ku rfl;refine bodyPost_ret (gV (p:=2) hF Tryz.underlying36 rfl eG rfl _ rfl) rfl ⟨none,0,?_,?_,below_setCells _ (Nat.le_refl _) _ _ _ _ (st.bw)⟩
      · rw [HR.out];rfl
      · rw [HR.out];exact Reads.none_ _ _ _
  · have hke:k=ws.length:=by omega
    subst hke;have MN:fP wr (fun b=>B+1≤b) A c x.aC:=Reads.je st.own (fun b h=>h) (by omega);have hrd:fP wr (fun b=>w.heap.size≤b) A c x.aC:=Reads.more MN (fun b _ h=>by have h:B+1≤b:=h;have:=st.lo;show w.heap.size≤b;omega);have hck:=fun W (hb:Below wr.heap.size wr W)=>vS (fun b=>w.heap.size≤b) x A c W (Reads.below hrd hb);have hend:=HE.out;rw [List.drop_length] at hend
    unfold M.fO xA at hend
    simp only at hend
    obtain ⟨E,hE⟩:∃ E,M.bT x=E:=⟨_,rfl⟩;rw [hE] at hck hend;have vV:=hide hck;have HRD:=hide MN;clear hck hE hrd MN
    by_cases h3:E=0
    · have e1:rr=(x,0,0):=by rw [← hend,if_neg (by simp [h3])]
      have h3':(E != 0)=false:=by simp [h3]
      have HR:=hide e1;clear hend h3 e1
      go_wp2_with (first | (refine aB 36 (.tmp 6) rfl ?_;refine ak (st.bx) Tryz.underlying36 rfl eG rfl (.tmp 6) rfl rfl ?_) | (go_at_call 8;refine (vV.out _ (Below.refl _ _)).mono ?_;rintro e w5 ⟨rfl,hb5⟩;have Ue:=st.z.below hb5;have hx5:=st.bx.below hb5) | (refine aB 36 (.tmp 6) rfl ?_;refine ak (hx5) Tryz.underlying36 rfl eG rfl (.tmp 6) rfl rfl ?_) | (refine aO 36 (.tmp 2) (.tmp 168) rfl ?_;refine aF (Ue) (aA ⟨x,A,c⟩) rfl eG (oI x A c) rfl (.tmp 2) (.tmp 168) rfl rfl rfl ?_))
      have hF:=Ue.whole (aA ⟨x,A,c⟩) rfl;refine bodyPost_ret (gV (p:=2) hF Tryz.underlying36 rfl eG rfl _ rfl) rfl ⟨A,c,?_,?_,below_setCells _ (Nat.le_refl _) _ _ _ _ (st.bw.trans (hb5.mono st.bw.size))⟩
      · rw [HR.out];rfl
      · rw [HR.out]
        exact Reads.more (Reads.keep (Reads.below HRD.out hb5) (by rw [setCells_size];exact Nat.le_refl _) (fun b o hb hlt=>World.cell?_of_block (Held.lu (g:=w.heap.size) (b:=b) (by have hb:B+1≤b:=hb;have:=st.lo;omega) _ _ _))) (fun b _ h=>by have h:B+1≤b:=h;have:=st.lo;show w.heap.size≤b;omega)
    · have e1:rr=(M.blank,0,E):=by rw [← hend,if_pos (by simpa using h3)]
      have h3':(E != 0)=true:=by simp [h3]
      have HR:=hide e1;clear hend h3 e1
      go_wp2_with (first | (refine aB 36 (.tmp 6) rfl ?_;refine ak (st.bx) Tryz.underlying36 rfl eG rfl (.tmp 6) rfl rfl ?_) | (go_at_call 8;refine (vV.out _ (Below.refl _ _)).mono ?_;rintro e w5 ⟨rfl,hb5⟩;have Ue:=st.z.below hb5;have hx5:=st.bx.below hb5) | (refine aO 36 (.tmp 2) (.tmp 166) rfl ?_;refine aF (Ue) ku rfl eG (oI M.blank none 0) rfl (.tmp 2) (.tmp 166) rfl rfl rfl ?_))
      have hF:=(Ue).whole ku rfl;refine bodyPost_ret (gV (p:=2) hF Tryz.underlying36 rfl eG rfl _ rfl) rfl ⟨none,0,?_,?_,below_setCells _ (Nat.le_refl _) _ _ _ _ (st.bw.trans (hb5.mono st.bw.size))⟩
      · rw [HR.out];rfl
      · rw [HR.out];exact Reads.none_ _ _ _
theorem Uz (l:List UInt8) (w:World) (ws:List (List UInt8)) (B b0 o0 c0:Nat) (rr:M.aV × Int × Int) (LG:Hid (∀ v∈ws,v.length≤l.length)) (hsz:(ByteArray.mk l.toArray).size=l.length) (hlong:¬ 4096<l.length) (hwn:ws.length≤4097) (hwb:ws.length≤c0∧c0≤9223372036854775807∧ws.length≤17592186044416):∀ (x:M.aV) (k:Nat) (v7:Value) (z1 z3 z4 z8 z9 z10 z11 z12 z13 qM qN qO z17 qP oV z20 z21 z22 z23 z24 z25 z26 z27 z28 z29 z30 z31 z32 z33 z34 z35 z36 z37 z38 z39 z40 z41 z42 z43 z44 z45 z46 z47 z48 z49 z50 z51 z52 z53 z54 z55 z56 z57 z58 z59 z60 z61 z62 z63 z64 z65 z66 z67 z68 z69 z70 z71 z72 z73 z74 z75 z76 z77 z78 z79 z80 yB z82 z83 z84 z85 z86 z87 yC z89 yD z91 yE z93 yF yG yH yI yJ yK lX lY lZ l7 l9 z105 mg z107 mD z109 mF mG mJ mM mO mP z116 z117 mQ z119 mV mW mX mY z124 mZ ng z127 ni ny z130 z131 nC nD nG nH nI nJ z138 z139 nK z141 nM z143 nN z145 z146 nO z148 nP nR nS z152 nT z154 nU z156 z157 nV z159 z160 nX z162 nY z164 nZ og z167 z168:Value) (wx:World),(v7= .int .i64 (k:Int)∧k≤ws.length∧x.aC=[]∧qQ w B b0 o0 ws x none 0 wx∧xA (M.eF x k (ws.drop k))=rr)→(kW 11).wp Tryz.prog (bodyPost Tryz.prog Tryz.f51 (fun e w'=>∃ A c,e= .returned (.tuple #[iy rr.1 A c,.int .i64 rr.2.1,.int .i64 rr.2.2])∧fP w' (fun b=>w.heap.size≤b) A c rr.1.aC∧Below w.heap.size w w')) {tmps:= #[.string ⟨l.toArray⟩,z1,ptr w.heap.size,z3,z4,.slice (some ⟨b0,o0,none⟩) ws.length c0,ptr B,v7,z8,z9,z10,z11,z12,z13,qM,qN,qO,z17,qP,oV,z20,z21,z22,z23,z24,z25,z26,z27,z28,z29,z30,z31,z32,z33,z34,z35,z36,z37,z38,z39,z40,z41,z42,z43,z44,z45,z46,z47,z48,z49,z50,z51,z52,z53,z54,z55,z56,z57,z58,z59,z60,z61,z62,z63,z64,z65,z66,z67,z68,z69,z70,z71,z72,z73,z74,z75,z76,z77,z78,z79,z80,yB,z82,z83,z84,z85,z86,z87,yC,z89,yD,z91,yE,z93,yF,yG,yH,yI,yJ,yK,lX,lY,lZ,l7,l9,z105,mg,z107,mD,z109,mF,mG,mJ,mM,mO,mP,z116,z117,mQ,z119,mV,mW,mX,mY,z124,mZ,ng,z127,ni,ny,z130,z131,nC,nD,nG,nH,nI,nJ,z138,z139,nK,z141,nM,z143,nN,z145,z146,nO,z148,nP,nR,nS,z152,nT,z154,nU,z156,z157,nV,z159,z160,nX,z162,nY,z164,nZ,og,z167,z168],defers:=[] } wx:=by
 intro x k v7 z1 z3 z4 z8 z9 z10 z11 z12 z13 qM qN qO z17 qP oV z20 z21 z22 z23 z24 z25 z26 z27 z28 z29 z30 z31 z32 z33 z34 z35 z36 z37 z38 z39 z40 z41 z42 z43 z44 z45 z46 z47 z48 z49 z50 z51 z52 z53 z54 z55 z56 z57 z58 z59 z60 z61 z62 z63 z64 z65 z66 z67 z68 z69 z70 z71 z72 z73 z74 z75 z76 z77 z78 z79 z80 yB z82 z83 z84 z85 z86 z87 yC z89 yD z91 yE z93 yF yG yH yI yJ yK lX lY lZ l7 l9 z105 mg z107 mD z109 mF mG mJ mM mO mP z116 z117 mQ z119 mV mW mX mY z124 mZ ng z127 ni ny z130 z131 nC nD nG nH nI nJ z138 z139 nK z141 nM z143 nN z145 z146 nO z148 nP nR nS z152 nT z154 nU z156 z157 nV z159 z160 nX z162 nY z164 nZ og z167 z168 wx hrel;obtain ⟨rfl,hk,hxp,st,hend⟩:=hrel;have HE:=hide hend;clear hend
 dsimp only [kW,eP,Tryz.f51,Option.getD]
 go_upto_region 23 with (fail)
 rename_i K1 hK1 K9 hK9
 have J3:∀ (x:M.aV) (k:Nat) (v7:Value) (z1 z3 z4 z8 z9 z10 z11 z12 z13 qM qN qO z17 qP oV z20 z21 z22 z23 z24 z25 z26 z27 z28 z29 z30 z31 z32 z33 z34 z35 z36 z37 z38 z39 z40 z41 z42 z43 z44 z45 z46 z47 z48 z49 z50 z51 z52 z53 z54 z55 z56 z57 z58 z59 z60 z61 z62 z63 z64 z65 z66 z67 z68 z69 z70 z71 z72 z73 z74 z75 z76 z77 z78 z79 z80 yB z82 z83 z84 z85 z86 z87 yC z89 yD z91 yE z93 yF yG yH yI yJ yK lX lY lZ l7 l9 z105 mg z107 mD z109 mF mG mJ mM mO mP z116 z117 mQ z119 mV mW mX mY z124 mZ ng z127 ni ny z130 z131 nC nD nG nH nI nJ z138 z139 nK z141 nM z143 nN z145 z146 nO z148 nP nR nS z152 nT z154 nU z156 z157 nV z159 z160 nX z162 nY z164 nZ og z167 z168:Value) (wx:World),(v7= .int .i64 (k:Int)∧k≤ws.length∧x.aC=[]∧qQ w B b0 o0 ws x none 0 wx∧xA (M.fO x k (ws.drop k))=rr)→K1 {tmps:= #[.string ⟨l.toArray⟩,z1,ptr w.heap.size,z3,z4,.slice (some ⟨b0,o0,none⟩) ws.length c0,ptr B,v7,z8,z9,z10,z11,z12,z13,qM,qN,qO,z17,qP,oV,z20,z21,z22,z23,z24,z25,z26,z27,z28,z29,z30,z31,z32,z33,z34,z35,z36,z37,z38,z39,z40,z41,z42,z43,z44,z45,z46,z47,z48,z49,z50,z51,z52,z53,z54,z55,z56,z57,z58,z59,z60,z61,z62,z63,z64,z65,z66,z67,z68,z69,z70,z71,z72,z73,z74,z75,z76,z77,z78,z79,z80,yB,z82,z83,z84,z85,z86,z87,yC,z89,yD,z91,yE,z93,yF,yG,yH,yI,yJ,yK,lX,lY,lZ,l7,l9,z105,mg,z107,mD,z109,mF,mG,mJ,mM,mO,mP,z116,z117,mQ,z119,mV,mW,mX,mY,z124,mZ,ng,z127,ni,ny,z130,z131,nC,nD,nG,nH,nI,nJ,z138,z139,nK,z141,nM,z143,nN,z145,z146,nO,z148,nP,nR,nS,z152,nT,z154,nU,z156,z157,nV,z159,z160,nX,z162,nY,z164,nZ,og,z167,z168],defers:=[] } wx:=by
  intro x k v7 z1 z3 z4 z8 z9 z10 z11 z12 z13 qM qN qO z17 qP oV z20 z21 z22 z23 z24 z25 z26 z27 z28 z29 z30 z31 z32 z33 z34 z35 z36 z37 z38 z39 z40 z41 z42 z43 z44 z45 z46 z47 z48 z49 z50 z51 z52 z53 z54 z55 z56 z57 z58 z59 z60 z61 z62 z63 z64 z65 z66 z67 z68 z69 z70 z71 z72 z73 z74 z75 z76 z77 z78 z79 z80 yB z82 z83 z84 z85 z86 z87 yC z89 yD z91 yE z93 yF yG yH yI yJ yK lX lY lZ l7 l9 z105 mg z107 mD z109 mF mG mJ mM mO mP z116 z117 mQ z119 mV mW mX mY z124 mZ ng z127 ni ny z130 z131 nC nD nG nH nI nJ z138 z139 nK z141 nM z143 nN z145 z146 nO z148 nP nR nS z152 nT z154 nU z156 z157 nV z159 z160 nX z162 nY z164 nZ og z167 z168 wx hrel;refine hK1 _ _ ?_
  try dsimp only
  exact UA l w ws B b0 o0 c0 rr LG hsz hlong hwn hwb x k v7 z1 z3 z4 z8 z9 z10 z11 z12 z13 qM qN qO z17 qP oV z20 z21 z22 z23 z24 z25 z26 z27 z28 z29 z30 z31 z32 z33 z34 z35 z36 z37 z38 z39 z40 z41 z42 z43 z44 z45 z46 z47 z48 z49 z50 z51 z52 z53 z54 z55 z56 z57 z58 z59 z60 z61 z62 z63 z64 z65 z66 z67 z68 z69 z70 z71 z72 z73 z74 z75 z76 z77 z78 z79 z80 yB z82 z83 z84 z85 z86 z87 yC z89 yD z91 yE z93 yF yG yH yI yJ yK lX lY lZ l7 l9 z105 mg z107 mD z109 mF mG mJ mM mO mP z116 z117 mQ z119 mV mW mX mY z124 mZ ng z127 ni ny z130 z131 nC nD nG nH nI nJ z138 z139 nK z141 nM z143 nN z145 z146 nO z148 nP nR nS z152 nT z154 nU z156 z157 nV z159 z160 nX z162 nY z164 nZ og z167 z168 wx hrel
 clear hK1;have HJ3:=hide J3;clear J3
 by_cases hlt:k<ws.length
 · have hcw:=st.ws k hlt
   obtain ⟨wk,hwk⟩:∃ q,ws[k]=q:=⟨_,rfl⟩;have hdr:=List.drop_eq_getElem_cons hlt;rw [hwk] at hcw hdr;have HDR:=hide hdr;have hwl:=LG.out wk (by rw [← hwk];exact List.getElem_mem hlt);clear hwk hdr
   have i1:(0:Int)≤(k:Int):=by omega
   have i2:(k:Int)<(ws.length:Int):=by omega
   by_cases hc:wk=[43]
   · subst hc
     have c5:=st.bx.cell (j:=5) rfl;have f5:=st.bx.frozen 5;go_wp2;exact HJ3.out ({x with cO:=true }) (k+1) _ _ _ _ _ _ _ _ _ _ _ _ _ _ _ _ _ _ _ _ _ _ _ _ _ _ _ _ _ _ _ _ _ _ _ _ _ _ _ _ _ _ _ _ _ _ _ _ _ _ _ _ _ _ _ _ _ _ _ _ _ _ _ _ _ _ _ _ _ _ _ _ _ _ _ _ _ _ _ _ _ _ _ _ _ _ _ _ _ _ _ _ _ _ _ _ _ _ _ _ _ _ _ _ _ _ _ _ _ _ _ _ _ _ _ _ _ _ _ _ _ _ _ _ _ _ _ _ _ _ _ _ _ _ _ _ _ _ _ _ _ _ _ _ _ _ _ _ _ _ _ _ _ _ _ _ _ _ _ _ _ _ _ _ _ _ ⟨by first | rfl | go_num,by omega,hxp,qQ.set (x':={x with cO:=true }) st 5 (.bool true) rfl rfl,by have:=HE.out;rw [HDR.out,M.eF,if_pos rfl] at this;exact this⟩
   · have hb:(wk == [43])=false:=by simpa using hc
     have HC:=hide hc;clear hc;go_wp2;exact HJ3.out (x) (k) _ _ _ _ _ _ _ _ _ _ _ _ _ _ _ _ _ _ _ _ _ _ _ _ _ _ _ _ _ _ _ _ _ _ _ _ _ _ _ _ _ _ _ _ _ _ _ _ _ _ _ _ _ _ _ _ _ _ _ _ _ _ _ _ _ _ _ _ _ _ _ _ _ _ _ _ _ _ _ _ _ _ _ _ _ _ _ _ _ _ _ _ _ _ _ _ _ _ _ _ _ _ _ _ _ _ _ _ _ _ _ _ _ _ _ _ _ _ _ _ _ _ _ _ _ _ _ _ _ _ _ _ _ _ _ _ _ _ _ _ _ _ _ _ _ _ _ _ _ _ _ _ _ _ _ _ _ _ _ _ _ _ _ _ _ _ ⟨by first | rfl | go_num,by omega,hxp,st,by have:=HE.out;rw [HDR.out,M.eF,if_neg HC.out, ← HDR.out] at this;exact this⟩
 · have hke:k=ws.length:=by omega
   subst hke;go_wp2;exact HJ3.out (x) (ws.length) _ _ _ _ _ _ _ _ _ _ _ _ _ _ _ _ _ _ _ _ _ _ _ _ _ _ _ _ _ _ _ _ _ _ _ _ _ _ _ _ _ _ _ _ _ _ _ _ _ _ _ _ _ _ _ _ _ _ _ _ _ _ _ _ _ _ _ _ _ _ _ _ _ _ _ _ _ _ _ _ _ _ _ _ _ _ _ _ _ _ _ _ _ _ _ _ _ _ _ _ _ _ _ _ _ _ _ _ _ _ _ _ _ _ _ _ _ _ _ _ _ _ _ _ _ _ _ _ _ _ _ _ _ _ _ _ _ _ _ _ _ _ _ _ _ _ _ _ _ _ _ _ _ _ _ _ _ _ _ _ _ _ _ _ _ _ ⟨by first | rfl | go_num,by omega,hxp,st,by have:=HE.out;rw [List.drop_length] at this ⊢;exact this⟩
theorem Uy (l:List UInt8) (w:World) (ws:List (List UInt8)) (B b0 o0 c0:Nat) (rr:M.aV × Int × Int) (LG:Hid (∀ v∈ws,v.length≤l.length)) (hsz:(ByteArray.mk l.toArray).size=l.length) (hlong:¬ 4096<l.length) (hwn:ws.length≤4097) (hwb:ws.length≤c0∧c0≤9223372036854775807∧ws.length≤17592186044416):∀ (x:M.aV) (k:Nat) (v7:Value) (z1 z3 z4 z8 z9 z10 z11 z12 z13 qM qN qO z17 qP oV z20 z21 z22 z23 z24 z25 z26 z27 z28 z29 z30 z31 z32 z33 z34 z35 z36 z37 z38 z39 z40 z41 z42 z43 z44 z45 z46 z47 z48 z49 z50 z51 z52 z53 z54 z55 z56 z57 z58 z59 z60 z61 z62 z63 z64 z65 z66 z67 z68 z69 z70 z71 z72 z73 z74 z75 z76 z77 z78 z79 z80 yB z82 z83 z84 z85 z86 z87 yC z89 yD z91 yE z93 yF yG yH yI yJ yK lX lY lZ l7 l9 z105 mg z107 mD z109 mF mG mJ mM mO mP z116 z117 mQ z119 mV mW mX mY z124 mZ ng z127 ni ny z130 z131 nC nD nG nH nI nJ z138 z139 nK z141 nM z143 nN z145 z146 nO z148 nP nR nS z152 nT z154 nU z156 z157 nV z159 z160 nX z162 nY z164 nZ og z167 z168:Value) (wx:World),(v7= .int .i64 (k:Int)∧k≤ws.length∧x.aC=[]∧qQ w B b0 o0 ws x none 0 wx∧xA (M.jq x k (ws.drop k))=rr)→(kW 10).wp Tryz.prog (bodyPost Tryz.prog Tryz.f51 (fun e w'=>∃ A c,e= .returned (.tuple #[iy rr.1 A c,.int .i64 rr.2.1,.int .i64 rr.2.2])∧fP w' (fun b=>w.heap.size≤b) A c rr.1.aC∧Below w.heap.size w w')) {tmps:= #[.string ⟨l.toArray⟩,z1,ptr w.heap.size,z3,z4,.slice (some ⟨b0,o0,none⟩) ws.length c0,ptr B,v7,z8,z9,z10,z11,z12,z13,qM,qN,qO,z17,qP,oV,z20,z21,z22,z23,z24,z25,z26,z27,z28,z29,z30,z31,z32,z33,z34,z35,z36,z37,z38,z39,z40,z41,z42,z43,z44,z45,z46,z47,z48,z49,z50,z51,z52,z53,z54,z55,z56,z57,z58,z59,z60,z61,z62,z63,z64,z65,z66,z67,z68,z69,z70,z71,z72,z73,z74,z75,z76,z77,z78,z79,z80,yB,z82,z83,z84,z85,z86,z87,yC,z89,yD,z91,yE,z93,yF,yG,yH,yI,yJ,yK,lX,lY,lZ,l7,l9,z105,mg,z107,mD,z109,mF,mG,mJ,mM,mO,mP,z116,z117,mQ,z119,mV,mW,mX,mY,z124,mZ,ng,z127,ni,ny,z130,z131,nC,nD,nG,nH,nI,nJ,z138,z139,nK,z141,nM,z143,nN,z145,z146,nO,z148,nP,nR,nS,z152,nT,z154,nU,z156,z157,nV,z159,z160,nX,z162,nY,z164,nZ,og,z167,z168],defers:=[] } wx:=by
 intro x k v7 z1 z3 z4 z8 z9 z10 z11 z12 z13 qM qN qO z17 qP oV z20 z21 z22 z23 z24 z25 z26 z27 z28 z29 z30 z31 z32 z33 z34 z35 z36 z37 z38 z39 z40 z41 z42 z43 z44 z45 z46 z47 z48 z49 z50 z51 z52 z53 z54 z55 z56 z57 z58 z59 z60 z61 z62 z63 z64 z65 z66 z67 z68 z69 z70 z71 z72 z73 z74 z75 z76 z77 z78 z79 z80 yB z82 z83 z84 z85 z86 z87 yC z89 yD z91 yE z93 yF yG yH yI yJ yK lX lY lZ l7 l9 z105 mg z107 mD z109 mF mG mJ mM mO mP z116 z117 mQ z119 mV mW mX mY z124 mZ ng z127 ni ny z130 z131 nC nD nG nH nI nJ z138 z139 nK z141 nM z143 nN z145 z146 nO z148 nP nR nS z152 nT z154 nU z156 z157 nV z159 z160 nX z162 nY z164 nZ og z167 z168 wx hrel;obtain ⟨rfl,hk,hxp,st,hend⟩:=hrel;have HE:=hide hend;clear hend
 dsimp only [kW,eP,Tryz.f51,Option.getD]
 go_upto_region 18 with (fail)
 rename_i K2 hK2 K9 hK9
 have J2:∀ (x:M.aV) (k:Nat) (v7:Value) (z1 z3 z4 z8 z9 z10 z11 z12 z13 qM qN qO z17 qP oV z20 z21 z22 z23 z24 z25 z26 z27 z28 z29 z30 z31 z32 z33 z34 z35 z36 z37 z38 z39 z40 z41 z42 z43 z44 z45 z46 z47 z48 z49 z50 z51 z52 z53 z54 z55 z56 z57 z58 z59 z60 z61 z62 z63 z64 z65 z66 z67 z68 z69 z70 z71 z72 z73 z74 z75 z76 z77 z78 z79 z80 yB z82 z83 z84 z85 z86 z87 yC z89 yD z91 yE z93 yF yG yH yI yJ yK lX lY lZ l7 l9 z105 mg z107 mD z109 mF mG mJ mM mO mP z116 z117 mQ z119 mV mW mX mY z124 mZ ng z127 ni ny z130 z131 nC nD nG nH nI nJ z138 z139 nK z141 nM z143 nN z145 z146 nO z148 nP nR nS z152 nT z154 nU z156 z157 nV z159 z160 nX z162 nY z164 nZ og z167 z168:Value) (wx:World),(v7= .int .i64 (k:Int)∧k≤ws.length∧x.aC=[]∧qQ w B b0 o0 ws x none 0 wx∧xA (M.eF x k (ws.drop k))=rr)→K2 {tmps:= #[.string ⟨l.toArray⟩,z1,ptr w.heap.size,z3,z4,.slice (some ⟨b0,o0,none⟩) ws.length c0,ptr B,v7,z8,z9,z10,z11,z12,z13,qM,qN,qO,z17,qP,oV,z20,z21,z22,z23,z24,z25,z26,z27,z28,z29,z30,z31,z32,z33,z34,z35,z36,z37,z38,z39,z40,z41,z42,z43,z44,z45,z46,z47,z48,z49,z50,z51,z52,z53,z54,z55,z56,z57,z58,z59,z60,z61,z62,z63,z64,z65,z66,z67,z68,z69,z70,z71,z72,z73,z74,z75,z76,z77,z78,z79,z80,yB,z82,z83,z84,z85,z86,z87,yC,z89,yD,z91,yE,z93,yF,yG,yH,yI,yJ,yK,lX,lY,lZ,l7,l9,z105,mg,z107,mD,z109,mF,mG,mJ,mM,mO,mP,z116,z117,mQ,z119,mV,mW,mX,mY,z124,mZ,ng,z127,ni,ny,z130,z131,nC,nD,nG,nH,nI,nJ,z138,z139,nK,z141,nM,z143,nN,z145,z146,nO,z148,nP,nR,nS,z152,nT,z154,nU,z156,z157,nV,z159,z160,nX,z162,nY,z164,nZ,og,z167,z168],defers:=[] } wx:=by
  intro x k v7 z1 z3 z4 z8 z9 z10 z11 z12 z13 qM qN qO z17 qP oV z20 z21 z22 z23 z24 z25 z26 z27 z28 z29 z30 z31 z32 z33 z34 z35 z36 z37 z38 z39 z40 z41 z42 z43 z44 z45 z46 z47 z48 z49 z50 z51 z52 z53 z54 z55 z56 z57 z58 z59 z60 z61 z62 z63 z64 z65 z66 z67 z68 z69 z70 z71 z72 z73 z74 z75 z76 z77 z78 z79 z80 yB z82 z83 z84 z85 z86 z87 yC z89 yD z91 yE z93 yF yG yH yI yJ yK lX lY lZ l7 l9 z105 mg z107 mD z109 mF mG mJ mM mO mP z116 z117 mQ z119 mV mW mX mY z124 mZ ng z127 ni ny z130 z131 nC nD nG nH nI nJ z138 z139 nK z141 nM z143 nN z145 z146 nO z148 nP nR nS z152 nT z154 nU z156 z157 nV z159 z160 nX z162 nY z164 nZ og z167 z168 wx hrel;refine hK2 _ _ ?_
  try dsimp only
  exact Uz l w ws B b0 o0 c0 rr LG hsz hlong hwn hwb x k v7 z1 z3 z4 z8 z9 z10 z11 z12 z13 qM qN qO z17 qP oV z20 z21 z22 z23 z24 z25 z26 z27 z28 z29 z30 z31 z32 z33 z34 z35 z36 z37 z38 z39 z40 z41 z42 z43 z44 z45 z46 z47 z48 z49 z50 z51 z52 z53 z54 z55 z56 z57 z58 z59 z60 z61 z62 z63 z64 z65 z66 z67 z68 z69 z70 z71 z72 z73 z74 z75 z76 z77 z78 z79 z80 yB z82 z83 z84 z85 z86 z87 yC z89 yD z91 yE z93 yF yG yH yI yJ yK lX lY lZ l7 l9 z105 mg z107 mD z109 mF mG mJ mM mO mP z116 z117 mQ z119 mV mW mX mY z124 mZ ng z127 ni ny z130 z131 nC nD nG nH nI nJ z138 z139 nK z141 nM z143 nN z145 z146 nO z148 nP nR nS z152 nT z154 nU z156 z157 nV z159 z160 nX z162 nY z164 nZ og z167 z168 wx hrel
 clear hK2;have HJ2:=hide J2;clear J2
 by_cases hlt:k<ws.length
 · have hcw:=st.ws k hlt
   obtain ⟨wk,hwk⟩:∃ q,ws[k]=q:=⟨_,rfl⟩;have hdr:=List.drop_eq_getElem_cons hlt;rw [hwk] at hcw hdr;have HDR:=hide hdr;have hwl:=LG.out wk (by rw [← hwk];exact List.getElem_mem hlt);clear hwk hdr
   have i1:(0:Int)≤(k:Int):=by omega
   have i2:(k:Int)<(ws.length:Int):=by omega
   have hsw:=iM wk
   by_cases hwe:wk=[]
   · have HWE:=hide hwe
     have aEg:(ByteArray.mk wk.toArray).size=0:=by rw [hsw,hwe];rfl
     clear hwe hsw;go_wp2;exact HJ2.out (x) (k) _ _ _ _ _ _ _ _ _ _ _ _ _ _ _ _ _ _ _ _ _ _ _ _ _ _ _ _ _ _ _ _ _ _ _ _ _ _ _ _ _ _ _ _ _ _ _ _ _ _ _ _ _ _ _ _ _ _ _ _ _ _ _ _ _ _ _ _ _ _ _ _ _ _ _ _ _ _ _ _ _ _ _ _ _ _ _ _ _ _ _ _ _ _ _ _ _ _ _ _ _ _ _ _ _ _ _ _ _ _ _ _ _ _ _ _ _ _ _ _ _ _ _ _ _ _ _ _ _ _ _ _ _ _ _ _ _ _ _ _ _ _ _ _ _ _ _ _ _ _ _ _ _ _ _ _ _ _ _ _ _ _ _ _ _ _ ⟨by first | rfl | go_num,by omega,hxp,st,by have:=HE.out;rw [HDR.out,F9 (fun a h=>by rw [HWE.out] at h;cases h), ← HDR.out] at this;exact this⟩
   · obtain ⟨ch,tl,hwc⟩:=List.exists_cons_of_ne_nil hwe
     have hlw:wk.length=tl.length+1:=by rw [hwc];rfl
     have hl0:0<(ByteArray.mk wk.toArray).size:=by rw [hsw];omega
     have hix:(ByteArray.mk wk.toArray)[0]'hl0=ch:=by subst hwc;rfl
     have HWC:=hide hwc
     by_cases hc:ch=102
     · have hex:(ByteArray.mk wk.toArray).extract 1 (tl.length+1)=⟨tl.toArray⟩:=by rw [BD,hwc];simp
       have hho:M.rE wk=M.num tl:=by rw [hwc,hc];rfl
       have HHO:=hide hho;subst hc;have hnu:=fun W=>wM tl W (by omega);clear hwc hho hwe;obtain ⟨nv,hnv⟩:∃ q,pY tl=q:=⟨_,rfl⟩;obtain ⟨nb,hnb⟩:∃ q,pI tl=q:=⟨_,rfl⟩;rw [hnv,hnb] at hnu;have HNV:=hide hnv;have HNB:=hide hnb;have HNU:=hide hnu;clear hnu hnv hnb
       cases nb with
       | true=>
         have hns:M.num tl=some nv:=by
          have h1:=HNB.out;have h2:=HNV.out
          unfold pI at h1
          unfold pY at h2
          cases hq:M.num tl with
          | none=>rw [hq] at h1;cases h1
          | some q=>rw [hq] at h2;rw [← h2];rfl
         have Hy:=hide hns;clear hns
         by_cases hn0:0<nv
         · have c4:=st.bx.cell (j:=4) rfl
           have f4:=st.bx.frozen 4
           go_wp2_with (go_at_call 107;refine (HNU.out _).mono ?_;rintro e w3 ⟨rfl,hw3⟩;subst hw3;dsimp only)
           exact HJ2.out ({x with first:=nv }) (k+1) _ _ _ _ _ _ _ _ _ _ _ _ _ _ _ _ _ _ _ _ _ _ _ _ _ _ _ _ _ _ _ _ _ _ _ _ _ _ _ _ _ _ _ _ _ _ _ _ _ _ _ _ _ _ _ _ _ _ _ _ _ _ _ _ _ _ _ _ _ _ _ _ _ _ _ _ _ _ _ _ _ _ _ _ _ _ _ _ _ _ _ _ _ _ _ _ _ _ _ _ _ _ _ _ _ _ _ _ _ _ _ _ _ _ _ _ _ _ _ _ _ _ _ _ _ _ _ _ _ _ _ _ _ _ _ _ _ _ _ _ _ _ _ _ _ _ _ _ _ _ _ _ _ _ _ _ _ _ _ _ _ _ _ _ _ _ ⟨by first | rfl | go_num,by omega,hxp,qQ.set (x':={x with first:=nv }) st 4 (.int .i64 nv) rfl rfl,by have:=HE.out;rw [HDR.out,Yb (HHO.out.trans Hy.out) hn0] at this;exact this⟩
         · go_wp2_with (go_at_call 107;refine (HNU.out _).mono ?_;rintro e w3 ⟨rfl,hw3⟩;subst hw3;dsimp only)
           exact HJ2.out (x) (k) _ _ _ _ _ _ _ _ _ _ _ _ _ _ _ _ _ _ _ _ _ _ _ _ _ _ _ _ _ _ _ _ _ _ _ _ _ _ _ _ _ _ _ _ _ _ _ _ _ _ _ _ _ _ _ _ _ _ _ _ _ _ _ _ _ _ _ _ _ _ _ _ _ _ _ _ _ _ _ _ _ _ _ _ _ _ _ _ _ _ _ _ _ _ _ _ _ _ _ _ _ _ _ _ _ _ _ _ _ _ _ _ _ _ _ _ _ _ _ _ _ _ _ _ _ _ _ _ _ _ _ _ _ _ _ _ _ _ _ _ _ _ _ _ _ _ _ _ _ _ _ _ _ _ _ _ _ _ _ _ _ _ _ _ _ _ ⟨by first | rfl | go_num,by omega,hxp,st,by have:=HE.out;rw [HDR.out,F9 (fun a h=>by rw [HHO.out,Hy.out] at h;cases h;omega), ← HDR.out] at this;exact this⟩
       | false=>
         go_wp2_with (go_at_call 107;refine (HNU.out _).mono ?_;rintro e w3 ⟨rfl,hw3⟩;subst hw3;dsimp only)
         exact HJ2.out (x) (k) _ _ _ _ _ _ _ _ _ _ _ _ _ _ _ _ _ _ _ _ _ _ _ _ _ _ _ _ _ _ _ _ _ _ _ _ _ _ _ _ _ _ _ _ _ _ _ _ _ _ _ _ _ _ _ _ _ _ _ _ _ _ _ _ _ _ _ _ _ _ _ _ _ _ _ _ _ _ _ _ _ _ _ _ _ _ _ _ _ _ _ _ _ _ _ _ _ _ _ _ _ _ _ _ _ _ _ _ _ _ _ _ _ _ _ _ _ _ _ _ _ _ _ _ _ _ _ _ _ _ _ _ _ _ _ _ _ _ _ _ _ _ _ _ _ _ _ _ _ _ _ _ _ _ _ _ _ _ _ _ _ _ _ _ _ _ ⟨by first | rfl | go_num,by omega,hxp,st,by have:=HE.out;rw [HDR.out,F9 (fun a h=>by have h1:=HNB.out;unfold pI at h1;rw [HHO.out] at h;rw [h] at h1;cases h1), ← HDR.out] at this;exact this⟩
     · have hcx:(((ch.toNat:Nat):Int) == 102)=false:=by
        rw [beq_eq_false_iff_ne];intro e;exact hc (UInt8.toNat_inj.1 (by show ch.toNat=102;omega))
       have HC:=hide hc;clear hc hwc hwe;go_wp2;exact HJ2.out (x) (k) _ _ _ _ _ _ _ _ _ _ _ _ _ _ _ _ _ _ _ _ _ _ _ _ _ _ _ _ _ _ _ _ _ _ _ _ _ _ _ _ _ _ _ _ _ _ _ _ _ _ _ _ _ _ _ _ _ _ _ _ _ _ _ _ _ _ _ _ _ _ _ _ _ _ _ _ _ _ _ _ _ _ _ _ _ _ _ _ _ _ _ _ _ _ _ _ _ _ _ _ _ _ _ _ _ _ _ _ _ _ _ _ _ _ _ _ _ _ _ _ _ _ _ _ _ _ _ _ _ _ _ _ _ _ _ _ _ _ _ _ _ _ _ _ _ _ _ _ _ _ _ _ _ _ _ _ _ _ _ _ _ _ _ _ _ _ ⟨by first | rfl | go_num,by omega,hxp,st,by have:=HE.out;rw [HDR.out,F9 (fun a h=>by rw [HWC.out] at h;have h:(if ch=102 then M.num tl else none)=some a:=h;rw [if_neg HC.out] at h;cases h), ← HDR.out] at this;exact this⟩
 · have hke:k=ws.length:=by omega
   subst hke;go_wp2;exact HJ2.out (x) (ws.length) _ _ _ _ _ _ _ _ _ _ _ _ _ _ _ _ _ _ _ _ _ _ _ _ _ _ _ _ _ _ _ _ _ _ _ _ _ _ _ _ _ _ _ _ _ _ _ _ _ _ _ _ _ _ _ _ _ _ _ _ _ _ _ _ _ _ _ _ _ _ _ _ _ _ _ _ _ _ _ _ _ _ _ _ _ _ _ _ _ _ _ _ _ _ _ _ _ _ _ _ _ _ _ _ _ _ _ _ _ _ _ _ _ _ _ _ _ _ _ _ _ _ _ _ _ _ _ _ _ _ _ _ _ _ _ _ _ _ _ _ _ _ _ _ _ _ _ _ _ _ _ _ _ _ _ _ _ _ _ _ _ _ _ _ _ _ ⟨by first | rfl | go_num,by omega,hxp,st,by have:=HE.out;rw [List.drop_length] at this ⊢;exact this⟩
theorem Ux (l:List UInt8) (w:World) (ws:List (List UInt8)) (B b0 o0 c0:Nat) (rr:M.aV × Int × Int) (LG:Hid (∀ v∈ws,v.length≤l.length)) (hsz:(ByteArray.mk l.toArray).size=l.length) (hlong:¬ 4096<l.length) (hwn:ws.length≤4097) (hwb:ws.length≤c0∧c0≤9223372036854775807∧ws.length≤17592186044416) (w0:List UInt8) (HD0:Hid (ws=w0::ws.drop (0+1))) (HW:Hid (w0=[97]∨w0=[98])) (HRR:Hid (xA (M.gK ws)=rr)):∀ (pl:Int) (z1 z3 z4 z7 z8 z9 z10 z11 z12 z13 qM qN qO z17 qP oV z20 z21 z22 z23 z24 z25 z26 z27 z28 z29 z30 z31 z32 z33 z34 z35 z36 z37 z38 z39 z40 z41 z42 z43 z44 z45 z46 z47 z48 z49 z50 z51 z52 z53 z54 z55 z56 z57 z58 z59 z60 z61 z62 z63 z64 z65 z66 z67 z68 z69 z70 z71 z72 z73 z74 z75 z76 z77 z78 z79 z80 yB z82 z83 z84 z85 z86 z87 yC z89 yD z91 yE z93 yF yG yH yI yJ yK lX lY lZ l7 l9 z105 mg z107 mD z109 mF mG mJ mM mO mP z116 z117 mQ z119 mV mW mX mY z124 mZ ng z127 ni ny z130 z131 nC nD nG nH nI nJ z138 z139 nK z141 nM z143 nN z145 z146 nO z148 nP nR nS z152 nT z154 nU z156 z157 nV z159 z160 nX z162 nY z164 nZ og z167 z168:Value) (wx:World),(pl=(if w0=[98] then 1 else 0)∧qQ w B b0 o0 ws {M.blank with aG:=pl } none 0 wx)→(kW 6).wp Tryz.prog (bodyPost Tryz.prog Tryz.f51 (fun e w'=>∃ A c,e= .returned (.tuple #[iy rr.1 A c,.int .i64 rr.2.1,.int .i64 rr.2.2])∧fP w' (fun b=>w.heap.size≤b) A c rr.1.aC∧Below w.heap.size w w')) {tmps:= #[.string ⟨l.toArray⟩,z1,ptr w.heap.size,z3,z4,.slice (some ⟨b0,o0,none⟩) ws.length c0,ptr B,z7,z8,z9,z10,z11,z12,z13,qM,qN,qO,z17,qP,oV,z20,z21,z22,z23,z24,z25,z26,z27,z28,z29,z30,z31,z32,z33,z34,z35,z36,z37,z38,z39,z40,z41,z42,z43,z44,z45,z46,z47,z48,z49,z50,z51,z52,z53,z54,z55,z56,z57,z58,z59,z60,z61,z62,z63,z64,z65,z66,z67,z68,z69,z70,z71,z72,z73,z74,z75,z76,z77,z78,z79,z80,yB,z82,z83,z84,z85,z86,z87,yC,z89,yD,z91,yE,z93,yF,yG,yH,yI,yJ,yK,lX,lY,lZ,l7,l9,z105,mg,z107,mD,z109,mF,mG,mJ,mM,mO,mP,z116,z117,mQ,z119,mV,mW,mX,mY,z124,mZ,ng,z127,ni,ny,z130,z131,nC,nD,nG,nH,nI,nJ,z138,z139,nK,z141,nM,z143,nN,z145,z146,nO,z148,nP,nR,nS,z152,nT,z154,nU,z156,z157,nV,z159,z160,nX,z162,nY,z164,nZ,og,z167,z168],defers:=[] } wx:=by
 intro pl z1 z3 z4 z7 z8 z9 z10 z11 z12 z13 qM qN qO z17 qP oV z20 z21 z22 z23 z24 z25 z26 z27 z28 z29 z30 z31 z32 z33 z34 z35 z36 z37 z38 z39 z40 z41 z42 z43 z44 z45 z46 z47 z48 z49 z50 z51 z52 z53 z54 z55 z56 z57 z58 z59 z60 z61 z62 z63 z64 z65 z66 z67 z68 z69 z70 z71 z72 z73 z74 z75 z76 z77 z78 z79 z80 yB z82 z83 z84 z85 z86 z87 yC z89 yD z91 yE z93 yF yG yH yI yJ yK lX lY lZ l7 l9 z105 mg z107 mD z109 mF mG mJ mM mO mP z116 z117 mQ z119 mV mW mX mY z124 mZ ng z127 ni ny z130 z131 nC nD nG nH nI nJ z138 z139 nK z141 nM z143 nN z145 z146 nO z148 nP nR nS z152 nT z154 nU z156 z157 nV z159 z160 nX z162 nY z164 nZ og z167 z168 wx hrel
 dsimp only [kW,eP,Tryz.f51,Option.getD]
 obtain ⟨hpl,st⟩:=hrel;have uD:=hide hpl;clear hpl
 by_cases hn:ws.length<2
 · have hr:rr=(M.blank,2,25):=by
    have hd:ws.drop (0+1)=[]:=List.drop_eq_nil_of_le (by omega);rw [← HRR.out,HD0.out,hd,MI w0 HW.out]
    rfl
   have i3:(ws.length:Int)<2:=by omega
   have HR:=hide hr;clear hr
   go_wp2_with (first | (refine aO 36 (.tmp 2) (.tmp 49) rfl ?_;refine aF (st.z) ku rfl eG (oI M.blank none 0) rfl (.tmp 2) (.tmp 49) rfl rfl rfl ?_))
   have hF:=(st.z).whole ku rfl;refine bodyPost_ret (gV (p:=2) hF Tryz.underlying36 rfl eG rfl _ rfl) rfl ⟨none,0,?_,?_,below_setCells _ (Nat.le_refl _) _ _ _ _ (st.bw)⟩
   · rw [HR.out];rfl
   · rw [HR.out];exact Reads.none_ _ _ _
 · have hlt:1<ws.length:=by omega
   have i3:¬ (ws.length:Int)<2:=by omega
   have i4:(1:Int)<(ws.length:Int):=by omega
   have hcw:=st.ws 1 hlt;obtain ⟨wk,hwk⟩:∃ q,ws[1]=q:=⟨_,rfl⟩;have hdr:=List.drop_eq_getElem_cons hlt;rw [hwk] at hcw hdr;have HDR:=hide hdr;have hwl:=LG.out wk (by rw [← hwk];exact List.getElem_mem hlt);clear hwk hdr;have hkd:=fun W=>kT ⟨wk.toArray⟩ W;obtain ⟨kb,hkb⟩:∃ q,M.jy wk=q:=⟨_,rfl⟩;have hkb':M.isKind ⟨wk.toArray⟩=kb:=hkb;rw [hkb'] at hkd;have HKD:=hide hkd;have HKB:=hide hkb;clear hkd hkb hkb'
   cases kb with
   | false=>
     have hr:rr=(M.blank,2,25):=by
      have h1:ws=w0::wk::ws.drop 2:=HD0.out.trans (congrArg (w0:: ·) HDR.out);rw [← HRR.out,h1,PX w0 wk _ HW.out HKB.out]
      rfl
     have HR:=hide hr;clear hr
     go_wp2_with (first | (go_at_call 24;refine (HKD.out _).mono ?_;rintro e w3 ⟨rfl,hw3⟩;subst hw3) | (refine aO 36 (.tmp 2) (.tmp 49) rfl ?_;refine aF (st.z) ku rfl eG (oI M.blank none 0) rfl (.tmp 2) (.tmp 49) rfl rfl rfl ?_))
     have hF:=(st.z).whole ku rfl;refine bodyPost_ret (gV (p:=2) hF Tryz.underlying36 rfl eG rfl _ rfl) rfl ⟨none,0,?_,?_,below_setCells _ (Nat.le_refl _) _ _ _ _ (st.bw)⟩
     · rw [HR.out];rfl
     · rw [HR.out];exact Reads.none_ _ _ _
   | true=>
     have hend:xA (M.kG {M.blank with aG:=pl,kind:=⟨wk.toArray⟩ } 2 (ws.drop 2))=rr:=by
      have h1:ws=w0::wk::ws.drop 2:=HD0.out.trans (congrArg (w0:: ·) HDR.out);rw [← HRR.out,h1,X8 w0 wk _ HW.out HKB.out, ← uD.out]
      rfl
     have HE:=hide hend;clear hend;have c1:=st.bx.cell (j:=1) rfl;have f1:=st.bx.frozen 1
     go_upto_region 13 with (first | (go_at_call 24;refine (HKD.out _).mono ?_;rintro e w3 ⟨rfl,hw3⟩;subst hw3))
     have st:=qQ.set (x':={M.blank with aG:=pl,kind:=⟨wk.toArray⟩ }) st 1 (.string ⟨wk.toArray⟩) rfl rfl;obtain ⟨W2,hW2⟩:∃ W2,wx.setCell ⟨B,1,none⟩ (.string ⟨wk.toArray⟩)=W2:=⟨_,rfl⟩;rw [hW2] at st ⊢;obtain ⟨x,hx⟩:∃ x,({M.blank with aG:=pl,kind:=⟨wk.toArray⟩ }:M.aV)=x:=⟨_,rfl⟩
     have hxp:x.aC=[]:=by rw [← hx];rfl
     rw [hx] at HE st;clear hx hW2 c1 f1 hcw HDR hwl HKD HKB
     go_upto_region 13 with (fail)
     rename_i K3 hK3 K9 hK9
     have J1:∀ (x:M.aV) (k:Nat) (v7:Value) (z1 z3 z4 z8 z9 z10 z11 z12 z13 qM qN qO z17 qP oV z20 z21 z22 z23 z24 z25 z26 z27 z28 z29 z30 z31 z32 z33 z34 z35 z36 z37 z38 z39 z40 z41 z42 z43 z44 z45 z46 z47 z48 z49 z50 z51 z52 z53 z54 z55 z56 z57 z58 z59 z60 z61 z62 z63 z64 z65 z66 z67 z68 z69 z70 z71 z72 z73 z74 z75 z76 z77 z78 z79 z80 yB z82 z83 z84 z85 z86 z87 yC z89 yD z91 yE z93 yF yG yH yI yJ yK lX lY lZ l7 l9 z105 mg z107 mD z109 mF mG mJ mM mO mP z116 z117 mQ z119 mV mW mX mY z124 mZ ng z127 ni ny z130 z131 nC nD nG nH nI nJ z138 z139 nK z141 nM z143 nN z145 z146 nO z148 nP nR nS z152 nT z154 nU z156 z157 nV z159 z160 nX z162 nY z164 nZ og z167 z168:Value) (wx:World),(v7= .int .i64 (k:Int)∧k≤ws.length∧x.aC=[]∧qQ w B b0 o0 ws x none 0 wx∧xA (M.jq x k (ws.drop k))=rr)→K3 {tmps:= #[.string ⟨l.toArray⟩,z1,ptr w.heap.size,z3,z4,.slice (some ⟨b0,o0,none⟩) ws.length c0,ptr B,v7,z8,z9,z10,z11,z12,z13,qM,qN,qO,z17,qP,oV,z20,z21,z22,z23,z24,z25,z26,z27,z28,z29,z30,z31,z32,z33,z34,z35,z36,z37,z38,z39,z40,z41,z42,z43,z44,z45,z46,z47,z48,z49,z50,z51,z52,z53,z54,z55,z56,z57,z58,z59,z60,z61,z62,z63,z64,z65,z66,z67,z68,z69,z70,z71,z72,z73,z74,z75,z76,z77,z78,z79,z80,yB,z82,z83,z84,z85,z86,z87,yC,z89,yD,z91,yE,z93,yF,yG,yH,yI,yJ,yK,lX,lY,lZ,l7,l9,z105,mg,z107,mD,z109,mF,mG,mJ,mM,mO,mP,z116,z117,mQ,z119,mV,mW,mX,mY,z124,mZ,ng,z127,ni,ny,z130,z131,nC,nD,nG,nH,nI,nJ,z138,z139,nK,z141,nM,z143,nN,z145,z146,nO,z148,nP,nR,nS,z152,nT,z154,nU,z156,z157,nV,z159,z160,nX,z162,nY,z164,nZ,og,z167,z168],defers:=[] } wx:=by
      intro x k v7 z1 z3 z4 z8 z9 z10 z11 z12 z13 qM qN qO z17 qP oV z20 z21 z22 z23 z24 z25 z26 z27 z28 z29 z30 z31 z32 z33 z34 z35 z36 z37 z38 z39 z40 z41 z42 z43 z44 z45 z46 z47 z48 z49 z50 z51 z52 z53 z54 z55 z56 z57 z58 z59 z60 z61 z62 z63 z64 z65 z66 z67 z68 z69 z70 z71 z72 z73 z74 z75 z76 z77 z78 z79 z80 yB z82 z83 z84 z85 z86 z87 yC z89 yD z91 yE z93 yF yG yH yI yJ yK lX lY lZ l7 l9 z105 mg z107 mD z109 mF mG mJ mM mO mP z116 z117 mQ z119 mV mW mX mY z124 mZ ng z127 ni ny z130 z131 nC nD nG nH nI nJ z138 z139 nK z141 nM z143 nN z145 z146 nO z148 nP nR nS z152 nT z154 nU z156 z157 nV z159 z160 nX z162 nY z164 nZ og z167 z168 wx hrel;refine hK3 _ _ ?_
      try dsimp only
      exact Uy l w ws B b0 o0 c0 rr LG hsz hlong hwn hwb x k v7 z1 z3 z4 z8 z9 z10 z11 z12 z13 qM qN qO z17 qP oV z20 z21 z22 z23 z24 z25 z26 z27 z28 z29 z30 z31 z32 z33 z34 z35 z36 z37 z38 z39 z40 z41 z42 z43 z44 z45 z46 z47 z48 z49 z50 z51 z52 z53 z54 z55 z56 z57 z58 z59 z60 z61 z62 z63 z64 z65 z66 z67 z68 z69 z70 z71 z72 z73 z74 z75 z76 z77 z78 z79 z80 yB z82 z83 z84 z85 z86 z87 yC z89 yD z91 yE z93 yF yG yH yI yJ yK lX lY lZ l7 l9 z105 mg z107 mD z109 mF mG mJ mM mO mP z116 z117 mQ z119 mV mW mX mY z124 mZ ng z127 ni ny z130 z131 nC nD nG nH nI nJ z138 z139 nK z141 nM z143 nN z145 z146 nO z148 nP nR nS z152 nT z154 nU z156 z157 nV z159 z160 nX z162 nY z164 nZ og z167 z168 wx hrel
     clear hK3;have YW:=hide J1;clear J1
     by_cases hlt:2<ws.length
     · have hcw:=st.ws 2 hlt
       obtain ⟨wk,hwk⟩:∃ q,ws[2]=q:=⟨_,rfl⟩;have hdr:=List.drop_eq_getElem_cons hlt;rw [hwk] at hcw hdr;have HDR:=hide hdr;have hwl:=LG.out wk (by rw [← hwk];exact List.getElem_mem hlt);clear hwk hdr
       have i2:(2:Int)<(ws.length:Int):=by omega
       have hpr:=fun W=>Jp 99 wk W (by omega);have hpe:=Jm 99 wk;have hpv:=fun a b (h:M.dQ 99 wk=some (a,b))=>Jo h;obtain ⟨a1,a2,hpq⟩:∃ a b,zX 99 wk=(a,b):=⟨_,_,rfl⟩;obtain ⟨pb,hpb⟩:∃ b,Dt 99 wk=b:=⟨_,rfl⟩;rw [hpb] at hpe;rw [hpq] at hpv
       simp only [hpq,hpb] at hpr
       rw [show ((99:UInt8).toNat:Int)=99 from rfl] at hpr;have Xb:=hide hpr;have HPE:=hide hpe;have HPV:=hide hpv;clear hpr hpe hpv hpq hpb
       cases pb with
       | true=>
         have hpo:M.dQ 99 wk=some (a1,a2):=by
          cases hq:M.dQ 99 wk with
          | none=>have:=HPE.out;rw [hq] at this;exact absurd this (by decide)
          | some q=>obtain ⟨q1,q2⟩:=q;have:=HPV.out q1 q2 hq;cases this;rfl
         have HPO:=hide hpo;clear hpo
         by_cases ha:0<a1
         · by_cases hb:0<a2
           · have c2:=st.bx.cell (j:=2) rfl
             have f2:=st.bx.frozen 2;have c3:=st.bx.cell (j:=3) rfl;have f3:=st.bx.frozen 3
             go_wp2_with (go_at_call 106;refine (Xb.out _).mono ?_;rintro e w3 ⟨rfl,hw3⟩;subst hw3)
             exact YW.out ({x with aT:=a1,aP:=a2 }) (3) _ _ _ _ _ _ _ _ _ _ _ _ _ _ _ _ _ _ _ _ _ _ _ _ _ _ _ _ _ _ _ _ _ _ _ _ _ _ _ _ _ _ _ _ _ _ _ _ _ _ _ _ _ _ _ _ _ _ _ _ _ _ _ _ _ _ _ _ _ _ _ _ _ _ _ _ _ _ _ _ _ _ _ _ _ _ _ _ _ _ _ _ _ _ _ _ _ _ _ _ _ _ _ _ _ _ _ _ _ _ _ _ _ _ _ _ _ _ _ _ _ _ _ _ _ _ _ _ _ _ _ _ _ _ _ _ _ _ _ _ _ _ _ _ _ _ _ _ _ _ _ _ _ _ _ _ _ _ _ _ _ _ _ _ _ _ ⟨by first | rfl | go_num,by omega,hxp,qQ.set (x':={x with aT:=a1,aP:=a2 }) (qQ.set (x':={x with aT:=a1 }) st 2 (.int .i64 a1) rfl rfl) 3 (.int .i64 a2) rfl rfl,by have:=HE.out;rw [HDR.out,S9 HPO.out ha hb] at this;exact this⟩
           · go_wp2_with (go_at_call 106;refine (Xb.out _).mono ?_;rintro e w3 ⟨rfl,hw3⟩;subst hw3)
             exact YW.out (x) (2) _ _ _ _ _ _ _ _ _ _ _ _ _ _ _ _ _ _ _ _ _ _ _ _ _ _ _ _ _ _ _ _ _ _ _ _ _ _ _ _ _ _ _ _ _ _ _ _ _ _ _ _ _ _ _ _ _ _ _ _ _ _ _ _ _ _ _ _ _ _ _ _ _ _ _ _ _ _ _ _ _ _ _ _ _ _ _ _ _ _ _ _ _ _ _ _ _ _ _ _ _ _ _ _ _ _ _ _ _ _ _ _ _ _ _ _ _ _ _ _ _ _ _ _ _ _ _ _ _ _ _ _ _ _ _ _ _ _ _ _ _ _ _ _ _ _ _ _ _ _ _ _ _ _ _ _ _ _ _ _ _ _ _ _ _ _ ⟨by first | rfl | go_num,by omega,hxp,st,by have:=HE.out;rw [HDR.out,FH (fun a b h=>by rw [HPO.out] at h;cases h;exact fun h=>by omega), ← HDR.out] at this;exact this⟩
         · go_wp2_with (go_at_call 106;refine (Xb.out _).mono ?_;rintro e w3 ⟨rfl,hw3⟩;subst hw3)
           exact YW.out (x) (2) _ _ _ _ _ _ _ _ _ _ _ _ _ _ _ _ _ _ _ _ _ _ _ _ _ _ _ _ _ _ _ _ _ _ _ _ _ _ _ _ _ _ _ _ _ _ _ _ _ _ _ _ _ _ _ _ _ _ _ _ _ _ _ _ _ _ _ _ _ _ _ _ _ _ _ _ _ _ _ _ _ _ _ _ _ _ _ _ _ _ _ _ _ _ _ _ _ _ _ _ _ _ _ _ _ _ _ _ _ _ _ _ _ _ _ _ _ _ _ _ _ _ _ _ _ _ _ _ _ _ _ _ _ _ _ _ _ _ _ _ _ _ _ _ _ _ _ _ _ _ _ _ _ _ _ _ _ _ _ _ _ _ _ _ _ _ ⟨by first | rfl | go_num,by omega,hxp,st,by have:=HE.out;rw [HDR.out,FH (fun a b h=>by rw [HPO.out] at h;cases h;exact fun h=>by omega), ← HDR.out] at this;exact this⟩
       | false=>
         go_wp2_with (go_at_call 106;refine (Xb.out _).mono ?_;rintro e w3 ⟨rfl,hw3⟩;subst hw3)
         exact YW.out (x) (2) _ _ _ _ _ _ _ _ _ _ _ _ _ _ _ _ _ _ _ _ _ _ _ _ _ _ _ _ _ _ _ _ _ _ _ _ _ _ _ _ _ _ _ _ _ _ _ _ _ _ _ _ _ _ _ _ _ _ _ _ _ _ _ _ _ _ _ _ _ _ _ _ _ _ _ _ _ _ _ _ _ _ _ _ _ _ _ _ _ _ _ _ _ _ _ _ _ _ _ _ _ _ _ _ _ _ _ _ _ _ _ _ _ _ _ _ _ _ _ _ _ _ _ _ _ _ _ _ _ _ _ _ _ _ _ _ _ _ _ _ _ _ _ _ _ _ _ _ _ _ _ _ _ _ _ _ _ _ _ _ _ _ _ _ _ _ ⟨by first | rfl | go_num,by omega,hxp,st,by have:=HE.out;rw [HDR.out,FH (fun a b h=>by have h1:=HPE.out;rw [h] at h1;cases h1), ← HDR.out] at this;exact this⟩
     · have i2:¬ (2:Int)<(ws.length:Int):=by omega
       have hd2:ws.drop 2=[]:=List.drop_eq_nil_of_le (by omega);have HD2:=hide hd2;clear hd2;go_wp2;exact YW.out (x) (2) _ _ _ _ _ _ _ _ _ _ _ _ _ _ _ _ _ _ _ _ _ _ _ _ _ _ _ _ _ _ _ _ _ _ _ _ _ _ _ _ _ _ _ _ _ _ _ _ _ _ _ _ _ _ _ _ _ _ _ _ _ _ _ _ _ _ _ _ _ _ _ _ _ _ _ _ _ _ _ _ _ _ _ _ _ _ _ _ _ _ _ _ _ _ _ _ _ _ _ _ _ _ _ _ _ _ _ _ _ _ _ _ _ _ _ _ _ _ _ _ _ _ _ _ _ _ _ _ _ _ _ _ _ _ _ _ _ _ _ _ _ _ _ _ _ _ _ _ _ _ _ _ _ _ _ _ _ _ _ _ _ _ _ _ _ _ ⟨by first | rfl | go_num,by omega,hxp,st,by have:=HE.out;rw [HD2.out] at this ⊢;exact this⟩
theorem G5 (l:List UInt8) (w:World) (hl:l.length≤17592186044416):
 Calls Tryz.prog 51 #[.string ⟨l.toArray⟩] w fun e w'=>∃ A c,e= .returned (.tuple #[iy (M.parse l).1 A c,.int .i64 (M.parse l).2.1,.int .i64 (M.parse l).2.2])∧fP w' (fun b=>w.heap.size≤b) A c (M.parse l).1.aC∧Below w.heap.size w w':=by
 have hsz:(ByteArray.mk l.toArray).size=l.length:=iM l
 by_cases hlong:4096<l.length
 · have hr:M.parse l=(M.blank,0,26):=by unfold M.parse;rw [if_pos hlong]
   go_enter Tryz.func51,Tryz.ntmps51
   go_upto_region 1 with (fail)
   have hB:=(aX.nil w).new (by simp) ku 36
   go_wp2_with (first | (refine aO 36 (.tmp 2) (.tmp 20) rfl ?_;refine aF (hB.ah rfl) ku rfl eG (oI M.blank none 0) rfl (.tmp 2) (.tmp 20) rfl rfl rfl ?_))
   have hF:=(hB.ah rfl).whole ku rfl;refine bodyPost_ret (gV (p:=2) hF Tryz.underlying36 rfl eG rfl _ rfl) rfl ⟨none,0,?_,?_,below_setCells _ (Nat.le_refl _) _ _ _ _ (hB.bw)⟩
   · rw [hr];rfl
   · rw [hr];exact Reads.none_ _ _ _
 · have hr:=Qw l hlong
   have hwd:=fun W=>Ry l W (by omega);have hwl:=uq l
   have hwn:(M.words l).length≤4097:=by have h1:(M.words l).length=l.count 32+1:=pF l [];have h2:l.count 32≤l.length:=List.count_le_length;omega
   have hne:=M.yx l [];have hne:M.words l≠[]:=hne;obtain ⟨ws,hws⟩:∃ ws,M.words l=ws:=⟨_,rfl⟩;rw [hws] at hr hwd hwl hwn hne;obtain ⟨rr,hrr⟩:∃ r,xA (M.gK ws)=r:=⟨_,rfl⟩;rw [hrr] at hr;rw [hr];have HRR:=hide hrr;have HWD:=hide hwd;have LG:=hide hwl;clear hr hwd hwl hws hrr
   go_enter Tryz.func51,Tryz.ntmps51
   go_upto_region 1 with (fail)
   have hB:=(aX.nil w).new (by simp) ku 36
   have hsB:(w.alloc (.cells ku.toArray 36)).heap.size=w.heap.size+1:=by simp
   go_upto_region 4 with (first | (go_at_call 105;refine (HWD.out _).mono ?_;rintro e w1 ⟨A0,c0,rfl,hrd,hb1⟩))
   obtain ⟨b0,o0,rfl,hb0,aiI,hcs⟩:=hrd.at_ (List.length_pos_iff.2 hne);have hwb:=hrd.bd;have hs1:=hb1.size
   simp only [World.size_alloc] at hb0 hs1
   have hz1:=(hB.ah rfl).below hb1;have xG:=hB.bw.trans (hb1.mono (by simp));obtain ⟨B,hBs⟩:∃ B,w1.heap.size=B:=⟨_,rfl⟩
   have st0:qQ w B b0 o0 ws M.blank none 0 (w1.alloc (.cells (aA ⟨M.blank,none,0⟩).toArray 36)):=
    ⟨hz1.alloc _,Held.newAt _ _ _ hBs,⟨Nat.lt_of_lt_of_le (by omega) hb0,by omega⟩,fun j hj=>(World.cell?_alloc_lt _ _ ⟨b0,o0+j,none⟩ aiI).trans (hcs j _ (by rw [List.getElem?_map,List.getElem?_eq_getElem hj];rfl)),World.ownsRow_nil _ _ _ _,xG.alloc (by omega) _⟩
   clear hcs hrd hb0 aiI hs1 hb1 hB hz1 xG hsB
   go_upto_region 5 with (fail)
   have h0lt:=List.length_pos_iff.2 hne;have hc0:=st0.ws 0 h0lt;have hd0:=List.drop_eq_getElem_cons h0lt;rw [List.drop_zero] at hd0;obtain ⟨w0,hw0⟩:∃ q,ws[0]=q:=⟨_,rfl⟩;rw [hw0] at hd0 hc0;rw [Nat.add_zero] at hc0;have HD0:=hide hd0;clear hw0 hd0
   have i2:(0:Int)<(ws.length:Int):=by omega
   obtain ⟨W1,hW1⟩:∃ W1,w1.alloc (.cells (aA ⟨M.blank,none,0⟩).toArray 36)=W1:=⟨_,rfl⟩;have hW1':w1.alloc (.cells #[.int .i64 0,.string ⟨#[]⟩,.int .i64 0,.int .i64 0,.int .i64 0,.bool false,.slice none 0 0] 36)=W1:=hW1;rw [hW1] at st0 hc0;rw [hW1'];clear hW1 hW1'
   by_cases hw:w0=[97]∨w0=[98]
   · go_cut [32] from 23 to 31 (fun v32 wx=>v32= .bool false∧W1=wx)
     case first=>
      rcases hw with rfl | rfl
      all_goals
       go_wp2;go_meet
       first | exact ⟨rfl,rfl⟩ | trivial
     case rest=>
      obtain ⟨rfl,rfl⟩:=hcut;have HW:=hide hw;clear hw
      go_upto_region 7 with (fail)
      rename_i K0 hK0 K9 hK9
      have J0:∀ (pl:Int) (z1 z3 z4 z7 z8 z9 z10 z11 z12 z13 qM qN qO z17 qP oV z20 z21 z22 z23 z24 z25 z26 z27 z28 z29 z30 z31 z32 z33 z34 z35 z36 z37 z38 z39 z40 z41 z42 z43 z44 z45 z46 z47 z48 z49 z50 z51 z52 z53 z54 z55 z56 z57 z58 z59 z60 z61 z62 z63 z64 z65 z66 z67 z68 z69 z70 z71 z72 z73 z74 z75 z76 z77 z78 z79 z80 yB z82 z83 z84 z85 z86 z87 yC z89 yD z91 yE z93 yF yG yH yI yJ yK lX lY lZ l7 l9 z105 mg z107 mD z109 mF mG mJ mM mO mP z116 z117 mQ z119 mV mW mX mY z124 mZ ng z127 ni ny z130 z131 nC nD nG nH nI nJ z138 z139 nK z141 nM z143 nN z145 z146 nO z148 nP nR nS z152 nT z154 nU z156 z157 nV z159 z160 nX z162 nY z164 nZ og z167 z168:Value) (wx:World),(pl=(if w0=[98] then 1 else 0)∧qQ w B b0 o0 ws {M.blank with aG:=pl } none 0 wx)→K0 {tmps:= #[.string ⟨l.toArray⟩,z1,ptr w.heap.size,z3,z4,.slice (some ⟨b0,o0,none⟩) ws.length c0,ptr B,z7,z8,z9,z10,z11,z12,z13,qM,qN,qO,z17,qP,oV,z20,z21,z22,z23,z24,z25,z26,z27,z28,z29,z30,z31,z32,z33,z34,z35,z36,z37,z38,z39,z40,z41,z42,z43,z44,z45,z46,z47,z48,z49,z50,z51,z52,z53,z54,z55,z56,z57,z58,z59,z60,z61,z62,z63,z64,z65,z66,z67,z68,z69,z70,z71,z72,z73,z74,z75,z76,z77,z78,z79,z80,yB,z82,z83,z84,z85,z86,z87,yC,z89,yD,z91,yE,z93,yF,yG,yH,yI,yJ,yK,lX,lY,lZ,l7,l9,z105,mg,z107,mD,z109,mF,mG,mJ,mM,mO,mP,z116,z117,mQ,z119,mV,mW,mX,mY,z124,mZ,ng,z127,ni,ny,z130,z131,nC,nD,nG,nH,nI,nJ,z138,z139,nK,z141,nM,z143,nN,z145,z146,nO,z148,nP,nR,nS,z152,nT,z154,nU,z156,z157,nV,z159,z160,nX,z162,nY,z164,nZ,og,z167,z168],defers:=[] } wx:=by
       intro pl z1 z3 z4 z7 z8 z9 z10 z11 z12 z13 qM qN qO z17 qP oV z20 z21 z22 z23 z24 z25 z26 z27 z28 z29 z30 z31 z32 z33 z34 z35 z36 z37 z38 z39 z40 z41 z42 z43 z44 z45 z46 z47 z48 z49 z50 z51 z52 z53 z54 z55 z56 z57 z58 z59 z60 z61 z62 z63 z64 z65 z66 z67 z68 z69 z70 z71 z72 z73 z74 z75 z76 z77 z78 z79 z80 yB z82 z83 z84 z85 z86 z87 yC z89 yD z91 yE z93 yF yG yH yI yJ yK lX lY lZ l7 l9 z105 mg z107 mD z109 mF mG mJ mM mO mP z116 z117 mQ z119 mV mW mX mY z124 mZ ng z127 ni ny z130 z131 nC nD nG nH nI nJ z138 z139 nK z141 nM z143 nN z145 z146 nO z148 nP nR nS z152 nT z154 nU z156 z157 nV z159 z160 nX z162 nY z164 nZ og z167 z168 wx hrel;refine hK0 _ _ ?_
       try dsimp only
       exact Ux l w ws B b0 o0 c0 rr LG hsz hlong hwn hwb w0 HD0 HW HRR pl z1 z3 z4 z7 z8 z9 z10 z11 z12 z13 qM qN qO z17 qP oV z20 z21 z22 z23 z24 z25 z26 z27 z28 z29 z30 z31 z32 z33 z34 z35 z36 z37 z38 z39 z40 z41 z42 z43 z44 z45 z46 z47 z48 z49 z50 z51 z52 z53 z54 z55 z56 z57 z58 z59 z60 z61 z62 z63 z64 z65 z66 z67 z68 z69 z70 z71 z72 z73 z74 z75 z76 z77 z78 z79 z80 yB z82 z83 z84 z85 z86 z87 yC z89 yD z91 yE z93 yF yG yH yI yJ yK lX lY lZ l7 l9 z105 mg z107 mD z109 mF mG mJ mM mO mP z116 z117 mQ z119 mV mW mX mY z124 mZ ng z127 ni ny z130 z131 nC nD nG nH nI nJ z138 z139 nK z141 nM z143 nN z145 z146 nO z148 nP nR nS z152 nT z154 nU z156 z157 nV z159 z160 nX z162 nY z164 nZ og z167 z168 wx hrel
      clear hK0;have HJ0:=hide J0;clear J0
      rcases HW.out with rfl | rfl
      · go_wp2
        exact HJ0.out 0 _ _ _ _ _ _ _ _ _ _ _ _ _ _ _ _ _ _ _ _ _ _ _ _ _ _ _ _ _ _ _ _ _ _ _ _ _ _ _ _ _ _ _ _ _ _ _ _ _ _ _ _ _ _ _ _ _ _ _ _ _ _ _ _ _ _ _ _ _ _ _ _ _ _ _ _ _ _ _ _ _ _ _ _ _ _ _ _ _ _ _ _ _ _ _ _ _ _ _ _ _ _ _ _ _ _ _ _ _ _ _ _ _ _ _ _ _ _ _ _ _ _ _ _ _ _ _ _ _ _ _ _ _ _ _ _ _ _ _ _ _ _ _ _ _ _ _ _ _ _ _ _ _ _ _ _ _ _ _ _ _ _ _ _ _ _ ⟨rfl,st0⟩
      · have c0:=st0.bx.cell (j:=0) rfl
        have f0:=st0.bx.frozen 0;go_wp2;exact HJ0.out 1 _ _ _ _ _ _ _ _ _ _ _ _ _ _ _ _ _ _ _ _ _ _ _ _ _ _ _ _ _ _ _ _ _ _ _ _ _ _ _ _ _ _ _ _ _ _ _ _ _ _ _ _ _ _ _ _ _ _ _ _ _ _ _ _ _ _ _ _ _ _ _ _ _ _ _ _ _ _ _ _ _ _ _ _ _ _ _ _ _ _ _ _ _ _ _ _ _ _ _ _ _ _ _ _ _ _ _ _ _ _ _ _ _ _ _ _ _ _ _ _ _ _ _ _ _ _ _ _ _ _ _ _ _ _ _ _ _ _ _ _ _ _ _ _ _ _ _ _ _ _ _ _ _ _ _ _ _ _ _ _ _ _ _ _ _ _ ⟨rfl,qQ.set (x':={M.blank with aG:=1 }) st0 0 (.int .i64 1) rfl rfl⟩
   · have e97:(w0 == [97])=false:=by simpa using fun h=>hw (.inl h)
     have e98:(w0 == [98])=false:=by simpa using fun h=>hw (.inr h)
     have hr:rr=(M.blank,1,25):=by rw [← HRR.out,HD0.out,X9 w0 _ (fun h=>hw (.inl h)) (fun h=>hw (.inr h))];rfl
     clear hw;have HR:=hide hr;clear hr
     go_wp2_with (first | (refine aO 36 (.tmp 2) (.tmp 33) rfl ?_;refine aF (st0.z) ku rfl eG (oI M.blank none 0) rfl (.tmp 2) (.tmp 33) rfl rfl rfl ?_))
     have hF:=(st0.z).whole ku rfl;refine bodyPost_ret (gV (p:=2) hF Tryz.underlying36 rfl eG rfl _ rfl) rfl ⟨none,0,?_,?_,below_setCells _ (Nat.le_refl _) _ _ _ _ (st0.bw)⟩
     · rw [HR.out];rfl
     · rw [HR.out];exact Reads.none_ _ _ _
def pU:List Value:=[.int .i64 0,.string ⟨#[]⟩,.int .i64 0,.int .i64 0,.int .i64 0,.bool false,.slice none 0 0]
theorem Om {X:Nat→Prop} {B:Nat} {w W W':World} (h:Below B w W) (ht:Turn X W W') (hX:∀ b,X b→B≤b) (hB:B≤W.heap.size):Below B w W':=
 ⟨ht.os.trans h.os,ht.tape.trans h.tape,ht.output.trans h.output,Nat.le_trans h.size ht.size,fun b hb=>(ht.block b (Nat.lt_of_lt_of_le hb hB) (fun hx=>by have:=hX b hx;omega)).trans (h.block b hb)⟩
theorem Ko (x:M.aV) (p:Nat) (w:List UInt8):((fQ x p w).1= -1∨(1≤(fQ x p w).1∧(fQ x p w).1≤5))∧(fQ x p w).2.aC.length≤x.aC.length+1:=by
 unfold fQ
 split
 · split
   · exact ⟨.inr ⟨by simp,by simp⟩,by simp⟩
   · split
     · exact ⟨.inr ⟨by simp,by simp⟩,by simp⟩
     · exact ⟨.inl rfl,by simp⟩
 · split
   · split
     · exact ⟨.inr ⟨by simp,by simp⟩,by simp⟩
     · exact ⟨.inl rfl,by simp⟩
   · cases hr:M.read x p w with
     | none=>exact ⟨.inl rfl,by simp⟩
     | some q=>
       have hq:=Dx hr;refine ⟨.inr ⟨by simp only;omega,by simp only;omega⟩,?_⟩
       simp only
       unfold M.read at hr
       split at hr
       · injection hr with hr;subst hr;simp
       · split at hr
         · injection hr with hr;subst hr;simp
         · split at hr
           · injection hr with hr;subst hr;simp
           · split at hr
             · injection hr with hr;subst hr;simp
             · cases hr
structure Po (w:World) (ws:List (List UInt8)) (x:M.aV) (A:Option Addr) (c:Nat) (W:World):Prop where
 z:Held W w.heap.size pU 27
 bx:Held W (w.heap.size+1) (aA ⟨x,A,c⟩) 27
 ws:Held W (w.heap.size+2) (ws.map jG) 9
 own:W.ownsRow (w.heap.size+3) 71 2 (.slice A x.aC.length c) x.aC.length (bZ x.aC)
 bw:Below w.heap.size w W
 sz:w.heap.size+3≤W.heap.size
theorem Po.read {w W W':World} {ws:List (List UInt8)} {x x':M.aV} {A A':Option Addr} {c c':Nat} (h:Po w ws x A c W) (hr:Am W (w.heap.size+1) (w.heap.size+3) (aA ⟨x',A',c'⟩) (.slice A' x'.aC.length c') x'.aC.length (bZ x'.aC) (.slice A x.aC.length c) W'):Po w ws x' A' c' W':=by
 have hno:∀ b,b<w.heap.size+3→b≠w.heap.size+1→¬ (b=w.heap.size+1∨(Value.slice A x.aC.length c).ownBlock=some b):=by
  rintro b hb hn (h1 | h1)
  · exact hn h1
  · have:=(vw h.own h1).1;omega
 exact ⟨(hr.turn.block _ h.z.lt (hno _ (by omega) (by omega))).trans h.z,hr.held,(hr.turn.block _ h.ws.lt (hno _ (by omega) (by omega))).trans h.ws,hr.own,
  Om h.bw hr.turn (by
   rintro b (h1 | h1)
   · omega
   · have:=(vw h.own h1).1;omega) (by have:=h.sz;omega),Nat.le_trans h.sz hr.turn.size⟩
theorem sK (x:M.aV) (A:Option Addr) (c:Nat):∀ v∈aA ⟨x,A,c⟩,v.oneCell'=true:=by simp [aA,Value.oneCell']
theorem NH (l:List UInt8) (w:World) (hg:Glob w) (hl:l.length≤17592186044416):
 Calls Tryz.prog 17 #[.string ⟨l.toArray⟩] w fun e w'=>∃ A c,e= .returned (.tuple #[iy (M.parse l).1 A c,.int .i64 (M.parse l).2.1,.int .i64 (M.parse l).2.2])∧fP w' (fun b=>w.heap.size≤b) A c (M.parse l).1.aC∧Below w.heap.size w w':=by
 have hsz:(ByteArray.mk l.toArray).size=l.length:=iM l
 by_cases hlong:4096<l.length
 · have hr:M.parse l=(M.blank,0,26):=by unfold M.parse;rw [if_pos hlong]
   rw [hr]
   go_enter Tryz.func17,Tryz.ntmps17
   go_upto_region 0 with (fail)
   go_cut [2,3,4] (fun v2 v3 v4 wx=>v2=ptr w.heap.size∧v3= .int .i64 0∧v4= .int .i64 0∧aX w wx [(pU,27)])
   case first=>
    go_wp2;go_meet;exact ⟨rfl,rfl,rfl,(aX.nil w).new (by simp) pU _⟩
   case rest=>
    obtain ⟨rfl,rfl,rfl,hB⟩:=hcut;go_wp2
    go_step3
    go_wp2_with (first | (refine aO 27 (.tmp 2) (.tmp 15) rfl ?_;refine aF (hB.ah rfl) pU rfl bG (sK M.blank none 0) rfl (.tmp 2) (.tmp 15) rfl rfl rfl ?_))
    have hF:=(hB.ah rfl).whole pU rfl
    try rw [Exit.noGoto_ret]
    refine bodyPost_ret (gV (p:=2) hF Tryz.underlying27 rfl bG rfl _ rfl) rfl ⟨none,0,rfl,Reads.none_ _ _ _,below_setCells _ (Nat.le_refl _) _ _ _ _ ?_⟩;exact hB.bw
 · have hr:=Nw l hlong
   rw [hr];clear hr;have hsp:=NK l;obtain ⟨ws,hws⟩:∃ ws,M.words l=ws:=⟨_,rfl⟩;have hwl:=uq l;have hwc:(M.words l).length=l.count 32+1:=pF l [];have hcl:l.count 32≤l.length:=List.count_le_length;rw [hws] at hsp hwl hwc ⊢;have HSP:=hide (fun W h=>hsp W h (by omega));have LG:=hide hwl
   have hwn:ws.length≤4097:=by omega
   obtain ⟨rr,hrr⟩:∃ r,endP (jU M.blank 0 0 ws)=r:=⟨_,rfl⟩;rw [hrr];have HRR:=hide hrr;clear hsp hws hwl hwc hcl hrr
   go_enter Tryz.func17,Tryz.ntmps17
   go_upto_region 0 with (fail)
   go_cut [2,3,4] (fun v2 v3 v4 wx=>v2=ptr w.heap.size∧v3= .int .i64 0∧v4= .int .i64 0∧aX w wx [(pU,27)]∧wx.heap.size=w.heap.size+1)
   case first=>
    go_wp2;go_meet;exact ⟨rfl,rfl,rfl,(aX.nil w).new (by simp) pU _,by simp⟩
   case rest=>
    obtain ⟨rfl,rfl,rfl,hB,hs1⟩:=hcut;go_wp2
    go_step3
    go_upto_region 3 with (fail)
    go_cut [5] (fun v5 wx=>v5=ptr (w.heap.size+1)∧aX w wx [(pU,27),(pU,27)]∧wx.heap.size=w.heap.size+2)
    case first=>
     go_wp2;go_meet;exact ⟨rfl,hB.new (by simpa using hs1) pU _,by simp [hs1]⟩
    case rest=>
     obtain ⟨rfl,hB2,hs2⟩:=hcut
     go_wp2_with (go_at_call 45;refine (HSP.out _ (hg.below hB2.bw)).mono ?_;rintro e w1 ⟨rfl,rfl⟩)
     go_step3
     go_wp2;rename_i K1 hK1
     have J:∀ (x:M.aV) (p n:Int) (A:Option Addr) (c:Nat) (z1 z3 z4 z7 z9 z10 z11 z12 z13 qM qN qO z17 qP oV z20 z21 z22 z23 z24 z25 z26 z27 z28 z29 z30 z31 z32 z33 z34 z35 z36 z37 z38 z39 z40 z41 z42 z43 z44 z45 z46 z47 z48 z49 z50 z51:Value) (wx:World),Po w ws x A c wx→x.aC.length≤4098→0≤n→n≤4098→ -1≤p→p≤5→endP (x,p,n)=rr→K1 {tmps:= #[.string ⟨l.toArray⟩,z1,ptr w.heap.size,z3,z4,ptr (w.heap.size+1),.int .i64 p,z7,.int .i64 n,z9,z10,z11,z12,z13,qM,qN,qO,z17,qP,oV,z20,z21,z22,z23,z24,z25,z26,z27,z28,z29,z30,z31,z32,z33,z34,z35,z36,z37,z38,z39,z40,z41,z42,z43,z44,z45,z46,z47,z48,z49,z50,z51],defers:=[] } wx:=by
      intro x p n A c z1 z3 z4 z7 z9 z10 z11 z12 z13 qM qN qO z17 qP oV z20 z21 z22 z23 z24 z25 z26 z27 z28 z29 z30 z31 z32 z33 z34 z35 z36 z37 z38 z39 z40 z41 z42 z43 z44 z45 z46 z47 z48 z49 z50 z51 wx st hpl _ _ _ _ hend;refine hK1 _ _ ?_
      try dsimp only
      unfold endP at hend
      simp only at hend
      have ZB:=hide hend;clear hend hK1
      by_cases h1:p<0
      · have e1:rr=(M.blank,n,25):=by rw [← ZB.out,if_pos h1]
        subst e1
        go_wp2_with (first | (refine aO 27 (.tmp 2) (.tmp 37) rfl ?_;refine aF (st.z) pU rfl bG (sK M.blank none 0) rfl (.tmp 2) (.tmp 37) rfl rfl rfl ?_))
        have hF:=(st.z).whole pU rfl
        try rw [Exit.noGoto_ret]
        refine bodyPost_ret (gV (p:=2) hF Tryz.underlying27 rfl bG rfl _ rfl) rfl ⟨none,0,rfl,Reads.none_ _ _ _,below_setCells _ (Nat.le_refl _) _ _ _ _ ?_⟩;exact st.bw
      · by_cases h2:p=1
        · have e1:rr=(M.blank,n+1,25):=by rw [← ZB.out,if_neg h1,if_pos h2]
          subst e1;subst h2
          go_wp2_with (first | (refine aO 27 (.tmp 2) (.tmp 42) rfl ?_;refine aF (st.z) pU rfl bG (sK M.blank none 0) rfl (.tmp 2) (.tmp 42) rfl rfl rfl ?_))
          have hF:=(st.z).whole pU rfl
          try rw [Exit.noGoto_ret]
          refine bodyPost_ret (gV (p:=2) hF Tryz.underlying27 rfl bG rfl _ rfl) rfl ⟨none,0,rfl,Reads.none_ _ _ _,below_setCells _ (Nat.le_refl _) _ _ _ _ ?_⟩;exact st.bw
        · have h2':(p == 1)=false:=by rw [beq_eq_false_iff_ne];exact h2
          have MN:fP wx (fun b=>w.heap.size+3≤b) A c x.aC:=Reads.je st.own (fun b h=>h) (by omega);have hrd:fP wx (fun b=>w.heap.size≤b) A c x.aC:=Reads.more MN (fun b _ h=>by omega);have hck:=fun W (hb:Below wx.heap.size wx W)=>jS (fun b=>w.heap.size≤b) x A c W (Reads.below hrd hb);obtain ⟨E,hE⟩:∃ E,M.bT x=E:=⟨_,rfl⟩;rw [hE] at hck;have vV:=hide hck;have HRD:=hide MN;have hend:=ZB.out;rw [if_neg h1,if_neg h2,hE] at hend;clear hck hE hrd MN
          by_cases h3:E=0
          · have e1:rr=(x,0,0):=by rw [← hend,if_neg (by simp [h3])]
            have h3':(E != 0)=false:=by simp [h3]
            subst e1;clear hend h3
            go_wp2_with (first | (refine aB 27 (.tmp 5) rfl ?_;refine ak (st.bx) Tryz.underlying27 rfl bG rfl (.tmp 5) rfl rfl ?_) | (go_at_call 31;refine (vV.out _ (Below.refl _ _)).mono ?_;rintro e w5 ⟨rfl,hb5⟩;have Ue:=st.z.below hb5;have hx5:=st.bx.below hb5) | (refine aB 27 (.tmp 5) rfl ?_;refine ak (hx5) Tryz.underlying27 rfl bG rfl (.tmp 5) rfl rfl ?_) | (refine aO 27 (.tmp 2) (.tmp 51) rfl ?_;refine aF (Ue) (aA ⟨x,A,c⟩) rfl bG (sK x A c) rfl (.tmp 2) (.tmp 51) rfl rfl rfl ?_))
            have hF:=Ue.whole (aA ⟨x,A,c⟩) rfl
            try rw [Exit.noGoto_ret]
            refine bodyPost_ret (gV (p:=2) hF Tryz.underlying27 rfl bG rfl _ rfl) rfl ⟨A,c,rfl,?_,below_setCells _ (Nat.le_refl _) _ _ _ _ (st.bw.trans (hb5.mono st.bw.size))⟩;exact Reads.more (Reads.keep (Reads.below HRD.out hb5) (by rw [setCells_size];exact Nat.le_refl _) (fun b o hb hlt=>World.cell?_of_block (Held.lu (g:=w.heap.size) (b:=b) (by have hb:w.heap.size+3≤b:=hb;omega) _ _ _))) (fun b _ h=>by have h:w.heap.size+3≤b:=h;show w.heap.size≤b;omega)
          · have e1:rr=(M.blank,0,E):=by rw [← hend,if_pos (by simpa using h3)]
            have h3':(E != 0)=true:=by simp [h3]
            subst e1;clear hend h3
            go_wp2_with (first | (refine aB 27 (.tmp 5) rfl ?_;refine ak (st.bx) Tryz.underlying27 rfl bG rfl (.tmp 5) rfl rfl ?_) | (go_at_call 31;refine (vV.out _ (Below.refl _ _)).mono ?_;rintro e w5 ⟨rfl,hb5⟩;have Ue:=st.z.below hb5;have hx5:=st.bx.below hb5) | (refine aO 27 (.tmp 2) (.tmp 49) rfl ?_;refine aF (Ue) pU rfl bG (sK M.blank none 0) rfl (.tmp 2) (.tmp 49) rfl rfl rfl ?_))
            have hF:=(Ue).whole pU rfl
            try rw [Exit.noGoto_ret]
            refine bodyPost_ret (gV (p:=2) hF Tryz.underlying27 rfl bG rfl _ rfl) rfl ⟨none,0,rfl,Reads.none_ _ _ _,below_setCells _ (Nat.le_refl _) _ _ _ _ ?_⟩;exact st.bw.trans (hb5.mono st.bw.size)
     have HJ:=hide J;clear J hK1
     have atE:Po w ws M.blank none 0 (wc.alloc (.cells (ws.map jG).toArray 9)):=
      ⟨(hB2.ah rfl).alloc _,(hB2.get 1 rfl).alloc _,Held.newAt _ _ _ hs2,World.ownsRow_nil _ _ _ _,hB2.bw.alloc (by omega) _,by simp [hs2]⟩
     go_loopw [6,8,20] (fun pl at_ i wr=>∃ (k pn:Nat) (x:M.aV) (A:Option Addr) (c:Nat),k≤ws.length∧i= .int .i64 k∧at_= .int .i64 k∧pl= .int .i64 pn∧pn≤5∧jU x pn k (ws.drop k)=jU M.blank 0 0 ws∧x.aC.length≤k∧Po w ws x A c wr) (fun _ _ i _=>ws.length - (intOf i).toNat)
     case atStart=>exact ⟨0,0,M.blank,none,0,Nat.zero_le _,rfl,rfl,rfl,by omega,rfl,Nat.le_refl _,atE⟩
     case round=>
      obtain ⟨k,pn,x,A,c,hk,rfl,rfl,rfl,hpn,hlp,hpl,st⟩:=hrel
      by_cases hlt:k<ws.length
      · rw [List.drop_eq_getElem_cons hlt,jU] at hlp
        have hwl:=LG.out _ (List.getElem_mem hlt);have hcell:=st.ws.cell (j:=k) (v:=jG ws[k]) (by rw [List.getElem?_map,List.getElem?_eq_getElem hlt];rfl);obtain ⟨wk,hwk⟩:∃ q,ws[k]=q:=⟨_,rfl⟩;rw [hwk] at hlp hwl hcell
        unfold jG at hcell
        clear hwk
        by_cases hwe:wk=[]
        · subst hwe
          rw [if_pos rfl] at hlp;have ZF:=hide hlp;clear hlp;go_wp2;exact HJ.out x (-1) ((k:Int)+1) A c _ _ _ _ _ _ _ _ _ _ _ _ _ _ _ _ _ _ _ _ _ _ _ _ _ _ _ _ _ _ _ _ _ _ _ _ _ _ _ _ _ _ _ _ _ _ _ _ st (by omega) (by omega) (by omega) (by omega) (by omega) (by rw [ZF.out];exact HRR.out)
        · have hrd:=WH x pn wk (w.heap.size+1) (w.heap.size+3) A c wr (hg.below st.bw) (by omega) hwe hpn st.bx st.own st.sz (by omega) (by omega)
          rw [if_neg hwe,Int.toNat_natCast] at hlp;have hrange:=Ko x pn wk
          have e2:(wk == [])=false:=by simpa using hwe
          obtain ⟨q,hq⟩:∃ q,fQ x pn wk=q:=⟨_,rfl⟩;rw [hq] at hrd hlp hrange;obtain ⟨p',x'⟩:=q
          simp only at hrd hlp hrange
          have HRD:=hide hrd;have HRG:=hide hrange;clear hrd hq hwe hrange
          by_cases hp':p'<0
          · rw [if_pos hp'] at hlp
            have ZF:=hide hlp;clear hlp
            go_wp2_with (go_at_call 46;refine HRD.out.mono ?_;rintro e w5 ⟨A',c',rfl,hr⟩)
            exact HJ.out x' p' ((k:Int)+1) A' c' _ _ _ _ _ _ _ _ _ _ _ _ _ _ _ _ _ _ _ _ _ _ _ _ _ _ _ _ _ _ _ _ _ _ _ _ _ _ _ _ _ _ _ _ _ _ _ _ (st.read hr) (by have:=HRG.out;omega) (by omega) (by omega) (by have:=HRG.out;omega) (by omega) (by rw [ZF.out];exact HRR.out)
          · rw [if_neg hp'] at hlp
            obtain ⟨pn',rfl⟩:=Int.eq_ofNat_of_zero_le (show 0≤p' by omega);have ZF:=hide hlp
            have ata:pn'≤5:=by have:=HRG.out;omega
            clear hlp hp'
            go_wp2_with (go_at_call 46;refine HRD.out.mono ?_;rintro e w5 ⟨A',c',rfl,hr⟩)
            go_roundw
            case rel=>exact ⟨k+1,pn',x',A',c',by omega,by go_num,by go_num,rfl,ata,by rw [← ZF.out];congr 1,by have:=HRG.out;omega,st.read hr⟩
            case measure=>simp [intOf] <;> omega
      · have hke:k=ws.length:=by omega
        subst hke;rw [List.drop_length,jU] at hlp;have ZF:=hide hlp;clear hlp;go_wp2;exact HJ.out x pn (ws.length:Int) A c _ _ _ _ _ _ _ _ _ _ _ _ _ _ _ _ _ _ _ _ _ _ _ _ _ _ _ _ _ _ _ _ _ _ _ _ _ _ _ _ _ _ _ _ _ _ _ _ st (by omega) (by omega) (by omega) (by omega) (by omega) (by rw [ZF.out];exact HRR.out)
theorem Jb (a:List UInt8) (l:List (List UInt8)):Lib.join (a::l) [32]=M.join (a::l):=by
 rw [Lib.join_cons,M.join,Lib.joinTail,List.flatMap_def]
 rfl
def O4 (x:M.aV):List (List UInt8):=[M.letter x.aG,x.kind.toList]
def pc1 (x:M.aV):List (List UInt8):=O4 x++if x.aT≠0 then [M.bV 99 x.aT x.aP] else []
def pc2 (x:M.aV):List (List UInt8):=pc1 x++if x.first≠0 then [102::M.dec x.first] else []
def Js (x:M.aV):List (List UInt8):=pc2 x++if x.cO=true then [[43]] else []
def Lp (x:M.aV) (k:Nat):List (List UInt8):=Js x++(x.aC.take k).map fun p=>M.bV 112 p.aT p.aP
theorem UD (x:M.aV):Lp x 0=Js x:=by simp [Lp]
theorem UC (x:M.aV) (k:Nat) (h:k<x.aC.length):Lp x (k+1)=Lp x k++[M.bV 112 x.aC[k].aT x.aC[k].aP]:=by
 unfold Lp
 rw [List.take_succ_eq_append_getElem h,List.map_append,List.append_assoc]
 rfl
theorem GU (x:M.aV):Lp x x.aC.length=M.pieces x:=by
 unfold Lp Js pc2 pc1 O4 M.pieces
 rw [List.take_length,M.qL]
 simp only [List.append_assoc,List.cons_append,List.nil_append]
theorem UE (x:M.aV):(O4 x).length=2∧(pc1 x).length≤3∧(pc2 x).length≤4∧(Js x).length≤5:=by
 have h0:(O4 x).length=2:=rfl
 have h1:(pc1 x).length≤3:=by unfold pc1;rw [List.length_append,h0];split <;> simp
 have h2:(pc2 x).length≤4:=by unfold pc2;rw [List.length_append];split <;> simp <;> omega
 have h3:(Js x).length≤5:=by unfold Js;rw [List.length_append];split <;> simp <;> omega
 exact ⟨h0,h1,h2,h3⟩
theorem Yy (x:M.aV) (k:Nat) (h:k≤x.aC.length):(Lp x k).length≤5+k:=by
 have:=(UE x).2.2.2
 unfold Lp
 rw [List.length_append,List.length_map,List.length_take]
 omega
theorem Ul (l:List (List UInt8)) (hne:l≠[]) (A:Option Addr) (c D:Nat) (w:World) (h:w.ownsRow D 9 1 (.slice A l.length c) l.length (l.map jG)) (hlen:(M.join l).length≤1000) (hn:l.length≤100000):
 Calls Tryz.prog 44 #[.slice A l.length c,.string ⟨#[32]⟩] w fun e w'=>e= .returned (.string ⟨(M.join l).toArray⟩)∧Below w.heap.size w w':=by
 obtain ⟨a,r,rfl⟩:=List.exists_cons_of_ne_nil hne;have hr:=Reads.je (S:=fun _=>True) h (fun _ _=>trivial) (by omega);obtain ⟨b,o,rfl,_,hb,hc⟩:=hr.at_ (by simp)
 have hm:(((a::r).map fun q=>ByteArray.mk q.toArray).map (·.data.toList))=a::r:=by
  rw [List.map_map]
  conv=>rhs;rw [← List.map_id (a::r)]
  exact List.map_congr_left fun q _=>by simp
 have:=Tryz.strings_Join b o c ((a::r).map fun q=>⟨q.toArray⟩) ⟨#[32]⟩ w (fun j x hj=>by
  rw [List.getElem?_map] at hj
  cases hq:(a::r)[j]? with
  | none=>rw [hq] at hj;cases hj
  | some q=>
    rw [hq] at hj;obtain rfl:ByteArray.mk q.toArray=x:=Option.some.inj hj
    exact hc j _ (by rw [List.getElem?_map,hq];rfl)) hb (by rw [List.length_map];omega) (by rw [List.length_map];exact hr.bd.1) (by rw [hm,show (ByteArray.mk #[32]).data.toList=[32] from rfl,Jb];omega)
 rw [hm,List.length_map,show (ByteArray.mk #[32]).data.toList=[32] from rfl,Jb] at this;exact this
theorem NI (S:Nat→Prop) (x:M.aV) (P:Option Addr) (d:Nat) (w:World) (hp:fP w S P d x.aC):
 Calls Tryz.prog 16 #[iy x P d] w fun e w'=>e= .returned (.tuple #[.string (if M.bT x=0 then ⟨(M.print x).toArray⟩ else ⟨#[]⟩),.int .i64 (M.bT x)])∧Below w.heap.size w w':=by
 obtain ⟨b1,b2,b3⟩:=hp.bd;obtain ⟨i0,hi,hz0,hz1,hz2⟩:=info_parts Ai;have hck:=fun W (hb:Below w.heap.size w W)=>jS S x P d W (Reads.below hp hb);obtain ⟨E,hE⟩:∃ E,M.bT x=E:=⟨_,rfl⟩;rw [hE] at hck ⊢;have vV:=hide hck;clear hck
 by_cases h0:E=0
 · subst h0
   rw [if_pos rfl];have hx:=M.lV hE;obtain ⟨x1,x2⟩:=hx.aT;obtain ⟨x3,x4⟩:=hx.aP
   obtain ⟨x5,x6⟩:=hx.first
   have y2:x.aT≤99:=by omega
   have y4:x.aP≤99:=by omega
   have sD:=hide hx.aC;have hfew:=hx.few;have hpl:=hx.aG
   have l1:=M.ig x.first
   have hit:∀ W,Calls Tryz.prog 43 #[.int .i64 x.first] W fun e w'=>e= .returned (.string ⟨(M.dec x.first).toArray⟩)∧w'=W:=fun W=>by
    obtain ⟨i,hi⟩:=Int.eq_ofNat_of_zero_le x5;rw [hi]
    have:=Tryz.strconv_Itoa_small i (by omega) W
    rwa [oO (by omega)] at this
   have HIT:=hide hit;have HX:=hide hx;clear hit hx hE
   go_enter Tryz.func16,Tryz.ntmps16
   go_upto_region 1 with (fail)
   go_cut [4] from 8 to 10 (fun v4 wx=>v4= .int .i64 0∧Held wx w.heap.size (aA ⟨x,P,d⟩) 27∧Below w.heap.size w wx)
   case first=>
    have hB:=(aX.nil w).new (by simp) (aA ⟨x,P,d⟩) 27
    go_wp2_with (first | (refine aB 27 (.tmp 1) rfl ?_;refine ak (hB.ah rfl) Tryz.underlying27 rfl bG rfl (.tmp 1) rfl rfl ?_) | (go_at_call 31;refine (vV.out _ hB.bw).mono ?_;rintro e w5 ⟨rfl,hb5⟩))
    go_meet;exact ⟨rfl,(hB.ah rfl).below hb5,hB.bw.trans (hb5.mono hB.bw.size)⟩
   case rest=>
    obtain ⟨rfl,hx0,hbw⟩:=hcut
    go_upto_region 4 with (fail)
    have hlt0:=hx0.lt
    go_cut [5] from 13 to 22 (fun v5 wx=>∃ A c,v5= .slice A (O4 x).length c∧Held wx w.heap.size (aA ⟨x,P,d⟩) 27∧wx.ownsRow (w.heap.size+1) 9 1 (.slice A (O4 x).length c) (O4 x).length ((O4 x).map jG)∧Below w.heap.size w wx)
    case first=>
     rcases hpl with hpp | hpp
     · have k0:wc.cell? ⟨w.heap.size,0,none⟩=some (.int .i64 0):=(hx0.cell (j:=0) rfl).trans (by rw [hpp])
       have k1:=hx0.cell (j:=1) rfl;have hwr:IntKind.i64.wrap 1=1:=IntWalk.i64_in _ (by decide);refine wp_region_held_drew (S:=(fun w':World=>∀ q,w'.cell? ⟨w.heap.size,q,none⟩=wc.cell? ⟨w.heap.size,q,none⟩)) (by kernel_rfl) ?dL (fun hHeld=>?_)
       case dL=>first | exact fun q=>rfl | exact fun q=>World.cell?_alloc_lt _ _ ⟨_,q,none⟩ hlt0
       refine tk 0 ?_;refine tk 1 ?_;refine tk 2 ?_;refine tk 3 ?_;refine tk 4 ?_;refine tk 5 ?_;refine tk 6 ?_;refine tk 7 ?_;refine tr 8 fun K hK=>?_;go_simp;refine hK.out _ _ ?amH (fun hHeld=>?_)
       case amH=>(first | (first | exact fun q=>rfl | exact fun q=>World.cell?_alloc_lt _ _ ⟨_,q,none⟩ hlt0) | (dsimp only;first | exact fun q=>rfl | exact fun q=>World.cell?_alloc_lt _ _ ⟨_,q,none⟩ hlt0))
       clear hK K
       try simp only [Act.put,la,lz,ls]
       refine tk 9 ?_;refine wpAnyH_done (by kernel_rfl) ?_ _;go_wp2;go_meet
       have e0:M.letter x.aG=[97]:=by rw [hpp];rfl
       have hl:=World.ownsRow_lit (base:=w.heap.size+1) (e:=9) (size:=1) wc #[.string ⟨#[97]⟩,.string x.kind] 2 (by have:=hlt0;show _≤wc.heap.size;omega) (by decide) rfl
       have ee:(ByteArray.mk #[97,98]).extract 0 1=⟨#[97]⟩:=by decide
       rw [ee]
       have em:(O4 x).map jG=[.string ⟨#[97]⟩,.string x.kind]:=by
        unfold O4 jG
        rw [e0,List.map_cons,List.map_cons,List.map_nil, ← Ox]
       refine ⟨some ⟨wc.heap.size,0,none⟩,2,rfl,(hx0.alloc _).drew,?_,(hbw.alloc hbw.size _).drew⟩;rw [em];exact hl
     · have k0:wc.cell? ⟨w.heap.size,0,none⟩=some (.int .i64 1):=(hx0.cell (j:=0) rfl).trans (by rw [hpp])
       have k1:=hx0.cell (j:=1) rfl;have hwr:IntKind.i64.wrap 2=2:=IntWalk.i64_in _ (by decide);refine wp_region_held_drew (S:=(fun w':World=>∀ q,w'.cell? ⟨w.heap.size,q,none⟩=wc.cell? ⟨w.heap.size,q,none⟩)) (by kernel_rfl) ?dY (fun hHeld=>?_)
       case dY=>first | exact fun q=>rfl | exact fun q=>World.cell?_alloc_lt _ _ ⟨_,q,none⟩ hlt0
       refine tk 0 ?_;refine tk 1 ?_;refine tk 2 ?_;refine tk 3 ?_;refine tk 4 ?_;refine tk 5 ?_;refine tk 6 ?_;refine tk 7 ?_;refine tr 8 fun K hK=>?_;go_simp;refine hK.out _ _ ?am9 (fun hHeld=>?_)
       case am9=>(first | (first | exact fun q=>rfl | exact fun q=>World.cell?_alloc_lt _ _ ⟨_,q,none⟩ hlt0) | (dsimp only;first | exact fun q=>rfl | exact fun q=>World.cell?_alloc_lt _ _ ⟨_,q,none⟩ hlt0))
       clear hK K
       try simp only [Act.put,la,lz,ls]
       refine tk 9 ?_;refine wpAnyH_done (by kernel_rfl) ?_ _;go_wp2;go_meet
       have e0:M.letter x.aG=[98]:=by rw [hpp];rfl
       have hl:=World.ownsRow_lit (base:=w.heap.size+1) (e:=9) (size:=1) wc #[.string ⟨#[98]⟩,.string x.kind] 2 (by have:=hlt0;show _≤wc.heap.size;omega) (by decide) rfl
       have ee:(ByteArray.mk #[97,98]).extract 1 2=⟨#[98]⟩:=by decide
       rw [ee]
       have em:(O4 x).map jG=[.string ⟨#[98]⟩,.string x.kind]:=by
        unfold O4 jG
        rw [e0,List.map_cons,List.map_cons,List.map_nil, ← Ox]
       refine ⟨some ⟨wc.heap.size,0,none⟩,2,rfl,(hx0.alloc _).drew,?_,(hbw.alloc hbw.size _).drew⟩;rw [em];exact hl
    case rest=>
     obtain ⟨A,c,hrel⟩:=hcut;obtain ⟨wx,hwx⟩:∃ v,wc=v:=⟨_,rfl⟩;rw [hwx] at hrel ⊢;clear hwx hx0 hbw hlt0;obtain ⟨n0,n1,n2,n3⟩:=UE x
     go_upto_region 5 with (fail)
     rename_i K3 hK3 K9 hK9
     have J1:∀ (A:Option Addr) (c:Nat) (v5:Value) (z2 z3 z4 z6 z7 z8 z9 z10 z11 z12 z13 qM qN qO z17 qP oV z20 z21 z22 z23 z24 z25 z26 z27 z28 z29 z30 z31 z32 z33 z34 z35 z36 z37 z38 z39 z40 z41 z42 z43 z44 z45 z46 z47 z48 z49 z50 z51 z52 z53 z54 z55 z56 z57 z58 z59 z60 z61 z62 z63 z64 z65:Value) (wx:World),(v5= .slice A (pc1 x).length c∧Held wx w.heap.size (aA ⟨x,P,d⟩) 27∧wx.ownsRow (w.heap.size+1) 9 1 (.slice A (pc1 x).length c) (pc1 x).length ((pc1 x).map jG)∧Below w.heap.size w wx)→K3 {tmps:= #[iy x P d,ptr w.heap.size,z2,z3,z4,v5,z6,z7,z8,z9,z10,z11,z12,z13,qM,qN,qO,z17,qP,oV,z20,z21,z22,z23,z24,z25,z26,z27,z28,z29,z30,z31,z32,z33,z34,z35,z36,z37,z38,z39,z40,z41,z42,z43,z44,z45,z46,z47,z48,z49,z50,z51,z52,z53,z54,z55,z56,z57,z58,z59,z60,z61,z62,z63,z64,z65],defers:=[] } wx:=by
      intro A c v5 z2 z3 z4 z6 z7 z8 z9 z10 z11 z12 z13 qM qN qO z17 qP oV z20 z21 z22 z23 z24 z25 z26 z27 z28 z29 z30 z31 z32 z33 z34 z35 z36 z37 z38 z39 z40 z41 z42 z43 z44 z45 z46 z47 z48 z49 z50 z51 z52 z53 z54 z55 z56 z57 z58 z59 z60 z61 z62 z63 z64 z65 wx hrel;refine hK3 _ _ ?_
      try dsimp only
      go_upto_region 7 with (fail)
      rename_i K2 hK2 K9 hK9
      have J2:∀ (A:Option Addr) (c:Nat) (v5:Value) (z2 z3 z4 z6 z7 z8 z9 z10 z11 z12 z13 qM qN qO z17 qP oV z20 z21 z22 z23 z24 z25 z26 z27 z28 z29 z30 z31 z32 z33 z34 z35 z36 z37 z38 z39 z40 z41 z42 z43 z44 z45 z46 z47 z48 z49 z50 z51 z52 z53 z54 z55 z56 z57 z58 z59 z60 z61 z62 z63 z64 z65:Value) (wx:World),(v5= .slice A (pc2 x).length c∧Held wx w.heap.size (aA ⟨x,P,d⟩) 27∧wx.ownsRow (w.heap.size+1) 9 1 (.slice A (pc2 x).length c) (pc2 x).length ((pc2 x).map jG)∧Below w.heap.size w wx)→K2 {tmps:= #[iy x P d,ptr w.heap.size,z2,z3,z4,v5,z6,z7,z8,z9,z10,z11,z12,z13,qM,qN,qO,z17,qP,oV,z20,z21,z22,z23,z24,z25,z26,z27,z28,z29,z30,z31,z32,z33,z34,z35,z36,z37,z38,z39,z40,z41,z42,z43,z44,z45,z46,z47,z48,z49,z50,z51,z52,z53,z54,z55,z56,z57,z58,z59,z60,z61,z62,z63,z64,z65],defers:=[] } wx:=by
       intro A c v5 z2 z3 z4 z6 z7 z8 z9 z10 z11 z12 z13 qM qN qO z17 qP oV z20 z21 z22 z23 z24 z25 z26 z27 z28 z29 z30 z31 z32 z33 z34 z35 z36 z37 z38 z39 z40 z41 z42 z43 z44 z45 z46 z47 z48 z49 z50 z51 z52 z53 z54 z55 z56 z57 z58 z59 z60 z61 z62 z63 z64 z65 wx hrel;refine hK2 _ _ ?_
       try dsimp only
       go_upto_region 9 with (fail)
       rename_i K1 hK1 K9 hK9
       have J3:∀ (A:Option Addr) (c:Nat) (v5:Value) (z2 z3 z4 z6 z7 z8 z9 z10 z11 z12 z13 qM qN qO z17 qP oV z20 z21 z22 z23 z24 z25 z26 z27 z28 z29 z30 z31 z32 z33 z34 z35 z36 z37 z38 z39 z40 z41 z42 z43 z44 z45 z46 z47 z48 z49 z50 z51 z52 z53 z54 z55 z56 z57 z58 z59 z60 z61 z62 z63 z64 z65:Value) (wx:World),(v5= .slice A (Js x).length c∧Held wx w.heap.size (aA ⟨x,P,d⟩) 27∧wx.ownsRow (w.heap.size+1) 9 1 (.slice A (Js x).length c) (Js x).length ((Js x).map jG)∧Below w.heap.size w wx)→K1 {tmps:= #[iy x P d,ptr w.heap.size,z2,z3,z4,v5,z6,z7,z8,z9,z10,z11,z12,z13,qM,qN,qO,z17,qP,oV,z20,z21,z22,z23,z24,z25,z26,z27,z28,z29,z30,z31,z32,z33,z34,z35,z36,z37,z38,z39,z40,z41,z42,z43,z44,z45,z46,z47,z48,z49,z50,z51,z52,z53,z54,z55,z56,z57,z58,z59,z60,z61,z62,z63,z64,z65],defers:=[] } wx:=by
        intro A c v5 z2 z3 z4 z6 z7 z8 z9 z10 z11 z12 z13 qM qN qO z17 qP oV z20 z21 z22 z23 z24 z25 z26 z27 z28 z29 z30 z31 z32 z33 z34 z35 z36 z37 z38 z39 z40 z41 z42 z43 z44 z45 z46 z47 z48 z49 z50 z51 z52 z53 z54 z55 z56 z57 z58 z59 z60 z61 z62 z63 z64 z65 wx hrel;refine hK1 _ _ ?_
        try dsimp only
        obtain ⟨rfl,hx0,hown,hbw⟩:=hrel;have k6:=hx0.cell (j:=6) rfl;rw [← UD] at hown ⊢;go_wp2
        go_loopw [5,51] (fun v5 i wr=>∃ (k:Nat) (A:Option Addr) (c:Nat),k≤x.aC.length∧i= .int .i64 k∧v5= .slice A (Lp x k).length c∧Held wr w.heap.size (aA ⟨x,P,d⟩) 27∧wr.ownsRow (w.heap.size+1) 9 1 (.slice A (Lp x k).length c) (Lp x k).length ((Lp x k).map jG)∧Below w.heap.size w wr) (fun _ i _=>x.aC.length - (intOf i).toNat)
        case atStart=>exact ⟨0,_,_,Nat.zero_le _,rfl,rfl,hx0,hown,hbw⟩
        case round=>
         obtain ⟨k,A1,c1,hk,rfl,rfl,hx1,hown1,hb1⟩:=hrel;have Gh:=hb1.size;have aD2:=hx1.lt;have hkl:=Yy x k hk
         by_cases hlt:k<x.aC.length
         · obtain ⟨b,o,rfl,hS,hb,hc⟩:=(hp.below hb1).at_ k hlt
           obtain ⟨c1',c2'⟩:=hc k hlt;clear hc;obtain ⟨⟨p1,p2⟩,p3,p4⟩:=sD.out _ (List.getElem_mem hlt);have hnx:=UC x k hlt;obtain ⟨pb,hpb⟩:∃ q,x.aC[k].aT=q:=⟨_,rfl⟩;obtain ⟨pp,hpp⟩:∃ q,x.aC[k].aP=q:=⟨_,rfl⟩;rw [hpb,hpp] at hnx;rw [hpb] at p1 p2 c1';rw [hpp] at p3 p4 c2';have HNX:=hide hnx;clear hnx hpb hpp
           have p5:pb≤99:=by omega
           have p6:pp≤99:=by omega
           have p7:0≤pp:=by omega
           have p8:0≤pb:=by omega
           have i1:(0:Int)≤(k:Int):=by omega
           have i2:(k:Int)<(x.aC.length:Int):=by omega
           go_wp2_with (first | (go_at_call 42;refine (Fa 112 pb pp _ ⟨by assumption,by assumption⟩ ⟨by assumption,by assumption⟩).mono ?_;rintro e w3 ⟨rfl,hw3⟩;obtain rfl:=hw3.symm) | (at_builtin;refine wpList_append_lies _ rfl _ _ _ rfl (w.heap.size+1) 9 i0 (.string ByteArray.empty) 1 16 Tryz.underlying112 hi hz0 hz1 hz2 rfl (by omega) _ _ _ rfl ((hown1.alloc _).alloc _) ⟨(wr.heap.size+1),0,none⟩ 1 1 [.string ⟨(M.bV 112 pb pp).toArray⟩] rfl rfl (dJ _ _ _ _ (by simp)) (by simp [jG,Value.oneCell']) (by omega) (by simp only [maxLen];omega) (by omega) (by first | omega | (simp;omega)) ((wr.heap.size+1)+1) (by simp) ?_))
           intro g1 cap w4 hown4 hgrow _ _;have hv:(.string ⟨(M.bV 112 pb pp).toArray⟩)=jG (M.bV 112 pb pp):=rfl;rw [hv] at hown4 hgrow;have hgb:Below (w.heap.size+1) _ w4:=eX ((hown1.alloc _).alloc _) hgrow (by omega) (by simp;omega);have hx4:=((hx1.alloc _).alloc _).upto hgb (by omega);have hb4:=((hb1.alloc (by omega) _).alloc (by simp;omega) _).trans (hgb.mono (by omega));go_wp2
           have hown5:w4.ownsRow (w.heap.size+1) 9 1 (.slice (some ⟨g1,0,none⟩) (Lp x (k+1)).length cap) (Lp x (k+1)).length ((Lp x (k+1)).map jG):=by
            rw [HNX.out,List.length_append,List.length_singleton,List.map_append];exact hown4
           go_roundw
           case rel=>exact ⟨k+1,some ⟨g1,0,none⟩,cap,by omega,by go_num,by rw [HNX.out,List.length_append,List.length_singleton],hx4,hown5,hb4⟩
           case measure=>simp [intOf] <;> omega
         · have hke:k=x.aC.length:=by omega
           subst hke;have hjn:=Ul (M.pieces x) (by unfold M.pieces;simp) A1 c1 (w.heap.size+1) wr (by rw [← GU];exact hown1) (by have:=Yz HX.out x.aC.length;rw [QE] at this;unfold M.print at this;omega) (by rw [← GU];omega);rw [GU]
           go_wp2_with (go_at_call 44;refine hjn.mono ?_;rintro e w5 ⟨rfl,hb5⟩)
           go_ret2;exact ⟨rfl,hb1.trans (hb5.mono hb1.size)⟩
       clear hK1;have HJ3:=hide J3;clear J3;obtain ⟨rfl,hx0,hown,hbw⟩:=hrel;have aks:=hbw.size;have hlt0:=hx0.lt;have k5:=hx0.cell (j:=5) rfl
       by_cases hc:x.cO=true
       · have hb:x.cO=true:=hc
         have HC:=hide hc;clear hc
         go_wp2_with (first | (at_builtin;refine wpList_append_lies _ rfl _ _ _ rfl (w.heap.size+1) 9 i0 (.string ByteArray.empty) 1 16 Tryz.underlying112 hi hz0 hz1 hz2 rfl (by omega) _ _ _ rfl (hown.alloc _) ⟨wx.heap.size,0,none⟩ 1 1 [.string ⟨#[43]⟩] rfl rfl (xW _ _ _) (by simp [jG,Value.oneCell']) (by omega) (by simp only [maxLen];omega) (by omega) (by first | omega | (simp;omega)) (wx.heap.size+1) (by simp) ?_))
         intro g1 cap w4 hown4 hgrow _ _;have hv:(.string ⟨#[43]⟩)=jG ([43]):=rfl;rw [hv] at hown4 hgrow;have hgb:Below (w.heap.size+1) _ w4:=eX (hown.alloc _) hgrow (by omega) (by simp;omega);have hx4:Held w4 w.heap.size (aA ⟨x,P,d⟩) 27:=(hx0.alloc _).upto hgb (by omega);have hb4:=(hbw.alloc (by omega) _).trans (hgb.mono (by omega))
         have e2:Js x=pc2 x++[[43]]:=by unfold Js;rw [if_pos HC.out]
         go_wp2
         have hown5:w4.ownsRow (w.heap.size+1) 9 1 (.slice (some ⟨g1,0,none⟩) (Js x).length cap) (Js x).length ((Js x).map jG):=by
          rw [e2,List.length_append,List.length_singleton,List.map_append];exact hown4
         exact HJ3.out (some ⟨g1,0,none⟩) cap _ _ _ _ _ _ _ _ _ _ _ _ _ _ _ _ _ _ _ _ _ _ _ _ _ _ _ _ _ _ _ _ _ _ _ _ _ _ _ _ _ _ _ _ _ _ _ _ _ _ _ _ _ _ _ _ _ _ _ _ _ _ _ _ _ ⟨by rw [e2,List.length_append,List.length_singleton] <;> try (rw [n0]),hx4,hown5,hb4⟩
       · have hb:x.cO=false:=by simpa using hc
         have e2:Js x=pc2 x:=by unfold Js;rw [if_neg hc,List.append_nil]
         clear hc;go_wp2;exact HJ3.out A c _ _ _ _ _ _ _ _ _ _ _ _ _ _ _ _ _ _ _ _ _ _ _ _ _ _ _ _ _ _ _ _ _ _ _ _ _ _ _ _ _ _ _ _ _ _ _ _ _ _ _ _ _ _ _ _ _ _ _ _ _ _ _ _ wx (by rw [e2];exact ⟨rfl,hx0,hown,hbw⟩)
      clear hK2;have HJ2:=hide J2;clear J2;obtain ⟨rfl,hx0,hown,hbw⟩:=hrel;have aks:=hbw.size;have hlt0:=hx0.lt;have k4:=hx0.cell (j:=4) rfl
      by_cases hc:x.first≠0
      · have hb:0<x.first:=by omega
        have HC:=hide hc;clear hc
        go_wp2_with (first | (go_at_call 43;refine (HIT.out _).mono ?_;rintro e w3 ⟨rfl,hw3⟩;obtain rfl:wx=w3:=hw3.symm) | (at_builtin;refine wpList_append_lies _ rfl _ _ _ rfl (w.heap.size+1) 9 i0 (.string ByteArray.empty) 1 16 Tryz.underlying112 hi hz0 hz1 hz2 rfl (by omega) _ _ _ rfl (hown.alloc _) ⟨wx.heap.size,0,none⟩ 1 1 [.string (⟨#[102]⟩++⟨(M.dec x.first).toArray⟩)] rfl rfl (xW _ _ _) (by simp [jG,Value.oneCell']) (by omega) (by simp only [maxLen];omega) (by omega) (by first | omega | (simp;omega)) (wx.heap.size+1) (by simp) ?_))
        intro g1 cap w4 hown4 hgrow _ _;have hv:(.string (⟨#[102]⟩++⟨(M.dec x.first).toArray⟩))=jG (102::M.dec x.first):=congrArg Value.string (FD [102] _);rw [hv] at hown4 hgrow;have hgb:Below (w.heap.size+1) _ w4:=eX (hown.alloc _) hgrow (by omega) (by simp;omega);have hx4:Held w4 w.heap.size (aA ⟨x,P,d⟩) 27:=(hx0.alloc _).upto hgb (by omega);have hb4:=(hbw.alloc (by omega) _).trans (hgb.mono (by omega))
        have e2:pc2 x=pc1 x++[102::M.dec x.first]:=by unfold pc2;rw [if_pos HC.out]
        go_wp2
        have hown5:w4.ownsRow (w.heap.size+1) 9 1 (.slice (some ⟨g1,0,none⟩) (pc2 x).length cap) (pc2 x).length ((pc2 x).map jG):=by
         rw [e2,List.length_append,List.length_singleton,List.map_append];exact hown4
        exact HJ2.out (some ⟨g1,0,none⟩) cap _ _ _ _ _ _ _ _ _ _ _ _ _ _ _ _ _ _ _ _ _ _ _ _ _ _ _ _ _ _ _ _ _ _ _ _ _ _ _ _ _ _ _ _ _ _ _ _ _ _ _ _ _ _ _ _ _ _ _ _ _ _ _ _ _ ⟨by rw [e2,List.length_append,List.length_singleton] <;> try (rw [n0]),hx4,hown5,hb4⟩
      · have hb:¬ 0<x.first:=by omega
        have e2:pc2 x=pc1 x:=by unfold pc2;rw [if_neg hc,List.append_nil]
        clear hc;go_wp2;exact HJ2.out A c _ _ _ _ _ _ _ _ _ _ _ _ _ _ _ _ _ _ _ _ _ _ _ _ _ _ _ _ _ _ _ _ _ _ _ _ _ _ _ _ _ _ _ _ _ _ _ _ _ _ _ _ _ _ _ _ _ _ _ _ _ _ _ _ wx (by rw [e2];exact ⟨rfl,hx0,hown,hbw⟩)
     clear hK3;have YW:=hide J1;clear J1;obtain ⟨rfl,hx0,hown,hbw⟩:=hrel;have aks:=hbw.size;have hlt0:=hx0.lt;have k2:=hx0.cell (j:=2) rfl;have k3:=hx0.cell (j:=3) rfl
     by_cases hc:x.aT≠0
     · have hb:0<x.aT:=by omega
       have HC:=hide hc;clear hc
       go_wp2_with (first | (go_at_call 42;refine (Fa 99 x.aT x.aP _ ⟨by assumption,by assumption⟩ ⟨by assumption,by assumption⟩).mono ?_;rintro e w3 ⟨rfl,hw3⟩;obtain rfl:wx=w3:=hw3.symm) | (at_builtin;refine wpList_append_lies _ rfl _ _ _ rfl (w.heap.size+1) 9 i0 (.string ByteArray.empty) 1 16 Tryz.underlying112 hi hz0 hz1 hz2 rfl (by omega) _ _ _ rfl (hown.alloc _) ⟨wx.heap.size,0,none⟩ 1 1 [.string ⟨(M.bV 99 x.aT x.aP).toArray⟩] rfl rfl (xW _ _ _) (by simp [jG,Value.oneCell']) (by omega) (by simp only [maxLen];omega) (by omega) (by first | omega | (simp;omega)) (wx.heap.size+1) (by simp) ?_))
       intro g1 cap w4 hown4 hgrow _ _;have hv:(.string ⟨(M.bV 99 x.aT x.aP).toArray⟩)=jG (M.bV 99 x.aT x.aP):=rfl;rw [hv] at hown4 hgrow;have hgb:Below (w.heap.size+1) _ w4:=eX (hown.alloc _) hgrow (by omega) (by simp;omega);have hx4:Held w4 w.heap.size (aA ⟨x,P,d⟩) 27:=(hx0.alloc _).upto hgb (by omega);have hb4:=(hbw.alloc (by omega) _).trans (hgb.mono (by omega))
       have e2:pc1 x=O4 x++[M.bV 99 x.aT x.aP]:=by unfold pc1;rw [if_pos HC.out]
       go_wp2
       have hown5:w4.ownsRow (w.heap.size+1) 9 1 (.slice (some ⟨g1,0,none⟩) (pc1 x).length cap) (pc1 x).length ((pc1 x).map jG):=by
        rw [e2,List.length_append,List.length_singleton,List.map_append];exact hown4
       exact YW.out (some ⟨g1,0,none⟩) cap _ _ _ _ _ _ _ _ _ _ _ _ _ _ _ _ _ _ _ _ _ _ _ _ _ _ _ _ _ _ _ _ _ _ _ _ _ _ _ _ _ _ _ _ _ _ _ _ _ _ _ _ _ _ _ _ _ _ _ _ _ _ _ _ _ ⟨by rw [e2,List.length_append,List.length_singleton] <;> try (rw [n0]),hx4,hown5,hb4⟩
     · have hb:¬ 0<x.aT:=by omega
       have e2:pc1 x=O4 x:=by unfold pc1;rw [if_neg hc,List.append_nil]
       clear hc;go_wp2;exact YW.out A c _ _ _ _ _ _ _ _ _ _ _ _ _ _ _ _ _ _ _ _ _ _ _ _ _ _ _ _ _ _ _ _ _ _ _ _ _ _ _ _ _ _ _ _ _ _ _ _ _ _ _ _ _ _ _ _ _ _ _ _ _ _ _ _ wx (by rw [e2];exact ⟨rfl,hx0,hown,hbw⟩)
 · rw [if_neg h0]
   have hb0:(E == 0)=false:=by simpa using h0
   go_enter Tryz.func16,Tryz.ntmps16
   go_upto_region 1 with (fail)
   go_cut [4] from 8 to 10 (fun v4 wx=>v4= .int .i64 E∧Held wx w.heap.size (aA ⟨x,P,d⟩) 27∧Below w.heap.size w wx)
   case first=>
    have hB:=(aX.nil w).new (by simp) (aA ⟨x,P,d⟩) 27
    go_wp2_with (first | (refine aB 27 (.tmp 1) rfl ?_;refine ak (hB.ah rfl) Tryz.underlying27 rfl bG rfl (.tmp 1) rfl rfl ?_) | (go_at_call 31;refine (vV.out _ hB.bw).mono ?_;rintro e w5 ⟨rfl,hb5⟩))
    go_meet;exact ⟨rfl,(hB.ah rfl).below hb5,hB.bw.trans (hb5.mono hB.bw.size)⟩
   case rest=>
    obtain ⟨rfl,hx0,hbw⟩:=hcut
    have hb1:(E != 0)=true:=by simp [h0]
    go_wp2;go_ret2;exact ⟨rfl,hbw⟩
end Go.Proofs.YtcjglfbpjkdgiaaGreatDoor
