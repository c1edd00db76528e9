/- Parts of a proof. -/
import Derived.WalkMore
import Derived.Test.YtcjglfbpjkdgiaaGreatDoorKc21
import Derived.Test.YtcjglfbpjkdgiaaGreatDoorKc26
set_option maxHeartbeats 40000000
set_option maxRecDepth 100000
set_option linter.unusedVariables false
set_option linter.unusedSimpArgs false
namespace Go.Proofs.YtcjglfbpjkdgiaaGreatDoor
open Go.RowKit
def jw:List Value:=[.int .i64 0,.string ⟨#[]⟩,.int .i64 0,.int .i64 0,.int .i64 0,.bool false,.slice none 0 0]
theorem dW:(Tryz.prog.info? 36).map (·.size)=some 7:=by kernel_rfl
theorem Nl:(Tryz.prog.info? 72).map (fun i=>(i.zero,i.size,i.bytes))=some (some (.agg #[.int .i64 0,.int .i64 0]),2,16):=by kernel_rfl
theorem ng (x:M.aV) (A:Option Addr) (c:Nat):∀ v∈aB ⟨x,A,c⟩,v.oneCell'=true:=by simp [aB,Value.oneCell']
structure oK (w:World) (B b0 o0:Nat) (ws:List (List UInt8)) (x:M.aV) (A:Option Addr) (c:Nat) (W:World):Prop where
 z:Held W w.heap.size jw 36
 bx:Held W B (aB ⟨x,A,c⟩) 36
 lo:w.heap.size<b0∧b0<B
 ws:∀ j (_:j<ws.length),W.cell? ⟨b0,o0+j,none⟩=some (.string ⟨ws[j].toArray⟩)
 own:W.ownsRow (B+1) 72 2 (.slice A x.aF.length c) x.aF.length (dn x.aF)
 bw:Below w.heap.size w W
theorem oK.set {w W:World} {B b0 o0:Nat} {ws:List (List UInt8)} {x x':M.aV} {A:Option Addr} {c:Nat} (h:oK w B b0 o0 ws x A c W) (j:Nat) (u:Value) (he:aB ⟨x',A,c⟩=(aB ⟨x,A,c⟩).set j u) (hp:x'.aF=x.aF):oK w B b0 o0 ws x' A c (W.setCell ⟨B,j,none⟩ u):=by
 obtain ⟨l1,l2⟩:=h.lo;refine ⟨h.z.other (by omega) _ _,by rw [he];exact h.bx.set j u,h.lo,fun k hk=>(World.cell?_setCell_other _ _ ⟨b0,o0+k,none⟩ u (fun e=>by injection e with e1;omega)).trans (h.ws k hk),?_,h.bw.setCell (p:=⟨B,j,none⟩) (by show w.heap.size≤B;omega) u⟩;rw [hp];exact fF h.own (fun g hg=>Below.heap_setCell W ⟨B,j,none⟩ u g (fun e=>by have:=(dH h.own hg).1;have e:g=B:=e;omega))
theorem oK.append {w W w4:World} {B b0 o0 g1 k cap:Nat} {ws:List (List UInt8)} {x x':M.aV} {A:Option Addr} {c:Nat} {o:Obj} (h:oK w B b0 o0 ws x A c W) (hgrow:(W.alloc o).grownBy w4 (Value.slice A x.aF.length c).ownBlock)
 (hown4:w4.ownsRow (B+1) 72 2 (.slice (some ⟨g1,0,none⟩) k cap) k (dn x'.aF)) (hk:k=x'.aF.length) (he:aB ⟨x',some ⟨g1,0,none⟩,cap⟩=(aB ⟨x,A,c⟩).set 6 (.slice (some ⟨g1,0,none⟩) k cap)):
 Held w4 B (aB ⟨x,A,c⟩) 36∧oK w B b0 o0 ws x' (some ⟨g1,0,none⟩) cap (w4.setCell ⟨B,6,none⟩ (.slice (some ⟨g1,0,none⟩) k cap)):=by
 obtain ⟨l1,l2⟩:=h.lo;have hBl:=h.bx.lt
 have hno:∀ b,b≤B→some b≠(Value.slice A x.aF.length c).ownBlock:=fun b hb e=>by have:=(dH h.own e.symm).1;omega
 have tJ:Held w4 B (aB ⟨x,A,c⟩) 36:=(hgrow.block _ (by simp;omega) (hno _ (Nat.le_refl _))).trans (h.bx.alloc o);have hb4:Below w.heap.size w w4:=((h.bw.alloc (by have:=h.bw.size;omega) o).trans (dZ (h.own.alloc o) hgrow (by omega) (by simp;omega)));refine ⟨tJ,(show Held w4 w.heap.size jw 36 from (hgrow.block _ (by simp;omega) (hno _ (by omega))).trans (h.z.alloc o)).other (by omega) _ _,by rw [he];exact tJ.set 6 _,h.lo,fun j hj=>?_,?_,hb4.setCell (p:=⟨B,6,none⟩) (by show w.heap.size≤B;omega) _⟩
 · rw [World.cell?_setCell_other _ _ ⟨b0,o0+j,none⟩ _ (fun e=>by injection e with e1;omega),hgrow.cell_far ⟨b0,o0+j,none⟩ (by simp;omega) (hno _ (by show b0≤B;omega)),World.cell?_alloc_lt _ _ ⟨b0,o0+j,none⟩ (by show b0<_;omega)]
   exact h.ws j hj
 · rw [← hk]
   refine fF hown4 (fun g hg=>Below.heap_setCell w4 _ _ g (fun e=>by have:=(dH hown4 hg).1;have e:g=B:=e;omega))
def uG:Except Int M.aV→M.aV × Int × Int
 | .error n=>(M.blank,n,25)
 | .ok x=>if M.cZ x≠0 then (M.blank,0,M.cZ x) else (x,0,0)
theorem MB (l:List UInt8) (h:¬ 4096<l.length):M.parse l=uG (M.iO (M.words l)):=by
 unfold M.parse uG
 rw [if_neg h]
 cases M.iO (M.words l) <;> rfl
theorem Um (w:List UInt8) (l:List (List UInt8)) (ha:w≠[97]) (hb:w≠[98]):M.iO (w::l)= .error 1:=by
 rw [M.iO.eq_def];simp only;rw [if_pos ⟨ha,hb⟩]
theorem Iu (w:List UInt8) (hw:w=[97]∨w=[98]):M.iO [w]= .error 2:=by
 rw [M.iO.eq_def];simp only;rw [if_neg (by rintro ⟨h1,h2⟩;exact hw.elim h1 h2)]
theorem Lm (w k:List UInt8) (l:List (List UInt8)) (hw:w=[97]∨w=[98]) (hk:M.yG k=false):M.iO (w::k::l)= .error 2:=by
 rw [M.iO.eq_def];simp only;rw [if_neg (by rintro ⟨h1,h2⟩;exact hw.elim h1 h2),if_pos hk]
theorem Ul (w k:List UInt8) (l:List (List UInt8)) (hw:w=[97]∨w=[98]) (hk:M.yG k=true):M.iO (w::k::l)=M.oQ {M.blank with aN:=if w=[98] then 1 else 0,kind:=⟨k.toArray⟩ } 2 l:=by
 rw [M.iO.eq_def];simp only;rw [if_neg (by rintro ⟨h1,h2⟩;exact hw.elim h1 h2),if_neg (by rw [hk];decide),M.SA]
theorem OG {x:M.aV} {n a b:Int} {w:List UInt8} {l:List (List UInt8)} (h:M.gV 99 w=some (a,b)) (ha:0<a) (hb:0<b):M.oQ x n (w::l)=M.mZ {x with aT:=a,aX:=b } (n+1) l:=by
 rw [M.oQ,h,Option.filter_some,if_pos (by simpa using ⟨ha,hb⟩)]
theorem Dh {x:M.aV} {n:Int} {w:List UInt8} {l:List (List UInt8)} (h:∀ a b,M.gV 99 w=some (a,b)→¬ (0<a∧0<b)):M.oQ x n (w::l)=M.mZ x n (w::l):=by
 rw [M.oQ]
 cases hp:M.gV 99 w with
 | none=>rfl
 | some q=>rw [Option.filter_some,if_neg (by simpa using h q.1 q.2 hp)]
theorem Uo {x:M.aV} {n a:Int} {w:List UInt8} {l:List (List UInt8)} (h:M.wZ w=some a) (ha:0<a):M.mZ x n (w::l)=M.fP {x with first:=a } (n+1) l:=by
 rw [M.mZ,h,Option.filter_some,if_pos (by simpa using ha)]
theorem Dx {x:M.aV} {n:Int} {w:List UInt8} {l:List (List UInt8)} (h:∀ a,M.wZ w=some a→¬ 0<a):M.mZ x n (w::l)=M.fP x n (w::l):=by
 rw [M.mZ]
 cases hp:M.wZ w with
 | none=>rfl
 | some q=>rw [Option.filter_some,if_neg (by simpa using h q hp)]
def dG:Nat→Code→Code
 | 0,c=>c
 | n+1,.seq _ b=>dG n b
 | _+1,c=>c
noncomputable def jT (n:Nat):Code:=dG n ((Tryz.f51).body.getD .skip)
theorem PZ (l:List UInt8) (w:World) (ws:List (List UInt8)) (B b0 o0 c0:Nat) (rr:M.aV × Int × Int) (KC:Hid (∀ v∈ws,v.length≤l.length)) (hsz:(ByteArray.mk l.toArray).size=l.length) (hlong:¬ 4096<l.length) (hwn:ws.length≤4097) (hwb:ws.length≤c0∧c0≤9223372036854775807∧ws.length≤17592186044416):∀ (x:M.aV) (k:Nat) (v7:Value) (z1 z3 z4 z8 z9 z10 z11 z12 z13 pG pI qj z17 qU rY z20 z21 z22 z23 z24 z25 z26 z27 z28 z29 z30 z31 z32 z33 z34 z35 z36 z37 z38 z39 z40 z41 z42 z43 z44 z45 z46 z47 z48 z49 z50 z51 z52 z53 z54 z55 z56 z57 z58 z59 z60 z61 z62 z63 z64 z65 z66 z67 z68 z69 z70 z71 z72 z73 z74 z75 z76 z77 z78 z79 z80 vM z82 z83 z84 z85 z86 z87 vN z89 vO z91 vP z93 vS vT vU vV vW vX kM kN kP kQ kR z105 kS z107 kT z109 kU kV kW kX kY kZ z116 z117 lg z119 lu lC lD lF z124 lG lH z127 lI lJ z130 z131 lK lM lN lQ lS lT z138 z139 lU z141 lV z143 lW z145 z146 lX z148 lY lZ l7 z152 l9 z154 mg z156 z157 mD z159 z160 mF z162 mG z164 mJ mM z167 z168:Value) (wx:World),(v7= .int .i64 (k:Int)∧k≤ws.length∧x.aF=[]∧oK w B b0 o0 ws x none 0 wx∧uG (M.iW x k (ws.drop k))=rr)→(jT 12).wp Tryz.prog (bodyPost Tryz.prog Tryz.f51 (fun e w'=>∃ A c,e= .returned (.tuple #[iG rr.1 A c,.int .i64 rr.2.1,.int .i64 rr.2.2])∧fA w' (fun b=>w.heap.size≤b) A c rr.1.aF∧Below w.heap.size w w')) {tmps:= #[.string ⟨l.toArray⟩,z1,ptr w.heap.size,z3,z4,.slice (some ⟨b0,o0,none⟩) ws.length c0,ptr B,v7,z8,z9,z10,z11,z12,z13,pG,pI,qj,z17,qU,rY,z20,z21,z22,z23,z24,z25,z26,z27,z28,z29,z30,z31,z32,z33,z34,z35,z36,z37,z38,z39,z40,z41,z42,z43,z44,z45,z46,z47,z48,z49,z50,z51,z52,z53,z54,z55,z56,z57,z58,z59,z60,z61,z62,z63,z64,z65,z66,z67,z68,z69,z70,z71,z72,z73,z74,z75,z76,z77,z78,z79,z80,vM,z82,z83,z84,z85,z86,z87,vN,z89,vO,z91,vP,z93,vS,vT,vU,vV,vW,vX,kM,kN,kP,kQ,kR,z105,kS,z107,kT,z109,kU,kV,kW,kX,kY,kZ,z116,z117,lg,z119,lu,lC,lD,lF,z124,lG,lH,z127,lI,lJ,z130,z131,lK,lM,lN,lQ,lS,lT,z138,z139,lU,z141,lV,z143,lW,z145,z146,lX,z148,lY,lZ,l7,z152,l9,z154,mg,z156,z157,mD,z159,z160,mF,z162,mG,z164,mJ,mM,z167,z168],defers:=[] } wx:=by
 intro x k v7 z1 z3 z4 z8 z9 z10 z11 z12 z13 pG pI qj z17 qU rY z20 z21 z22 z23 z24 z25 z26 z27 z28 z29 z30 z31 z32 z33 z34 z35 z36 z37 z38 z39 z40 z41 z42 z43 z44 z45 z46 z47 z48 z49 z50 z51 z52 z53 z54 z55 z56 z57 z58 z59 z60 z61 z62 z63 z64 z65 z66 z67 z68 z69 z70 z71 z72 z73 z74 z75 z76 z77 z78 z79 z80 vM z82 z83 z84 z85 z86 z87 vN z89 vO z91 vP z93 vS vT vU vV vW vX kM kN kP kQ kR z105 kS z107 kT z109 kU kV kW kX kY kZ z116 z117 lg z119 lu lC lD lF z124 lG lH z127 lI lJ z130 z131 lK lM lN lQ lS lT z138 z139 lU z141 lV z143 lW z145 z146 lX z148 lY lZ l7 z152 l9 z154 mg z156 z157 mD z159 z160 mF z162 mG z164 mJ mM z167 z168 wx hrel;obtain ⟨rfl,hk,hxp,st,hend⟩:=hrel;have HE:=hide hend;clear hend
 dsimp only [jT,dG,Tryz.f51,Option.getD]
 go_wp2
 go_loopw [7] (fun v wr=>∃ (k:Nat) (x:M.aV) (A:Option Addr) (c:Nat),v= .int .i64 (k:Int)∧k≤ws.length∧x.aF.length≤k∧oK w B b0 o0 ws x A c wr∧Aside (uG (M.iW x k (ws.drop k))=rr)) (fun v _=>ws.length - (intOf v).toNat)
 case atStart=>exact ⟨k,x,none,0,rfl,hk,by rw [hxp];exact Nat.zero_le _,st,HE.out⟩
 case round=>
  obtain ⟨k,x,A,c,rfl,hk,hpl,st,HE⟩:=hrel;have HE:=hide HE
  by_cases hlt:k<ws.length
  · have hcw:=st.ws k hlt
    obtain ⟨wk,hwk⟩:∃ q,ws[k]=q:=⟨_,rfl⟩;have hdr:=List.drop_eq_getElem_cons hlt;rw [hwk] at hcw hdr;have HDR:=hide hdr;have hwl:=KC.out wk (by rw [← hwk];exact List.getElem_mem hlt);clear hwk hdr
    have i1:(0:Int)≤(k:Int):=by omega
    have i2:(k:Int)<(ws.length:Int):=by omega
    have hpr:=fun W=>FW 112 wk W (by omega);have hpe:=FT 112 wk;have hpv:=fun a b (h:M.gV 112 wk=some (a,b))=>FV h;obtain ⟨a1,a2,hpq⟩:∃ a b,xH 112 wk=(a,b):=⟨_,_,rfl⟩;obtain ⟨pb,hpb⟩:∃ b,zW 112 wk=b:=⟨_,rfl⟩;rw [hpb] at hpe;rw [hpq] at hpv
    simp only [hpq,hpb] at hpr
    rw [show ((112:UInt8).toNat:Int)=112 from rfl] at hpr;have VP:=hide hpr;have X4:=hide hpe;have HPV:=hide hpv;clear hpr hpe hpv hpq hpb
    cases pb with
    | true=>
      have hpo:M.gV 112 wk=some (a1,a2):=by
       cases hq:M.gV 112 wk with
       | none=>have:=X4.out;rw [hq] at this;exact absurd this (by decide)
       | some q=>obtain ⟨q1,q2⟩:=q;have:=HPV.out q1 q2 hq;cases this;rfl
      have c6:=st.bx.cell (j:=6) rfl;have f6:=st.bx.frozen 6;obtain ⟨i0,hi0,hz0,hz1,hz2⟩:=info_parts Nl
      have Vt:uG (M.iW {x with aF:=x.aF++[⟨a1,a2⟩] } ((k:Int)+1) (ws.drop (k+1)))=rr:=by
       have:=HE.out
       rw [HDR.out] at this;rw [M.iW,hpo] at this;exact this
      have HE2:=hide Vt;clear Vt hpo
      go_wp2_with (first | (go_at_call 106;refine (VP.out _).mono ?_;rintro e w3 ⟨rfl,hw3⟩;subst hw3) | (at_builtin;refine wpList_append_lies _ rfl _ _ _ rfl (B+1) 72 i0 (.agg #[.int .i64 0,.int .i64 0]) 2 16 Tryz.underlying34 hi0 hz0 hz1 hz2 rfl (by omega) _ _ _ rfl (st.own.alloc _) ⟨wr.heap.size,0,none⟩ 1 1 [.int .i64 a1,.int .i64 a2] rfl rfl (dV _ _ _ _ (by simp)) (by simp [Value.oneCell']) (by omega) (by simp only [maxLen];omega) (by omega) (by have:=st.bx.lt;simp;omega) (wr.heap.size+1) (by simp) ?_))
      intro g1 cap w4 hown4 hgrow _ _
      have hpc:dn (x.aF++[⟨a1,a2⟩])=dn x.aF++[.int .i64 a1,.int .i64 a2]:=by simp [dn]
      obtain ⟨tJ,hst⟩:=st.append (x':={x with aF:=x.aF++[⟨a1,a2⟩] }) hgrow (by rw [hpc];exact hown4) (by simp) (by simp [aB]);have d6:=tJ.cell (j:=6) rfl;have e6:=tJ.frozen 6;have HST:=hide hst;clear hst hgrow hown4 hpc;go_wp2
      go_roundw
      case rel=>exact ⟨k+1,{x with aF:=x.aF++[⟨a1,a2⟩] },_,_,by go_num,by omega,by simp;omega,HST.out,HE2.out⟩
      case measure=>simp [intOf] <;> omega
    | false=>
      have hr:rr=(M.blank,(k:Int)+1,25):=by
       have:=HE.out
       rw [HDR.out,M.iW] at this;rw [← this]
       cases hq:M.gV 112 wk with
       | none=>rfl
       | some q=>have:=X4.out;rw [hq] at this;cases this
      have HR:=hide hr;clear hr
      go_wp2_with (first | (go_at_call 106;refine (VP.out _).mono ?_;rintro e w3 ⟨rfl,hw3⟩;subst hw3) | (refine aQ 36 (.tmp 2) (.tmp 149) rfl ?_;refine aI (st.z) jw rfl dW (ng M.blank none 0) rfl (.tmp 2) (.tmp 149) rfl rfl rfl ?_))
      have hF:=(st.z).whole jw rfl;refine bodyPost_ret (jD (p:=2) hF Tryz.underlying36 rfl dW rfl _ rfl) rfl ⟨none,0,?_,?_,below_setCells _ (Nat.le_refl _) _ _ _ _ (st.bw)⟩
      · rw [HR.out];rfl
      · rw [HR.out];exact Reads.none_ _ _ _
  · have hke:k=ws.length:=by omega
    subst hke;have Wu:fA wr (fun b=>B+1≤b) A c x.aF:=Reads.jh st.own (fun b h=>h) (by omega);have hrd:fA wr (fun b=>w.heap.size≤b) A c x.aF:=Reads.more Wu (fun b _ h=>by have h:B+1≤b:=h;have:=st.lo;show w.heap.size≤b;omega);have hck:=fun W (hb:Below wr.heap.size wr W)=>o9 (fun b=>w.heap.size≤b) x A c W (Reads.below hrd hb);have hend:=HE.out;rw [List.drop_length] at hend
    unfold M.iW uG at hend
    simp only at hend
    obtain ⟨E,hE⟩:∃ E,M.cZ x=E:=⟨_,rfl⟩;rw [hE] at hck hend;have Ap:=hide hck;have HRD:=hide Wu;clear hck hE hrd Wu
    by_cases h3:E=0
    · have e1:rr=(x,0,0):=by rw [← hend,if_neg (by simp [h3])]
      have h3':(E != 0)=false:=by simp [h3]
      have HR:=hide e1;clear hend h3 e1
      go_wp2_with (first | (refine aC 36 (.tmp 6) rfl ?_;refine au (st.bx) Tryz.underlying36 rfl dW rfl (.tmp 6) rfl rfl ?_) | (go_at_call 8;refine (Ap.out _ (Below.refl _ _)).mono ?_;rintro e w5 ⟨rfl,hb5⟩;have YL:=st.z.below hb5;have hx5:=st.bx.below hb5) | (refine aC 36 (.tmp 6) rfl ?_;refine au (hx5) Tryz.underlying36 rfl dW rfl (.tmp 6) rfl rfl ?_) | (refine aQ 36 (.tmp 2) (.tmp 168) rfl ?_;refine aI (YL) (aB ⟨x,A,c⟩) rfl dW (ng x A c) rfl (.tmp 2) (.tmp 168) rfl rfl rfl ?_))
      have hF:=YL.whole (aB ⟨x,A,c⟩) rfl;refine bodyPost_ret (jD (p:=2) hF Tryz.underlying36 rfl dW rfl _ rfl) rfl ⟨A,c,?_,?_,below_setCells _ (Nat.le_refl _) _ _ _ _ (st.bw.trans (hb5.mono st.bw.size))⟩
      · rw [HR.out];rfl
      · rw [HR.out]
        exact Reads.more (Reads.keep (Reads.below HRD.out hb5) (by rw [setCells_size];exact Nat.le_refl _) (fun b o hb hlt=>World.cell?_of_block (Held.jK (g:=w.heap.size) (b:=b) (by have hb:B+1≤b:=hb;have:=st.lo;omega) _ _ _))) (fun b _ h=>by have h:B+1≤b:=h;have:=st.lo;show w.heap.size≤b;omega)
    · have e1:rr=(M.blank,0,E):=by rw [← hend,if_pos (by simpa using h3)]
      have h3':(E != 0)=true:=by simp [h3]
      have HR:=hide e1;clear hend h3 e1
      go_wp2_with (first | (refine aC 36 (.tmp 6) rfl ?_;refine au (st.bx) Tryz.underlying36 rfl dW rfl (.tmp 6) rfl rfl ?_) | (go_at_call 8;refine (Ap.out _ (Below.refl _ _)).mono ?_;rintro e w5 ⟨rfl,hb5⟩;have YL:=st.z.below hb5;have hx5:=st.bx.below hb5) | (refine aQ 36 (.tmp 2) (.tmp 166) rfl ?_;refine aI (YL) jw rfl dW (ng M.blank none 0) rfl (.tmp 2) (.tmp 166) rfl rfl rfl ?_))
      have hF:=(YL).whole jw rfl;refine bodyPost_ret (jD (p:=2) hF Tryz.underlying36 rfl dW rfl _ rfl) rfl ⟨none,0,?_,?_,below_setCells _ (Nat.le_refl _) _ _ _ _ (st.bw.trans (hb5.mono st.bw.size))⟩
      · rw [HR.out];rfl
      · rw [HR.out];exact Reads.none_ _ _ _
theorem PY (l:List UInt8) (w:World) (ws:List (List UInt8)) (B b0 o0 c0:Nat) (rr:M.aV × Int × Int) (KC:Hid (∀ v∈ws,v.length≤l.length)) (hsz:(ByteArray.mk l.toArray).size=l.length) (hlong:¬ 4096<l.length) (hwn:ws.length≤4097) (hwb:ws.length≤c0∧c0≤9223372036854775807∧ws.length≤17592186044416):∀ (x:M.aV) (k:Nat) (v7:Value) (z1 z3 z4 z8 z9 z10 z11 z12 z13 pG pI qj z17 qU rY z20 z21 z22 z23 z24 z25 z26 z27 z28 z29 z30 z31 z32 z33 z34 z35 z36 z37 z38 z39 z40 z41 z42 z43 z44 z45 z46 z47 z48 z49 z50 z51 z52 z53 z54 z55 z56 z57 z58 z59 z60 z61 z62 z63 z64 z65 z66 z67 z68 z69 z70 z71 z72 z73 z74 z75 z76 z77 z78 z79 z80 vM z82 z83 z84 z85 z86 z87 vN z89 vO z91 vP z93 vS vT vU vV vW vX kM kN kP kQ kR z105 kS z107 kT z109 kU kV kW kX kY kZ z116 z117 lg z119 lu lC lD lF z124 lG lH z127 lI lJ z130 z131 lK lM lN lQ lS lT z138 z139 lU z141 lV z143 lW z145 z146 lX z148 lY lZ l7 z152 l9 z154 mg z156 z157 mD z159 z160 mF z162 mG z164 mJ mM z167 z168:Value) (wx:World),(v7= .int .i64 (k:Int)∧k≤ws.length∧x.aF=[]∧oK w B b0 o0 ws x none 0 wx∧uG (M.fP x k (ws.drop k))=rr)→(jT 11).wp Tryz.prog (bodyPost Tryz.prog Tryz.f51 (fun e w'=>∃ A c,e= .returned (.tuple #[iG rr.1 A c,.int .i64 rr.2.1,.int .i64 rr.2.2])∧fA w' (fun b=>w.heap.size≤b) A c rr.1.aF∧Below w.heap.size w w')) {tmps:= #[.string ⟨l.toArray⟩,z1,ptr w.heap.size,z3,z4,.slice (some ⟨b0,o0,none⟩) ws.length c0,ptr B,v7,z8,z9,z10,z11,z12,z13,pG,pI,qj,z17,qU,rY,z20,z21,z22,z23,z24,z25,z26,z27,z28,z29,z30,z31,z32,z33,z34,z35,z36,z37,z38,z39,z40,z41,z42,z43,z44,z45,z46,z47,z48,z49,z50,z51,z52,z53,z54,z55,z56,z57,z58,z59,z60,z61,z62,z63,z64,z65,z66,z67,z68,z69,z70,z71,z72,z73,z74,z75,z76,z77,z78,z79,z80,vM,z82,z83,z84,z85,z86,z87,vN,z89,vO,z91,vP,z93,vS,vT,vU,vV,vW,vX,kM,kN,kP,kQ,kR,z105,kS,z107,kT,z109,kU,kV,kW,kX,kY,kZ,z116,z117,lg,z119,lu,lC,lD,lF,z124,lG,lH,z127,lI,lJ,z130,z131,lK,lM,lN,lQ,lS,lT,z138,z139,lU,z141,lV,z143,lW,z145,z146,lX,z148,lY,lZ,l7,z152,l9,z154,mg,z156,z157,mD,z159,z160,mF,z162,mG,z164,mJ,mM,z167,z168],defers:=[] } wx:=by
 intro x k v7 z1 z3 z4 z8 z9 z10 z11 z12 z13 pG pI qj z17 qU rY z20 z21 z22 z23 z24 z25 z26 z27 z28 z29 z30 z31 z32 z33 z34 z35 z36 z37 z38 z39 z40 z41 z42 z43 z44 z45 z46 z47 z48 z49 z50 z51 z52 z53 z54 z55 z56 z57 z58 z59 z60 z61 z62 z63 z64 z65 z66 z67 z68 z69 z70 z71 z72 z73 z74 z75 z76 z77 z78 z79 z80 vM z82 z83 z84 z85 z86 z87 vN z89 vO z91 vP z93 vS vT vU vV vW vX kM kN kP kQ kR z105 kS z107 kT z109 kU kV kW kX kY kZ z116 z117 lg z119 lu lC lD lF z124 lG lH z127 lI lJ z130 z131 lK lM lN lQ lS lT z138 z139 lU z141 lV z143 lW z145 z146 lX z148 lY lZ l7 z152 l9 z154 mg z156 z157 mD z159 z160 mF z162 mG z164 mJ mM z167 z168 wx hrel;obtain ⟨rfl,hk,hxp,st,hend⟩:=hrel;have HE:=hide hend;clear hend
 dsimp only [jT,dG,Tryz.f51,Option.getD]
 go_upto_region 23 with (fail)
 rename_i K1 hK1 K9 hK9
 have J3:∀ (x:M.aV) (k:Nat) (v7:Value) (z1 z3 z4 z8 z9 z10 z11 z12 z13 pG pI qj z17 qU rY z20 z21 z22 z23 z24 z25 z26 z27 z28 z29 z30 z31 z32 z33 z34 z35 z36 z37 z38 z39 z40 z41 z42 z43 z44 z45 z46 z47 z48 z49 z50 z51 z52 z53 z54 z55 z56 z57 z58 z59 z60 z61 z62 z63 z64 z65 z66 z67 z68 z69 z70 z71 z72 z73 z74 z75 z76 z77 z78 z79 z80 vM z82 z83 z84 z85 z86 z87 vN z89 vO z91 vP z93 vS vT vU vV vW vX kM kN kP kQ kR z105 kS z107 kT z109 kU kV kW kX kY kZ z116 z117 lg z119 lu lC lD lF z124 lG lH z127 lI lJ z130 z131 lK lM lN lQ lS lT z138 z139 lU z141 lV z143 lW z145 z146 lX z148 lY lZ l7 z152 l9 z154 mg z156 z157 mD z159 z160 mF z162 mG z164 mJ mM z167 z168:Value) (wx:World),(v7= .int .i64 (k:Int)∧k≤ws.length∧x.aF=[]∧oK w B b0 o0 ws x none 0 wx∧uG (M.iW x k (ws.drop k))=rr)→K1 {tmps:= #[.string ⟨l.toArray⟩,z1,ptr w.heap.size,z3,z4,.slice (some ⟨b0,o0,none⟩) ws.length c0,ptr B,v7,z8,z9,z10,z11,z12,z13,pG,pI,qj,z17,qU,rY,z20,z21,z22,z23,z24,z25,z26,z27,z28,z29,z30,z31,z32,z33,z34,z35,z36,z37,z38,z39,z40,z41,z42,z43,z44,z45,z46,z47,z48,z49,z50,z51,z52,z53,z54,z55,z56,z57,z58,z59,z60,z61,z62,z63,z64,z65,z66,z67,z68,z69,z70,z71,z72,z73,z74,z75,z76,z77,z78,z79,z80,vM,z82,z83,z84,z85,z86,z87,vN,z89,vO,z91,vP,z93,vS,vT,vU,vV,vW,vX,kM,kN,kP,kQ,kR,z105,kS,z107,kT,z109,kU,kV,kW,kX,kY,kZ,z116,z117,lg,z119,lu,lC,lD,lF,z124,lG,lH,z127,lI,lJ,z130,z131,lK,lM,lN,lQ,lS,lT,z138,z139,lU,z141,lV,z143,lW,z145,z146,lX,z148,lY,lZ,l7,z152,l9,z154,mg,z156,z157,mD,z159,z160,mF,z162,mG,z164,mJ,mM,z167,z168],defers:=[] } wx:=by
  intro x k v7 z1 z3 z4 z8 z9 z10 z11 z12 z13 pG pI qj z17 qU rY z20 z21 z22 z23 z24 z25 z26 z27 z28 z29 z30 z31 z32 z33 z34 z35 z36 z37 z38 z39 z40 z41 z42 z43 z44 z45 z46 z47 z48 z49 z50 z51 z52 z53 z54 z55 z56 z57 z58 z59 z60 z61 z62 z63 z64 z65 z66 z67 z68 z69 z70 z71 z72 z73 z74 z75 z76 z77 z78 z79 z80 vM z82 z83 z84 z85 z86 z87 vN z89 vO z91 vP z93 vS vT vU vV vW vX kM kN kP kQ kR z105 kS z107 kT z109 kU kV kW kX kY kZ z116 z117 lg z119 lu lC lD lF z124 lG lH z127 lI lJ z130 z131 lK lM lN lQ lS lT z138 z139 lU z141 lV z143 lW z145 z146 lX z148 lY lZ l7 z152 l9 z154 mg z156 z157 mD z159 z160 mF z162 mG z164 mJ mM z167 z168 wx hrel;refine hK1 _ _ ?_
  try dsimp only
  exact PZ l w ws B b0 o0 c0 rr KC hsz hlong hwn hwb x k v7 z1 z3 z4 z8 z9 z10 z11 z12 z13 pG pI qj z17 qU rY z20 z21 z22 z23 z24 z25 z26 z27 z28 z29 z30 z31 z32 z33 z34 z35 z36 z37 z38 z39 z40 z41 z42 z43 z44 z45 z46 z47 z48 z49 z50 z51 z52 z53 z54 z55 z56 z57 z58 z59 z60 z61 z62 z63 z64 z65 z66 z67 z68 z69 z70 z71 z72 z73 z74 z75 z76 z77 z78 z79 z80 vM z82 z83 z84 z85 z86 z87 vN z89 vO z91 vP z93 vS vT vU vV vW vX kM kN kP kQ kR z105 kS z107 kT z109 kU kV kW kX kY kZ z116 z117 lg z119 lu lC lD lF z124 lG lH z127 lI lJ z130 z131 lK lM lN lQ lS lT z138 z139 lU z141 lV z143 lW z145 z146 lX z148 lY lZ l7 z152 l9 z154 mg z156 z157 mD z159 z160 mF z162 mG z164 mJ mM z167 z168 wx hrel
 clear hK1;have HJ3:=hide J3;clear J3
 by_cases hlt:k<ws.length
 · have hcw:=st.ws k hlt
   obtain ⟨wk,hwk⟩:∃ q,ws[k]=q:=⟨_,rfl⟩;have hdr:=List.drop_eq_getElem_cons hlt;rw [hwk] at hcw hdr;have HDR:=hide hdr;have hwl:=KC.out wk (by rw [← hwk];exact List.getElem_mem hlt);clear hwk hdr
   have i1:(0:Int)≤(k:Int):=by omega
   have i2:(k:Int)<(ws.length:Int):=by omega
   by_cases hc:wk=[43]
   · subst hc
     have c5:=st.bx.cell (j:=5) rfl;have f5:=st.bx.frozen 5;go_wp2;exact HJ3.out ({x with dK:=true }) (k+1) _ _ _ _ _ _ _ _ _ _ _ _ _ _ _ _ _ _ _ _ _ _ _ _ _ _ _ _ _ _ _ _ _ _ _ _ _ _ _ _ _ _ _ _ _ _ _ _ _ _ _ _ _ _ _ _ _ _ _ _ _ _ _ _ _ _ _ _ _ _ _ _ _ _ _ _ _ _ _ _ _ _ _ _ _ _ _ _ _ _ _ _ _ _ _ _ _ _ _ _ _ _ _ _ _ _ _ _ _ _ _ _ _ _ _ _ _ _ _ _ _ _ _ _ _ _ _ _ _ _ _ _ _ _ _ _ _ _ _ _ _ _ _ _ _ _ _ _ _ _ _ _ _ _ _ _ _ _ _ _ _ _ _ _ _ _ ⟨by first | rfl | go_num,by omega,hxp,oK.set (x':={x with dK:=true }) st 5 (.bool true) rfl rfl,by have:=HE.out;rw [HDR.out,M.fP,if_pos rfl] at this;exact this⟩
   · have hb:(wk == [43])=false:=by simpa using hc
     have HC:=hide hc;clear hc;go_wp2;exact HJ3.out (x) (k) _ _ _ _ _ _ _ _ _ _ _ _ _ _ _ _ _ _ _ _ _ _ _ _ _ _ _ _ _ _ _ _ _ _ _ _ _ _ _ _ _ _ _ _ _ _ _ _ _ _ _ _ _ _ _ _ _ _ _ _ _ _ _ _ _ _ _ _ _ _ _ _ _ _ _ _ _ _ _ _ _ _ _ _ _ _ _ _ _ _ _ _ _ _ _ _ _ _ _ _ _ _ _ _ _ _ _ _ _ _ _ _ _ _ _ _ _ _ _ _ _ _ _ _ _ _ _ _ _ _ _ _ _ _ _ _ _ _ _ _ _ _ _ _ _ _ _ _ _ _ _ _ _ _ _ _ _ _ _ _ _ _ _ _ _ _ ⟨by first | rfl | go_num,by omega,hxp,st,by have:=HE.out;rw [HDR.out,M.fP,if_neg HC.out, ← HDR.out] at this;exact this⟩
 · have hke:k=ws.length:=by omega
   subst hke;go_wp2;exact HJ3.out (x) (ws.length) _ _ _ _ _ _ _ _ _ _ _ _ _ _ _ _ _ _ _ _ _ _ _ _ _ _ _ _ _ _ _ _ _ _ _ _ _ _ _ _ _ _ _ _ _ _ _ _ _ _ _ _ _ _ _ _ _ _ _ _ _ _ _ _ _ _ _ _ _ _ _ _ _ _ _ _ _ _ _ _ _ _ _ _ _ _ _ _ _ _ _ _ _ _ _ _ _ _ _ _ _ _ _ _ _ _ _ _ _ _ _ _ _ _ _ _ _ _ _ _ _ _ _ _ _ _ _ _ _ _ _ _ _ _ _ _ _ _ _ _ _ _ _ _ _ _ _ _ _ _ _ _ _ _ _ _ _ _ _ _ _ _ _ _ _ _ ⟨by first | rfl | go_num,by omega,hxp,st,by have:=HE.out;rw [List.drop_length] at this ⊢;exact this⟩
theorem PX (l:List UInt8) (w:World) (ws:List (List UInt8)) (B b0 o0 c0:Nat) (rr:M.aV × Int × Int) (KC:Hid (∀ v∈ws,v.length≤l.length)) (hsz:(ByteArray.mk l.toArray).size=l.length) (hlong:¬ 4096<l.length) (hwn:ws.length≤4097) (hwb:ws.length≤c0∧c0≤9223372036854775807∧ws.length≤17592186044416):∀ (x:M.aV) (k:Nat) (v7:Value) (z1 z3 z4 z8 z9 z10 z11 z12 z13 pG pI qj z17 qU rY z20 z21 z22 z23 z24 z25 z26 z27 z28 z29 z30 z31 z32 z33 z34 z35 z36 z37 z38 z39 z40 z41 z42 z43 z44 z45 z46 z47 z48 z49 z50 z51 z52 z53 z54 z55 z56 z57 z58 z59 z60 z61 z62 z63 z64 z65 z66 z67 z68 z69 z70 z71 z72 z73 z74 z75 z76 z77 z78 z79 z80 vM z82 z83 z84 z85 z86 z87 vN z89 vO z91 vP z93 vS vT vU vV vW vX kM kN kP kQ kR z105 kS z107 kT z109 kU kV kW kX kY kZ z116 z117 lg z119 lu lC lD lF z124 lG lH z127 lI lJ z130 z131 lK lM lN lQ lS lT z138 z139 lU z141 lV z143 lW z145 z146 lX z148 lY lZ l7 z152 l9 z154 mg z156 z157 mD z159 z160 mF z162 mG z164 mJ mM z167 z168:Value) (wx:World),(v7= .int .i64 (k:Int)∧k≤ws.length∧x.aF=[]∧oK w B b0 o0 ws x none 0 wx∧uG (M.mZ x k (ws.drop k))=rr)→(jT 10).wp Tryz.prog (bodyPost Tryz.prog Tryz.f51 (fun e w'=>∃ A c,e= .returned (.tuple #[iG rr.1 A c,.int .i64 rr.2.1,.int .i64 rr.2.2])∧fA w' (fun b=>w.heap.size≤b) A c rr.1.aF∧Below w.heap.size w w')) {tmps:= #[.string ⟨l.toArray⟩,z1,ptr w.heap.size,z3,z4,.slice (some ⟨b0,o0,none⟩) ws.length c0,ptr B,v7,z8,z9,z10,z11,z12,z13,pG,pI,qj,z17,qU,rY,z20,z21,z22,z23,z24,z25,z26,z27,z28,z29,z30,z31,z32,z33,z34,z35,z36,z37,z38,z39,z40,z41,z42,z43,z44,z45,z46,z47,z48,z49,z50,z51,z52,z53,z54,z55,z56,z57,z58,z59,z60,z61,z62,z63,z64,z65,z66,z67,z68,z69,z70,z71,z72,z73,z74,z75,z76,z77,z78,z79,z80,vM,z82,z83,z84,z85,z86,z87,vN,z89,vO,z91,vP,z93,vS,vT,vU,vV,vW,vX,kM,kN,kP,kQ,kR,z105,kS,z107,kT,z109,kU,kV,kW,kX,kY,kZ,z116,z117,lg,z119,lu,lC,lD,lF,z124,lG,lH,z127,lI,lJ,z130,z131,lK,lM,lN,lQ,lS,lT,z138,z139,lU,z141,lV,z143,lW,z145,z146,lX,z148,lY,lZ,l7,z152,l9,z154,mg,z156,z157,mD,z159,z160,mF,z162,mG,z164,mJ,mM,z167,z168],defers:=[] } wx:=by
 intro x k v7 z1 z3 z4 z8 z9 z10 z11 z12 z13 pG pI qj z17 qU rY z20 z21 z22 z23 z24 z25 z26 z27 z28 z29 z30 z31 z32 z33 z34 z35 z36 z37 z38 z39 z40 z41 z42 z43 z44 z45 z46 z47 z48 z49 z50 z51 z52 z53 z54 z55 z56 z57 z58 z59 z60 z61 z62 z63 z64 z65 z66 z67 z68 z69 z70 z71 z72 z73 z74 z75 z76 z77 z78 z79 z80 vM z82 z83 z84 z85 z86 z87 vN z89 vO z91 vP z93 vS vT vU vV vW vX kM kN kP kQ kR z105 kS z107 kT z109 kU kV kW kX kY kZ z116 z117 lg z119 lu lC lD lF z124 lG lH z127 lI lJ z130 z131 lK lM lN lQ lS lT z138 z139 lU z141 lV z143 lW z145 z146 lX z148 lY lZ l7 z152 l9 z154 mg z156 z157 mD z159 z160 mF z162 mG z164 mJ mM z167 z168 wx hrel;obtain ⟨rfl,hk,hxp,st,hend⟩:=hrel;have HE:=hide hend;clear hend
 dsimp only [jT,dG,Tryz.f51,Option.getD]
 go_upto_region 18 with (fail)
 rename_i K2 hK2 K9 hK9
 have J2:∀ (x:M.aV) (k:Nat) (v7:Value) (z1 z3 z4 z8 z9 z10 z11 z12 z13 pG pI qj z17 qU rY z20 z21 z22 z23 z24 z25 z26 z27 z28 z29 z30 z31 z32 z33 z34 z35 z36 z37 z38 z39 z40 z41 z42 z43 z44 z45 z46 z47 z48 z49 z50 z51 z52 z53 z54 z55 z56 z57 z58 z59 z60 z61 z62 z63 z64 z65 z66 z67 z68 z69 z70 z71 z72 z73 z74 z75 z76 z77 z78 z79 z80 vM z82 z83 z84 z85 z86 z87 vN z89 vO z91 vP z93 vS vT vU vV vW vX kM kN kP kQ kR z105 kS z107 kT z109 kU kV kW kX kY kZ z116 z117 lg z119 lu lC lD lF z124 lG lH z127 lI lJ z130 z131 lK lM lN lQ lS lT z138 z139 lU z141 lV z143 lW z145 z146 lX z148 lY lZ l7 z152 l9 z154 mg z156 z157 mD z159 z160 mF z162 mG z164 mJ mM z167 z168:Value) (wx:World),(v7= .int .i64 (k:Int)∧k≤ws.length∧x.aF=[]∧oK w B b0 o0 ws x none 0 wx∧uG (M.fP x k (ws.drop k))=rr)→K2 {tmps:= #[.string ⟨l.toArray⟩,z1,ptr w.heap.size,z3,z4,.slice (some ⟨b0,o0,none⟩) ws.length c0,ptr B,v7,z8,z9,z10,z11,z12,z13,pG,pI,qj,z17,qU,rY,z20,z21,z22,z23,z24,z25,z26,z27,z28,z29,z30,z31,z32,z33,z34,z35,z36,z37,z38,z39,z40,z41,z42,z43,z44,z45,z46,z47,z48,z49,z50,z51,z52,z53,z54,z55,z56,z57,z58,z59,z60,z61,z62,z63,z64,z65,z66,z67,z68,z69,z70,z71,z72,z73,z74,z75,z76,z77,z78,z79,z80,vM,z82,z83,z84,z85,z86,z87,vN,z89,vO,z91,vP,z93,vS,vT,vU,vV,vW,vX,kM,kN,kP,kQ,kR,z105,kS,z107,kT,z109,kU,kV,kW,kX,kY,kZ,z116,z117,lg,z119,lu,lC,lD,lF,z124,lG,lH,z127,lI,lJ,z130,z131,lK,lM,lN,lQ,lS,lT,z138,z139,lU,z141,lV,z143,lW,z145,z146,lX,z148,lY,lZ,l7,z152,l9,z154,mg,z156,z157,mD,z159,z160,mF,z162,mG,z164,mJ,mM,z167,z168],defers:=[] } wx:=by
  intro x k v7 z1 z3 z4 z8 z9 z10 z11 z12 z13 pG pI qj z17 qU rY z20 z21 z22 z23 z24 z25 z26 z27 z28 z29 z30 z31 z32 z33 z34 z35 z36 z37 z38 z39 z40 z41 z42 z43 z44 z45 z46 z47 z48 z49 z50 z51 z52 z53 z54 z55 z56 z57 z58 z59 z60 z61 z62 z63 z64 z65 z66 z67 z68 z69 z70 z71 z72 z73 z74 z75 z76 z77 z78 z79 z80 vM z82 z83 z84 z85 z86 z87 vN z89 vO z91 vP z93 vS vT vU vV vW vX kM kN kP kQ kR z105 kS z107 kT z109 kU kV kW kX kY kZ z116 z117 lg z119 lu lC lD lF z124 lG lH z127 lI lJ z130 z131 lK lM lN lQ lS lT z138 z139 lU z141 lV z143 lW z145 z146 lX z148 lY lZ l7 z152 l9 z154 mg z156 z157 mD z159 z160 mF z162 mG z164 mJ mM z167 z168 wx hrel;refine hK2 _ _ ?_
  try dsimp only
  exact PY l w ws B b0 o0 c0 rr KC hsz hlong hwn hwb x k v7 z1 z3 z4 z8 z9 z10 z11 z12 z13 pG pI qj z17 qU rY z20 z21 z22 z23 z24 z25 z26 z27 z28 z29 z30 z31 z32 z33 z34 z35 z36 z37 z38 z39 z40 z41 z42 z43 z44 z45 z46 z47 z48 z49 z50 z51 z52 z53 z54 z55 z56 z57 z58 z59 z60 z61 z62 z63 z64 z65 z66 z67 z68 z69 z70 z71 z72 z73 z74 z75 z76 z77 z78 z79 z80 vM z82 z83 z84 z85 z86 z87 vN z89 vO z91 vP z93 vS vT vU vV vW vX kM kN kP kQ kR z105 kS z107 kT z109 kU kV kW kX kY kZ z116 z117 lg z119 lu lC lD lF z124 lG lH z127 lI lJ z130 z131 lK lM lN lQ lS lT z138 z139 lU z141 lV z143 lW z145 z146 lX z148 lY lZ l7 z152 l9 z154 mg z156 z157 mD z159 z160 mF z162 mG z164 mJ mM z167 z168 wx hrel
 clear hK2;have HJ2:=hide J2;clear J2
 by_cases hlt:k<ws.length
 · have hcw:=st.ws k hlt
   obtain ⟨wk,hwk⟩:∃ q,ws[k]=q:=⟨_,rfl⟩;have hdr:=List.drop_eq_getElem_cons hlt;rw [hwk] at hcw hdr;have HDR:=hide hdr;have hwl:=KC.out wk (by rw [← hwk];exact List.getElem_mem hlt);clear hwk hdr
   have i1:(0:Int)≤(k:Int):=by omega
   have i2:(k:Int)<(ws.length:Int):=by omega
   have hsw:=jA wk
   by_cases hwe:wk=[]
   · have HWE:=hide hwe
     have anh:(ByteArray.mk wk.toArray).size=0:=by rw [hsw,hwe];rfl
     clear hwe hsw;go_wp2;exact HJ2.out (x) (k) _ _ _ _ _ _ _ _ _ _ _ _ _ _ _ _ _ _ _ _ _ _ _ _ _ _ _ _ _ _ _ _ _ _ _ _ _ _ _ _ _ _ _ _ _ _ _ _ _ _ _ _ _ _ _ _ _ _ _ _ _ _ _ _ _ _ _ _ _ _ _ _ _ _ _ _ _ _ _ _ _ _ _ _ _ _ _ _ _ _ _ _ _ _ _ _ _ _ _ _ _ _ _ _ _ _ _ _ _ _ _ _ _ _ _ _ _ _ _ _ _ _ _ _ _ _ _ _ _ _ _ _ _ _ _ _ _ _ _ _ _ _ _ _ _ _ _ _ _ _ _ _ _ _ _ _ _ _ _ _ _ _ _ _ _ _ ⟨by first | rfl | go_num,by omega,hxp,st,by have:=HE.out;rw [HDR.out,Dx (fun a h=>by rw [HWE.out] at h;cases h), ← HDR.out] at this;exact this⟩
   · obtain ⟨ch,tl,hwc⟩:=List.exists_cons_of_ne_nil hwe
     have hlw:wk.length=tl.length+1:=by rw [hwc];rfl
     have hl0:0<(ByteArray.mk wk.toArray).size:=by rw [hsw];omega
     have hix:(ByteArray.mk wk.toArray)[0]'hl0=ch:=by subst hwc;rfl
     have HWC:=hide hwc
     by_cases hc:ch=102
     · have hex:(ByteArray.mk wk.toArray).extract 1 (tl.length+1)=⟨tl.toArray⟩:=by rw [yN,hwc];simp
       have hho:M.wZ wk=M.num tl:=by rw [hwc,hc];rfl
       have HHO:=hide hho;subst hc;have hnu:=fun W=>tZ tl W (by omega);clear hwc hho hwe;obtain ⟨nv,Wq⟩:∃ q,nV tl=q:=⟨_,rfl⟩;obtain ⟨nb,hnb⟩:∃ q,nN tl=q:=⟨_,rfl⟩;rw [Wq,hnb] at hnu;have HNV:=hide Wq;have HNB:=hide hnb;have HNU:=hide hnu;clear hnu Wq hnb
       cases nb with
       | true=>
         have hns:M.num tl=some nv:=by
          have h1:=HNB.out;have h2:=HNV.out
          unfold nN at h1
          unfold nV at h2
          cases hq:M.num tl with
          | none=>rw [hq] at h1;cases h1
          | some q=>rw [hq] at h2;rw [← h2];rfl
         have HNS:=hide hns;clear hns
         by_cases hn0:0<nv
         · have c4:=st.bx.cell (j:=4) rfl
           have f4:=st.bx.frozen 4
           go_wp2_with (go_at_call 107;refine (HNU.out _).mono ?_;rintro e w3 ⟨rfl,hw3⟩;subst hw3;dsimp only)
           exact HJ2.out ({x with first:=nv }) (k+1) _ _ _ _ _ _ _ _ _ _ _ _ _ _ _ _ _ _ _ _ _ _ _ _ _ _ _ _ _ _ _ _ _ _ _ _ _ _ _ _ _ _ _ _ _ _ _ _ _ _ _ _ _ _ _ _ _ _ _ _ _ _ _ _ _ _ _ _ _ _ _ _ _ _ _ _ _ _ _ _ _ _ _ _ _ _ _ _ _ _ _ _ _ _ _ _ _ _ _ _ _ _ _ _ _ _ _ _ _ _ _ _ _ _ _ _ _ _ _ _ _ _ _ _ _ _ _ _ _ _ _ _ _ _ _ _ _ _ _ _ _ _ _ _ _ _ _ _ _ _ _ _ _ _ _ _ _ _ _ _ _ _ _ _ _ _ ⟨by first | rfl | go_num,by omega,hxp,oK.set (x':={x with first:=nv }) st 4 (.int .i64 nv) rfl rfl,by have:=HE.out;rw [HDR.out,Uo (HHO.out.trans HNS.out) hn0] at this;exact this⟩
         · go_wp2_with (go_at_call 107;refine (HNU.out _).mono ?_;rintro e w3 ⟨rfl,hw3⟩;subst hw3;dsimp only)
           exact HJ2.out (x) (k) _ _ _ _ _ _ _ _ _ _ _ _ _ _ _ _ _ _ _ _ _ _ _ _ _ _ _ _ _ _ _ _ _ _ _ _ _ _ _ _ _ _ _ _ _ _ _ _ _ _ _ _ _ _ _ _ _ _ _ _ _ _ _ _ _ _ _ _ _ _ _ _ _ _ _ _ _ _ _ _ _ _ _ _ _ _ _ _ _ _ _ _ _ _ _ _ _ _ _ _ _ _ _ _ _ _ _ _ _ _ _ _ _ _ _ _ _ _ _ _ _ _ _ _ _ _ _ _ _ _ _ _ _ _ _ _ _ _ _ _ _ _ _ _ _ _ _ _ _ _ _ _ _ _ _ _ _ _ _ _ _ _ _ _ _ _ ⟨by first | rfl | go_num,by omega,hxp,st,by have:=HE.out;rw [HDR.out,Dx (fun a h=>by rw [HHO.out,HNS.out] at h;cases h;omega), ← HDR.out] at this;exact this⟩
       | false=>
         go_wp2_with (go_at_call 107;refine (HNU.out _).mono ?_;rintro e w3 ⟨rfl,hw3⟩;subst hw3;dsimp only)
         exact HJ2.out (x) (k) _ _ _ _ _ _ _ _ _ _ _ _ _ _ _ _ _ _ _ _ _ _ _ _ _ _ _ _ _ _ _ _ _ _ _ _ _ _ _ _ _ _ _ _ _ _ _ _ _ _ _ _ _ _ _ _ _ _ _ _ _ _ _ _ _ _ _ _ _ _ _ _ _ _ _ _ _ _ _ _ _ _ _ _ _ _ _ _ _ _ _ _ _ _ _ _ _ _ _ _ _ _ _ _ _ _ _ _ _ _ _ _ _ _ _ _ _ _ _ _ _ _ _ _ _ _ _ _ _ _ _ _ _ _ _ _ _ _ _ _ _ _ _ _ _ _ _ _ _ _ _ _ _ _ _ _ _ _ _ _ _ _ _ _ _ _ ⟨by first | rfl | go_num,by omega,hxp,st,by have:=HE.out;rw [HDR.out,Dx (fun a h=>by have h1:=HNB.out;unfold nN at h1;rw [HHO.out] at h;rw [h] at h1;cases h1), ← HDR.out] at this;exact this⟩
     · have hcx:(((ch.toNat:Nat):Int) == 102)=false:=by
        rw [beq_eq_false_iff_ne];intro e;exact hc (UInt8.toNat_inj.1 (by show ch.toNat=102;omega))
       have HC:=hide hc;clear hc hwc hwe;go_wp2;exact HJ2.out (x) (k) _ _ _ _ _ _ _ _ _ _ _ _ _ _ _ _ _ _ _ _ _ _ _ _ _ _ _ _ _ _ _ _ _ _ _ _ _ _ _ _ _ _ _ _ _ _ _ _ _ _ _ _ _ _ _ _ _ _ _ _ _ _ _ _ _ _ _ _ _ _ _ _ _ _ _ _ _ _ _ _ _ _ _ _ _ _ _ _ _ _ _ _ _ _ _ _ _ _ _ _ _ _ _ _ _ _ _ _ _ _ _ _ _ _ _ _ _ _ _ _ _ _ _ _ _ _ _ _ _ _ _ _ _ _ _ _ _ _ _ _ _ _ _ _ _ _ _ _ _ _ _ _ _ _ _ _ _ _ _ _ _ _ _ _ _ _ ⟨by first | rfl | go_num,by omega,hxp,st,by have:=HE.out;rw [HDR.out,Dx (fun a h=>by rw [HWC.out] at h;have h:(if ch=102 then M.num tl else none)=some a:=h;rw [if_neg HC.out] at h;cases h), ← HDR.out] at this;exact this⟩
 · have hke:k=ws.length:=by omega
   subst hke;go_wp2;exact HJ2.out (x) (ws.length) _ _ _ _ _ _ _ _ _ _ _ _ _ _ _ _ _ _ _ _ _ _ _ _ _ _ _ _ _ _ _ _ _ _ _ _ _ _ _ _ _ _ _ _ _ _ _ _ _ _ _ _ _ _ _ _ _ _ _ _ _ _ _ _ _ _ _ _ _ _ _ _ _ _ _ _ _ _ _ _ _ _ _ _ _ _ _ _ _ _ _ _ _ _ _ _ _ _ _ _ _ _ _ _ _ _ _ _ _ _ _ _ _ _ _ _ _ _ _ _ _ _ _ _ _ _ _ _ _ _ _ _ _ _ _ _ _ _ _ _ _ _ _ _ _ _ _ _ _ _ _ _ _ _ _ _ _ _ _ _ _ _ _ _ _ _ ⟨by first | rfl | go_num,by omega,hxp,st,by have:=HE.out;rw [List.drop_length] at this ⊢;exact this⟩
theorem PW (l:List UInt8) (w:World) (ws:List (List UInt8)) (B b0 o0 c0:Nat) (rr:M.aV × Int × Int) (KC:Hid (∀ v∈ws,v.length≤l.length)) (hsz:(ByteArray.mk l.toArray).size=l.length) (hlong:¬ 4096<l.length) (hwn:ws.length≤4097) (hwb:ws.length≤c0∧c0≤9223372036854775807∧ws.length≤17592186044416) (w0:List UInt8) (HD0:Hid (ws=w0::ws.drop (0+1))) (HW:Hid (w0=[97]∨w0=[98])) (HRR:Hid (uG (M.iO ws)=rr)):∀ (pl:Int) (z1 z3 z4 z7 z8 z9 z10 z11 z12 z13 pG pI qj z17 qU rY z20 z21 z22 z23 z24 z25 z26 z27 z28 z29 z30 z31 z32 z33 z34 z35 z36 z37 z38 z39 z40 z41 z42 z43 z44 z45 z46 z47 z48 z49 z50 z51 z52 z53 z54 z55 z56 z57 z58 z59 z60 z61 z62 z63 z64 z65 z66 z67 z68 z69 z70 z71 z72 z73 z74 z75 z76 z77 z78 z79 z80 vM z82 z83 z84 z85 z86 z87 vN z89 vO z91 vP z93 vS vT vU vV vW vX kM kN kP kQ kR z105 kS z107 kT z109 kU kV kW kX kY kZ z116 z117 lg z119 lu lC lD lF z124 lG lH z127 lI lJ z130 z131 lK lM lN lQ lS lT z138 z139 lU z141 lV z143 lW z145 z146 lX z148 lY lZ l7 z152 l9 z154 mg z156 z157 mD z159 z160 mF z162 mG z164 mJ mM z167 z168:Value) (wx:World),(pl=(if w0=[98] then 1 else 0)∧oK w B b0 o0 ws {M.blank with aN:=pl } none 0 wx)→(jT 6).wp Tryz.prog (bodyPost Tryz.prog Tryz.f51 (fun e w'=>∃ A c,e= .returned (.tuple #[iG rr.1 A c,.int .i64 rr.2.1,.int .i64 rr.2.2])∧fA w' (fun b=>w.heap.size≤b) A c rr.1.aF∧Below w.heap.size w w')) {tmps:= #[.string ⟨l.toArray⟩,z1,ptr w.heap.size,z3,z4,.slice (some ⟨b0,o0,none⟩) ws.length c0,ptr B,z7,z8,z9,z10,z11,z12,z13,pG,pI,qj,z17,qU,rY,z20,z21,z22,z23,z24,z25,z26,z27,z28,z29,z30,z31,z32,z33,z34,z35,z36,z37,z38,z39,z40,z41,z42,z43,z44,z45,z46,z47,z48,z49,z50,z51,z52,z53,z54,z55,z56,z57,z58,z59,z60,z61,z62,z63,z64,z65,z66,z67,z68,z69,z70,z71,z72,z73,z74,z75,z76,z77,z78,z79,z80,vM,z82,z83,z84,z85,z86,z87,vN,z89,vO,z91,vP,z93,vS,vT,vU,vV,vW,vX,kM,kN,kP,kQ,kR,z105,kS,z107,kT,z109,kU,kV,kW,kX,kY,kZ,z116,z117,lg,z119,lu,lC,lD,lF,z124,lG,lH,z127,lI,lJ,z130,z131,lK,lM,lN,lQ,lS,lT,z138,z139,lU,z141,lV,z143,lW,z145,z146,lX,z148,lY,lZ,l7,z152,l9,z154,mg,z156,z157,mD,z159,z160,mF,z162,mG,z164,mJ,mM,z167,z168],defers:=[] } wx:=by
 intro pl z1 z3 z4 z7 z8 z9 z10 z11 z12 z13 pG pI qj z17 qU rY z20 z21 z22 z23 z24 z25 z26 z27 z28 z29 z30 z31 z32 z33 z34 z35 z36 z37 z38 z39 z40 z41 z42 z43 z44 z45 z46 z47 z48 z49 z50 z51 z52 z53 z54 z55 z56 z57 z58 z59 z60 z61 z62 z63 z64 z65 z66 z67 z68 z69 z70 z71 z72 z73 z74 z75 z76 z77 z78 z79 z80 vM z82 z83 z84 z85 z86 z87 vN z89 vO z91 vP z93 vS vT vU vV vW vX kM kN kP kQ kR z105 kS z107 kT z109 kU kV kW kX kY kZ z116 z117 lg z119 lu lC lD lF z124 lG lH z127 lI lJ z130 z131 lK lM lN lQ lS lT z138 z139 lU z141 lV z143 lW z145 z146 lX z148 lY lZ l7 z152 l9 z154 mg z156 z157 mD z159 z160 mF z162 mG z164 mJ mM z167 z168 wx hrel
 dsimp only [jT,dG,Tryz.f51,Option.getD]
 obtain ⟨hpl,st⟩:=hrel;have rZ:=hide hpl;clear hpl
 by_cases hn:ws.length<2
 · have hr:rr=(M.blank,2,25):=by
    have hd:ws.drop (0+1)=[]:=List.drop_eq_nil_of_le (by omega);rw [← HRR.out,HD0.out,hd,Iu w0 HW.out]
    rfl
   have i3:(ws.length:Int)<2:=by omega
   have HR:=hide hr;clear hr
   go_wp2_with (first | (refine aQ 36 (.tmp 2) (.tmp 49) rfl ?_;refine aI (st.z) jw rfl dW (ng M.blank none 0) rfl (.tmp 2) (.tmp 49) rfl rfl rfl ?_))
   have hF:=(st.z).whole jw rfl;refine bodyPost_ret (jD (p:=2) hF Tryz.underlying36 rfl dW rfl _ rfl) rfl ⟨none,0,?_,?_,below_setCells _ (Nat.le_refl _) _ _ _ _ (st.bw)⟩
   · rw [HR.out];rfl
   · rw [HR.out];exact Reads.none_ _ _ _
 · have hlt:1<ws.length:=by omega
   have i3:¬ (ws.length:Int)<2:=by omega
   have i4:(1:Int)<(ws.length:Int):=by omega
   have hcw:=st.ws 1 hlt;obtain ⟨wk,hwk⟩:∃ q,ws[1]=q:=⟨_,rfl⟩;have hdr:=List.drop_eq_getElem_cons hlt;rw [hwk] at hcw hdr;have HDR:=hide hdr;have hwl:=KC.out wk (by rw [← hwk];exact List.getElem_mem hlt);clear hwk hdr;have hkd:=fun W=>jQ ⟨wk.toArray⟩ W;obtain ⟨kb,hkb⟩:∃ q,M.yG wk=q:=⟨_,rfl⟩;have hkb':M.isKind ⟨wk.toArray⟩=kb:=hkb;rw [hkb'] at hkd;have HKD:=hide hkd;have HKB:=hide hkb;clear hkd hkb hkb'
   cases kb with
   | false=>
     have hr:rr=(M.blank,2,25):=by
      have h1:ws=w0::wk::ws.drop 2:=HD0.out.trans (congrArg (w0:: ·) HDR.out);rw [← HRR.out,h1,Lm w0 wk _ HW.out HKB.out]
      rfl
     have HR:=hide hr;clear hr
     go_wp2_with (first | (go_at_call 24;refine (HKD.out _).mono ?_;rintro e w3 ⟨rfl,hw3⟩;subst hw3) | (refine aQ 36 (.tmp 2) (.tmp 49) rfl ?_;refine aI (st.z) jw rfl dW (ng M.blank none 0) rfl (.tmp 2) (.tmp 49) rfl rfl rfl ?_))
     have hF:=(st.z).whole jw rfl;refine bodyPost_ret (jD (p:=2) hF Tryz.underlying36 rfl dW rfl _ rfl) rfl ⟨none,0,?_,?_,below_setCells _ (Nat.le_refl _) _ _ _ _ (st.bw)⟩
     · rw [HR.out];rfl
     · rw [HR.out];exact Reads.none_ _ _ _
   | true=>
     have hend:uG (M.oQ {M.blank with aN:=pl,kind:=⟨wk.toArray⟩ } 2 (ws.drop 2))=rr:=by
      have h1:ws=w0::wk::ws.drop 2:=HD0.out.trans (congrArg (w0:: ·) HDR.out);rw [← HRR.out,h1,Ul w0 wk _ HW.out HKB.out, ← rZ.out]
      rfl
     have HE:=hide hend;clear hend;have c1:=st.bx.cell (j:=1) rfl;have f1:=st.bx.frozen 1
     go_upto_region 13 with (first | (go_at_call 24;refine (HKD.out _).mono ?_;rintro e w3 ⟨rfl,hw3⟩;subst hw3))
     have st:=oK.set (x':={M.blank with aN:=pl,kind:=⟨wk.toArray⟩ }) st 1 (.string ⟨wk.toArray⟩) rfl rfl;obtain ⟨W2,hW2⟩:∃ W2,wx.setCell ⟨B,1,none⟩ (.string ⟨wk.toArray⟩)=W2:=⟨_,rfl⟩;rw [hW2] at st ⊢;obtain ⟨x,hx⟩:∃ x,({M.blank with aN:=pl,kind:=⟨wk.toArray⟩ }:M.aV)=x:=⟨_,rfl⟩
     have hxp:x.aF=[]:=by rw [← hx];rfl
     rw [hx] at HE st;clear hx hW2 c1 f1 hcw HDR hwl HKD HKB
     go_upto_region 13 with (fail)
     rename_i K3 hK3 K9 hK9
     have J1:∀ (x:M.aV) (k:Nat) (v7:Value) (z1 z3 z4 z8 z9 z10 z11 z12 z13 pG pI qj z17 qU rY z20 z21 z22 z23 z24 z25 z26 z27 z28 z29 z30 z31 z32 z33 z34 z35 z36 z37 z38 z39 z40 z41 z42 z43 z44 z45 z46 z47 z48 z49 z50 z51 z52 z53 z54 z55 z56 z57 z58 z59 z60 z61 z62 z63 z64 z65 z66 z67 z68 z69 z70 z71 z72 z73 z74 z75 z76 z77 z78 z79 z80 vM z82 z83 z84 z85 z86 z87 vN z89 vO z91 vP z93 vS vT vU vV vW vX kM kN kP kQ kR z105 kS z107 kT z109 kU kV kW kX kY kZ z116 z117 lg z119 lu lC lD lF z124 lG lH z127 lI lJ z130 z131 lK lM lN lQ lS lT z138 z139 lU z141 lV z143 lW z145 z146 lX z148 lY lZ l7 z152 l9 z154 mg z156 z157 mD z159 z160 mF z162 mG z164 mJ mM z167 z168:Value) (wx:World),(v7= .int .i64 (k:Int)∧k≤ws.length∧x.aF=[]∧oK w B b0 o0 ws x none 0 wx∧uG (M.mZ x k (ws.drop k))=rr)→K3 {tmps:= #[.string ⟨l.toArray⟩,z1,ptr w.heap.size,z3,z4,.slice (some ⟨b0,o0,none⟩) ws.length c0,ptr B,v7,z8,z9,z10,z11,z12,z13,pG,pI,qj,z17,qU,rY,z20,z21,z22,z23,z24,z25,z26,z27,z28,z29,z30,z31,z32,z33,z34,z35,z36,z37,z38,z39,z40,z41,z42,z43,z44,z45,z46,z47,z48,z49,z50,z51,z52,z53,z54,z55,z56,z57,z58,z59,z60,z61,z62,z63,z64,z65,z66,z67,z68,z69,z70,z71,z72,z73,z74,z75,z76,z77,z78,z79,z80,vM,z82,z83,z84,z85,z86,z87,vN,z89,vO,z91,vP,z93,vS,vT,vU,vV,vW,vX,kM,kN,kP,kQ,kR,z105,kS,z107,kT,z109,kU,kV,kW,kX,kY,kZ,z116,z117,lg,z119,lu,lC,lD,lF,z124,lG,lH,z127,lI,lJ,z130,z131,lK,lM,lN,lQ,lS,lT,z138,z139,lU,z141,lV,z143,lW,z145,z146,lX,z148,lY,lZ,l7,z152,l9,z154,mg,z156,z157,mD,z159,z160,mF,z162,mG,z164,mJ,mM,z167,z168],defers:=[] } wx:=by
      intro x k v7 z1 z3 z4 z8 z9 z10 z11 z12 z13 pG pI qj z17 qU rY z20 z21 z22 z23 z24 z25 z26 z27 z28 z29 z30 z31 z32 z33 z34 z35 z36 z37 z38 z39 z40 z41 z42 z43 z44 z45 z46 z47 z48 z49 z50 z51 z52 z53 z54 z55 z56 z57 z58 z59 z60 z61 z62 z63 z64 z65 z66 z67 z68 z69 z70 z71 z72 z73 z74 z75 z76 z77 z78 z79 z80 vM z82 z83 z84 z85 z86 z87 vN z89 vO z91 vP z93 vS vT vU vV vW vX kM kN kP kQ kR z105 kS z107 kT z109 kU kV kW kX kY kZ z116 z117 lg z119 lu lC lD lF z124 lG lH z127 lI lJ z130 z131 lK lM lN lQ lS lT z138 z139 lU z141 lV z143 lW z145 z146 lX z148 lY lZ l7 z152 l9 z154 mg z156 z157 mD z159 z160 mF z162 mG z164 mJ mM z167 z168 wx hrel;refine hK3 _ _ ?_
      try dsimp only
      exact PX l w ws B b0 o0 c0 rr KC hsz hlong hwn hwb x k v7 z1 z3 z4 z8 z9 z10 z11 z12 z13 pG pI qj z17 qU rY z20 z21 z22 z23 z24 z25 z26 z27 z28 z29 z30 z31 z32 z33 z34 z35 z36 z37 z38 z39 z40 z41 z42 z43 z44 z45 z46 z47 z48 z49 z50 z51 z52 z53 z54 z55 z56 z57 z58 z59 z60 z61 z62 z63 z64 z65 z66 z67 z68 z69 z70 z71 z72 z73 z74 z75 z76 z77 z78 z79 z80 vM z82 z83 z84 z85 z86 z87 vN z89 vO z91 vP z93 vS vT vU vV vW vX kM kN kP kQ kR z105 kS z107 kT z109 kU kV kW kX kY kZ z116 z117 lg z119 lu lC lD lF z124 lG lH z127 lI lJ z130 z131 lK lM lN lQ lS lT z138 z139 lU z141 lV z143 lW z145 z146 lX z148 lY lZ l7 z152 l9 z154 mg z156 z157 mD z159 z160 mF z162 mG z164 mJ mM z167 z168 wx hrel
     clear hK3;have XY:=hide J1;clear J1
     by_cases hlt:2<ws.length
     · have hcw:=st.ws 2 hlt
       obtain ⟨wk,hwk⟩:∃ q,ws[2]=q:=⟨_,rfl⟩;have hdr:=List.drop_eq_getElem_cons hlt;rw [hwk] at hcw hdr;have HDR:=hide hdr;have hwl:=KC.out wk (by rw [← hwk];exact List.getElem_mem hlt);clear hwk hdr
       have i2:(2:Int)<(ws.length:Int):=by omega
       have hpr:=fun W=>FW 99 wk W (by omega);have hpe:=FT 99 wk;have hpv:=fun a b (h:M.gV 99 wk=some (a,b))=>FV h;obtain ⟨a1,a2,hpq⟩:∃ a b,xH 99 wk=(a,b):=⟨_,_,rfl⟩;obtain ⟨pb,hpb⟩:∃ b,zW 99 wk=b:=⟨_,rfl⟩;rw [hpb] at hpe;rw [hpq] at hpv
       simp only [hpq,hpb] at hpr
       rw [show ((99:UInt8).toNat:Int)=99 from rfl] at hpr;have VP:=hide hpr;have X4:=hide hpe;have HPV:=hide hpv;clear hpr hpe hpv hpq hpb
       cases pb with
       | true=>
         have hpo:M.gV 99 wk=some (a1,a2):=by
          cases hq:M.gV 99 wk with
          | none=>have:=X4.out;rw [hq] at this;exact absurd this (by decide)
          | some q=>obtain ⟨q1,q2⟩:=q;have:=HPV.out q1 q2 hq;cases this;rfl
         have X6:=hide hpo;clear hpo
         by_cases ha:0<a1
         · by_cases hb:0<a2
           · have c2:=st.bx.cell (j:=2) rfl
             have f2:=st.bx.frozen 2;have c3:=st.bx.cell (j:=3) rfl;have f3:=st.bx.frozen 3
             go_wp2_with (go_at_call 106;refine (VP.out _).mono ?_;rintro e w3 ⟨rfl,hw3⟩;subst hw3)
             exact XY.out ({x with aT:=a1,aX:=a2 }) (3) _ _ _ _ _ _ _ _ _ _ _ _ _ _ _ _ _ _ _ _ _ _ _ _ _ _ _ _ _ _ _ _ _ _ _ _ _ _ _ _ _ _ _ _ _ _ _ _ _ _ _ _ _ _ _ _ _ _ _ _ _ _ _ _ _ _ _ _ _ _ _ _ _ _ _ _ _ _ _ _ _ _ _ _ _ _ _ _ _ _ _ _ _ _ _ _ _ _ _ _ _ _ _ _ _ _ _ _ _ _ _ _ _ _ _ _ _ _ _ _ _ _ _ _ _ _ _ _ _ _ _ _ _ _ _ _ _ _ _ _ _ _ _ _ _ _ _ _ _ _ _ _ _ _ _ _ _ _ _ _ _ _ _ _ _ _ ⟨by first | rfl | go_num,by omega,hxp,oK.set (x':={x with aT:=a1,aX:=a2 }) (oK.set (x':={x with aT:=a1 }) st 2 (.int .i64 a1) rfl rfl) 3 (.int .i64 a2) rfl rfl,by have:=HE.out;rw [HDR.out,OG X6.out ha hb] at this;exact this⟩
           · go_wp2_with (go_at_call 106;refine (VP.out _).mono ?_;rintro e w3 ⟨rfl,hw3⟩;subst hw3)
             exact XY.out (x) (2) _ _ _ _ _ _ _ _ _ _ _ _ _ _ _ _ _ _ _ _ _ _ _ _ _ _ _ _ _ _ _ _ _ _ _ _ _ _ _ _ _ _ _ _ _ _ _ _ _ _ _ _ _ _ _ _ _ _ _ _ _ _ _ _ _ _ _ _ _ _ _ _ _ _ _ _ _ _ _ _ _ _ _ _ _ _ _ _ _ _ _ _ _ _ _ _ _ _ _ _ _ _ _ _ _ _ _ _ _ _ _ _ _ _ _ _ _ _ _ _ _ _ _ _ _ _ _ _ _ _ _ _ _ _ _ _ _ _ _ _ _ _ _ _ _ _ _ _ _ _ _ _ _ _ _ _ _ _ _ _ _ _ _ _ _ _ ⟨by first | rfl | go_num,by omega,hxp,st,by have:=HE.out;rw [HDR.out,Dh (fun a b h=>by rw [X6.out] at h;cases h;exact fun h=>by omega), ← HDR.out] at this;exact this⟩
         · go_wp2_with (go_at_call 106;refine (VP.out _).mono ?_;rintro e w3 ⟨rfl,hw3⟩;subst hw3)
           exact XY.out (x) (2) _ _ _ _ _ _ _ _ _ _ _ _ _ _ _ _ _ _ _ _ _ _ _ _ _ _ _ _ _ _ _ _ _ _ _ _ _ _ _ _ _ _ _ _ _ _ _ _ _ _ _ _ _ _ _ _ _ _ _ _ _ _ _ _ _ _ _ _ _ _ _ _ _ _ _ _ _ _ _ _ _ _ _ _ _ _ _ _ _ _ _ _ _ _ _ _ _ _ _ _ _ _ _ _ _ _ _ _ _ _ _ _ _ _ _ _ _ _ _ _ _ _ _ _ _ _ _ _ _ _ _ _ _ _ _ _ _ _ _ _ _ _ _ _ _ _ _ _ _ _ _ _ _ _ _ _ _ _ _ _ _ _ _ _ _ _ ⟨by first | rfl | go_num,by omega,hxp,st,by have:=HE.out;rw [HDR.out,Dh (fun a b h=>by rw [X6.out] at h;cases h;exact fun h=>by omega), ← HDR.out] at this;exact this⟩
       | false=>
         go_wp2_with (go_at_call 106;refine (VP.out _).mono ?_;rintro e w3 ⟨rfl,hw3⟩;subst hw3)
         exact XY.out (x) (2) _ _ _ _ _ _ _ _ _ _ _ _ _ _ _ _ _ _ _ _ _ _ _ _ _ _ _ _ _ _ _ _ _ _ _ _ _ _ _ _ _ _ _ _ _ _ _ _ _ _ _ _ _ _ _ _ _ _ _ _ _ _ _ _ _ _ _ _ _ _ _ _ _ _ _ _ _ _ _ _ _ _ _ _ _ _ _ _ _ _ _ _ _ _ _ _ _ _ _ _ _ _ _ _ _ _ _ _ _ _ _ _ _ _ _ _ _ _ _ _ _ _ _ _ _ _ _ _ _ _ _ _ _ _ _ _ _ _ _ _ _ _ _ _ _ _ _ _ _ _ _ _ _ _ _ _ _ _ _ _ _ _ _ _ _ _ ⟨by first | rfl | go_num,by omega,hxp,st,by have:=HE.out;rw [HDR.out,Dh (fun a b h=>by have h1:=X4.out;rw [h] at h1;cases h1), ← HDR.out] at this;exact this⟩
     · have i2:¬ (2:Int)<(ws.length:Int):=by omega
       have hd2:ws.drop 2=[]:=List.drop_eq_nil_of_le (by omega);have HD2:=hide hd2;clear hd2;go_wp2;exact XY.out (x) (2) _ _ _ _ _ _ _ _ _ _ _ _ _ _ _ _ _ _ _ _ _ _ _ _ _ _ _ _ _ _ _ _ _ _ _ _ _ _ _ _ _ _ _ _ _ _ _ _ _ _ _ _ _ _ _ _ _ _ _ _ _ _ _ _ _ _ _ _ _ _ _ _ _ _ _ _ _ _ _ _ _ _ _ _ _ _ _ _ _ _ _ _ _ _ _ _ _ _ _ _ _ _ _ _ _ _ _ _ _ _ _ _ _ _ _ _ _ _ _ _ _ _ _ _ _ _ _ _ _ _ _ _ _ _ _ _ _ _ _ _ _ _ _ _ _ _ _ _ _ _ _ _ _ _ _ _ _ _ _ _ _ _ _ _ _ _ ⟨by first | rfl | go_num,by omega,hxp,st,by have:=HE.out;rw [HD2.out] at this ⊢;exact this⟩
theorem Ea (l:List UInt8) (w:World) (hl:l.length≤17592186044416):
 Calls Tryz.prog 51 #[.string ⟨l.toArray⟩] w fun e w'=>∃ A c,e= .returned (.tuple #[iG (M.parse l).1 A c,.int .i64 (M.parse l).2.1,.int .i64 (M.parse l).2.2])∧fA w' (fun b=>w.heap.size≤b) A c (M.parse l).1.aF∧Below w.heap.size w w':=by
 have hsz:(ByteArray.mk l.toArray).size=l.length:=jA l
 by_cases hlong:4096<l.length
 · have hr:M.parse l=(M.blank,0,26):=by unfold M.parse;rw [if_pos hlong]
   go_enter Tryz.func51,Tryz.ntmps51
   go_upto_region 1 with (fail)
   have hB:=(aS.nil w).new (by simp) jw 36
   go_wp2_with (first | (refine aQ 36 (.tmp 2) (.tmp 20) rfl ?_;refine aI (hB.ah rfl) jw rfl dW (ng M.blank none 0) rfl (.tmp 2) (.tmp 20) rfl rfl rfl ?_))
   have hF:=(hB.ah rfl).whole jw rfl;refine bodyPost_ret (jD (p:=2) hF Tryz.underlying36 rfl dW rfl _ rfl) rfl ⟨none,0,?_,?_,below_setCells _ (Nat.le_refl _) _ _ _ _ (hB.bw)⟩
   · rw [hr];rfl
   · rw [hr];exact Reads.none_ _ _ _
 · have hr:=MB l hlong
   have hwd:=fun W=>NJ l W (by omega);have hwl:=yD l
   have hwn:(M.words l).length≤4097:=by have h1:(M.words l).length=l.count 32+1:=rX l [];have h2:l.count 32≤l.length:=List.count_le_length;omega
   have hne:=M.Ep l [];have hne:M.words l≠[]:=hne;obtain ⟨ws,hws⟩:∃ ws,M.words l=ws:=⟨_,rfl⟩;rw [hws] at hr hwd hwl hwn hne;obtain ⟨rr,hrr⟩:∃ r,uG (M.iO ws)=r:=⟨_,rfl⟩;rw [hrr] at hr;rw [hr];have HRR:=hide hrr;have HWD:=hide hwd;have KC:=hide hwl;clear hr hwd hwl hws hrr
   go_enter Tryz.func51,Tryz.ntmps51
   go_upto_region 1 with (fail)
   have hB:=(aS.nil w).new (by simp) jw 36
   have hsB:(w.alloc (.cells jw.toArray 36)).heap.size=w.heap.size+1:=by simp
   go_upto_region 4 with (first | (go_at_call 105;refine (HWD.out _).mono ?_;rintro e w1 ⟨A0,c0,rfl,hrd,hb1⟩))
   obtain ⟨b0,o0,rfl,hb0,Yu,hcs⟩:=hrd.at_ (List.length_pos_iff.2 hne);have hwb:=hrd.bd;have hs1:=hb1.size
   simp only [World.size_alloc] at hb0 hs1
   have hz1:=(hB.ah rfl).below hb1;have uN:=hB.bw.trans (hb1.mono (by simp));obtain ⟨B,hBs⟩:∃ B,w1.heap.size=B:=⟨_,rfl⟩
   have st0:oK w B b0 o0 ws M.blank none 0 (w1.alloc (.cells (aB ⟨M.blank,none,0⟩).toArray 36)):=
    ⟨hz1.alloc _,Held.newAt _ _ _ hBs,⟨Nat.lt_of_lt_of_le (by omega) hb0,by omega⟩,fun j hj=>(World.cell?_alloc_lt _ _ ⟨b0,o0+j,none⟩ Yu).trans (hcs j _ (by rw [List.getElem?_map,List.getElem?_eq_getElem hj];rfl)),World.ownsRow_nil _ _ _ _,uN.alloc (by omega) _⟩
   clear hcs hrd hb0 Yu hs1 hb1 hB hz1 uN hsB
   go_upto_region 5 with (fail)
   have h0lt:=List.length_pos_iff.2 hne;have hc0:=st0.ws 0 h0lt;have hd0:=List.drop_eq_getElem_cons h0lt;rw [List.drop_zero] at hd0;obtain ⟨w0,hw0⟩:∃ q,ws[0]=q:=⟨_,rfl⟩;rw [hw0] at hd0 hc0;rw [Nat.add_zero] at hc0;have HD0:=hide hd0;clear hw0 hd0
   have i2:(0:Int)<(ws.length:Int):=by omega
   obtain ⟨W1,hW1⟩:∃ W1,w1.alloc (.cells (aB ⟨M.blank,none,0⟩).toArray 36)=W1:=⟨_,rfl⟩;have hW1':w1.alloc (.cells #[.int .i64 0,.string ⟨#[]⟩,.int .i64 0,.int .i64 0,.int .i64 0,.bool false,.slice none 0 0] 36)=W1:=hW1;rw [hW1] at st0 hc0;rw [hW1'];clear hW1 hW1'
   by_cases hw:w0=[97]∨w0=[98]
   · go_cut [32] from 23 to 31 (fun v32 wx=>v32= .bool false∧W1=wx)
     case first=>
      rcases hw with rfl | rfl
      all_goals
       go_wp2;go_meet
       first | exact ⟨rfl,rfl⟩ | trivial
     case rest=>
      obtain ⟨rfl,rfl⟩:=hcut;have HW:=hide hw;clear hw
      go_upto_region 7 with (fail)
      rename_i K0 hK0 K9 hK9
      have J0:∀ (pl:Int) (z1 z3 z4 z7 z8 z9 z10 z11 z12 z13 pG pI qj z17 qU rY z20 z21 z22 z23 z24 z25 z26 z27 z28 z29 z30 z31 z32 z33 z34 z35 z36 z37 z38 z39 z40 z41 z42 z43 z44 z45 z46 z47 z48 z49 z50 z51 z52 z53 z54 z55 z56 z57 z58 z59 z60 z61 z62 z63 z64 z65 z66 z67 z68 z69 z70 z71 z72 z73 z74 z75 z76 z77 z78 z79 z80 vM z82 z83 z84 z85 z86 z87 vN z89 vO z91 vP z93 vS vT vU vV vW vX kM kN kP kQ kR z105 kS z107 kT z109 kU kV kW kX kY kZ z116 z117 lg z119 lu lC lD lF z124 lG lH z127 lI lJ z130 z131 lK lM lN lQ lS lT z138 z139 lU z141 lV z143 lW z145 z146 lX z148 lY lZ l7 z152 l9 z154 mg z156 z157 mD z159 z160 mF z162 mG z164 mJ mM z167 z168:Value) (wx:World),(pl=(if w0=[98] then 1 else 0)∧oK w B b0 o0 ws {M.blank with aN:=pl } none 0 wx)→K0 {tmps:= #[.string ⟨l.toArray⟩,z1,ptr w.heap.size,z3,z4,.slice (some ⟨b0,o0,none⟩) ws.length c0,ptr B,z7,z8,z9,z10,z11,z12,z13,pG,pI,qj,z17,qU,rY,z20,z21,z22,z23,z24,z25,z26,z27,z28,z29,z30,z31,z32,z33,z34,z35,z36,z37,z38,z39,z40,z41,z42,z43,z44,z45,z46,z47,z48,z49,z50,z51,z52,z53,z54,z55,z56,z57,z58,z59,z60,z61,z62,z63,z64,z65,z66,z67,z68,z69,z70,z71,z72,z73,z74,z75,z76,z77,z78,z79,z80,vM,z82,z83,z84,z85,z86,z87,vN,z89,vO,z91,vP,z93,vS,vT,vU,vV,vW,vX,kM,kN,kP,kQ,kR,z105,kS,z107,kT,z109,kU,kV,kW,kX,kY,kZ,z116,z117,lg,z119,lu,lC,lD,lF,z124,lG,lH,z127,lI,lJ,z130,z131,lK,lM,lN,lQ,lS,lT,z138,z139,lU,z141,lV,z143,lW,z145,z146,lX,z148,lY,lZ,l7,z152,l9,z154,mg,z156,z157,mD,z159,z160,mF,z162,mG,z164,mJ,mM,z167,z168],defers:=[] } wx:=by
       intro pl z1 z3 z4 z7 z8 z9 z10 z11 z12 z13 pG pI qj z17 qU rY z20 z21 z22 z23 z24 z25 z26 z27 z28 z29 z30 z31 z32 z33 z34 z35 z36 z37 z38 z39 z40 z41 z42 z43 z44 z45 z46 z47 z48 z49 z50 z51 z52 z53 z54 z55 z56 z57 z58 z59 z60 z61 z62 z63 z64 z65 z66 z67 z68 z69 z70 z71 z72 z73 z74 z75 z76 z77 z78 z79 z80 vM z82 z83 z84 z85 z86 z87 vN z89 vO z91 vP z93 vS vT vU vV vW vX kM kN kP kQ kR z105 kS z107 kT z109 kU kV kW kX kY kZ z116 z117 lg z119 lu lC lD lF z124 lG lH z127 lI lJ z130 z131 lK lM lN lQ lS lT z138 z139 lU z141 lV z143 lW z145 z146 lX z148 lY lZ l7 z152 l9 z154 mg z156 z157 mD z159 z160 mF z162 mG z164 mJ mM z167 z168 wx hrel;refine hK0 _ _ ?_
       try dsimp only
       exact PW l w ws B b0 o0 c0 rr KC hsz hlong hwn hwb w0 HD0 HW HRR pl z1 z3 z4 z7 z8 z9 z10 z11 z12 z13 pG pI qj z17 qU rY z20 z21 z22 z23 z24 z25 z26 z27 z28 z29 z30 z31 z32 z33 z34 z35 z36 z37 z38 z39 z40 z41 z42 z43 z44 z45 z46 z47 z48 z49 z50 z51 z52 z53 z54 z55 z56 z57 z58 z59 z60 z61 z62 z63 z64 z65 z66 z67 z68 z69 z70 z71 z72 z73 z74 z75 z76 z77 z78 z79 z80 vM z82 z83 z84 z85 z86 z87 vN z89 vO z91 vP z93 vS vT vU vV vW vX kM kN kP kQ kR z105 kS z107 kT z109 kU kV kW kX kY kZ z116 z117 lg z119 lu lC lD lF z124 lG lH z127 lI lJ z130 z131 lK lM lN lQ lS lT z138 z139 lU z141 lV z143 lW z145 z146 lX z148 lY lZ l7 z152 l9 z154 mg z156 z157 mD z159 z160 mF z162 mG z164 mJ mM z167 z168 wx hrel
      clear hK0;have HJ0:=hide J0;clear J0
      rcases HW.out with rfl | rfl
      · go_wp2
        exact HJ0.out 0 _ _ _ _ _ _ _ _ _ _ _ _ _ _ _ _ _ _ _ _ _ _ _ _ _ _ _ _ _ _ _ _ _ _ _ _ _ _ _ _ _ _ _ _ _ _ _ _ _ _ _ _ _ _ _ _ _ _ _ _ _ _ _ _ _ _ _ _ _ _ _ _ _ _ _ _ _ _ _ _ _ _ _ _ _ _ _ _ _ _ _ _ _ _ _ _ _ _ _ _ _ _ _ _ _ _ _ _ _ _ _ _ _ _ _ _ _ _ _ _ _ _ _ _ _ _ _ _ _ _ _ _ _ _ _ _ _ _ _ _ _ _ _ _ _ _ _ _ _ _ _ _ _ _ _ _ _ _ _ _ _ _ _ _ _ _ ⟨rfl,st0⟩
      · have c0:=st0.bx.cell (j:=0) rfl
        have f0:=st0.bx.frozen 0;go_wp2;exact HJ0.out 1 _ _ _ _ _ _ _ _ _ _ _ _ _ _ _ _ _ _ _ _ _ _ _ _ _ _ _ _ _ _ _ _ _ _ _ _ _ _ _ _ _ _ _ _ _ _ _ _ _ _ _ _ _ _ _ _ _ _ _ _ _ _ _ _ _ _ _ _ _ _ _ _ _ _ _ _ _ _ _ _ _ _ _ _ _ _ _ _ _ _ _ _ _ _ _ _ _ _ _ _ _ _ _ _ _ _ _ _ _ _ _ _ _ _ _ _ _ _ _ _ _ _ _ _ _ _ _ _ _ _ _ _ _ _ _ _ _ _ _ _ _ _ _ _ _ _ _ _ _ _ _ _ _ _ _ _ _ _ _ _ _ _ _ _ _ _ ⟨rfl,oK.set (x':={M.blank with aN:=1 }) st0 0 (.int .i64 1) rfl rfl⟩
   · have e97:(w0 == [97])=false:=by simpa using fun h=>hw (.inl h)
     have e98:(w0 == [98])=false:=by simpa using fun h=>hw (.inr h)
     have hr:rr=(M.blank,1,25):=by rw [← HRR.out,HD0.out,Um w0 _ (fun h=>hw (.inl h)) (fun h=>hw (.inr h))];rfl
     clear hw;have HR:=hide hr;clear hr
     go_wp2_with (first | (refine aQ 36 (.tmp 2) (.tmp 33) rfl ?_;refine aI (st0.z) jw rfl dW (ng M.blank none 0) rfl (.tmp 2) (.tmp 33) rfl rfl rfl ?_))
     have hF:=(st0.z).whole jw rfl;refine bodyPost_ret (jD (p:=2) hF Tryz.underlying36 rfl dW rfl _ rfl) rfl ⟨none,0,?_,?_,below_setCells _ (Nat.le_refl _) _ _ _ _ (st0.bw)⟩
     · rw [HR.out];rfl
     · rw [HR.out];exact Reads.none_ _ _ _
end Go.Proofs.YtcjglfbpjkdgiaaGreatDoor
