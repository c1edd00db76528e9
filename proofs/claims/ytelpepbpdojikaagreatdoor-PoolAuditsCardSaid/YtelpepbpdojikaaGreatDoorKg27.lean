/- Parts of the proofs about chapter 5 (pool), joined by program. -/
import Derived.WalkMore
import Derived.Test.YtelpepbpdojikaaGreatDoorKg22
import Derived.Test.YtelpepbpdojikaaGreatDoorKg26
set_option maxHeartbeats 40000000
set_option maxRecDepth 100000
set_option linter.unusedVariables false
set_option linter.unusedSimpArgs false
namespace Go.Proofs.YtelpepbpdojikaaGreatDoor
open Go.RowKit
def jV:List Value:=[.int .i64 0,.string ⟨#[]⟩,.int .i64 0,.int .i64 0,.int .i64 0,.bool false,.slice none 0 0]
theorem dB:(Tryz.prog.info? 69).map (·.size)=some 7:=by kernel_rfl
theorem Jt:(Tryz.prog.info? 142).map (fun i=>(i.zero,i.size,i.bytes))=some (some (.agg #[.int .i64 0,.int .i64 0]),2,16):=by kernel_rfl
theorem lZ (x:M.aI) (A:Option Addr) (c:Nat):∀ v∈au ⟨x,A,c⟩,v.oneCell'=true:=by simp [au,Value.oneCell']
structure rV (w:World) (B b0 o0:Nat) (ws:List (List UInt8)) (x:M.aI) (A:Option Addr) (c:Nat) (W:World):Prop where
 z:Held W w.heap.size jV 69
 bx:Held W B (au ⟨x,A,c⟩) 69
 lo:w.heap.size<b0∧b0<B
 ws:∀ j (_:j<ws.length),W.cell? ⟨b0,o0+j,none⟩=some (.string ⟨ws[j].toArray⟩)
 own:W.ownsRow (B+1) 142 2 (.slice A x.aA.length c) x.aA.length (bK x.aA)
 bw:Below w.heap.size w W
theorem rV.set {w W:World} {B b0 o0:Nat} {ws:List (List UInt8)} {x x':M.aI} {A:Option Addr} {c:Nat} (h:rV w B b0 o0 ws x A c W) (j:Nat) (u:Value) (he:au ⟨x',A,c⟩=(au ⟨x,A,c⟩).set j u) (hp:x'.aA=x.aA):rV w B b0 o0 ws x' A c (W.setCell ⟨B,j,none⟩ u):=by
 obtain ⟨l1,l2⟩:=h.lo
 refine ⟨h.z.other (by omega) _ _,by rw [he];exact h.bx.set j u,h.lo,fun k hk=>(World.cell?_setCell_other _ _ ⟨b0,o0+k,none⟩ u (fun e=>by injection e with e1;omega)).trans (h.ws k hk),?_,h.bw.setCell (p:=⟨B,j,none⟩) (by show w.heap.size≤B;omega) u⟩
 rw [hp]
 exact bT h.own (fun g hg=>Below.heap_setCell W ⟨B,j,none⟩ u g (fun e=>by have:=(bg h.own hg).1;have e:g=B:=e;omega))
theorem rV.append {w W w4:World} {B b0 o0 g1 k cap:Nat} {ws:List (List UInt8)} {x x':M.aI} {A:Option Addr} {c:Nat} {o:Obj} (h:rV w B b0 o0 ws x A c W) (hgrow:(W.alloc o).grownBy w4 (Value.slice A x.aA.length c).ownBlock)
 (hown4:w4.ownsRow (B+1) 142 2 (.slice (some ⟨g1,0,none⟩) k cap) k (bK x'.aA)) (hk:k=x'.aA.length) (he:au ⟨x',some ⟨g1,0,none⟩,cap⟩=(au ⟨x,A,c⟩).set 6 (.slice (some ⟨g1,0,none⟩) k cap)):
 Held w4 B (au ⟨x,A,c⟩) 69∧rV w B b0 o0 ws x' (some ⟨g1,0,none⟩) cap (w4.setCell ⟨B,6,none⟩ (.slice (some ⟨g1,0,none⟩) k cap)):=by
 obtain ⟨l1,l2⟩:=h.lo
 have hBl:=h.bx.lt
 have hno:∀ b,b≤B→some b≠(Value.slice A x.aA.length c).ownBlock:=fun b hb e=>by have:=(bg h.own e.symm).1;omega
 have xu:Held w4 B (au ⟨x,A,c⟩) 69:=(hgrow.block _ (by simp;omega) (hno _ (Nat.le_refl _))).trans (h.bx.alloc o)
 have hb4:Below w.heap.size w w4:=((h.bw.alloc (by have:=h.bw.size;omega) o).trans (dX (h.own.alloc o) hgrow (by omega) (by simp;omega)))
 refine ⟨xu,(show Held w4 w.heap.size jV 69 from (hgrow.block _ (by simp;omega) (hno _ (by omega))).trans (h.z.alloc o)).other (by omega) _ _,by rw [he];exact xu.set 6 _,h.lo,fun j hj=>?_,?_,hb4.setCell (p:=⟨B,6,none⟩) (by show w.heap.size≤B;omega) _⟩
 · rw [World.cell?_setCell_other _ _ ⟨b0,o0+j,none⟩ _ (fun e=>by injection e with e1;omega),hgrow.cell_far ⟨b0,o0+j,none⟩ (by simp;omega) (hno _ (by show b0≤B;omega)),World.cell?_alloc_lt _ _ ⟨b0,o0+j,none⟩ (by show b0<_;omega)]
   exact h.ws j hj
 · rw [← hk]
   refine bT hown4 (fun g hg=>Below.heap_setCell w4 _ _ g (fun e=>by have:=(bg hown4 hg).1;have e:g=B:=e;omega))
def wM:Except Int M.aI→M.aI × Int × Int
 | .error n=>(M.blank,n,25)
 | .ok x=>if M.cZ x≠0 then (M.blank,0,M.cZ x) else (x,0,0)
theorem Iq (l:List UInt8) (h:¬ 4096<l.length):M.parse l=wM (M.iU (M.words l)):=by
 unfold M.parse wM
 rw [if_neg h]
 cases M.iU (M.words l) <;> rfl
theorem Oq (w:List UInt8) (l:List (List UInt8)) (ha:w≠[97]) (hb:w≠[98]):M.iU (w::l)= .error 1:=by
 rw [M.iU.eq_def];simp only;rw [if_pos ⟨ha,hb⟩]
theorem Fg (w:List UInt8) (hw:w=[97]∨w=[98]):M.iU [w]= .error 2:=by
 rw [M.iU.eq_def];simp only;rw [if_neg (by rintro ⟨h1,h2⟩;exact hw.elim h1 h2)]
theorem H8 (w k:List UInt8) (l:List (List UInt8)) (hw:w=[97]∨w=[98]) (hk:M.ku k=false):M.iU (w::k::l)= .error 2:=by
 rw [M.iU.eq_def];simp only;rw [if_neg (by rintro ⟨h1,h2⟩;exact hw.elim h1 h2),if_pos hk]
theorem Oo (w k:List UInt8) (l:List (List UInt8)) (hw:w=[97]∨w=[98]) (hk:M.ku k=true):M.iU (w::k::l)=M.sG {M.blank with aC:=if w=[98] then 1 else 0,kind:=⟨k.toArray⟩ } 2 l:=by
 rw [M.iU.eq_def];simp only;rw [if_neg (by rintro ⟨h1,h2⟩;exact hw.elim h1 h2),if_neg (by rw [hk];decide),M.Nu]
theorem JZ {x:M.aI} {n a b:Int} {w:List UInt8} {l:List (List UInt8)} (h:M.dF 99 w=some (a,b)) (ha:0<a) (hb:0<b):M.sG x n (w::l)=M.lY {x with aJ:=a,aP:=b } (n+1) l:=by
 rw [M.sG,h,Option.filter_some,if_pos (by simpa using ⟨ha,hb⟩)]
theorem BP {x:M.aI} {n:Int} {w:List UInt8} {l:List (List UInt8)} (h:∀ a b,M.dF 99 w=some (a,b)→¬ (0<a∧0<b)):M.sG x n (w::l)=M.lY x n (w::l):=by
 rw [M.sG]
 cases hp:M.dF 99 w with
 | none=>rfl
 | some q=>rw [Option.filter_some,if_neg (by simpa using h q.1 q.2 hp)]
theorem Ou {x:M.aI} {n a:Int} {w:List UInt8} {l:List (List UInt8)} (h:M.uM w=some a) (ha:0<a):M.lY x n (w::l)=M.iM {x with first:=a } (n+1) l:=by
 rw [M.lY,h,Option.filter_some,if_pos (by simpa using ha)]
theorem Cm {x:M.aI} {n:Int} {w:List UInt8} {l:List (List UInt8)} (h:∀ a,M.uM w=some a→¬ 0<a):M.lY x n (w::l)=M.iM x n (w::l):=by
 rw [M.lY]
 cases hp:M.uM w with
 | none=>rfl
 | some q=>rw [Option.filter_some,if_neg (by simpa using h q hp)]
def dQ:Nat→Code→Code
 | 0,c=>c
 | n+1,.seq _ b=>dQ n b
 | _+1,c=>c
noncomputable def lq (n:Nat):Code:=dQ n ((Tryz.f32).body.getD .skip)
theorem KH (l:List UInt8) (w:World) (ws:List (List UInt8)) (B b0 o0 c0:Nat) (rr:M.aI × Int × Int) (EP:Hid (∀ v∈ws,v.length≤l.length)) (hsz:(ByteArray.mk l.toArray).size=l.length) (hlong:¬ 4096<l.length) (hwn:ws.length≤4097) (hwb:ws.length≤c0∧c0≤9223372036854775807∧ws.length≤17592186044416):∀ (x:M.aI) (k:Nat) (v7:Value) (z1 z3 z4 z8 z9 z10 z11 z12 z13 kD kK kF z17 kL jQ z20 z21 z22 z23 z24 z25 z26 z27 z28 z29 z30 z31 z32 z33 z34 z35 z36 z37 z38 z39 z40 z41 z42 z43 z44 z45 z46 z47 z48 z49 z50 z51 z52 z53 z54 z55 z56 z57 z58 z59 z60 z61 z62 z63 z64 z65 z66 z67 z68 z69 z70 z71 z72 z73 z74 z75 z76 z77 z78 z79 z80 mM z82 z83 z84 z85 z86 z87 mO z89 mP z91 mQ z93 mV mW mX mY mZ ng eU eX eY fA fB z105 fC z107 fD z109 fF fG fH fJ fK fM z116 z117 fO z119 fP fQ fU fV z124 fZ gq z127 gu gy z130 z131 gB gG gI gJ gK gQ z138 z139 gU z141 gV z143 gW z145 z146 gZ z148 ig iq iw z152 iy z154 iC z156 z157 iD z159 z160 iE z162 iF z164 iG iH z167 z168:Value) (wx:World),(v7= .int .i64 (k:Int)∧k≤ws.length∧x.aA=[]∧rV w B b0 o0 ws x none 0 wx∧wM (M.jG x k (ws.drop k))=rr)→(lq 12).wp Tryz.prog (bodyPost Tryz.prog Tryz.f32 (fun e w'=>∃ A c,e= .returned (.tuple #[iO rr.1 A c,.int .i64 rr.2.1,.int .i64 rr.2.2])∧jl w' (fun b=>w.heap.size≤b) A c rr.1.aA∧Below w.heap.size w w')) {tmps:= #[.string ⟨l.toArray⟩,z1,ptr w.heap.size,z3,z4,.slice (some ⟨b0,o0,none⟩) ws.length c0,ptr B,v7,z8,z9,z10,z11,z12,z13,kD,kK,kF,z17,kL,jQ,z20,z21,z22,z23,z24,z25,z26,z27,z28,z29,z30,z31,z32,z33,z34,z35,z36,z37,z38,z39,z40,z41,z42,z43,z44,z45,z46,z47,z48,z49,z50,z51,z52,z53,z54,z55,z56,z57,z58,z59,z60,z61,z62,z63,z64,z65,z66,z67,z68,z69,z70,z71,z72,z73,z74,z75,z76,z77,z78,z79,z80,mM,z82,z83,z84,z85,z86,z87,mO,z89,mP,z91,mQ,z93,mV,mW,mX,mY,mZ,ng,eU,eX,eY,fA,fB,z105,fC,z107,fD,z109,fF,fG,fH,fJ,fK,fM,z116,z117,fO,z119,fP,fQ,fU,fV,z124,fZ,gq,z127,gu,gy,z130,z131,gB,gG,gI,gJ,gK,gQ,z138,z139,gU,z141,gV,z143,gW,z145,z146,gZ,z148,ig,iq,iw,z152,iy,z154,iC,z156,z157,iD,z159,z160,iE,z162,iF,z164,iG,iH,z167,z168],defers:=[] } wx:=by
 intro x k v7 z1 z3 z4 z8 z9 z10 z11 z12 z13 kD kK kF z17 kL jQ z20 z21 z22 z23 z24 z25 z26 z27 z28 z29 z30 z31 z32 z33 z34 z35 z36 z37 z38 z39 z40 z41 z42 z43 z44 z45 z46 z47 z48 z49 z50 z51 z52 z53 z54 z55 z56 z57 z58 z59 z60 z61 z62 z63 z64 z65 z66 z67 z68 z69 z70 z71 z72 z73 z74 z75 z76 z77 z78 z79 z80 mM z82 z83 z84 z85 z86 z87 mO z89 mP z91 mQ z93 mV mW mX mY mZ ng eU eX eY fA fB z105 fC z107 fD z109 fF fG fH fJ fK fM z116 z117 fO z119 fP fQ fU fV z124 fZ gq z127 gu gy z130 z131 gB gG gI gJ gK gQ z138 z139 gU z141 gV z143 gW z145 z146 gZ z148 ig iq iw z152 iy z154 iC z156 z157 iD z159 z160 iE z162 iF z164 iG iH z167 z168 wx hrel
 obtain ⟨rfl,hk,hxp,st,hend⟩:=hrel
 have HE:=hide hend
 clear hend
 dsimp only [lq,dQ,Tryz.f32,Option.getD]
 go_wp2
 go_loopw [7] (fun v wr=>∃ (k:Nat) (x:M.aI) (A:Option Addr) (c:Nat),v= .int .i64 (k:Int)∧k≤ws.length∧x.aA.length≤k∧rV w B b0 o0 ws x A c wr∧Aside (wM (M.jG x k (ws.drop k))=rr)) (fun v _=>ws.length - (intOf v).toNat)
 case atStart=>exact ⟨k,x,none,0,rfl,hk,by rw [hxp];exact Nat.zero_le _,st,HE.out⟩
 case round=>
  obtain ⟨k,x,A,c,rfl,hk,hpl,st,HE⟩:=hrel
  have HE:=hide HE
  by_cases hlt:k<ws.length
  · have hcw:=st.ws k hlt
    obtain ⟨wk,hwk⟩:∃ q,ws[k]=q:=⟨_,rfl⟩
    have hdr:=List.drop_eq_getElem_cons hlt
    rw [hwk] at hcw hdr
    have HDR:=hide hdr
    have hwl:=EP.out wk (by rw [← hwk];exact List.getElem_mem hlt)
    clear hwk hdr
    have i1:(0:Int)≤(k:Int):=by omega
    have i2:(k:Int)<(ws.length:Int):=by omega
    have hpr:=fun W=>Ep 112 wk W (by omega)
    have hpe:=En 112 wk
    have hpv:=fun a b (h:M.dF 112 wk=some (a,b))=>Eo h
    obtain ⟨a1,a2,hpq⟩:∃ a b,yu 112 wk=(a,b):=⟨_,_,rfl⟩
    obtain ⟨pb,hpb⟩:∃ b,zQ 112 wk=b:=⟨_,rfl⟩
    rw [hpb] at hpe
    rw [hpq] at hpv
    simp only [hpq,hpb] at hpr
    rw [show ((112:UInt8).toNat:Int)=112 from rfl] at hpr
    have PG:=hide hpr
    have Rh:=hide hpe
    have UD:=hide hpv
    clear hpr hpe hpv hpq hpb
    cases pb with
    | true=>
      have hpo:M.dF 112 wk=some (a1,a2):=by
       cases hq:M.dF 112 wk with
       | none=>have:=Rh.out;rw [hq] at this;exact absurd this (by decide)
       | some q=>obtain ⟨q1,q2⟩:=q;have:=UD.out q1 q2 hq;cases this;rfl
      have c6:=st.bx.cell (j:=6) rfl
      have f6:=st.bx.frozen 6
      obtain ⟨i0,hi0,hz0,hz1,hz2⟩:=info_parts Jt
      have O8:wM (M.jG {x with aA:=x.aA++[⟨a1,a2⟩] } ((k:Int)+1) (ws.drop (k+1)))=rr:=by
       have:=HE.out
       rw [HDR.out] at this
       rw [M.jG,hpo] at this
       exact this
      have HE2:=hide O8
      clear O8 hpo
      go_wp2_with (first | (go_at_call 82;refine (PG.out _).mono ?_;rintro e w3 ⟨rfl,hw3⟩;subst hw3) | (at_builtin;refine wpList_append_lies _ rfl _ _ _ rfl (B+1) 142 i0 (.agg #[.int .i64 0,.int .i64 0]) 2 16 Tryz.underlying67 hi0 hz0 hz1 hz2 rfl (by omega) _ _ _ rfl (st.own.alloc _) ⟨wr.heap.size,0,none⟩ 1 1 [.int .i64 a1,.int .i64 a2] rfl rfl (dK _ _ _ _ (by simp)) (by simp [Value.oneCell']) (by omega) (by simp only [maxLen];omega) (by omega) (by have:=st.bx.lt;simp;omega) (wr.heap.size+1) (by simp) ?_))
      intro g1 cap w4 hown4 hgrow _ _
      have hpc:bK (x.aA++[⟨a1,a2⟩])=bK x.aA++[.int .i64 a1,.int .i64 a2]:=by simp [bK]
      obtain ⟨xu,hst⟩:=st.append (x':={x with aA:=x.aA++[⟨a1,a2⟩] }) hgrow (by rw [hpc];exact hown4) (by simp) (by simp [au])
      have d6:=xu.cell (j:=6) rfl
      have e6:=xu.frozen 6
      have HST:=hide hst
      clear hst hgrow hown4 hpc
      go_wp2
      go_roundw
      case rel=>exact ⟨k+1,{x with aA:=x.aA++[⟨a1,a2⟩] },_,_,by go_num,by omega,by simp;omega,HST.out,HE2.out⟩
      case measure=>simp [intOf] <;> omega
    | false=>
      have hr:rr=(M.blank,(k:Int)+1,25):=by
       have:=HE.out
       rw [HDR.out,M.jG] at this
       rw [← this]
       cases hq:M.dF 112 wk with
       | none=>rfl
       | some q=>have:=Rh.out;rw [hq] at this;cases this
      have HR:=hide hr
      clear hr
      go_wp2_with (first | (go_at_call 82;refine (PG.out _).mono ?_;rintro e w3 ⟨rfl,hw3⟩;subst hw3) | (refine aO 69 (.tmp 2) (.tmp 149) rfl ?_;refine aF (st.z) jV rfl dB (lZ M.blank none 0) rfl (.tmp 2) (.tmp 149) rfl rfl rfl ?_))
      have hF:=(st.z).whole jV rfl
      refine bodyPost_ret (iI (p:=2) hF Tryz.underlying69 rfl dB rfl _ rfl) rfl ⟨none,0,?_,?_,below_setCells _ (Nat.le_refl _) _ _ _ _ (st.bw)⟩
      · rw [HR.out];rfl
      · rw [HR.out];exact Reads.none_ _ _ _
  · have hke:k=ws.length:=by omega
    subst hke
    have FB:jl wr (fun b=>B+1≤b) A c x.aA:=Reads.kG st.own (fun b h=>h) (by omega)
    have hrd:jl wr (fun b=>w.heap.size≤b) A c x.aA:=Reads.more FB (fun b _ h=>by have h:B+1≤b:=h;have:=st.lo;show w.heap.size≤b;omega)
    have hck:=fun W (hb:Below wr.heap.size wr W)=>AL (fun b=>w.heap.size≤b) x A c W (Reads.below hrd hb)
    have hend:=HE.out
    rw [List.drop_length] at hend
    unfold M.jG wM at hend
    simp only at hend
    obtain ⟨E,hE⟩:∃ E,M.cZ x=E:=⟨_,rfl⟩
    rw [hE] at hck hend
    have wZ:=hide hck
    have QI:=hide FB
    clear hck hE hrd FB
    by_cases h3:E=0
    · have e1:rr=(x,0,0):=by rw [← hend,if_neg (by simp [h3])]
      have h3':(E != 0)=false:=by simp [h3]
      have HR:=hide e1
      clear hend h3 e1
      go_wp2_with (first | (refine aN 69 (.tmp 6) rfl ?_;refine aG (st.bx) Tryz.underlying69 rfl dB rfl (.tmp 6) rfl rfl ?_) | (go_at_call 30;refine (wZ.out _ (Below.refl _ _)).mono ?_;rintro e w5 ⟨rfl,hb5⟩;have Ky:=st.z.below hb5;have hx5:=st.bx.below hb5) | (refine aN 69 (.tmp 6) rfl ?_;refine aG (hx5) Tryz.underlying69 rfl dB rfl (.tmp 6) rfl rfl ?_) | (refine aO 69 (.tmp 2) (.tmp 168) rfl ?_;refine aF (Ky) (au ⟨x,A,c⟩) rfl dB (lZ x A c) rfl (.tmp 2) (.tmp 168) rfl rfl rfl ?_))
      have hF:=Ky.whole (au ⟨x,A,c⟩) rfl
      refine bodyPost_ret (iI (p:=2) hF Tryz.underlying69 rfl dB rfl _ rfl) rfl ⟨A,c,?_,?_,below_setCells _ (Nat.le_refl _) _ _ _ _ (st.bw.trans (hb5.mono st.bw.size))⟩
      · rw [HR.out];rfl
      · rw [HR.out]
        exact Reads.more (Reads.keep (Reads.below QI.out hb5) (by rw [setCells_size];exact Nat.le_refl _) (fun b o hb hlt=>World.cell?_of_block (Held.lC (g:=w.heap.size) (b:=b) (by have hb:B+1≤b:=hb;have:=st.lo;omega) _ _ _))) (fun b _ h=>by have h:B+1≤b:=h;have:=st.lo;show w.heap.size≤b;omega)
    · have e1:rr=(M.blank,0,E):=by rw [← hend,if_pos (by simpa using h3)]
      have h3':(E != 0)=true:=by simp [h3]
      have HR:=hide e1
      clear hend h3 e1
      go_wp2_with (first | (refine aN 69 (.tmp 6) rfl ?_;refine aG (st.bx) Tryz.underlying69 rfl dB rfl (.tmp 6) rfl rfl ?_) | (go_at_call 30;refine (wZ.out _ (Below.refl _ _)).mono ?_;rintro e w5 ⟨rfl,hb5⟩;have Ky:=st.z.below hb5;have hx5:=st.bx.below hb5) | (refine aO 69 (.tmp 2) (.tmp 166) rfl ?_;refine aF (Ky) jV rfl dB (lZ M.blank none 0) rfl (.tmp 2) (.tmp 166) rfl rfl rfl ?_))
      have hF:=(Ky).whole jV rfl
      refine bodyPost_ret (iI (p:=2) hF Tryz.underlying69 rfl dB rfl _ rfl) rfl ⟨none,0,?_,?_,below_setCells _ (Nat.le_refl _) _ _ _ _ (st.bw.trans (hb5.mono st.bw.size))⟩
      · rw [HR.out];rfl
      · rw [HR.out];exact Reads.none_ _ _ _
theorem KG (l:List UInt8) (w:World) (ws:List (List UInt8)) (B b0 o0 c0:Nat) (rr:M.aI × Int × Int) (EP:Hid (∀ v∈ws,v.length≤l.length)) (hsz:(ByteArray.mk l.toArray).size=l.length) (hlong:¬ 4096<l.length) (hwn:ws.length≤4097) (hwb:ws.length≤c0∧c0≤9223372036854775807∧ws.length≤17592186044416):∀ (x:M.aI) (k:Nat) (v7:Value) (z1 z3 z4 z8 z9 z10 z11 z12 z13 kD kK kF z17 kL jQ z20 z21 z22 z23 z24 z25 z26 z27 z28 z29 z30 z31 z32 z33 z34 z35 z36 z37 z38 z39 z40 z41 z42 z43 z44 z45 z46 z47 z48 z49 z50 z51 z52 z53 z54 z55 z56 z57 z58 z59 z60 z61 z62 z63 z64 z65 z66 z67 z68 z69 z70 z71 z72 z73 z74 z75 z76 z77 z78 z79 z80 mM z82 z83 z84 z85 z86 z87 mO z89 mP z91 mQ z93 mV mW mX mY mZ ng eU eX eY fA fB z105 fC z107 fD z109 fF fG fH fJ fK fM z116 z117 fO z119 fP fQ fU fV z124 fZ gq z127 gu gy z130 z131 gB gG gI gJ gK gQ z138 z139 gU z141 gV z143 gW z145 z146 gZ z148 ig iq iw z152 iy z154 iC z156 z157 iD z159 z160 iE z162 iF z164 iG iH z167 z168:Value) (wx:World),(v7= .int .i64 (k:Int)∧k≤ws.length∧x.aA=[]∧rV w B b0 o0 ws x none 0 wx∧wM (M.iM x k (ws.drop k))=rr)→(lq 11).wp Tryz.prog (bodyPost Tryz.prog Tryz.f32 (fun e w'=>∃ A c,e= .returned (.tuple #[iO rr.1 A c,.int .i64 rr.2.1,.int .i64 rr.2.2])∧jl w' (fun b=>w.heap.size≤b) A c rr.1.aA∧Below w.heap.size w w')) {tmps:= #[.string ⟨l.toArray⟩,z1,ptr w.heap.size,z3,z4,.slice (some ⟨b0,o0,none⟩) ws.length c0,ptr B,v7,z8,z9,z10,z11,z12,z13,kD,kK,kF,z17,kL,jQ,z20,z21,z22,z23,z24,z25,z26,z27,z28,z29,z30,z31,z32,z33,z34,z35,z36,z37,z38,z39,z40,z41,z42,z43,z44,z45,z46,z47,z48,z49,z50,z51,z52,z53,z54,z55,z56,z57,z58,z59,z60,z61,z62,z63,z64,z65,z66,z67,z68,z69,z70,z71,z72,z73,z74,z75,z76,z77,z78,z79,z80,mM,z82,z83,z84,z85,z86,z87,mO,z89,mP,z91,mQ,z93,mV,mW,mX,mY,mZ,ng,eU,eX,eY,fA,fB,z105,fC,z107,fD,z109,fF,fG,fH,fJ,fK,fM,z116,z117,fO,z119,fP,fQ,fU,fV,z124,fZ,gq,z127,gu,gy,z130,z131,gB,gG,gI,gJ,gK,gQ,z138,z139,gU,z141,gV,z143,gW,z145,z146,gZ,z148,ig,iq,iw,z152,iy,z154,iC,z156,z157,iD,z159,z160,iE,z162,iF,z164,iG,iH,z167,z168],defers:=[] } wx:=by
 intro x k v7 z1 z3 z4 z8 z9 z10 z11 z12 z13 kD kK kF z17 kL jQ z20 z21 z22 z23 z24 z25 z26 z27 z28 z29 z30 z31 z32 z33 z34 z35 z36 z37 z38 z39 z40 z41 z42 z43 z44 z45 z46 z47 z48 z49 z50 z51 z52 z53 z54 z55 z56 z57 z58 z59 z60 z61 z62 z63 z64 z65 z66 z67 z68 z69 z70 z71 z72 z73 z74 z75 z76 z77 z78 z79 z80 mM z82 z83 z84 z85 z86 z87 mO z89 mP z91 mQ z93 mV mW mX mY mZ ng eU eX eY fA fB z105 fC z107 fD z109 fF fG fH fJ fK fM z116 z117 fO z119 fP fQ fU fV z124 fZ gq z127 gu gy z130 z131 gB gG gI gJ gK gQ z138 z139 gU z141 gV z143 gW z145 z146 gZ z148 ig iq iw z152 iy z154 iC z156 z157 iD z159 z160 iE z162 iF z164 iG iH z167 z168 wx hrel
 obtain ⟨rfl,hk,hxp,st,hend⟩:=hrel
 have HE:=hide hend
 clear hend
 dsimp only [lq,dQ,Tryz.f32,Option.getD]
 go_upto_region 23 with (fail)
 rename_i K1 hK1 K9 hK9
 have J3:∀ (x:M.aI) (k:Nat) (v7:Value) (z1 z3 z4 z8 z9 z10 z11 z12 z13 kD kK kF z17 kL jQ z20 z21 z22 z23 z24 z25 z26 z27 z28 z29 z30 z31 z32 z33 z34 z35 z36 z37 z38 z39 z40 z41 z42 z43 z44 z45 z46 z47 z48 z49 z50 z51 z52 z53 z54 z55 z56 z57 z58 z59 z60 z61 z62 z63 z64 z65 z66 z67 z68 z69 z70 z71 z72 z73 z74 z75 z76 z77 z78 z79 z80 mM z82 z83 z84 z85 z86 z87 mO z89 mP z91 mQ z93 mV mW mX mY mZ ng eU eX eY fA fB z105 fC z107 fD z109 fF fG fH fJ fK fM z116 z117 fO z119 fP fQ fU fV z124 fZ gq z127 gu gy z130 z131 gB gG gI gJ gK gQ z138 z139 gU z141 gV z143 gW z145 z146 gZ z148 ig iq iw z152 iy z154 iC z156 z157 iD z159 z160 iE z162 iF z164 iG iH z167 z168:Value) (wx:World),(v7= .int .i64 (k:Int)∧k≤ws.length∧x.aA=[]∧rV w B b0 o0 ws x none 0 wx∧wM (M.jG x k (ws.drop k))=rr)→K1 {tmps:= #[.string ⟨l.toArray⟩,z1,ptr w.heap.size,z3,z4,.slice (some ⟨b0,o0,none⟩) ws.length c0,ptr B,v7,z8,z9,z10,z11,z12,z13,kD,kK,kF,z17,kL,jQ,z20,z21,z22,z23,z24,z25,z26,z27,z28,z29,z30,z31,z32,z33,z34,z35,z36,z37,z38,z39,z40,z41,z42,z43,z44,z45,z46,z47,z48,z49,z50,z51,z52,z53,z54,z55,z56,z57,z58,z59,z60,z61,z62,z63,z64,z65,z66,z67,z68,z69,z70,z71,z72,z73,z74,z75,z76,z77,z78,z79,z80,mM,z82,z83,z84,z85,z86,z87,mO,z89,mP,z91,mQ,z93,mV,mW,mX,mY,mZ,ng,eU,eX,eY,fA,fB,z105,fC,z107,fD,z109,fF,fG,fH,fJ,fK,fM,z116,z117,fO,z119,fP,fQ,fU,fV,z124,fZ,gq,z127,gu,gy,z130,z131,gB,gG,gI,gJ,gK,gQ,z138,z139,gU,z141,gV,z143,gW,z145,z146,gZ,z148,ig,iq,iw,z152,iy,z154,iC,z156,z157,iD,z159,z160,iE,z162,iF,z164,iG,iH,z167,z168],defers:=[] } wx:=by
  intro x k v7 z1 z3 z4 z8 z9 z10 z11 z12 z13 kD kK kF z17 kL jQ z20 z21 z22 z23 z24 z25 z26 z27 z28 z29 z30 z31 z32 z33 z34 z35 z36 z37 z38 z39 z40 z41 z42 z43 z44 z45 z46 z47 z48 z49 z50 z51 z52 z53 z54 z55 z56 z57 z58 z59 z60 z61 z62 z63 z64 z65 z66 z67 z68 z69 z70 z71 z72 z73 z74 z75 z76 z77 z78 z79 z80 mM z82 z83 z84 z85 z86 z87 mO z89 mP z91 mQ z93 mV mW mX mY mZ ng eU eX eY fA fB z105 fC z107 fD z109 fF fG fH fJ fK fM z116 z117 fO z119 fP fQ fU fV z124 fZ gq z127 gu gy z130 z131 gB gG gI gJ gK gQ z138 z139 gU z141 gV z143 gW z145 z146 gZ z148 ig iq iw z152 iy z154 iC z156 z157 iD z159 z160 iE z162 iF z164 iG iH z167 z168 wx hrel
  refine hK1 _ _ ?_
  try dsimp only
  exact KH l w ws B b0 o0 c0 rr EP hsz hlong hwn hwb x k v7 z1 z3 z4 z8 z9 z10 z11 z12 z13 kD kK kF z17 kL jQ z20 z21 z22 z23 z24 z25 z26 z27 z28 z29 z30 z31 z32 z33 z34 z35 z36 z37 z38 z39 z40 z41 z42 z43 z44 z45 z46 z47 z48 z49 z50 z51 z52 z53 z54 z55 z56 z57 z58 z59 z60 z61 z62 z63 z64 z65 z66 z67 z68 z69 z70 z71 z72 z73 z74 z75 z76 z77 z78 z79 z80 mM z82 z83 z84 z85 z86 z87 mO z89 mP z91 mQ z93 mV mW mX mY mZ ng eU eX eY fA fB z105 fC z107 fD z109 fF fG fH fJ fK fM z116 z117 fO z119 fP fQ fU fV z124 fZ gq z127 gu gy z130 z131 gB gG gI gJ gK gQ z138 z139 gU z141 gV z143 gW z145 z146 gZ z148 ig iq iw z152 iy z154 iC z156 z157 iD z159 z160 iE z162 iF z164 iG iH z167 z168 wx hrel
 clear hK1
 have QG:=hide J3
 clear J3
 by_cases hlt:k<ws.length
 · have hcw:=st.ws k hlt
   obtain ⟨wk,hwk⟩:∃ q,ws[k]=q:=⟨_,rfl⟩
   have hdr:=List.drop_eq_getElem_cons hlt
   rw [hwk] at hcw hdr
   have HDR:=hide hdr
   have hwl:=EP.out wk (by rw [← hwk];exact List.getElem_mem hlt)
   clear hwk hdr
   have i1:(0:Int)≤(k:Int):=by omega
   have i2:(k:Int)<(ws.length:Int):=by omega
   by_cases hc:wk=[43]
   · subst hc
     have c5:=st.bx.cell (j:=5) rfl
     have f5:=st.bx.frozen 5
     go_wp2
     exact QG.out ({x with dA:=true }) (k+1) _ _ _ _ _ _ _ _ _ _ _ _ _ _ _ _ _ _ _ _ _ _ _ _ _ _ _ _ _ _ _ _ _ _ _ _ _ _ _ _ _ _ _ _ _ _ _ _ _ _ _ _ _ _ _ _ _ _ _ _ _ _ _ _ _ _ _ _ _ _ _ _ _ _ _ _ _ _ _ _ _ _ _ _ _ _ _ _ _ _ _ _ _ _ _ _ _ _ _ _ _ _ _ _ _ _ _ _ _ _ _ _ _ _ _ _ _ _ _ _ _ _ _ _ _ _ _ _ _ _ _ _ _ _ _ _ _ _ _ _ _ _ _ _ _ _ _ _ _ _ _ _ _ _ _ _ _ _ _ _ _ _ _ _ _ _ ⟨by first | rfl | go_num,by omega,hxp,rV.set (x':={x with dA:=true }) st 5 (.bool true) rfl rfl,by have:=HE.out;rw [HDR.out,M.iM,if_pos rfl] at this;exact this⟩
   · have hb:(wk == [43])=false:=by simpa using hc
     have HC:=hide hc
     clear hc
     go_wp2
     exact QG.out (x) (k) _ _ _ _ _ _ _ _ _ _ _ _ _ _ _ _ _ _ _ _ _ _ _ _ _ _ _ _ _ _ _ _ _ _ _ _ _ _ _ _ _ _ _ _ _ _ _ _ _ _ _ _ _ _ _ _ _ _ _ _ _ _ _ _ _ _ _ _ _ _ _ _ _ _ _ _ _ _ _ _ _ _ _ _ _ _ _ _ _ _ _ _ _ _ _ _ _ _ _ _ _ _ _ _ _ _ _ _ _ _ _ _ _ _ _ _ _ _ _ _ _ _ _ _ _ _ _ _ _ _ _ _ _ _ _ _ _ _ _ _ _ _ _ _ _ _ _ _ _ _ _ _ _ _ _ _ _ _ _ _ _ _ _ _ _ _ ⟨by first | rfl | go_num,by omega,hxp,st,by have:=HE.out;rw [HDR.out,M.iM,if_neg HC.out, ← HDR.out] at this;exact this⟩
 · have hke:k=ws.length:=by omega
   subst hke
   go_wp2
   exact QG.out (x) (ws.length) _ _ _ _ _ _ _ _ _ _ _ _ _ _ _ _ _ _ _ _ _ _ _ _ _ _ _ _ _ _ _ _ _ _ _ _ _ _ _ _ _ _ _ _ _ _ _ _ _ _ _ _ _ _ _ _ _ _ _ _ _ _ _ _ _ _ _ _ _ _ _ _ _ _ _ _ _ _ _ _ _ _ _ _ _ _ _ _ _ _ _ _ _ _ _ _ _ _ _ _ _ _ _ _ _ _ _ _ _ _ _ _ _ _ _ _ _ _ _ _ _ _ _ _ _ _ _ _ _ _ _ _ _ _ _ _ _ _ _ _ _ _ _ _ _ _ _ _ _ _ _ _ _ _ _ _ _ _ _ _ _ _ _ _ _ _ ⟨by first | rfl | go_num,by omega,hxp,st,by have:=HE.out;rw [List.drop_length] at this ⊢;exact this⟩
theorem KF (l:List UInt8) (w:World) (ws:List (List UInt8)) (B b0 o0 c0:Nat) (rr:M.aI × Int × Int) (EP:Hid (∀ v∈ws,v.length≤l.length)) (hsz:(ByteArray.mk l.toArray).size=l.length) (hlong:¬ 4096<l.length) (hwn:ws.length≤4097) (hwb:ws.length≤c0∧c0≤9223372036854775807∧ws.length≤17592186044416):∀ (x:M.aI) (k:Nat) (v7:Value) (z1 z3 z4 z8 z9 z10 z11 z12 z13 kD kK kF z17 kL jQ z20 z21 z22 z23 z24 z25 z26 z27 z28 z29 z30 z31 z32 z33 z34 z35 z36 z37 z38 z39 z40 z41 z42 z43 z44 z45 z46 z47 z48 z49 z50 z51 z52 z53 z54 z55 z56 z57 z58 z59 z60 z61 z62 z63 z64 z65 z66 z67 z68 z69 z70 z71 z72 z73 z74 z75 z76 z77 z78 z79 z80 mM z82 z83 z84 z85 z86 z87 mO z89 mP z91 mQ z93 mV mW mX mY mZ ng eU eX eY fA fB z105 fC z107 fD z109 fF fG fH fJ fK fM z116 z117 fO z119 fP fQ fU fV z124 fZ gq z127 gu gy z130 z131 gB gG gI gJ gK gQ z138 z139 gU z141 gV z143 gW z145 z146 gZ z148 ig iq iw z152 iy z154 iC z156 z157 iD z159 z160 iE z162 iF z164 iG iH z167 z168:Value) (wx:World),(v7= .int .i64 (k:Int)∧k≤ws.length∧x.aA=[]∧rV w B b0 o0 ws x none 0 wx∧wM (M.lY x k (ws.drop k))=rr)→(lq 10).wp Tryz.prog (bodyPost Tryz.prog Tryz.f32 (fun e w'=>∃ A c,e= .returned (.tuple #[iO rr.1 A c,.int .i64 rr.2.1,.int .i64 rr.2.2])∧jl w' (fun b=>w.heap.size≤b) A c rr.1.aA∧Below w.heap.size w w')) {tmps:= #[.string ⟨l.toArray⟩,z1,ptr w.heap.size,z3,z4,.slice (some ⟨b0,o0,none⟩) ws.length c0,ptr B,v7,z8,z9,z10,z11,z12,z13,kD,kK,kF,z17,kL,jQ,z20,z21,z22,z23,z24,z25,z26,z27,z28,z29,z30,z31,z32,z33,z34,z35,z36,z37,z38,z39,z40,z41,z42,z43,z44,z45,z46,z47,z48,z49,z50,z51,z52,z53,z54,z55,z56,z57,z58,z59,z60,z61,z62,z63,z64,z65,z66,z67,z68,z69,z70,z71,z72,z73,z74,z75,z76,z77,z78,z79,z80,mM,z82,z83,z84,z85,z86,z87,mO,z89,mP,z91,mQ,z93,mV,mW,mX,mY,mZ,ng,eU,eX,eY,fA,fB,z105,fC,z107,fD,z109,fF,fG,fH,fJ,fK,fM,z116,z117,fO,z119,fP,fQ,fU,fV,z124,fZ,gq,z127,gu,gy,z130,z131,gB,gG,gI,gJ,gK,gQ,z138,z139,gU,z141,gV,z143,gW,z145,z146,gZ,z148,ig,iq,iw,z152,iy,z154,iC,z156,z157,iD,z159,z160,iE,z162,iF,z164,iG,iH,z167,z168],defers:=[] } wx:=by
 intro x k v7 z1 z3 z4 z8 z9 z10 z11 z12 z13 kD kK kF z17 kL jQ z20 z21 z22 z23 z24 z25 z26 z27 z28 z29 z30 z31 z32 z33 z34 z35 z36 z37 z38 z39 z40 z41 z42 z43 z44 z45 z46 z47 z48 z49 z50 z51 z52 z53 z54 z55 z56 z57 z58 z59 z60 z61 z62 z63 z64 z65 z66 z67 z68 z69 z70 z71 z72 z73 z74 z75 z76 z77 z78 z79 z80 mM z82 z83 z84 z85 z86 z87 mO z89 mP z91 mQ z93 mV mW mX mY mZ ng eU eX eY fA fB z105 fC z107 fD z109 fF fG fH fJ fK fM z116 z117 fO z119 fP fQ fU fV z124 fZ gq z127 gu gy z130 z131 gB gG gI gJ gK gQ z138 z139 gU z141 gV z143 gW z145 z146 gZ z148 ig iq iw z152 iy z154 iC z156 z157 iD z159 z160 iE z162 iF z164 iG iH z167 z168 wx hrel
 obtain ⟨rfl,hk,hxp,st,hend⟩:=hrel
 have HE:=hide hend
 clear hend
 dsimp only [lq,dQ,Tryz.f32,Option.getD]
 go_upto_region 18 with (fail)
 rename_i K2 hK2 K9 hK9
 have J2:∀ (x:M.aI) (k:Nat) (v7:Value) (z1 z3 z4 z8 z9 z10 z11 z12 z13 kD kK kF z17 kL jQ z20 z21 z22 z23 z24 z25 z26 z27 z28 z29 z30 z31 z32 z33 z34 z35 z36 z37 z38 z39 z40 z41 z42 z43 z44 z45 z46 z47 z48 z49 z50 z51 z52 z53 z54 z55 z56 z57 z58 z59 z60 z61 z62 z63 z64 z65 z66 z67 z68 z69 z70 z71 z72 z73 z74 z75 z76 z77 z78 z79 z80 mM z82 z83 z84 z85 z86 z87 mO z89 mP z91 mQ z93 mV mW mX mY mZ ng eU eX eY fA fB z105 fC z107 fD z109 fF fG fH fJ fK fM z116 z117 fO z119 fP fQ fU fV z124 fZ gq z127 gu gy z130 z131 gB gG gI gJ gK gQ z138 z139 gU z141 gV z143 gW z145 z146 gZ z148 ig iq iw z152 iy z154 iC z156 z157 iD z159 z160 iE z162 iF z164 iG iH z167 z168:Value) (wx:World),(v7= .int .i64 (k:Int)∧k≤ws.length∧x.aA=[]∧rV w B b0 o0 ws x none 0 wx∧wM (M.iM x k (ws.drop k))=rr)→K2 {tmps:= #[.string ⟨l.toArray⟩,z1,ptr w.heap.size,z3,z4,.slice (some ⟨b0,o0,none⟩) ws.length c0,ptr B,v7,z8,z9,z10,z11,z12,z13,kD,kK,kF,z17,kL,jQ,z20,z21,z22,z23,z24,z25,z26,z27,z28,z29,z30,z31,z32,z33,z34,z35,z36,z37,z38,z39,z40,z41,z42,z43,z44,z45,z46,z47,z48,z49,z50,z51,z52,z53,z54,z55,z56,z57,z58,z59,z60,z61,z62,z63,z64,z65,z66,z67,z68,z69,z70,z71,z72,z73,z74,z75,z76,z77,z78,z79,z80,mM,z82,z83,z84,z85,z86,z87,mO,z89,mP,z91,mQ,z93,mV,mW,mX,mY,mZ,ng,eU,eX,eY,fA,fB,z105,fC,z107,fD,z109,fF,fG,fH,fJ,fK,fM,z116,z117,fO,z119,fP,fQ,fU,fV,z124,fZ,gq,z127,gu,gy,z130,z131,gB,gG,gI,gJ,gK,gQ,z138,z139,gU,z141,gV,z143,gW,z145,z146,gZ,z148,ig,iq,iw,z152,iy,z154,iC,z156,z157,iD,z159,z160,iE,z162,iF,z164,iG,iH,z167,z168],defers:=[] } wx:=by
  intro x k v7 z1 z3 z4 z8 z9 z10 z11 z12 z13 kD kK kF z17 kL jQ z20 z21 z22 z23 z24 z25 z26 z27 z28 z29 z30 z31 z32 z33 z34 z35 z36 z37 z38 z39 z40 z41 z42 z43 z44 z45 z46 z47 z48 z49 z50 z51 z52 z53 z54 z55 z56 z57 z58 z59 z60 z61 z62 z63 z64 z65 z66 z67 z68 z69 z70 z71 z72 z73 z74 z75 z76 z77 z78 z79 z80 mM z82 z83 z84 z85 z86 z87 mO z89 mP z91 mQ z93 mV mW mX mY mZ ng eU eX eY fA fB z105 fC z107 fD z109 fF fG fH fJ fK fM z116 z117 fO z119 fP fQ fU fV z124 fZ gq z127 gu gy z130 z131 gB gG gI gJ gK gQ z138 z139 gU z141 gV z143 gW z145 z146 gZ z148 ig iq iw z152 iy z154 iC z156 z157 iD z159 z160 iE z162 iF z164 iG iH z167 z168 wx hrel
  refine hK2 _ _ ?_
  try dsimp only
  exact KG l w ws B b0 o0 c0 rr EP hsz hlong hwn hwb x k v7 z1 z3 z4 z8 z9 z10 z11 z12 z13 kD kK kF z17 kL jQ z20 z21 z22 z23 z24 z25 z26 z27 z28 z29 z30 z31 z32 z33 z34 z35 z36 z37 z38 z39 z40 z41 z42 z43 z44 z45 z46 z47 z48 z49 z50 z51 z52 z53 z54 z55 z56 z57 z58 z59 z60 z61 z62 z63 z64 z65 z66 z67 z68 z69 z70 z71 z72 z73 z74 z75 z76 z77 z78 z79 z80 mM z82 z83 z84 z85 z86 z87 mO z89 mP z91 mQ z93 mV mW mX mY mZ ng eU eX eY fA fB z105 fC z107 fD z109 fF fG fH fJ fK fM z116 z117 fO z119 fP fQ fU fV z124 fZ gq z127 gu gy z130 z131 gB gG gI gJ gK gQ z138 z139 gU z141 gV z143 gW z145 z146 gZ z148 ig iq iw z152 iy z154 iC z156 z157 iD z159 z160 iE z162 iF z164 iG iH z167 z168 wx hrel
 clear hK2
 have HJ2:=hide J2
 clear J2
 by_cases hlt:k<ws.length
 · have hcw:=st.ws k hlt
   obtain ⟨wk,hwk⟩:∃ q,ws[k]=q:=⟨_,rfl⟩
   have hdr:=List.drop_eq_getElem_cons hlt
   rw [hwk] at hcw hdr
   have HDR:=hide hdr
   have hwl:=EP.out wk (by rw [← hwk];exact List.getElem_mem hlt)
   clear hwk hdr
   have i1:(0:Int)≤(k:Int):=by omega
   have i2:(k:Int)<(ws.length:Int):=by omega
   have hsw:=qX wk
   by_cases hwe:wk=[]
   · have Xj:=hide hwe
     have XY:(ByteArray.mk wk.toArray).size=0:=by rw [hsw,hwe];rfl
     clear hwe hsw
     go_wp2
     exact HJ2.out (x) (k) _ _ _ _ _ _ _ _ _ _ _ _ _ _ _ _ _ _ _ _ _ _ _ _ _ _ _ _ _ _ _ _ _ _ _ _ _ _ _ _ _ _ _ _ _ _ _ _ _ _ _ _ _ _ _ _ _ _ _ _ _ _ _ _ _ _ _ _ _ _ _ _ _ _ _ _ _ _ _ _ _ _ _ _ _ _ _ _ _ _ _ _ _ _ _ _ _ _ _ _ _ _ _ _ _ _ _ _ _ _ _ _ _ _ _ _ _ _ _ _ _ _ _ _ _ _ _ _ _ _ _ _ _ _ _ _ _ _ _ _ _ _ _ _ _ _ _ _ _ _ _ _ _ _ _ _ _ _ _ _ _ _ _ _ _ _ ⟨by first | rfl | go_num,by omega,hxp,st,by have:=HE.out;rw [HDR.out,Cm (fun a h=>by rw [Xj.out] at h;cases h), ← HDR.out] at this;exact this⟩
   · obtain ⟨ch,tl,hwc⟩:=List.exists_cons_of_ne_nil hwe
     have Y1:wk.length=tl.length+1:=by rw [hwc];rfl
     have hl0:0<(ByteArray.mk wk.toArray).size:=by rw [hsw];omega
     have hix:(ByteArray.mk wk.toArray)[0]'hl0=ch:=by subst hwc;rfl
     have Xh:=hide hwc
     by_cases hc:ch=102
     · have hex:(ByteArray.mk wk.toArray).extract 1 (tl.length+1)=⟨tl.toArray⟩:=by rw [yU,hwc];simp
       have hho:M.uM wk=M.num tl:=by rw [hwc,hc];rfl
       have Ux:=hide hho
       subst hc
       have hnu:=fun W=>wo tl W (by omega)
       clear hwc hho hwe
       obtain ⟨nv,Qa⟩:∃ q,rC tl=q:=⟨_,rfl⟩
       obtain ⟨nb,hnb⟩:∃ q,nC tl=q:=⟨_,rfl⟩
       rw [Qa,hnb] at hnu
       have WX:=hide Qa
       have VL:=hide hnb
       have UA:=hide hnu
       clear hnu Qa hnb
       cases nb with
       | true=>
         have hns:M.num tl=some nv:=by
          have h1:=VL.out
          have h2:=WX.out
          unfold nC at h1
          unfold rC at h2
          cases hq:M.num tl with
          | none=>rw [hq] at h1;cases h1
          | some q=>rw [hq] at h2;rw [← h2];rfl
         have VN:=hide hns
         clear hns
         by_cases hn0:0<nv
         · have c4:=st.bx.cell (j:=4) rfl
           have f4:=st.bx.frozen 4
           go_wp2_with (go_at_call 83;refine (UA.out _).mono ?_;rintro e w3 ⟨rfl,hw3⟩;subst hw3;dsimp only)
           exact HJ2.out ({x with first:=nv }) (k+1) _ _ _ _ _ _ _ _ _ _ _ _ _ _ _ _ _ _ _ _ _ _ _ _ _ _ _ _ _ _ _ _ _ _ _ _ _ _ _ _ _ _ _ _ _ _ _ _ _ _ _ _ _ _ _ _ _ _ _ _ _ _ _ _ _ _ _ _ _ _ _ _ _ _ _ _ _ _ _ _ _ _ _ _ _ _ _ _ _ _ _ _ _ _ _ _ _ _ _ _ _ _ _ _ _ _ _ _ _ _ _ _ _ _ _ _ _ _ _ _ _ _ _ _ _ _ _ _ _ _ _ _ _ _ _ _ _ _ _ _ _ _ _ _ _ _ _ _ _ _ _ _ _ _ _ _ _ _ _ _ _ _ _ _ _ _ ⟨by first | rfl | go_num,by omega,hxp,rV.set (x':={x with first:=nv }) st 4 (.int .i64 nv) rfl rfl,by have:=HE.out;rw [HDR.out,Ou (Ux.out.trans VN.out) hn0] at this;exact this⟩
         · go_wp2_with (go_at_call 83;refine (UA.out _).mono ?_;rintro e w3 ⟨rfl,hw3⟩;subst hw3;dsimp only)
           exact HJ2.out (x) (k) _ _ _ _ _ _ _ _ _ _ _ _ _ _ _ _ _ _ _ _ _ _ _ _ _ _ _ _ _ _ _ _ _ _ _ _ _ _ _ _ _ _ _ _ _ _ _ _ _ _ _ _ _ _ _ _ _ _ _ _ _ _ _ _ _ _ _ _ _ _ _ _ _ _ _ _ _ _ _ _ _ _ _ _ _ _ _ _ _ _ _ _ _ _ _ _ _ _ _ _ _ _ _ _ _ _ _ _ _ _ _ _ _ _ _ _ _ _ _ _ _ _ _ _ _ _ _ _ _ _ _ _ _ _ _ _ _ _ _ _ _ _ _ _ _ _ _ _ _ _ _ _ _ _ _ _ _ _ _ _ _ _ _ _ _ _ ⟨by first | rfl | go_num,by omega,hxp,st,by have:=HE.out;rw [HDR.out,Cm (fun a h=>by rw [Ux.out,VN.out] at h;cases h;omega), ← HDR.out] at this;exact this⟩
       | false=>
         go_wp2_with (go_at_call 83;refine (UA.out _).mono ?_;rintro e w3 ⟨rfl,hw3⟩;subst hw3;dsimp only)
         exact HJ2.out (x) (k) _ _ _ _ _ _ _ _ _ _ _ _ _ _ _ _ _ _ _ _ _ _ _ _ _ _ _ _ _ _ _ _ _ _ _ _ _ _ _ _ _ _ _ _ _ _ _ _ _ _ _ _ _ _ _ _ _ _ _ _ _ _ _ _ _ _ _ _ _ _ _ _ _ _ _ _ _ _ _ _ _ _ _ _ _ _ _ _ _ _ _ _ _ _ _ _ _ _ _ _ _ _ _ _ _ _ _ _ _ _ _ _ _ _ _ _ _ _ _ _ _ _ _ _ _ _ _ _ _ _ _ _ _ _ _ _ _ _ _ _ _ _ _ _ _ _ _ _ _ _ _ _ _ _ _ _ _ _ _ _ _ _ _ _ _ _ ⟨by first | rfl | go_num,by omega,hxp,st,by have:=HE.out;rw [HDR.out,Cm (fun a h=>by have h1:=VL.out;unfold nC at h1;rw [Ux.out] at h;rw [h] at h1;cases h1), ← HDR.out] at this;exact this⟩
     · have hcx:(((ch.toNat:Nat):Int) == 102)=false:=by
        rw [beq_eq_false_iff_ne]
        intro e
        exact hc (UInt8.toNat_inj.1 (by show ch.toNat=102;omega))
       have HC:=hide hc
       clear hc hwc hwe
       go_wp2
       exact HJ2.out (x) (k) _ _ _ _ _ _ _ _ _ _ _ _ _ _ _ _ _ _ _ _ _ _ _ _ _ _ _ _ _ _ _ _ _ _ _ _ _ _ _ _ _ _ _ _ _ _ _ _ _ _ _ _ _ _ _ _ _ _ _ _ _ _ _ _ _ _ _ _ _ _ _ _ _ _ _ _ _ _ _ _ _ _ _ _ _ _ _ _ _ _ _ _ _ _ _ _ _ _ _ _ _ _ _ _ _ _ _ _ _ _ _ _ _ _ _ _ _ _ _ _ _ _ _ _ _ _ _ _ _ _ _ _ _ _ _ _ _ _ _ _ _ _ _ _ _ _ _ _ _ _ _ _ _ _ _ _ _ _ _ _ _ _ _ _ _ _ ⟨by first | rfl | go_num,by omega,hxp,st,by have:=HE.out;rw [HDR.out,Cm (fun a h=>by rw [Xh.out] at h;have h:(if ch=102 then M.num tl else none)=some a:=h;rw [if_neg HC.out] at h;cases h), ← HDR.out] at this;exact this⟩
 · have hke:k=ws.length:=by omega
   subst hke
   go_wp2
   exact HJ2.out (x) (ws.length) _ _ _ _ _ _ _ _ _ _ _ _ _ _ _ _ _ _ _ _ _ _ _ _ _ _ _ _ _ _ _ _ _ _ _ _ _ _ _ _ _ _ _ _ _ _ _ _ _ _ _ _ _ _ _ _ _ _ _ _ _ _ _ _ _ _ _ _ _ _ _ _ _ _ _ _ _ _ _ _ _ _ _ _ _ _ _ _ _ _ _ _ _ _ _ _ _ _ _ _ _ _ _ _ _ _ _ _ _ _ _ _ _ _ _ _ _ _ _ _ _ _ _ _ _ _ _ _ _ _ _ _ _ _ _ _ _ _ _ _ _ _ _ _ _ _ _ _ _ _ _ _ _ _ _ _ _ _ _ _ _ _ _ _ _ _ ⟨by first | rfl | go_num,by omega,hxp,st,by have:=HE.out;rw [List.drop_length] at this ⊢;exact this⟩
theorem KE (l:List UInt8) (w:World) (ws:List (List UInt8)) (B b0 o0 c0:Nat) (rr:M.aI × Int × Int) (EP:Hid (∀ v∈ws,v.length≤l.length)) (hsz:(ByteArray.mk l.toArray).size=l.length) (hlong:¬ 4096<l.length) (hwn:ws.length≤4097) (hwb:ws.length≤c0∧c0≤9223372036854775807∧ws.length≤17592186044416) (w0:List UInt8) (HD0:Hid (ws=w0::ws.drop (0+1))) (HW:Hid (w0=[97]∨w0=[98])) (HRR:Hid (wM (M.iU ws)=rr)):∀ (pl:Int) (z1 z3 z4 z7 z8 z9 z10 z11 z12 z13 kD kK kF z17 kL jQ z20 z21 z22 z23 z24 z25 z26 z27 z28 z29 z30 z31 z32 z33 z34 z35 z36 z37 z38 z39 z40 z41 z42 z43 z44 z45 z46 z47 z48 z49 z50 z51 z52 z53 z54 z55 z56 z57 z58 z59 z60 z61 z62 z63 z64 z65 z66 z67 z68 z69 z70 z71 z72 z73 z74 z75 z76 z77 z78 z79 z80 mM z82 z83 z84 z85 z86 z87 mO z89 mP z91 mQ z93 mV mW mX mY mZ ng eU eX eY fA fB z105 fC z107 fD z109 fF fG fH fJ fK fM z116 z117 fO z119 fP fQ fU fV z124 fZ gq z127 gu gy z130 z131 gB gG gI gJ gK gQ z138 z139 gU z141 gV z143 gW z145 z146 gZ z148 ig iq iw z152 iy z154 iC z156 z157 iD z159 z160 iE z162 iF z164 iG iH z167 z168:Value) (wx:World),(pl=(if w0=[98] then 1 else 0)∧rV w B b0 o0 ws {M.blank with aC:=pl } none 0 wx)→(lq 6).wp Tryz.prog (bodyPost Tryz.prog Tryz.f32 (fun e w'=>∃ A c,e= .returned (.tuple #[iO rr.1 A c,.int .i64 rr.2.1,.int .i64 rr.2.2])∧jl w' (fun b=>w.heap.size≤b) A c rr.1.aA∧Below w.heap.size w w')) {tmps:= #[.string ⟨l.toArray⟩,z1,ptr w.heap.size,z3,z4,.slice (some ⟨b0,o0,none⟩) ws.length c0,ptr B,z7,z8,z9,z10,z11,z12,z13,kD,kK,kF,z17,kL,jQ,z20,z21,z22,z23,z24,z25,z26,z27,z28,z29,z30,z31,z32,z33,z34,z35,z36,z37,z38,z39,z40,z41,z42,z43,z44,z45,z46,z47,z48,z49,z50,z51,z52,z53,z54,z55,z56,z57,z58,z59,z60,z61,z62,z63,z64,z65,z66,z67,z68,z69,z70,z71,z72,z73,z74,z75,z76,z77,z78,z79,z80,mM,z82,z83,z84,z85,z86,z87,mO,z89,mP,z91,mQ,z93,mV,mW,mX,mY,mZ,ng,eU,eX,eY,fA,fB,z105,fC,z107,fD,z109,fF,fG,fH,fJ,fK,fM,z116,z117,fO,z119,fP,fQ,fU,fV,z124,fZ,gq,z127,gu,gy,z130,z131,gB,gG,gI,gJ,gK,gQ,z138,z139,gU,z141,gV,z143,gW,z145,z146,gZ,z148,ig,iq,iw,z152,iy,z154,iC,z156,z157,iD,z159,z160,iE,z162,iF,z164,iG,iH,z167,z168],defers:=[] } wx:=by
 intro pl z1 z3 z4 z7 z8 z9 z10 z11 z12 z13 kD kK kF z17 kL jQ z20 z21 z22 z23 z24 z25 z26 z27 z28 z29 z30 z31 z32 z33 z34 z35 z36 z37 z38 z39 z40 z41 z42 z43 z44 z45 z46 z47 z48 z49 z50 z51 z52 z53 z54 z55 z56 z57 z58 z59 z60 z61 z62 z63 z64 z65 z66 z67 z68 z69 z70 z71 z72 z73 z74 z75 z76 z77 z78 z79 z80 mM z82 z83 z84 z85 z86 z87 mO z89 mP z91 mQ z93 mV mW mX mY mZ ng eU eX eY fA fB z105 fC z107 fD z109 fF fG fH fJ fK fM z116 z117 fO z119 fP fQ fU fV z124 fZ gq z127 gu gy z130 z131 gB gG gI gJ gK gQ z138 z139 gU z141 gV z143 gW z145 z146 gZ z148 ig iq iw z152 iy z154 iC z156 z157 iD z159 z160 iE z162 iF z164 iG iH z167 z168 wx hrel
 dsimp only [lq,dQ,Tryz.f32,Option.getD]
 obtain ⟨hpl,st⟩:=hrel
 have Dw:=hide hpl
 clear hpl
 by_cases hn:ws.length<2
 · have hr:rr=(M.blank,2,25):=by
    have hd:ws.drop (0+1)=[]:=List.drop_eq_nil_of_le (by omega)
    rw [← HRR.out,HD0.out,hd,Fg w0 HW.out]
    rfl
   have i3:(ws.length:Int)<2:=by omega
   have HR:=hide hr
   clear hr
   go_wp2_with (first | (refine aO 69 (.tmp 2) (.tmp 49) rfl ?_;refine aF (st.z) jV rfl dB (lZ M.blank none 0) rfl (.tmp 2) (.tmp 49) rfl rfl rfl ?_))
   have hF:=(st.z).whole jV rfl
   refine bodyPost_ret (iI (p:=2) hF Tryz.underlying69 rfl dB rfl _ rfl) rfl ⟨none,0,?_,?_,below_setCells _ (Nat.le_refl _) _ _ _ _ (st.bw)⟩
   · rw [HR.out];rfl
   · rw [HR.out];exact Reads.none_ _ _ _
 · have hlt:1<ws.length:=by omega
   have i3:¬ (ws.length:Int)<2:=by omega
   have i4:(1:Int)<(ws.length:Int):=by omega
   have hcw:=st.ws 1 hlt
   obtain ⟨wk,hwk⟩:∃ q,ws[1]=q:=⟨_,rfl⟩
   have hdr:=List.drop_eq_getElem_cons hlt
   rw [hwk] at hcw hdr
   have HDR:=hide hdr
   have hwl:=EP.out wk (by rw [← hwk];exact List.getElem_mem hlt)
   clear hwk hdr
   have hkd:=fun W=>kU ⟨wk.toArray⟩ W
   obtain ⟨kb,hkb⟩:∃ q,M.ku wk=q:=⟨_,rfl⟩
   have hkb':M.isKind ⟨wk.toArray⟩=kb:=hkb
   rw [hkb'] at hkd
   have Uy:=hide hkd
   have HKB:=hide hkb
   clear hkd hkb hkb'
   cases kb with
   | false=>
     have hr:rr=(M.blank,2,25):=by
      have h1:ws=w0::wk::ws.drop 2:=HD0.out.trans (congrArg (w0:: ·) HDR.out)
      rw [← HRR.out,h1,H8 w0 wk _ HW.out HKB.out]
      rfl
     have HR:=hide hr
     clear hr
     go_wp2_with (first | (go_at_call 79;refine (Uy.out _).mono ?_;rintro e w3 ⟨rfl,hw3⟩;subst hw3) | (refine aO 69 (.tmp 2) (.tmp 49) rfl ?_;refine aF (st.z) jV rfl dB (lZ M.blank none 0) rfl (.tmp 2) (.tmp 49) rfl rfl rfl ?_))
     have hF:=(st.z).whole jV rfl
     refine bodyPost_ret (iI (p:=2) hF Tryz.underlying69 rfl dB rfl _ rfl) rfl ⟨none,0,?_,?_,below_setCells _ (Nat.le_refl _) _ _ _ _ (st.bw)⟩
     · rw [HR.out];rfl
     · rw [HR.out];exact Reads.none_ _ _ _
   | true=>
     have hend:wM (M.sG {M.blank with aC:=pl,kind:=⟨wk.toArray⟩ } 2 (ws.drop 2))=rr:=by
      have h1:ws=w0::wk::ws.drop 2:=HD0.out.trans (congrArg (w0:: ·) HDR.out)
      rw [← HRR.out,h1,Oo w0 wk _ HW.out HKB.out, ← Dw.out]
      rfl
     have HE:=hide hend
     clear hend
     have c1:=st.bx.cell (j:=1) rfl
     have f1:=st.bx.frozen 1
     go_upto_region 13 with (first | (go_at_call 79;refine (Uy.out _).mono ?_;rintro e w3 ⟨rfl,hw3⟩;subst hw3))
     have st:=rV.set (x':={M.blank with aC:=pl,kind:=⟨wk.toArray⟩ }) st 1 (.string ⟨wk.toArray⟩) rfl rfl
     obtain ⟨W2,hW2⟩:∃ W2,wx.setCell ⟨B,1,none⟩ (.string ⟨wk.toArray⟩)=W2:=⟨_,rfl⟩
     rw [hW2] at st ⊢
     obtain ⟨x,hx⟩:∃ x,({M.blank with aC:=pl,kind:=⟨wk.toArray⟩ }:M.aI)=x:=⟨_,rfl⟩
     have hxp:x.aA=[]:=by rw [← hx];rfl
     rw [hx] at HE st
     clear hx hW2 c1 f1 hcw HDR hwl Uy HKB
     go_upto_region 13 with (fail)
     rename_i K3 hK3 K9 hK9
     have J1:∀ (x:M.aI) (k:Nat) (v7:Value) (z1 z3 z4 z8 z9 z10 z11 z12 z13 kD kK kF z17 kL jQ z20 z21 z22 z23 z24 z25 z26 z27 z28 z29 z30 z31 z32 z33 z34 z35 z36 z37 z38 z39 z40 z41 z42 z43 z44 z45 z46 z47 z48 z49 z50 z51 z52 z53 z54 z55 z56 z57 z58 z59 z60 z61 z62 z63 z64 z65 z66 z67 z68 z69 z70 z71 z72 z73 z74 z75 z76 z77 z78 z79 z80 mM z82 z83 z84 z85 z86 z87 mO z89 mP z91 mQ z93 mV mW mX mY mZ ng eU eX eY fA fB z105 fC z107 fD z109 fF fG fH fJ fK fM z116 z117 fO z119 fP fQ fU fV z124 fZ gq z127 gu gy z130 z131 gB gG gI gJ gK gQ z138 z139 gU z141 gV z143 gW z145 z146 gZ z148 ig iq iw z152 iy z154 iC z156 z157 iD z159 z160 iE z162 iF z164 iG iH z167 z168:Value) (wx:World),(v7= .int .i64 (k:Int)∧k≤ws.length∧x.aA=[]∧rV w B b0 o0 ws x none 0 wx∧wM (M.lY x k (ws.drop k))=rr)→K3 {tmps:= #[.string ⟨l.toArray⟩,z1,ptr w.heap.size,z3,z4,.slice (some ⟨b0,o0,none⟩) ws.length c0,ptr B,v7,z8,z9,z10,z11,z12,z13,kD,kK,kF,z17,kL,jQ,z20,z21,z22,z23,z24,z25,z26,z27,z28,z29,z30,z31,z32,z33,z34,z35,z36,z37,z38,z39,z40,z41,z42,z43,z44,z45,z46,z47,z48,z49,z50,z51,z52,z53,z54,z55,z56,z57,z58,z59,z60,z61,z62,z63,z64,z65,z66,z67,z68,z69,z70,z71,z72,z73,z74,z75,z76,z77,z78,z79,z80,mM,z82,z83,z84,z85,z86,z87,mO,z89,mP,z91,mQ,z93,mV,mW,mX,mY,mZ,ng,eU,eX,eY,fA,fB,z105,fC,z107,fD,z109,fF,fG,fH,fJ,fK,fM,z116,z117,fO,z119,fP,fQ,fU,fV,z124,fZ,gq,z127,gu,gy,z130,z131,gB,gG,gI,gJ,gK,gQ,z138,z139,gU,z141,gV,z143,gW,z145,z146,gZ,z148,ig,iq,iw,z152,iy,z154,iC,z156,z157,iD,z159,z160,iE,z162,iF,z164,iG,iH,z167,z168],defers:=[] } wx:=by
      intro x k v7 z1 z3 z4 z8 z9 z10 z11 z12 z13 kD kK kF z17 kL jQ z20 z21 z22 z23 z24 z25 z26 z27 z28 z29 z30 z31 z32 z33 z34 z35 z36 z37 z38 z39 z40 z41 z42 z43 z44 z45 z46 z47 z48 z49 z50 z51 z52 z53 z54 z55 z56 z57 z58 z59 z60 z61 z62 z63 z64 z65 z66 z67 z68 z69 z70 z71 z72 z73 z74 z75 z76 z77 z78 z79 z80 mM z82 z83 z84 z85 z86 z87 mO z89 mP z91 mQ z93 mV mW mX mY mZ ng eU eX eY fA fB z105 fC z107 fD z109 fF fG fH fJ fK fM z116 z117 fO z119 fP fQ fU fV z124 fZ gq z127 gu gy z130 z131 gB gG gI gJ gK gQ z138 z139 gU z141 gV z143 gW z145 z146 gZ z148 ig iq iw z152 iy z154 iC z156 z157 iD z159 z160 iE z162 iF z164 iG iH z167 z168 wx hrel
      refine hK3 _ _ ?_
      try dsimp only
      exact KF l w ws B b0 o0 c0 rr EP hsz hlong hwn hwb x k v7 z1 z3 z4 z8 z9 z10 z11 z12 z13 kD kK kF z17 kL jQ z20 z21 z22 z23 z24 z25 z26 z27 z28 z29 z30 z31 z32 z33 z34 z35 z36 z37 z38 z39 z40 z41 z42 z43 z44 z45 z46 z47 z48 z49 z50 z51 z52 z53 z54 z55 z56 z57 z58 z59 z60 z61 z62 z63 z64 z65 z66 z67 z68 z69 z70 z71 z72 z73 z74 z75 z76 z77 z78 z79 z80 mM z82 z83 z84 z85 z86 z87 mO z89 mP z91 mQ z93 mV mW mX mY mZ ng eU eX eY fA fB z105 fC z107 fD z109 fF fG fH fJ fK fM z116 z117 fO z119 fP fQ fU fV z124 fZ gq z127 gu gy z130 z131 gB gG gI gJ gK gQ z138 z139 gU z141 gV z143 gW z145 z146 gZ z148 ig iq iw z152 iy z154 iC z156 z157 iD z159 z160 iE z162 iF z164 iG iH z167 z168 wx hrel
     clear hK3
     have OY:=hide J1
     clear J1
     by_cases hlt:2<ws.length
     · have hcw:=st.ws 2 hlt
       obtain ⟨wk,hwk⟩:∃ q,ws[2]=q:=⟨_,rfl⟩
       have hdr:=List.drop_eq_getElem_cons hlt
       rw [hwk] at hcw hdr
       have HDR:=hide hdr
       have hwl:=EP.out wk (by rw [← hwk];exact List.getElem_mem hlt)
       clear hwk hdr
       have i2:(2:Int)<(ws.length:Int):=by omega
       have hpr:=fun W=>Ep 99 wk W (by omega)
       have hpe:=En 99 wk
       have hpv:=fun a b (h:M.dF 99 wk=some (a,b))=>Eo h
       obtain ⟨a1,a2,hpq⟩:∃ a b,yu 99 wk=(a,b):=⟨_,_,rfl⟩
       obtain ⟨pb,hpb⟩:∃ b,zQ 99 wk=b:=⟨_,rfl⟩
       rw [hpb] at hpe
       rw [hpq] at hpv
       simp only [hpq,hpb] at hpr
       rw [show ((99:UInt8).toNat:Int)=99 from rfl] at hpr
       have PG:=hide hpr
       have Rh:=hide hpe
       have UD:=hide hpv
       clear hpr hpe hpv hpq hpb
       cases pb with
       | true=>
         have hpo:M.dF 99 wk=some (a1,a2):=by
          cases hq:M.dF 99 wk with
          | none=>have:=Rh.out;rw [hq] at this;exact absurd this (by decide)
          | some q=>obtain ⟨q1,q2⟩:=q;have:=UD.out q1 q2 hq;cases this;rfl
         have UC:=hide hpo
         clear hpo
         by_cases ha:0<a1
         · by_cases hb:0<a2
           · have c2:=st.bx.cell (j:=2) rfl
             have f2:=st.bx.frozen 2
             have c3:=st.bx.cell (j:=3) rfl
             have f3:=st.bx.frozen 3
             go_wp2_with (go_at_call 82;refine (PG.out _).mono ?_;rintro e w3 ⟨rfl,hw3⟩;subst hw3)
             exact OY.out ({x with aJ:=a1,aP:=a2 }) (3) _ _ _ _ _ _ _ _ _ _ _ _ _ _ _ _ _ _ _ _ _ _ _ _ _ _ _ _ _ _ _ _ _ _ _ _ _ _ _ _ _ _ _ _ _ _ _ _ _ _ _ _ _ _ _ _ _ _ _ _ _ _ _ _ _ _ _ _ _ _ _ _ _ _ _ _ _ _ _ _ _ _ _ _ _ _ _ _ _ _ _ _ _ _ _ _ _ _ _ _ _ _ _ _ _ _ _ _ _ _ _ _ _ _ _ _ _ _ _ _ _ _ _ _ _ _ _ _ _ _ _ _ _ _ _ _ _ _ _ _ _ _ _ _ _ _ _ _ _ _ _ _ _ _ _ _ _ _ _ _ _ _ _ _ _ _ ⟨by first | rfl | go_num,by omega,hxp,rV.set (x':={x with aJ:=a1,aP:=a2 }) (rV.set (x':={x with aJ:=a1 }) st 2 (.int .i64 a1) rfl rfl) 3 (.int .i64 a2) rfl rfl,by have:=HE.out;rw [HDR.out,JZ UC.out ha hb] at this;exact this⟩
           · go_wp2_with (go_at_call 82;refine (PG.out _).mono ?_;rintro e w3 ⟨rfl,hw3⟩;subst hw3)
             exact OY.out (x) (2) _ _ _ _ _ _ _ _ _ _ _ _ _ _ _ _ _ _ _ _ _ _ _ _ _ _ _ _ _ _ _ _ _ _ _ _ _ _ _ _ _ _ _ _ _ _ _ _ _ _ _ _ _ _ _ _ _ _ _ _ _ _ _ _ _ _ _ _ _ _ _ _ _ _ _ _ _ _ _ _ _ _ _ _ _ _ _ _ _ _ _ _ _ _ _ _ _ _ _ _ _ _ _ _ _ _ _ _ _ _ _ _ _ _ _ _ _ _ _ _ _ _ _ _ _ _ _ _ _ _ _ _ _ _ _ _ _ _ _ _ _ _ _ _ _ _ _ _ _ _ _ _ _ _ _ _ _ _ _ _ _ _ _ _ _ _ ⟨by first | rfl | go_num,by omega,hxp,st,by have:=HE.out;rw [HDR.out,BP (fun a b h=>by rw [UC.out] at h;cases h;exact fun h=>by omega), ← HDR.out] at this;exact this⟩
         · go_wp2_with (go_at_call 82;refine (PG.out _).mono ?_;rintro e w3 ⟨rfl,hw3⟩;subst hw3)
           exact OY.out (x) (2) _ _ _ _ _ _ _ _ _ _ _ _ _ _ _ _ _ _ _ _ _ _ _ _ _ _ _ _ _ _ _ _ _ _ _ _ _ _ _ _ _ _ _ _ _ _ _ _ _ _ _ _ _ _ _ _ _ _ _ _ _ _ _ _ _ _ _ _ _ _ _ _ _ _ _ _ _ _ _ _ _ _ _ _ _ _ _ _ _ _ _ _ _ _ _ _ _ _ _ _ _ _ _ _ _ _ _ _ _ _ _ _ _ _ _ _ _ _ _ _ _ _ _ _ _ _ _ _ _ _ _ _ _ _ _ _ _ _ _ _ _ _ _ _ _ _ _ _ _ _ _ _ _ _ _ _ _ _ _ _ _ _ _ _ _ _ ⟨by first | rfl | go_num,by omega,hxp,st,by have:=HE.out;rw [HDR.out,BP (fun a b h=>by rw [UC.out] at h;cases h;exact fun h=>by omega), ← HDR.out] at this;exact this⟩
       | false=>
         go_wp2_with (go_at_call 82;refine (PG.out _).mono ?_;rintro e w3 ⟨rfl,hw3⟩;subst hw3)
         exact OY.out (x) (2) _ _ _ _ _ _ _ _ _ _ _ _ _ _ _ _ _ _ _ _ _ _ _ _ _ _ _ _ _ _ _ _ _ _ _ _ _ _ _ _ _ _ _ _ _ _ _ _ _ _ _ _ _ _ _ _ _ _ _ _ _ _ _ _ _ _ _ _ _ _ _ _ _ _ _ _ _ _ _ _ _ _ _ _ _ _ _ _ _ _ _ _ _ _ _ _ _ _ _ _ _ _ _ _ _ _ _ _ _ _ _ _ _ _ _ _ _ _ _ _ _ _ _ _ _ _ _ _ _ _ _ _ _ _ _ _ _ _ _ _ _ _ _ _ _ _ _ _ _ _ _ _ _ _ _ _ _ _ _ _ _ _ _ _ _ _ ⟨by first | rfl | go_num,by omega,hxp,st,by have:=HE.out;rw [HDR.out,BP (fun a b h=>by have h1:=Rh.out;rw [h] at h1;cases h1), ← HDR.out] at this;exact this⟩
     · have i2:¬ (2:Int)<(ws.length:Int):=by omega
       have hd2:ws.drop 2=[]:=List.drop_eq_nil_of_le (by omega)
       have HD2:=hide hd2
       clear hd2
       go_wp2
       exact OY.out (x) (2) _ _ _ _ _ _ _ _ _ _ _ _ _ _ _ _ _ _ _ _ _ _ _ _ _ _ _ _ _ _ _ _ _ _ _ _ _ _ _ _ _ _ _ _ _ _ _ _ _ _ _ _ _ _ _ _ _ _ _ _ _ _ _ _ _ _ _ _ _ _ _ _ _ _ _ _ _ _ _ _ _ _ _ _ _ _ _ _ _ _ _ _ _ _ _ _ _ _ _ _ _ _ _ _ _ _ _ _ _ _ _ _ _ _ _ _ _ _ _ _ _ _ _ _ _ _ _ _ _ _ _ _ _ _ _ _ _ _ _ _ _ _ _ _ _ _ _ _ _ _ _ _ _ _ _ _ _ _ _ _ _ _ _ _ _ _ ⟨by first | rfl | go_num,by omega,hxp,st,by have:=HE.out;rw [HD2.out] at this ⊢;exact this⟩
theorem Dk (l:List UInt8) (w:World) (hl:l.length≤17592186044416):
 Calls Tryz.prog 32 #[.string ⟨l.toArray⟩] w fun e w'=>∃ A c,e= .returned (.tuple #[iO (M.parse l).1 A c,.int .i64 (M.parse l).2.1,.int .i64 (M.parse l).2.2])∧jl w' (fun b=>w.heap.size≤b) A c (M.parse l).1.aA∧Below w.heap.size w w':=by
 have hsz:(ByteArray.mk l.toArray).size=l.length:=qX l
 by_cases hlong:4096<l.length
 · have hr:M.parse l=(M.blank,0,26):=by unfold M.parse;rw [if_pos hlong]
   go_enter Tryz.func32,Tryz.ntmps32
   go_upto_region 1 with (fail)
   have hB:=(bU.nil w).new (by simp) jV 69
   go_wp2_with (first | (refine aO 69 (.tmp 2) (.tmp 20) rfl ?_;refine aF (hB.bf rfl) jV rfl dB (lZ M.blank none 0) rfl (.tmp 2) (.tmp 20) rfl rfl rfl ?_))
   have hF:=(hB.bf rfl).whole jV rfl
   refine bodyPost_ret (iI (p:=2) hF Tryz.underlying69 rfl dB rfl _ rfl) rfl ⟨none,0,?_,?_,below_setCells _ (Nat.le_refl _) _ _ _ _ (hB.bw)⟩
   · rw [hr];rfl
   · rw [hr];exact Reads.none_ _ _ _
 · have hr:=Iq l hlong
   have hwd:=fun W=>JA l W (by omega)
   have hwl:=uF l
   have hwn:(M.words l).length≤4097:=by have h1:(M.words l).length=l.count 32+1:=mJ l [];have h2:l.count 32≤l.length:=List.count_le_length;omega
   have hne:=M.wW l []
   have hne:M.words l≠[]:=hne
   obtain ⟨ws,hws⟩:∃ ws,M.words l=ws:=⟨_,rfl⟩
   rw [hws] at hr hwd hwl hwn hne
   obtain ⟨rr,hrr⟩:∃ r,wM (M.iU ws)=r:=⟨_,rfl⟩
   rw [hrr] at hr
   rw [hr]
   have HRR:=hide hrr
   have Xi:=hide hwd
   have EP:=hide hwl
   clear hr hwd hwl hws hrr
   go_enter Tryz.func32,Tryz.ntmps32
   go_upto_region 1 with (fail)
   have hB:=(bU.nil w).new (by simp) jV 69
   have hsB:(w.alloc (.cells jV.toArray 69)).heap.size=w.heap.size+1:=by simp
   go_upto_region 4 with (first | (go_at_call 81;refine (Xi.out _).mono ?_;rintro e w1 ⟨A0,c0,rfl,hrd,hb1⟩))
   obtain ⟨b0,o0,rfl,hb0,RX,hcs⟩:=hrd.at_ (List.length_pos_iff.2 hne)
   have hwb:=hrd.bd
   have hs1:=hb1.size
   simp only [World.size_alloc] at hb0 hs1
   have hz1:=(hB.bf rfl).below hb1
   have H7:=hB.bw.trans (hb1.mono (by simp))
   obtain ⟨B,hBs⟩:∃ B,w1.heap.size=B:=⟨_,rfl⟩
   have st0:rV w B b0 o0 ws M.blank none 0 (w1.alloc (.cells (au ⟨M.blank,none,0⟩).toArray 69)):=
    ⟨hz1.alloc _,Held.newAt _ _ _ hBs,⟨Nat.lt_of_lt_of_le (by omega) hb0,by omega⟩,fun j hj=>(World.cell?_alloc_lt _ _ ⟨b0,o0+j,none⟩ RX).trans (hcs j _ (by rw [List.getElem?_map,List.getElem?_eq_getElem hj];rfl)),World.ownsRow_nil _ _ _ _,H7.alloc (by omega) _⟩
   clear hcs hrd hb0 RX hs1 hb1 hB hz1 H7 hsB
   go_upto_region 5 with (fail)
   have h0lt:=List.length_pos_iff.2 hne
   have hc0:=st0.ws 0 h0lt
   have hd0:=List.drop_eq_getElem_cons h0lt
   rw [List.drop_zero] at hd0
   obtain ⟨w0,hw0⟩:∃ q,ws[0]=q:=⟨_,rfl⟩
   rw [hw0] at hd0 hc0
   rw [Nat.add_zero] at hc0
   have HD0:=hide hd0
   clear hw0 hd0
   have i2:(0:Int)<(ws.length:Int):=by omega
   obtain ⟨W1,hW1⟩:∃ W1,w1.alloc (.cells (au ⟨M.blank,none,0⟩).toArray 69)=W1:=⟨_,rfl⟩
   have hW1':w1.alloc (.cells #[.int .i64 0,.string ⟨#[]⟩,.int .i64 0,.int .i64 0,.int .i64 0,.bool false,.slice none 0 0] 69)=W1:=hW1
   rw [hW1] at st0 hc0
   rw [hW1']
   clear hW1 hW1'
   by_cases hw:w0=[97]∨w0=[98]
   · go_cut [32] from 23 to 31 (fun v32 wx=>v32= .bool false∧W1=wx)
     case first=>
      rcases hw with rfl | rfl
      all_goals
       go_wp2
       go_meet
       first | exact ⟨rfl,rfl⟩ | trivial
     case rest=>
      obtain ⟨rfl,rfl⟩:=hcut
      have HW:=hide hw
      clear hw
      go_upto_region 7 with (fail)
      rename_i K0 hK0 K9 hK9
      have J0:∀ (pl:Int) (z1 z3 z4 z7 z8 z9 z10 z11 z12 z13 kD kK kF z17 kL jQ z20 z21 z22 z23 z24 z25 z26 z27 z28 z29 z30 z31 z32 z33 z34 z35 z36 z37 z38 z39 z40 z41 z42 z43 z44 z45 z46 z47 z48 z49 z50 z51 z52 z53 z54 z55 z56 z57 z58 z59 z60 z61 z62 z63 z64 z65 z66 z67 z68 z69 z70 z71 z72 z73 z74 z75 z76 z77 z78 z79 z80 mM z82 z83 z84 z85 z86 z87 mO z89 mP z91 mQ z93 mV mW mX mY mZ ng eU eX eY fA fB z105 fC z107 fD z109 fF fG fH fJ fK fM z116 z117 fO z119 fP fQ fU fV z124 fZ gq z127 gu gy z130 z131 gB gG gI gJ gK gQ z138 z139 gU z141 gV z143 gW z145 z146 gZ z148 ig iq iw z152 iy z154 iC z156 z157 iD z159 z160 iE z162 iF z164 iG iH z167 z168:Value) (wx:World),(pl=(if w0=[98] then 1 else 0)∧rV w B b0 o0 ws {M.blank with aC:=pl } none 0 wx)→K0 {tmps:= #[.string ⟨l.toArray⟩,z1,ptr w.heap.size,z3,z4,.slice (some ⟨b0,o0,none⟩) ws.length c0,ptr B,z7,z8,z9,z10,z11,z12,z13,kD,kK,kF,z17,kL,jQ,z20,z21,z22,z23,z24,z25,z26,z27,z28,z29,z30,z31,z32,z33,z34,z35,z36,z37,z38,z39,z40,z41,z42,z43,z44,z45,z46,z47,z48,z49,z50,z51,z52,z53,z54,z55,z56,z57,z58,z59,z60,z61,z62,z63,z64,z65,z66,z67,z68,z69,z70,z71,z72,z73,z74,z75,z76,z77,z78,z79,z80,mM,z82,z83,z84,z85,z86,z87,mO,z89,mP,z91,mQ,z93,mV,mW,mX,mY,mZ,ng,eU,eX,eY,fA,fB,z105,fC,z107,fD,z109,fF,fG,fH,fJ,fK,fM,z116,z117,fO,z119,fP,fQ,fU,fV,z124,fZ,gq,z127,gu,gy,z130,z131,gB,gG,gI,gJ,gK,gQ,z138,z139,gU,z141,gV,z143,gW,z145,z146,gZ,z148,ig,iq,iw,z152,iy,z154,iC,z156,z157,iD,z159,z160,iE,z162,iF,z164,iG,iH,z167,z168],defers:=[] } wx:=by
       intro pl z1 z3 z4 z7 z8 z9 z10 z11 z12 z13 kD kK kF z17 kL jQ z20 z21 z22 z23 z24 z25 z26 z27 z28 z29 z30 z31 z32 z33 z34 z35 z36 z37 z38 z39 z40 z41 z42 z43 z44 z45 z46 z47 z48 z49 z50 z51 z52 z53 z54 z55 z56 z57 z58 z59 z60 z61 z62 z63 z64 z65 z66 z67 z68 z69 z70 z71 z72 z73 z74 z75 z76 z77 z78 z79 z80 mM z82 z83 z84 z85 z86 z87 mO z89 mP z91 mQ z93 mV mW mX mY mZ ng eU eX eY fA fB z105 fC z107 fD z109 fF fG fH fJ fK fM z116 z117 fO z119 fP fQ fU fV z124 fZ gq z127 gu gy z130 z131 gB gG gI gJ gK gQ z138 z139 gU z141 gV z143 gW z145 z146 gZ z148 ig iq iw z152 iy z154 iC z156 z157 iD z159 z160 iE z162 iF z164 iG iH z167 z168 wx hrel
       refine hK0 _ _ ?_
       try dsimp only
       exact KE l w ws B b0 o0 c0 rr EP hsz hlong hwn hwb w0 HD0 HW HRR pl z1 z3 z4 z7 z8 z9 z10 z11 z12 z13 kD kK kF z17 kL jQ z20 z21 z22 z23 z24 z25 z26 z27 z28 z29 z30 z31 z32 z33 z34 z35 z36 z37 z38 z39 z40 z41 z42 z43 z44 z45 z46 z47 z48 z49 z50 z51 z52 z53 z54 z55 z56 z57 z58 z59 z60 z61 z62 z63 z64 z65 z66 z67 z68 z69 z70 z71 z72 z73 z74 z75 z76 z77 z78 z79 z80 mM z82 z83 z84 z85 z86 z87 mO z89 mP z91 mQ z93 mV mW mX mY mZ ng eU eX eY fA fB z105 fC z107 fD z109 fF fG fH fJ fK fM z116 z117 fO z119 fP fQ fU fV z124 fZ gq z127 gu gy z130 z131 gB gG gI gJ gK gQ z138 z139 gU z141 gV z143 gW z145 z146 gZ z148 ig iq iw z152 iy z154 iC z156 z157 iD z159 z160 iE z162 iF z164 iG iH z167 z168 wx hrel
      clear hK0
      have VI:=hide J0
      clear J0
      rcases HW.out with rfl | rfl
      · go_wp2
        exact VI.out 0 _ _ _ _ _ _ _ _ _ _ _ _ _ _ _ _ _ _ _ _ _ _ _ _ _ _ _ _ _ _ _ _ _ _ _ _ _ _ _ _ _ _ _ _ _ _ _ _ _ _ _ _ _ _ _ _ _ _ _ _ _ _ _ _ _ _ _ _ _ _ _ _ _ _ _ _ _ _ _ _ _ _ _ _ _ _ _ _ _ _ _ _ _ _ _ _ _ _ _ _ _ _ _ _ _ _ _ _ _ _ _ _ _ _ _ _ _ _ _ _ _ _ _ _ _ _ _ _ _ _ _ _ _ _ _ _ _ _ _ _ _ _ _ _ _ _ _ _ _ _ _ _ _ _ _ _ _ _ _ _ _ _ _ _ _ _ ⟨rfl,st0⟩
      · have c0:=st0.bx.cell (j:=0) rfl
        have f0:=st0.bx.frozen 0
        go_wp2
        exact VI.out 1 _ _ _ _ _ _ _ _ _ _ _ _ _ _ _ _ _ _ _ _ _ _ _ _ _ _ _ _ _ _ _ _ _ _ _ _ _ _ _ _ _ _ _ _ _ _ _ _ _ _ _ _ _ _ _ _ _ _ _ _ _ _ _ _ _ _ _ _ _ _ _ _ _ _ _ _ _ _ _ _ _ _ _ _ _ _ _ _ _ _ _ _ _ _ _ _ _ _ _ _ _ _ _ _ _ _ _ _ _ _ _ _ _ _ _ _ _ _ _ _ _ _ _ _ _ _ _ _ _ _ _ _ _ _ _ _ _ _ _ _ _ _ _ _ _ _ _ _ _ _ _ _ _ _ _ _ _ _ _ _ _ _ _ _ _ _ ⟨rfl,rV.set (x':={M.blank with aC:=1 }) st0 0 (.int .i64 1) rfl rfl⟩
   · have YP:(w0 == [97])=false:=by simpa using fun h=>hw (.inl h)
     have YQ:(w0 == [98])=false:=by simpa using fun h=>hw (.inr h)
     have hr:rr=(M.blank,1,25):=by rw [← HRR.out,HD0.out,Oq w0 _ (fun h=>hw (.inl h)) (fun h=>hw (.inr h))];rfl
     clear hw
     have HR:=hide hr
     clear hr
     go_wp2_with (first | (refine aO 69 (.tmp 2) (.tmp 33) rfl ?_;refine aF (st0.z) jV rfl dB (lZ M.blank none 0) rfl (.tmp 2) (.tmp 33) rfl rfl rfl ?_))
     have hF:=(st0.z).whole jV rfl
     refine bodyPost_ret (iI (p:=2) hF Tryz.underlying69 rfl dB rfl _ rfl) rfl ⟨none,0,?_,?_,below_setCells _ (Nat.le_refl _) _ _ _ _ (st0.bw)⟩
     · rw [HR.out];rfl
     · rw [HR.out];exact Reads.none_ _ _ _
def qV:List Value:=[.int .i64 0,.string ⟨#[]⟩,.int .i64 0,.int .i64 0,.int .i64 0,.bool false,.slice none 0 0]
theorem Gn {X:Nat→Prop} {B:Nat} {w W W':World} (h:Below B w W) (ht:Turn X W W') (hX:∀ b,X b→B≤b) (hB:B≤W.heap.size):Below B w W':=
 ⟨ht.os.trans h.os,ht.tape.trans h.tape,ht.output.trans h.output,Nat.le_trans h.size ht.size,fun b hb=>(ht.block b (Nat.lt_of_lt_of_le hb hB) (fun hx=>by have:=hX b hx;omega)).trans (h.block b hb)⟩
theorem Eu (x:M.aI) (p:Nat) (w:List UInt8):((dU x p w).1= -1∨(1≤(dU x p w).1∧(dU x p w).1≤5))∧(dU x p w).2.aA.length≤x.aA.length+1:=by
 unfold dU
 split
 · split
   · exact ⟨.inr ⟨by simp,by simp⟩,by simp⟩
   · split
     · exact ⟨.inr ⟨by simp,by simp⟩,by simp⟩
     · exact ⟨.inl rfl,by simp⟩
 · split
   · split
     · exact ⟨.inr ⟨by simp,by simp⟩,by simp⟩
     · exact ⟨.inl rfl,by simp⟩
   · cases hr:M.read x p w with
     | none=>exact ⟨.inl rfl,by simp⟩
     | some q=>
       have hq:=zX hr
       refine ⟨.inr ⟨by simp only;omega,by simp only;omega⟩,?_⟩
       simp only
       unfold M.read at hr
       split at hr
       · injection hr with hr;subst hr;simp
       · split at hr
         · injection hr with hr;subst hr;simp
         · split at hr
           · injection hr with hr;subst hr;simp
           · split at hr
             · injection hr with hr;subst hr;simp
             · cases hr
structure G7 (w:World) (ws:List (List UInt8)) (x:M.aI) (A:Option Addr) (c:Nat) (W:World):Prop where
 z:Held W w.heap.size qV 66
 bx:Held W (w.heap.size+1) (au ⟨x,A,c⟩) 66
 ws:Held W (w.heap.size+2) (ws.map jJ) 9
 own:W.ownsRow (w.heap.size+3) 107 2 (.slice A x.aA.length c) x.aA.length (bK x.aA)
 bw:Below w.heap.size w W
 sz:w.heap.size+3≤W.heap.size
theorem G7.read {w W W':World} {ws:List (List UInt8)} {x x':M.aI} {A A':Option Addr} {c c':Nat} (h:G7 w ws x A c W) (hr:yE W (w.heap.size+1) (w.heap.size+3) (au ⟨x',A',c'⟩) (.slice A' x'.aA.length c') x'.aA.length (bK x'.aA) (.slice A x.aA.length c) W'):G7 w ws x' A' c' W':=by
 have hno:∀ b,b<w.heap.size+3→b≠w.heap.size+1→¬ (b=w.heap.size+1∨(Value.slice A x.aA.length c).ownBlock=some b):=by
  rintro b hb hn (h1 | h1)
  · exact hn h1
  · have:=(vC h.own h1).1;omega
 exact ⟨(hr.turn.block _ h.z.lt (hno _ (by omega) (by omega))).trans h.z,hr.held,(hr.turn.block _ h.ws.lt (hno _ (by omega) (by omega))).trans h.ws,hr.own,
  Gn h.bw hr.turn (by
   rintro b (h1 | h1)
   · omega
   · have:=(vC h.own h1).1;omega) (by have:=h.sz;omega),Nat.le_trans h.sz hr.turn.size⟩
theorem sZ (x:M.aI) (A:Option Addr) (c:Nat):∀ v∈au ⟨x,A,c⟩,v.oneCell'=true:=by simp [au,Value.oneCell']
theorem zS (l:List UInt8) (w:World) (hg:Glob w) (hl:l.length≤17592186044416):
 Calls Tryz.prog 29 #[.string ⟨l.toArray⟩] w fun e w'=>∃ A c,e= .returned (.tuple #[iO (M.parse l).1 A c,.int .i64 (M.parse l).2.1,.int .i64 (M.parse l).2.2])∧jl w' (fun b=>w.heap.size≤b) A c (M.parse l).1.aA∧Below w.heap.size w w':=by
 have hsz:(ByteArray.mk l.toArray).size=l.length:=qX l
 by_cases hlong:4096<l.length
 · have hr:M.parse l=(M.blank,0,26):=by unfold M.parse;rw [if_pos hlong]
   rw [hr]
   go_enter Tryz.func29,Tryz.ntmps29
   go_upto_region 0 with (fail)
   go_cut [2,3,4] (fun v2 v3 v4 wx=>v2=ptr w.heap.size∧v3= .int .i64 0∧v4= .int .i64 0∧bU w wx [(qV,66)])
   case first=>
    go_wp2
    go_meet
    exact ⟨rfl,rfl,rfl,(bU.nil w).new (by simp) qV _⟩
   case rest=>
    obtain ⟨rfl,rfl,rfl,hB⟩:=hcut
    go_wp2
    go_step3
    go_wp2_with (first | (refine aO 66 (.tmp 2) (.tmp 15) rfl ?_;refine aF (hB.bf rfl) qV rfl aV (sZ M.blank none 0) rfl (.tmp 2) (.tmp 15) rfl rfl rfl ?_))
    have hF:=(hB.bf rfl).whole qV rfl
    try rw [Exit.noGoto_ret]
    refine bodyPost_ret (iI (p:=2) hF Tryz.underlying66 rfl aV rfl _ rfl) rfl ⟨none,0,rfl,Reads.none_ _ _ _,below_setCells _ (Nat.le_refl _) _ _ _ _ ?_⟩
    exact hB.bw
 · have hr:=FU l hlong
   rw [hr]
   clear hr
   have hsp:=FZ l
   obtain ⟨ws,hws⟩:∃ ws,M.words l=ws:=⟨_,rfl⟩
   have hwl:=uF l
   have hwc:(M.words l).length=l.count 32+1:=mJ l []
   have hcl:l.count 32≤l.length:=List.count_le_length
   rw [hws] at hsp hwl hwc ⊢
   have Xf:=hide (fun W h=>hsp W h (by omega))
   have EP:=hide hwl
   have hwn:ws.length≤4097:=by omega
   obtain ⟨rr,hrr⟩:∃ r,endP (jS M.blank 0 0 ws)=r:=⟨_,rfl⟩
   rw [hrr]
   have HRR:=hide hrr
   clear hsp hws hwl hwc hcl hrr
   go_enter Tryz.func29,Tryz.ntmps29
   go_upto_region 0 with (fail)
   go_cut [2,3,4] (fun v2 v3 v4 wx=>v2=ptr w.heap.size∧v3= .int .i64 0∧v4= .int .i64 0∧bU w wx [(qV,66)]∧wx.heap.size=w.heap.size+1)
   case first=>
    go_wp2
    go_meet
    exact ⟨rfl,rfl,rfl,(bU.nil w).new (by simp) qV _,by simp⟩
   case rest=>
    obtain ⟨rfl,rfl,rfl,hB,hs1⟩:=hcut
    go_wp2
    go_step3
    go_upto_region 3 with (fail)
    go_cut [5] (fun v5 wx=>v5=ptr (w.heap.size+1)∧bU w wx [(qV,66),(qV,66)]∧wx.heap.size=w.heap.size+2)
    case first=>
     go_wp2
     go_meet
     exact ⟨rfl,hB.new (by simpa using hs1) qV _,by simp [hs1]⟩
    case rest=>
     obtain ⟨rfl,hB2,hs2⟩:=hcut
     go_wp2_with (go_at_call 76;refine (Xf.out _ (hg.below hB2.bw)).mono ?_;rintro e w1 ⟨rfl,rfl⟩)
     go_step3
     go_wp2
     rename_i K1 hK1
     have J:∀ (x:M.aI) (p n:Int) (A:Option Addr) (c:Nat) (z1 z3 z4 z7 z9 z10 z11 z12 z13 kD kK kF z17 kL jQ z20 z21 z22 z23 z24 z25 z26 z27 z28 z29 z30 z31 z32 z33 z34 z35 z36 z37 z38 z39 z40 z41 z42 z43 z44 z45 z46 z47 z48 z49 z50 z51:Value) (wx:World),G7 w ws x A c wx→x.aA.length≤4098→0≤n→n≤4098→ -1≤p→p≤5→endP (x,p,n)=rr→K1 {tmps:= #[.string ⟨l.toArray⟩,z1,ptr w.heap.size,z3,z4,ptr (w.heap.size+1),.int .i64 p,z7,.int .i64 n,z9,z10,z11,z12,z13,kD,kK,kF,z17,kL,jQ,z20,z21,z22,z23,z24,z25,z26,z27,z28,z29,z30,z31,z32,z33,z34,z35,z36,z37,z38,z39,z40,z41,z42,z43,z44,z45,z46,z47,z48,z49,z50,z51],defers:=[] } wx:=by
      intro x p n A c z1 z3 z4 z7 z9 z10 z11 z12 z13 kD kK kF z17 kL jQ z20 z21 z22 z23 z24 z25 z26 z27 z28 z29 z30 z31 z32 z33 z34 z35 z36 z37 z38 z39 z40 z41 z42 z43 z44 z45 z46 z47 z48 z49 z50 z51 wx st hpl _ _ _ _ hend
      refine hK1 _ _ ?_
      try dsimp only
      unfold endP at hend
      simp only at hend
      have Py:=hide hend
      clear hend hK1
      by_cases h1:p<0
      · have e1:rr=(M.blank,n,25):=by rw [← Py.out,if_pos h1]
        subst e1
        go_wp2_with (first | (refine aO 66 (.tmp 2) (.tmp 37) rfl ?_;refine aF (st.z) qV rfl aV (sZ M.blank none 0) rfl (.tmp 2) (.tmp 37) rfl rfl rfl ?_))
        have hF:=(st.z).whole qV rfl
        try rw [Exit.noGoto_ret]
        refine bodyPost_ret (iI (p:=2) hF Tryz.underlying66 rfl aV rfl _ rfl) rfl ⟨none,0,rfl,Reads.none_ _ _ _,below_setCells _ (Nat.le_refl _) _ _ _ _ ?_⟩
        exact st.bw
      · by_cases h2:p=1
        · have e1:rr=(M.blank,n+1,25):=by rw [← Py.out,if_neg h1,if_pos h2]
          subst e1
          subst h2
          go_wp2_with (first | (refine aO 66 (.tmp 2) (.tmp 42) rfl ?_;refine aF (st.z) qV rfl aV (sZ M.blank none 0) rfl (.tmp 2) (.tmp 42) rfl rfl rfl ?_))
          have hF:=(st.z).whole qV rfl
          try rw [Exit.noGoto_ret]
          refine bodyPost_ret (iI (p:=2) hF Tryz.underlying66 rfl aV rfl _ rfl) rfl ⟨none,0,rfl,Reads.none_ _ _ _,below_setCells _ (Nat.le_refl _) _ _ _ _ ?_⟩
          exact st.bw
        · have h2':(p == 1)=false:=by rw [beq_eq_false_iff_ne];exact h2
          have FB:jl wx (fun b=>w.heap.size+3≤b) A c x.aA:=Reads.kG st.own (fun b h=>h) (by omega)
          have hrd:jl wx (fun b=>w.heap.size≤b) A c x.aA:=Reads.more FB (fun b _ h=>by omega)
          have hck:=fun W (hb:Below wx.heap.size wx W)=>vS (fun b=>w.heap.size≤b) x A c W (Reads.below hrd hb)
          obtain ⟨E,hE⟩:∃ E,M.cZ x=E:=⟨_,rfl⟩
          rw [hE] at hck
          have wZ:=hide hck
          have QI:=hide FB
          have hend:=Py.out
          rw [if_neg h1,if_neg h2,hE] at hend
          clear hck hE hrd FB
          by_cases h3:E=0
          · have e1:rr=(x,0,0):=by rw [← hend,if_neg (by simp [h3])]
            have h3':(E != 0)=false:=by simp [h3]
            subst e1
            clear hend h3
            go_wp2_with (first | (refine aN 66 (.tmp 5) rfl ?_;refine aG (st.bx) Tryz.underlying66 rfl aV rfl (.tmp 5) rfl rfl ?_) | (go_at_call 35;refine (wZ.out _ (Below.refl _ _)).mono ?_;rintro e w5 ⟨rfl,hb5⟩;have Ky:=st.z.below hb5;have hx5:=st.bx.below hb5) | (refine aN 66 (.tmp 5) rfl ?_;refine aG (hx5) Tryz.underlying66 rfl aV rfl (.tmp 5) rfl rfl ?_) | (refine aO 66 (.tmp 2) (.tmp 51) rfl ?_;refine aF (Ky) (au ⟨x,A,c⟩) rfl aV (sZ x A c) rfl (.tmp 2) (.tmp 51) rfl rfl rfl ?_))
            have hF:=Ky.whole (au ⟨x,A,c⟩) rfl
            try rw [Exit.noGoto_ret]
            refine bodyPost_ret (iI (p:=2) hF Tryz.underlying66 rfl aV rfl _ rfl) rfl ⟨A,c,rfl,?_,below_setCells _ (Nat.le_refl _) _ _ _ _ (st.bw.trans (hb5.mono st.bw.size))⟩
            exact Reads.more (Reads.keep (Reads.below QI.out hb5) (by rw [setCells_size];exact Nat.le_refl _) (fun b o hb hlt=>World.cell?_of_block (Held.lC (g:=w.heap.size) (b:=b) (by have hb:w.heap.size+3≤b:=hb;omega) _ _ _))) (fun b _ h=>by have h:w.heap.size+3≤b:=h;show w.heap.size≤b;omega)
          · have e1:rr=(M.blank,0,E):=by rw [← hend,if_pos (by simpa using h3)]
            have h3':(E != 0)=true:=by simp [h3]
            subst e1
            clear hend h3
            go_wp2_with (first | (refine aN 66 (.tmp 5) rfl ?_;refine aG (st.bx) Tryz.underlying66 rfl aV rfl (.tmp 5) rfl rfl ?_) | (go_at_call 35;refine (wZ.out _ (Below.refl _ _)).mono ?_;rintro e w5 ⟨rfl,hb5⟩;have Ky:=st.z.below hb5;have hx5:=st.bx.below hb5) | (refine aO 66 (.tmp 2) (.tmp 49) rfl ?_;refine aF (Ky) qV rfl aV (sZ M.blank none 0) rfl (.tmp 2) (.tmp 49) rfl rfl rfl ?_))
            have hF:=(Ky).whole qV rfl
            try rw [Exit.noGoto_ret]
            refine bodyPost_ret (iI (p:=2) hF Tryz.underlying66 rfl aV rfl _ rfl) rfl ⟨none,0,rfl,Reads.none_ _ _ _,below_setCells _ (Nat.le_refl _) _ _ _ _ ?_⟩
            exact st.bw.trans (hb5.mono st.bw.size)
     have HJ:=hide J
     clear J hK1
     have Vk:G7 w ws M.blank none 0 (wc.alloc (.cells (ws.map jJ).toArray 9)):=
      ⟨(hB2.bf rfl).alloc _,(hB2.get 1 rfl).alloc _,Held.newAt _ _ _ hs2,World.ownsRow_nil _ _ _ _,hB2.bw.alloc (by omega) _,by simp [hs2]⟩
     go_loopw [6,8,20] (fun pl at_ i wr=>∃ (k pn:Nat) (x:M.aI) (A:Option Addr) (c:Nat),k≤ws.length∧i= .int .i64 k∧at_= .int .i64 k∧pl= .int .i64 pn∧pn≤5∧jS x pn k (ws.drop k)=jS M.blank 0 0 ws∧x.aA.length≤k∧G7 w ws x A c wr) (fun _ _ i _=>ws.length - (intOf i).toNat)
     case atStart=>exact ⟨0,0,M.blank,none,0,Nat.zero_le _,rfl,rfl,rfl,by omega,rfl,Nat.le_refl _,Vk⟩
     case round=>
      obtain ⟨k,pn,x,A,c,hk,rfl,rfl,rfl,hpn,hlp,hpl,st⟩:=hrel
      by_cases hlt:k<ws.length
      · rw [List.drop_eq_getElem_cons hlt,jS] at hlp
        have hwl:=EP.out _ (List.getElem_mem hlt)
        have hcell:=st.ws.cell (j:=k) (v:=jJ ws[k]) (by rw [List.getElem?_map,List.getElem?_eq_getElem hlt];rfl)
        obtain ⟨wk,hwk⟩:∃ q,ws[k]=q:=⟨_,rfl⟩
        rw [hwk] at hlp hwl hcell
        unfold jJ at hcell
        clear hwk
        by_cases hwe:wk=[]
        · subst hwe
          rw [if_pos rfl] at hlp
          have PE:=hide hlp
          clear hlp
          go_wp2
          exact HJ.out x (-1) ((k:Int)+1) A c _ _ _ _ _ _ _ _ _ _ _ _ _ _ _ _ _ _ _ _ _ _ _ _ _ _ _ _ _ _ _ _ _ _ _ _ _ _ _ _ _ _ _ _ _ _ _ _ st (by omega) (by omega) (by omega) (by omega) (by omega) (by rw [PE.out];exact HRR.out)
        · have hrd:=Nr x pn wk (w.heap.size+1) (w.heap.size+3) A c wr (hg.below st.bw) (by omega) hwe hpn st.bx st.own st.sz (by omega) (by omega)
          rw [if_neg hwe,Int.toNat_natCast] at hlp
          have hrange:=Eu x pn wk
          have e2:(wk == [])=false:=by simpa using hwe
          obtain ⟨q,hq⟩:∃ q,dU x pn wk=q:=⟨_,rfl⟩
          rw [hq] at hrd hlp hrange
          obtain ⟨p',x'⟩:=q
          simp only at hrd hlp hrange
          have QI:=hide hrd
          have Ua:=hide hrange
          clear hrd hq hwe hrange
          by_cases hp':p'<0
          · rw [if_pos hp'] at hlp
            have PE:=hide hlp
            clear hlp
            go_wp2_with (go_at_call 77;refine QI.out.mono ?_;rintro e w5 ⟨A',c',rfl,hr⟩)
            exact HJ.out x' p' ((k:Int)+1) A' c' _ _ _ _ _ _ _ _ _ _ _ _ _ _ _ _ _ _ _ _ _ _ _ _ _ _ _ _ _ _ _ _ _ _ _ _ _ _ _ _ _ _ _ _ _ _ _ _ (st.read hr) (by have:=Ua.out;omega) (by omega) (by omega) (by have:=Ua.out;omega) (by omega) (by rw [PE.out];exact HRR.out)
          · rw [if_neg hp'] at hlp
            obtain ⟨WH,rfl⟩:=Int.eq_ofNat_of_zero_le (show 0≤p' by omega)
            have PE:=hide hlp
            have Vf:WH≤5:=by have:=Ua.out;omega
            clear hlp hp'
            go_wp2_with (go_at_call 77;refine QI.out.mono ?_;rintro e w5 ⟨A',c',rfl,hr⟩)
            go_roundw
            case rel=>exact ⟨k+1,WH,x',A',c',by omega,by go_num,by go_num,rfl,Vf,by rw [← PE.out];congr 1,by have:=Ua.out;omega,st.read hr⟩
            case measure=>simp [intOf] <;> omega
      · have hke:k=ws.length:=by omega
        subst hke
        rw [List.drop_length,jS] at hlp
        have PE:=hide hlp
        clear hlp
        go_wp2
        exact HJ.out x pn (ws.length:Int) A c _ _ _ _ _ _ _ _ _ _ _ _ _ _ _ _ _ _ _ _ _ _ _ _ _ _ _ _ _ _ _ _ _ _ _ _ _ _ _ _ _ _ _ _ _ _ _ _ st (by omega) (by omega) (by omega) (by omega) (by omega) (by rw [PE.out];exact HRR.out)
theorem Eh (a:List UInt8) (l:List (List UInt8)):Lib.join (a::l) [32]=M.join (a::l):=by
 rw [Lib.join_cons,M.join,Lib.joinTail,List.flatMap_def]
 rfl
def GU (x:M.aI):List (List UInt8):=[M.letter x.aC,x.kind.toList]
def pc1 (x:M.aI):List (List UInt8):=GU x++if x.aJ≠0 then [M.dR 99 x.aJ x.aP] else []
def pc2 (x:M.aI):List (List UInt8):=pc1 x++if x.first≠0 then [102::M.dec x.first] else []
def Es (x:M.aI):List (List UInt8):=pc2 x++if x.dA=true then [[43]] else []
def EL (x:M.aI) (k:Nat):List (List UInt8):=Es x++(x.aA.take k).map fun p=>M.dR 112 p.aJ p.aP
theorem KL (x:M.aI):EL x 0=Es x:=by simp [EL]
theorem KJ (x:M.aI) (k:Nat) (h:k<x.aA.length):EL x (k+1)=EL x k++[M.dR 112 x.aA[k].aJ x.aA[k].aP]:=by
 unfold EL
 rw [List.take_succ_eq_append_getElem h,List.map_append,List.append_assoc]
 rfl
theorem Dh (x:M.aI):EL x x.aA.length=M.pieces x:=by
 unfold EL Es pc2 pc1 GU M.pieces
 rw [List.take_length,M.Ad]
 simp only [List.append_assoc,List.cons_append,List.nil_append]
theorem KN (x:M.aI):(GU x).length=2∧(pc1 x).length≤3∧(pc2 x).length≤4∧(Es x).length≤5:=by
 have h0:(GU x).length=2:=rfl
 have h1:(pc1 x).length≤3:=by unfold pc1;rw [List.length_append,h0];split <;> simp
 have h2:(pc2 x).length≤4:=by unfold pc2;rw [List.length_append];split <;> simp <;> omega
 have h3:(Es x).length≤5:=by unfold Es;rw [List.length_append];split <;> simp <;> omega
 exact ⟨h0,h1,h2,h3⟩
theorem OE (x:M.aI) (k:Nat) (h:k≤x.aA.length):(EL x k).length≤5+k:=by
 have:=(KN x).2.2.2
 unfold EL
 rw [List.length_append,List.length_map,List.length_take]
 omega
theorem Kz (l:List (List UInt8)) (hne:l≠[]) (A:Option Addr) (c D:Nat) (w:World) (h:w.ownsRow D 9 1 (.slice A l.length c) l.length (l.map jJ)) (hlen:(M.join l).length≤1000) (hn:l.length≤100000):
 Calls Tryz.prog 75 #[.slice A l.length c,.string ⟨#[32]⟩] w fun e w'=>e= .returned (.string ⟨(M.join l).toArray⟩)∧Below w.heap.size w w':=by
 obtain ⟨a,r,rfl⟩:=List.exists_cons_of_ne_nil hne
 have hr:=Reads.kG (S:=fun _=>True) h (fun _ _=>trivial) (by omega)
 obtain ⟨b,o,rfl,_,hb,hc⟩:=hr.at_ (by simp)
 have hm:(((a::r).map fun q=>ByteArray.mk q.toArray).map (·.data.toList))=a::r:=by
  rw [List.map_map]
  conv=>rhs;rw [← List.map_id (a::r)]
  exact List.map_congr_left fun q _=>by simp
 have:=Tryz.strings_Join b o c ((a::r).map fun q=>⟨q.toArray⟩) ⟨#[32]⟩ w (fun j x hj=>by
  rw [List.getElem?_map] at hj
  cases hq:(a::r)[j]? with
  | none=>rw [hq] at hj;cases hj
  | some q=>
    rw [hq] at hj
    obtain rfl:ByteArray.mk q.toArray=x:=Option.some.inj hj
    exact hc j _ (by rw [List.getElem?_map,hq];rfl)) hb (by rw [List.length_map];omega) (by rw [List.length_map];exact hr.bd.1) (by rw [hm,show (ByteArray.mk #[32]).data.toList=[32] from rfl,Eh];omega)
 rw [hm,List.length_map,show (ByteArray.mk #[32]).data.toList=[32] from rfl,Eh] at this
 exact this
theorem zT (S:Nat→Prop) (x:M.aI) (P:Option Addr) (d:Nat) (w:World) (hp:jl w S P d x.aA):
 Calls Tryz.prog 28 #[iO x P d] w fun e w'=>e= .returned (.tuple #[.string (if M.cZ x=0 then ⟨(M.print x).toArray⟩ else ⟨#[]⟩),.int .i64 (M.cZ x)])∧Below w.heap.size w w':=by
 obtain ⟨b1,b2,b3⟩:=hp.bd
 obtain ⟨i0,hi,hz0,hz1,hz2⟩:=info_parts yD
 have hck:=fun W (hb:Below w.heap.size w W)=>vS S x P d W (Reads.below hp hb)
 obtain ⟨E,hE⟩:∃ E,M.cZ x=E:=⟨_,rfl⟩
 rw [hE] at hck ⊢
 have wZ:=hide hck
 clear hck
 by_cases h0:E=0
 · subst h0
   rw [if_pos rfl]
   have hx:=M.uw hE
   obtain ⟨x1,x2⟩:=hx.aJ
   obtain ⟨x3,x4⟩:=hx.aP
   obtain ⟨x5,x6⟩:=hx.first
   have y2:x.aJ≤99:=by omega
   have y4:x.aP≤99:=by omega
   have xY:=hide hx.aA
   have hfew:=hx.few
   have hpl:=hx.aC
   have l1:=M.jE x.first
   have hit:∀ W,Calls Tryz.prog 74 #[.int .i64 x.first] W fun e w'=>e= .returned (.string ⟨(M.dec x.first).toArray⟩)∧w'=W:=fun W=>by
    obtain ⟨i,hi⟩:=Int.eq_ofNat_of_zero_le x5
    rw [hi]
    have:=Tryz.strconv_Itoa_small i (by omega) W
    rwa [mF (by omega)] at this
   have HIT:=hide hit
   have HX:=hide hx
   clear hit hx hE
   go_enter Tryz.func28,Tryz.ntmps28
   go_upto_region 1 with (fail)
   go_cut [4] from 8 to 10 (fun v4 wx=>v4= .int .i64 0∧Held wx w.heap.size (au ⟨x,P,d⟩) 66∧Below w.heap.size w wx)
   case first=>
    have hB:=(bU.nil w).new (by simp) (au ⟨x,P,d⟩) 66
    go_wp2_with (first | (refine aN 66 (.tmp 1) rfl ?_;refine aG (hB.bf rfl) Tryz.underlying66 rfl aV rfl (.tmp 1) rfl rfl ?_) | (go_at_call 35;refine (wZ.out _ hB.bw).mono ?_;rintro e w5 ⟨rfl,hb5⟩))
    go_meet
    exact ⟨rfl,(hB.bf rfl).below hb5,hB.bw.trans (hb5.mono hB.bw.size)⟩
   case rest=>
    obtain ⟨rfl,hx0,hbw⟩:=hcut
    go_upto_region 4 with (fail)
    have hlt0:=hx0.lt
    go_cut [5] from 13 to 22 (fun v5 wx=>∃ A c,v5= .slice A (GU x).length c∧Held wx w.heap.size (au ⟨x,P,d⟩) 66∧wx.ownsRow (w.heap.size+1) 9 1 (.slice A (GU x).length c) (GU x).length ((GU x).map jJ)∧Below w.heap.size w wx)
    case first=>
     rcases hpl with hpp | hpp
     · have k0:wc.cell? ⟨w.heap.size,0,none⟩=some (.int .i64 0):=(hx0.cell (j:=0) rfl).trans (by rw [hpp])
       have k1:=hx0.cell (j:=1) rfl
       have hwr:IntKind.i64.wrap 1=1:=IntWalk.i64_in _ (by decide)
       refine wp_region_held_drew (S:=(fun w':World=>∀ q,w'.cell? ⟨w.heap.size,q,none⟩=wc.cell? ⟨w.heap.size,q,none⟩)) (by kernel_rfl) ?eP (fun hHeld=>?_)
       case eP=>first | exact fun q=>rfl | exact fun q=>World.cell?_alloc_lt _ _ ⟨_,q,none⟩ hlt0
       refine tk 0 ?_
       refine tk 1 ?_
       refine tk 2 ?_
       refine tk 3 ?_
       refine tk 4 ?_
       refine tk 5 ?_
       refine tk 6 ?_
       refine tk 7 ?_
       refine tr 8 fun K hK=>?_
       go_simp
       refine hK.out _ _ ?Ti (fun hHeld=>?_)
       case Ti=>(first | (first | exact fun q=>rfl | exact fun q=>World.cell?_alloc_lt _ _ ⟨_,q,none⟩ hlt0) | (dsimp only;first | exact fun q=>rfl | exact fun q=>World.cell?_alloc_lt _ _ ⟨_,q,none⟩ hlt0))
       clear hK K
       try simp only [Act.put,la,lz,ls]
       refine tk 9 ?_
       refine wpAnyH_done (by kernel_rfl) ?_ _
       go_wp2
       go_meet
       have e0:M.letter x.aC=[97]:=by rw [hpp];rfl
       have hl:=World.ownsRow_lit (base:=w.heap.size+1) (e:=9) (size:=1) wc #[.string ⟨#[97]⟩,.string x.kind] 2 (by have:=hlt0;show _≤wc.heap.size;omega) (by decide) rfl
       have ee:(ByteArray.mk #[97,98]).extract 0 1=⟨#[97]⟩:=by decide
       rw [ee]
       have em:(GU x).map jJ=[.string ⟨#[97]⟩,.string x.kind]:=by
        unfold GU jJ
        rw [e0,List.map_cons,List.map_cons,List.map_nil, ← Gv]
       refine ⟨some ⟨wc.heap.size,0,none⟩,2,rfl,(hx0.alloc _).drew,?_,(hbw.alloc hbw.size _).drew⟩
       rw [em]
       exact hl
     · have k0:wc.cell? ⟨w.heap.size,0,none⟩=some (.int .i64 1):=(hx0.cell (j:=0) rfl).trans (by rw [hpp])
       have k1:=hx0.cell (j:=1) rfl
       have hwr:IntKind.i64.wrap 2=2:=IntWalk.i64_in _ (by decide)
       refine wp_region_held_drew (S:=(fun w':World=>∀ q,w'.cell? ⟨w.heap.size,q,none⟩=wc.cell? ⟨w.heap.size,q,none⟩)) (by kernel_rfl) ?jw (fun hHeld=>?_)
       case jw=>first | exact fun q=>rfl | exact fun q=>World.cell?_alloc_lt _ _ ⟨_,q,none⟩ hlt0
       refine tk 0 ?_
       refine tk 1 ?_
       refine tk 2 ?_
       refine tk 3 ?_
       refine tk 4 ?_
       refine tk 5 ?_
       refine tk 6 ?_
       refine tk 7 ?_
       refine tr 8 fun K hK=>?_
       go_simp
       refine hK.out _ _ ?Tq (fun hHeld=>?_)
       case Tq=>(first | (first | exact fun q=>rfl | exact fun q=>World.cell?_alloc_lt _ _ ⟨_,q,none⟩ hlt0) | (dsimp only;first | exact fun q=>rfl | exact fun q=>World.cell?_alloc_lt _ _ ⟨_,q,none⟩ hlt0))
       clear hK K
       try simp only [Act.put,la,lz,ls]
       refine tk 9 ?_
       refine wpAnyH_done (by kernel_rfl) ?_ _
       go_wp2
       go_meet
       have e0:M.letter x.aC=[98]:=by rw [hpp];rfl
       have hl:=World.ownsRow_lit (base:=w.heap.size+1) (e:=9) (size:=1) wc #[.string ⟨#[98]⟩,.string x.kind] 2 (by have:=hlt0;show _≤wc.heap.size;omega) (by decide) rfl
       have ee:(ByteArray.mk #[97,98]).extract 1 2=⟨#[98]⟩:=by decide
       rw [ee]
       have em:(GU x).map jJ=[.string ⟨#[98]⟩,.string x.kind]:=by
        unfold GU jJ
        rw [e0,List.map_cons,List.map_cons,List.map_nil, ← Gv]
       refine ⟨some ⟨wc.heap.size,0,none⟩,2,rfl,(hx0.alloc _).drew,?_,(hbw.alloc hbw.size _).drew⟩
       rw [em]
       exact hl
    case rest=>
     obtain ⟨A,c,hrel⟩:=hcut
     obtain ⟨wx,hwx⟩:∃ v,wc=v:=⟨_,rfl⟩
     rw [hwx] at hrel ⊢
     clear hwx hx0 hbw hlt0
     obtain ⟨n0,n1,n2,n3⟩:=KN x
     go_upto_region 5 with (fail)
     rename_i K3 hK3 K9 hK9
     have J1:∀ (A:Option Addr) (c:Nat) (v5:Value) (z2 z3 z4 z6 z7 z8 z9 z10 z11 z12 z13 kD kK kF z17 kL jQ z20 z21 z22 z23 z24 z25 z26 z27 z28 z29 z30 z31 z32 z33 z34 z35 z36 z37 z38 z39 z40 z41 z42 z43 z44 z45 z46 z47 z48 z49 z50 z51 z52 z53 z54 z55 z56 z57 z58 z59 z60 z61 z62 z63 z64 z65:Value) (wx:World),(v5= .slice A (pc1 x).length c∧Held wx w.heap.size (au ⟨x,P,d⟩) 66∧wx.ownsRow (w.heap.size+1) 9 1 (.slice A (pc1 x).length c) (pc1 x).length ((pc1 x).map jJ)∧Below w.heap.size w wx)→K3 {tmps:= #[iO x P d,ptr w.heap.size,z2,z3,z4,v5,z6,z7,z8,z9,z10,z11,z12,z13,kD,kK,kF,z17,kL,jQ,z20,z21,z22,z23,z24,z25,z26,z27,z28,z29,z30,z31,z32,z33,z34,z35,z36,z37,z38,z39,z40,z41,z42,z43,z44,z45,z46,z47,z48,z49,z50,z51,z52,z53,z54,z55,z56,z57,z58,z59,z60,z61,z62,z63,z64,z65],defers:=[] } wx:=by
      intro A c v5 z2 z3 z4 z6 z7 z8 z9 z10 z11 z12 z13 kD kK kF z17 kL jQ z20 z21 z22 z23 z24 z25 z26 z27 z28 z29 z30 z31 z32 z33 z34 z35 z36 z37 z38 z39 z40 z41 z42 z43 z44 z45 z46 z47 z48 z49 z50 z51 z52 z53 z54 z55 z56 z57 z58 z59 z60 z61 z62 z63 z64 z65 wx hrel
      refine hK3 _ _ ?_
      try dsimp only
      go_upto_region 7 with (fail)
      rename_i K2 hK2 K9 hK9
      have J2:∀ (A:Option Addr) (c:Nat) (v5:Value) (z2 z3 z4 z6 z7 z8 z9 z10 z11 z12 z13 kD kK kF z17 kL jQ z20 z21 z22 z23 z24 z25 z26 z27 z28 z29 z30 z31 z32 z33 z34 z35 z36 z37 z38 z39 z40 z41 z42 z43 z44 z45 z46 z47 z48 z49 z50 z51 z52 z53 z54 z55 z56 z57 z58 z59 z60 z61 z62 z63 z64 z65:Value) (wx:World),(v5= .slice A (pc2 x).length c∧Held wx w.heap.size (au ⟨x,P,d⟩) 66∧wx.ownsRow (w.heap.size+1) 9 1 (.slice A (pc2 x).length c) (pc2 x).length ((pc2 x).map jJ)∧Below w.heap.size w wx)→K2 {tmps:= #[iO x P d,ptr w.heap.size,z2,z3,z4,v5,z6,z7,z8,z9,z10,z11,z12,z13,kD,kK,kF,z17,kL,jQ,z20,z21,z22,z23,z24,z25,z26,z27,z28,z29,z30,z31,z32,z33,z34,z35,z36,z37,z38,z39,z40,z41,z42,z43,z44,z45,z46,z47,z48,z49,z50,z51,z52,z53,z54,z55,z56,z57,z58,z59,z60,z61,z62,z63,z64,z65],defers:=[] } wx:=by
       intro A c v5 z2 z3 z4 z6 z7 z8 z9 z10 z11 z12 z13 kD kK kF z17 kL jQ z20 z21 z22 z23 z24 z25 z26 z27 z28 z29 z30 z31 z32 z33 z34 z35 z36 z37 z38 z39 z40 z41 z42 z43 z44 z45 z46 z47 z48 z49 z50 z51 z52 z53 z54 z55 z56 z57 z58 z59 z60 z61 z62 z63 z64 z65 wx hrel
       refine hK2 _ _ ?_
       try dsimp only
       go_upto_region 9 with (fail)
       rename_i K1 hK1 K9 hK9
       have J3:∀ (A:Option Addr) (c:Nat) (v5:Value) (z2 z3 z4 z6 z7 z8 z9 z10 z11 z12 z13 kD kK kF z17 kL jQ z20 z21 z22 z23 z24 z25 z26 z27 z28 z29 z30 z31 z32 z33 z34 z35 z36 z37 z38 z39 z40 z41 z42 z43 z44 z45 z46 z47 z48 z49 z50 z51 z52 z53 z54 z55 z56 z57 z58 z59 z60 z61 z62 z63 z64 z65:Value) (wx:World),(v5= .slice A (Es x).length c∧Held wx w.heap.size (au ⟨x,P,d⟩) 66∧wx.ownsRow (w.heap.size+1) 9 1 (.slice A (Es x).length c) (Es x).length ((Es x).map jJ)∧Below w.heap.size w wx)→K1 {tmps:= #[iO x P d,ptr w.heap.size,z2,z3,z4,v5,z6,z7,z8,z9,z10,z11,z12,z13,kD,kK,kF,z17,kL,jQ,z20,z21,z22,z23,z24,z25,z26,z27,z28,z29,z30,z31,z32,z33,z34,z35,z36,z37,z38,z39,z40,z41,z42,z43,z44,z45,z46,z47,z48,z49,z50,z51,z52,z53,z54,z55,z56,z57,z58,z59,z60,z61,z62,z63,z64,z65],defers:=[] } wx:=by
        intro A c v5 z2 z3 z4 z6 z7 z8 z9 z10 z11 z12 z13 kD kK kF z17 kL jQ z20 z21 z22 z23 z24 z25 z26 z27 z28 z29 z30 z31 z32 z33 z34 z35 z36 z37 z38 z39 z40 z41 z42 z43 z44 z45 z46 z47 z48 z49 z50 z51 z52 z53 z54 z55 z56 z57 z58 z59 z60 z61 z62 z63 z64 z65 wx hrel
        refine hK1 _ _ ?_
        try dsimp only
        obtain ⟨rfl,hx0,hown,hbw⟩:=hrel
        have k6:=hx0.cell (j:=6) rfl
        rw [← KL] at hown ⊢
        go_wp2
        go_loopw [5,51] (fun v5 i wr=>∃ (k:Nat) (A:Option Addr) (c:Nat),k≤x.aA.length∧i= .int .i64 k∧v5= .slice A (EL x k).length c∧Held wr w.heap.size (au ⟨x,P,d⟩) 66∧wr.ownsRow (w.heap.size+1) 9 1 (.slice A (EL x k).length c) (EL x k).length ((EL x k).map jJ)∧Below w.heap.size w wr) (fun _ i _=>x.aA.length - (intOf i).toNat)
        case atStart=>exact ⟨0,_,_,Nat.zero_le _,rfl,rfl,hx0,hown,hbw⟩
        case round=>
         obtain ⟨k,A1,c1,hk,rfl,rfl,hx1,hown1,hb1⟩:=hrel
         have DX:=hb1.size
         have XV:=hx1.lt
         have hkl:=OE x k hk
         by_cases hlt:k<x.aA.length
         · obtain ⟨b,o,rfl,hS,hb,hc⟩:=(hp.below hb1).at_ k hlt
           obtain ⟨c1',c2'⟩:=hc k hlt
           clear hc
           obtain ⟨⟨p1,p2⟩,p3,p4⟩:=xY.out _ (List.getElem_mem hlt)
           have hnx:=KJ x k hlt
           obtain ⟨pb,hpb⟩:∃ q,x.aA[k].aJ=q:=⟨_,rfl⟩
           obtain ⟨pp,hpp⟩:∃ q,x.aA[k].aP=q:=⟨_,rfl⟩
           rw [hpb,hpp] at hnx
           rw [hpb] at p1 p2 c1'
           rw [hpp] at p3 p4 c2'
           have VP:=hide hnx
           clear hnx hpb hpp
           have p5:pb≤99:=by omega
           have p6:pp≤99:=by omega
           have p7:0≤pp:=by omega
           have p8:0≤pb:=by omega
           have i1:(0:Int)≤(k:Int):=by omega
           have i2:(k:Int)<(x.aA.length:Int):=by omega
           go_wp2_with (first | (go_at_call 73;refine (BG 112 pb pp _ ⟨by assumption,by assumption⟩ ⟨by assumption,by assumption⟩).mono ?_;rintro e w3 ⟨rfl,hw3⟩;obtain rfl:=hw3.symm) | (at_builtin;refine wpList_append_lies _ rfl _ _ _ rfl (w.heap.size+1) 9 i0 (.string ByteArray.empty) 1 16 Tryz.underlying143 hi hz0 hz1 hz2 rfl (by omega) _ _ _ rfl ((hown1.alloc _).alloc _) ⟨(wr.heap.size+1),0,none⟩ 1 1 [.string ⟨(M.dR 112 pb pp).toArray⟩] rfl rfl (dK _ _ _ _ (by simp)) (by simp [jJ,Value.oneCell']) (by omega) (by simp only [maxLen];omega) (by omega) (by first | omega | (simp;omega)) ((wr.heap.size+1)+1) (by simp) ?_))
           intro g1 cap w4 hown4 hgrow _ _
           have hv:(.string ⟨(M.dR 112 pb pp).toArray⟩)=jJ (M.dR 112 pb pp):=rfl
           rw [hv] at hown4 hgrow
           have hgb:Below (w.heap.size+1) _ w4:=dX ((hown1.alloc _).alloc _) hgrow (by omega) (by simp;omega)
           have hx4:=((hx1.alloc _).alloc _).upto hgb (by omega)
           have hb4:=((hb1.alloc (by omega) _).alloc (by simp;omega) _).trans (hgb.mono (by omega))
           go_wp2
           have hown5:w4.ownsRow (w.heap.size+1) 9 1 (.slice (some ⟨g1,0,none⟩) (EL x (k+1)).length cap) (EL x (k+1)).length ((EL x (k+1)).map jJ):=by
            rw [VP.out,List.length_append,List.length_singleton,List.map_append]
            exact hown4
           go_roundw
           case rel=>exact ⟨k+1,some ⟨g1,0,none⟩,cap,by omega,by go_num,by rw [VP.out,List.length_append,List.length_singleton],hx4,hown5,hb4⟩
           case measure=>simp [intOf] <;> omega
         · have hke:k=x.aA.length:=by omega
           subst hke
           have hjn:=Kz (M.pieces x) (by unfold M.pieces;simp) A1 c1 (w.heap.size+1) wr (by rw [← Dh];exact hown1) (by have:=OH HX.out x.aA.length;rw [Iy] at this;unfold M.print at this;omega) (by rw [← Dh];omega)
           rw [Dh]
           go_wp2_with (go_at_call 75;refine hjn.mono ?_;rintro e w5 ⟨rfl,hb5⟩)
           go_ret2
           exact ⟨rfl,hb1.trans (hb5.mono hb1.size)⟩
       clear hK1
       have QG:=hide J3
       clear J3
       obtain ⟨rfl,hx0,hown,hbw⟩:=hrel
       have SH:=hbw.size
       have hlt0:=hx0.lt
       have k5:=hx0.cell (j:=5) rfl
       by_cases hc:x.dA=true
       · have hb:x.dA=true:=hc
         have HC:=hide hc
         clear hc
         go_wp2_with (first | (at_builtin;refine wpList_append_lies _ rfl _ _ _ rfl (w.heap.size+1) 9 i0 (.string ByteArray.empty) 1 16 Tryz.underlying143 hi hz0 hz1 hz2 rfl (by omega) _ _ _ rfl (hown.alloc _) ⟨wx.heap.size,0,none⟩ 1 1 [.string ⟨#[43]⟩] rfl rfl (wQ _ _ _) (by simp [jJ,Value.oneCell']) (by omega) (by simp only [maxLen];omega) (by omega) (by first | omega | (simp;omega)) (wx.heap.size+1) (by simp) ?_))
         intro g1 cap w4 hown4 hgrow _ _
         have hv:(.string ⟨#[43]⟩)=jJ ([43]):=rfl
         rw [hv] at hown4 hgrow
         have hgb:Below (w.heap.size+1) _ w4:=dX (hown.alloc _) hgrow (by omega) (by simp;omega)
         have hx4:Held w4 w.heap.size (au ⟨x,P,d⟩) 66:=(hx0.alloc _).upto hgb (by omega)
         have hb4:=(hbw.alloc (by omega) _).trans (hgb.mono (by omega))
         have e2:Es x=pc2 x++[[43]]:=by unfold Es;rw [if_pos HC.out]
         go_wp2
         have hown5:w4.ownsRow (w.heap.size+1) 9 1 (.slice (some ⟨g1,0,none⟩) (Es x).length cap) (Es x).length ((Es x).map jJ):=by
          rw [e2,List.length_append,List.length_singleton,List.map_append]
          exact hown4
         exact QG.out (some ⟨g1,0,none⟩) cap _ _ _ _ _ _ _ _ _ _ _ _ _ _ _ _ _ _ _ _ _ _ _ _ _ _ _ _ _ _ _ _ _ _ _ _ _ _ _ _ _ _ _ _ _ _ _ _ _ _ _ _ _ _ _ _ _ _ _ _ _ _ _ _ _ ⟨by rw [e2,List.length_append,List.length_singleton] <;> try (rw [n0]),hx4,hown5,hb4⟩
       · have hb:x.dA=false:=by simpa using hc
         have e2:Es x=pc2 x:=by unfold Es;rw [if_neg hc,List.append_nil]
         clear hc
         go_wp2
         exact QG.out A c _ _ _ _ _ _ _ _ _ _ _ _ _ _ _ _ _ _ _ _ _ _ _ _ _ _ _ _ _ _ _ _ _ _ _ _ _ _ _ _ _ _ _ _ _ _ _ _ _ _ _ _ _ _ _ _ _ _ _ _ _ _ _ _ wx (by rw [e2];exact ⟨rfl,hx0,hown,hbw⟩)
      clear hK2
      have HJ2:=hide J2
      clear J2
      obtain ⟨rfl,hx0,hown,hbw⟩:=hrel
      have SH:=hbw.size
      have hlt0:=hx0.lt
      have k4:=hx0.cell (j:=4) rfl
      by_cases hc:x.first≠0
      · have hb:0<x.first:=by omega
        have HC:=hide hc
        clear hc
        go_wp2_with (first | (go_at_call 74;refine (HIT.out _).mono ?_;rintro e w3 ⟨rfl,hw3⟩;obtain rfl:wx=w3:=hw3.symm) | (at_builtin;refine wpList_append_lies _ rfl _ _ _ rfl (w.heap.size+1) 9 i0 (.string ByteArray.empty) 1 16 Tryz.underlying143 hi hz0 hz1 hz2 rfl (by omega) _ _ _ rfl (hown.alloc _) ⟨wx.heap.size,0,none⟩ 1 1 [.string (⟨#[102]⟩++⟨(M.dec x.first).toArray⟩)] rfl rfl (wQ _ _ _) (by simp [jJ,Value.oneCell']) (by omega) (by simp only [maxLen];omega) (by omega) (by first | omega | (simp;omega)) (wx.heap.size+1) (by simp) ?_))
        intro g1 cap w4 hown4 hgrow _ _
        have hv:(.string (⟨#[102]⟩++⟨(M.dec x.first).toArray⟩))=jJ (102::M.dec x.first):=congrArg Value.string (JX [102] _)
        rw [hv] at hown4 hgrow
        have hgb:Below (w.heap.size+1) _ w4:=dX (hown.alloc _) hgrow (by omega) (by simp;omega)
        have hx4:Held w4 w.heap.size (au ⟨x,P,d⟩) 66:=(hx0.alloc _).upto hgb (by omega)
        have hb4:=(hbw.alloc (by omega) _).trans (hgb.mono (by omega))
        have e2:pc2 x=pc1 x++[102::M.dec x.first]:=by unfold pc2;rw [if_pos HC.out]
        go_wp2
        have hown5:w4.ownsRow (w.heap.size+1) 9 1 (.slice (some ⟨g1,0,none⟩) (pc2 x).length cap) (pc2 x).length ((pc2 x).map jJ):=by
         rw [e2,List.length_append,List.length_singleton,List.map_append]
         exact hown4
        exact HJ2.out (some ⟨g1,0,none⟩) cap _ _ _ _ _ _ _ _ _ _ _ _ _ _ _ _ _ _ _ _ _ _ _ _ _ _ _ _ _ _ _ _ _ _ _ _ _ _ _ _ _ _ _ _ _ _ _ _ _ _ _ _ _ _ _ _ _ _ _ _ _ _ _ _ _ ⟨by rw [e2,List.length_append,List.length_singleton] <;> try (rw [n0]),hx4,hown5,hb4⟩
      · have hb:¬ 0<x.first:=by omega
        have e2:pc2 x=pc1 x:=by unfold pc2;rw [if_neg hc,List.append_nil]
        clear hc
        go_wp2
        exact HJ2.out A c _ _ _ _ _ _ _ _ _ _ _ _ _ _ _ _ _ _ _ _ _ _ _ _ _ _ _ _ _ _ _ _ _ _ _ _ _ _ _ _ _ _ _ _ _ _ _ _ _ _ _ _ _ _ _ _ _ _ _ _ _ _ _ _ wx (by rw [e2];exact ⟨rfl,hx0,hown,hbw⟩)
     clear hK3
     have OY:=hide J1
     clear J1
     obtain ⟨rfl,hx0,hown,hbw⟩:=hrel
     have SH:=hbw.size
     have hlt0:=hx0.lt
     have k2:=hx0.cell (j:=2) rfl
     have k3:=hx0.cell (j:=3) rfl
     by_cases hc:x.aJ≠0
     · have hb:0<x.aJ:=by omega
       have HC:=hide hc
       clear hc
       go_wp2_with (first | (go_at_call 73;refine (BG 99 x.aJ x.aP _ ⟨by assumption,by assumption⟩ ⟨by assumption,by assumption⟩).mono ?_;rintro e w3 ⟨rfl,hw3⟩;obtain rfl:wx=w3:=hw3.symm) | (at_builtin;refine wpList_append_lies _ rfl _ _ _ rfl (w.heap.size+1) 9 i0 (.string ByteArray.empty) 1 16 Tryz.underlying143 hi hz0 hz1 hz2 rfl (by omega) _ _ _ rfl (hown.alloc _) ⟨wx.heap.size,0,none⟩ 1 1 [.string ⟨(M.dR 99 x.aJ x.aP).toArray⟩] rfl rfl (wQ _ _ _) (by simp [jJ,Value.oneCell']) (by omega) (by simp only [maxLen];omega) (by omega) (by first | omega | (simp;omega)) (wx.heap.size+1) (by simp) ?_))
       intro g1 cap w4 hown4 hgrow _ _
       have hv:(.string ⟨(M.dR 99 x.aJ x.aP).toArray⟩)=jJ (M.dR 99 x.aJ x.aP):=rfl
       rw [hv] at hown4 hgrow
       have hgb:Below (w.heap.size+1) _ w4:=dX (hown.alloc _) hgrow (by omega) (by simp;omega)
       have hx4:Held w4 w.heap.size (au ⟨x,P,d⟩) 66:=(hx0.alloc _).upto hgb (by omega)
       have hb4:=(hbw.alloc (by omega) _).trans (hgb.mono (by omega))
       have e2:pc1 x=GU x++[M.dR 99 x.aJ x.aP]:=by unfold pc1;rw [if_pos HC.out]
       go_wp2
       have hown5:w4.ownsRow (w.heap.size+1) 9 1 (.slice (some ⟨g1,0,none⟩) (pc1 x).length cap) (pc1 x).length ((pc1 x).map jJ):=by
        rw [e2,List.length_append,List.length_singleton,List.map_append]
        exact hown4
       exact OY.out (some ⟨g1,0,none⟩) cap _ _ _ _ _ _ _ _ _ _ _ _ _ _ _ _ _ _ _ _ _ _ _ _ _ _ _ _ _ _ _ _ _ _ _ _ _ _ _ _ _ _ _ _ _ _ _ _ _ _ _ _ _ _ _ _ _ _ _ _ _ _ _ _ _ ⟨by rw [e2,List.length_append,List.length_singleton] <;> try (rw [n0]),hx4,hown5,hb4⟩
     · have hb:¬ 0<x.aJ:=by omega
       have e2:pc1 x=GU x:=by unfold pc1;rw [if_neg hc,List.append_nil]
       clear hc
       go_wp2
       exact OY.out A c _ _ _ _ _ _ _ _ _ _ _ _ _ _ _ _ _ _ _ _ _ _ _ _ _ _ _ _ _ _ _ _ _ _ _ _ _ _ _ _ _ _ _ _ _ _ _ _ _ _ _ _ _ _ _ _ _ _ _ _ _ _ _ _ wx (by rw [e2];exact ⟨rfl,hx0,hown,hbw⟩)
 · rw [if_neg h0]
   have hb0:(E == 0)=false:=by simpa using h0
   go_enter Tryz.func28,Tryz.ntmps28
   go_upto_region 1 with (fail)
   go_cut [4] from 8 to 10 (fun v4 wx=>v4= .int .i64 E∧Held wx w.heap.size (au ⟨x,P,d⟩) 66∧Below w.heap.size w wx)
   case first=>
    have hB:=(bU.nil w).new (by simp) (au ⟨x,P,d⟩) 66
    go_wp2_with (first | (refine aN 66 (.tmp 1) rfl ?_;refine aG (hB.bf rfl) Tryz.underlying66 rfl aV rfl (.tmp 1) rfl rfl ?_) | (go_at_call 35;refine (wZ.out _ hB.bw).mono ?_;rintro e w5 ⟨rfl,hb5⟩))
    go_meet
    exact ⟨rfl,(hB.bf rfl).below hb5,hB.bw.trans (hb5.mono hB.bw.size)⟩
   case rest=>
    obtain ⟨rfl,hx0,hbw⟩:=hcut
    have hb1:(E != 0)=true:=by simp [h0]
    go_wp2
    go_ret2
    exact ⟨rfl,hbw⟩
end Go.Proofs.YtelpepbpdojikaaGreatDoor
