/- Parts of a proof. -/
import Derived.Test.YtjbbfmofpjflmaaGreatDoorKb0
set_option linter.unusedVariables false
set_option linter.unusedSimpArgs false
namespace Go.Proofs.YtjbbfmofpjflmaaGreatDoor
namespace M
def pieces (x:gy):List (List UInt8):=letter x.dK::x.kind.toList::tail x
def print (x:gy):List UInt8:=join (pieces x)
end M
namespace Sk
theorem adx {g:Game} {s:State} {e:Entry} (hk:e.kind=dJ):(next g s e).s0=s.s0+(if s.turn=0 then (judge g s e).points else (judge g s e).penalty)∧(next g s e).s1=s.s1+(if s.turn=0 then (judge g s e).penalty else (judge g s e).points):=by
 unfold next
 rw [if_pos hk]
 unfold uj
 have h:=DL g (if (judge g s e).stays then mO g s (judge g s e) else pass (mO g s (judge g s e))) e (judge g s e);rw [h.1,h.2]
 split <;> exact ⟨rfl,rfl⟩
theorem acP {s:State} {e:Entry} (hp:s.phase=dG) (hc:2≤s.colour):(0<dL s e↔called e=true∨has e.aV (gQ s.colour)=true):=by
 have e1:on s=[gQ s.colour]:=by unfold on;rw [if_neg (by rw [hp];exact uO),if_neg (by rw [hp];exact rO)]
 unfold dL worth
 rw [if_neg (by rw [hp];exact uO),e1]
 simp only [List.headD_cons,hp,and_true]
 rw [if_neg uO,if_neg rO]
 split
 · rename_i h;exact ⟨fun _=>h,fun _=>by omega⟩
 · rename_i h;exact ⟨fun hx=>by omega,fun hx=>absurd hx h⟩
end Sk
namespace Sk
theorem afX {g:Game} {s:State} {x:Entry} (h:legal g s x=0):step g s x=next g s x:=by unfold step;rw [if_pos h]
theorem adF {g:Game} {s:State} {x:Entry} (h:Ok g s) (hx:dV g x=0) (hl:legal g s x=0) (hk:x.kind=dJ):YQ g (judge g s x):=
 Ap g s x h.inr.colour (fun hg hp=>by have:=vM hx hk (uP.1 hl).call hg hp;omega)
end Sk
namespace Sk
theorem af7 {c:Int} (h:2≤c∧c<7):tri c=c+tri (c+1):=by
 have:c=2∨c=3∨c=4∨c=5∨c=6:=by omega
 rcases this with rfl | rfl | rfl | rfl | rfl <;> decide
theorem aeU (s:State) (p:Int):0≤needed s p∧score s (1 - p) - score s p - left s≤4*needed s p∧(0<needed s p→4*(needed s p - 1)<score s (1 - p) - score s p - left s):=by
 unfold needed
 obtain ⟨b,hb⟩:∃ b,score s (1 - p) - score s p - left s=b:=⟨_,rfl⟩;rw [hb]
 rcases Int.lt_or_le (b+4 - 1) 0 with h | h
 · have:(b+4 - 1).tdiv 4≤0:=by
    have:=Int.neg_tdiv (-(b+4 - 1)) 4
    rw [Int.neg_neg] at this;rw [this,Int.tdiv_eq_ediv_of_nonneg (by omega)]
    omega
   omega
 · rw [Int.tdiv_eq_ediv_of_nonneg h]
   omega
theorem aev {g:Game} {s:State} {e:Entry} (hc:iy g s e=true) (hk:e.kind=dJ) (hg:g.kind=aW) (hp:s.phase≠dW) (hn:e.called≠dH):s.free=true∧(s.phase=iI∨s.colour<value e.called):=by
 unfold iy at hc
 rw [if_neg (by simp [hk,hg]),if_neg hp] at hc
 simp only [decide_eq_true_eq] at hc
 have hc:=hc.resolve_left hn
 unfold callable at hc
 split at hc
 · cases hc
 · rename_i h1
   split at hc
   · rename_i h2;exact ⟨by simpa using h1,.inl h2⟩
   · simp only [decide_eq_true_eq] at hc
     exact ⟨by simpa using h1,.inr hc.2⟩
theorem afP {g:Game} {s:State} {e:Entry} (hg:g.kind=aW) (hf:(judge g s e).gB=0):judge g s e=⟨dL s e,0,0,decide (0<dL s e)⟩:=by
 unfold judge at hf ⊢
 rw [if_pos hg] at hf ⊢
 unfold fD at hf ⊢
 split at hf
 · rename_i h1;have hf:dY s e=0:=hf;omega
 · rename_i h1;rw [if_neg h1]
theorem adN {e:Entry}:called e=true→e.called≠dH:=by
 unfold called
 simp only [decide_eq_true_eq]
 exact fun h=>h.1
theorem agH {g:Game} {s:State} {e:Entry} (h:Ok g s) (hg:g.kind=aW) (he:dV g e=0) (hk:e.kind=dJ) (hl:Lawful g s e) (hf:(judge g s e).gB=0):
 left (next g s e)≤left s∧((next g s e).turn=s.turn→left (next g s e)+(judge g s e).points≤left s):=by
 have hw:=hl.aB;have hv:=Ap g s e h.inr.colour (fun hg hp=>by have:=vM he hk hl.call hg hp;omega);have hm:=XC h hv;have hpo:=afP hg hf;have hbl:=hl.cO hk
 have e3:l9 g s e=gW s e:=by unfold l9;rw [if_pos hg]
 rw [e3] at hbl;obtain ⟨b1,_⟩:=GY hbl;have hcnt:=Fh e.aV dw
 have e2:∀ m v,after g m e v=dB m e v:=fun m v=>by unfold after;rw [if_pos hg]
 rw [Px hk,e2];obtain ⟨m,hmm⟩:∃ m,mid g s (judge g s e)=m:=⟨_,rfl⟩;rw [hmm] at hm ⊢;rw [hpo] at hm ⊢;obtain ⟨P,hP⟩:∃ P,dL s e=P:=⟨_,rfl⟩
 have hP0:0≤P:=by have:=hv.points;rw [hpo] at this;exact hP ▸ this
 rw [hP] at hm ⊢;obtain ⟨m1,m2,m3,m4,m5,m6,m7,m8,m9,m10,m11,m12,m13⟩:=hm
 have hmw:m.aB<0:=by omega
 dsimp only at m1 ⊢
 have hcall:=hl.call
 unfold dB
 rcases Gm h hg with ⟨hp,hc0,hr0⟩ | ⟨hp,hc0,hfr,hfo⟩ | ⟨hp,hr0,hc⟩
 · -- red
   have hpm:m.phase=iI:=m3.trans hp
   have hPe:P=count e.aV dw+(if called e=true then 1 else 0):=by rw [← hP];unfold dL;rw [if_pos hp]
   rw [if_pos (by rw [hpm];exact fun hx=>uO hx.symm),Pg hw hp];have hcf:called e=true→s.free=true:=fun hx=>(aev hcall hk hg (by rw [hp];exact fun hy=>wO hy.symm) (adN hx)).1
   by_cases hst:0<P
   · rw [if_pos ⟨hpm,by simpa using hst⟩,F9 (by exact hmw) rfl]
     show 8*(m.bI - count e.aV dw)+34≤_∧(_→8*(m.bI - count e.aV dw)+34+P≤_)
     have key:8*(m.bI - count e.aV dw)+34+P≤8*s.bI+27+(if s.free=true then 8 else 0):=by
      by_cases hcl:called e=true
      · rw [if_pos hcl] at hPe;rw [if_pos (hcf hcl)];omega
      · rw [if_neg hcl] at hPe;split <;> omega
     exact ⟨by omega,fun _=>key⟩
   · have hc1:¬ called e=true:=fun hx=>by rw [if_pos hx] at hPe;omega
     rw [if_neg hc1] at hPe;rw [if_neg (by simp [hst]),if_pos (by omega),Pg (by exact hmw) rfl]
     show 8*(m.bI - count e.aV dw)+27+(if m.free=true then 8 else 0)≤_∧(_→_+P≤_)
     rw [m6];refine ⟨?_,fun _=>?_⟩ <;> (show (_:Int)≤_) <;> simp <;> split <;> omega
 · -- a colour
   have hpm:m.phase=dW:=m3.trans hp
   have hP7:P≤7:=by
    have hwv:worth s e=value e.called:=by unfold worth;rw [if_neg (by rw [hp];exact wO),if_pos hp]
    rw [← hP]
    unfold dL
    rw [if_neg (by rw [hp];exact wO),hwv]
    have:=(uG e.called).2
    split <;> omega
   rw [if_pos (by rw [hpm];exact fun hx=>rO hx.symm),F9 hw hp,if_neg (by rw [hpm];exact fun hx=>wO hx.1)]
   split
   · rw [Pg (by exact hmw) rfl]
     show 8*(m.bI - count e.aV dw)+27+(if m.free=true then 8 else 0)≤_∧(_→_+P≤_)
     rw [m6];refine ⟨?_,fun _=>?_⟩ <;> (show (_:Int)≤_) <;> simp <;> omega
   · rw [Jg (by exact hmw) rfl ⟨Int.le_refl 2,by show (2:Int)≤7;decide⟩]
     show (2+7)*(8 - 2) / 2+(if m.free=true∧(2:Int)<7 then 2 else 0)≤_∧(_→_+P≤_)
     rw [m6]
     have:=h.inr.bI.1
     refine ⟨?_,fun _=>?_⟩ <;> (show (_:Int)≤_) <;> simp <;> omega
 · -- the end
   have hpm:m.phase=dG:=m3.trans hp;have hpf:=acP (e:=e) hp hc.1
   have hPc:P=0∨P=s.colour:=by
    have hwv:worth s e=s.colour:=by unfold worth;rw [if_neg (by rw [hp];exact uO),if_neg (by rw [hp];exact rO)]
    rw [← hP]
    unfold dL
    rw [if_neg (by rw [hp];exact uO),hwv]
    split
    · exact .inr rfl
    · exact .inl rfl
   rw [hP] at hpf
   have hcf:called e=true→s.free=true∧s.colour<7:=fun hx=>by
    have h1:=aev hcall hk hg (by rw [hp];exact rO) (adN hx);have h2:=h1.2.resolve_left (by rw [hp];exact uO);exact ⟨h1.1,by have:=(uG e.called).2;omega⟩
   rw [if_neg (by rw [hpm];simp),Jg hw hp hc]
   dsimp only
   have ht:=af7 (c:=s.colour);have ht2:=Yf hc
   unfold tri at ht ht2
   have lf:∀ t:State,t.aB<0→t.phase=dG→t.free=false→2≤t.colour∧t.colour≤7→left t=(t.colour+7)*(8 - t.colour) / 2:=fun t h1 h2 h3 h4=>by rw [Jg h1 h2 h4,if_neg (by rw [h3];simp)];omega
   have al7:0≤(if s.free=true∧s.colour<7 then s.colour else 0):=by split <;> omega
   have agq:has e.aV (gQ s.colour)=false→0<P→(if s.free=true∧s.colour<7 then s.colour else 0)=s.colour:=fun hx hy=>by
    rcases hpf.1 hy with h1 | h1
    · rw [if_pos (hcf h1)]
    · rw [h1] at hx;cases hx
   rw [m5];obtain ⟨f,hff⟩:∃ f,(if s.free=true∧s.colour<7 then s.colour else 0)=f:=⟨_,rfl⟩;rw [hff] at al7 agq ⊢;obtain ⟨T,hT⟩:∃ T,(s.colour+7)*(8 - s.colour) / 2=T:=⟨_,rfl⟩;obtain ⟨T',hT'⟩:∃ T,(s.colour+1+7)*(8 - (s.colour+1)) / 2=T:=⟨_,rfl⟩;rw [hT,hT'] at ht;rw [hT] at ht2 ⊢
   cases hpt:has e.aV (gQ s.colour)
   · -- it is not alh
     have same:∀ t:State,t.aB<0→t.phase=dG→t.free=false→t.colour=s.colour→left t≤T+f∧(t.turn=s.turn→left t+P≤T+f):=by
      intro t h1 h2 h3 h4;rw [lf t h1 h2 h3 (by omega),h4,hT];refine ⟨by omega,fun _=>?_⟩
      rcases Int.lt_or_le 0 P with h5 | h5
      · have:=agq hpt h5
        rcases hPc with h6 | h6 <;> omega
      · omega
     simp only [Bool.false_eq_true,and_false,decide_false,if_false,and_true,true_and,if_true]
     split
     · exact same _ hmw hpm m6 rfl
     · exact same _ hmw hpm m6 rfl
   · simp only [and_true,decide_true,Bool.true_eq_false,and_false,if_false,if_true]
     split
     · rename_i h7
       have h7:=ht ⟨hc.1,h7⟩;rw [lf _ (by exact hmw) (by exact hpm) (by exact m6) (by show 2≤s.colour+1∧s.colour+1≤7;omega)]
       show (s.colour+1+7)*(8 - (s.colour+1)) / 2≤T+f∧(_→(s.colour+1+7)*(8 - (s.colour+1)) / 2+P≤T+f)
       rw [hT'];refine ⟨by omega,fun _=>?_⟩
       rcases hPc with h6 | h6 <;> omega
     · rename_i h7
       split
       · have hlw:=(Dl m).1
         rw [Ph (by exact hlw)];refine ⟨by omega,fun _=>?_⟩
         rcases hPc with h6 | h6 <;> omega
       · have hst:0<P:=hpf.2 (.inr hpt)
         have hmt:m.turn=s.turn:=by rw [m1,if_pos (by simpa using hst)]
         rw [lf _ (by exact hmw) (by exact hpm) (by exact m6) (by show 2≤s.colour∧s.colour≤7;omega)]
         show (s.colour+7)*(8 - s.colour) / 2≤T+f∧(1 - m.turn=s.turn→(s.colour+7)*(8 - s.colour) / 2+P≤T+f)
         rw [hT];exact ⟨by omega,fun hx=>by have:=h.inr.turn;omega⟩
end Sk
namespace Sk
def aad (s:State):Entry:=
 if s.free=true∧(s.phase=iI∨s.colour<7) then EF qj qj
 else if s.phase=dW then EF qj qj
 else if s.phase=dG then EF dH (gQ s.colour)
 else EF dH dw
def aat (s:State):Int:=
 if s.phase=iI then 2*s.bI+6+(if s.free then 2 else 0)
 else if s.phase=dW then 2*s.bI+7
 else 8 - s.colour+(if s.free=true∧s.colour<7 then 1 else 0)
theorem aaB:value qj=7:=by decide+kernel
theorem ac5 (b:ByteArray):has [b] b=true:=by unfold has;simp
theorem adf {b c:ByteArray} (h:b≠c):has [b] c=false:=by unfold has;simp [h]
theorem aaR (b:ByteArray):count [b] b=1:=by unfold count;simp
theorem acn {b c:ByteArray} (h:b≠c):count [b] c=0:=by unfold count;simp [h]
theorem count_one (b c:ByteArray):count [b] c≤1:=by
 by_cases h:b=c
 · subst h;rw [aaR];omega
 · rw [acn h];omega
theorem ae2 (b:ByteArray):∀ l,twice [b] l=false
 | []=>rfl
 | c::l=>by unfold twice;have:=count_one b c;rw [ae2 b l];simp;omega
theorem ahd {c:Int} (h:2≤c∧c≤7):value (gQ c)=c∧gQ c≠dH∧gQ c≠bQ∧gQ c≠dw∧(c<7→gQ c≠qj):=by
 have:c=2∨c=3∨c=4∨c=5∨c=6∨c=7:=by omega
 rcases this with rfl | rfl | rfl | rfl | rfl | rfl <;> decide+kernel
theorem ah0 {s:State} (h:s.phase=iI):on s=[dw]:=by unfold on;rw [if_pos h]
theorem ad5 {s:State} (h:s.phase=dG):on s=[gQ s.colour]:=by unfold on;rw [if_neg (by rw [h];exact uO),if_neg (by rw [h];exact rO)]
theorem ajw {g:Game} (hg:g.kind=aW) {b:ByteArray} (h:0<value b) (f:Bool):fB g b f=true:=by unfold fB;rw [if_pos hg];simp [h]
theorem akm {g:Game} (hg:g.kind=aW) {c b:ByteArray} (hc:c≠dH→2≤value c) (hb:0<value b):dV g (EF c b)=0:=by
 unfold dV EF
 have h1:isKind dJ=true:=by decide
 have hn:g.kind≠dZ:=by rw [hg];exact fun hx=>rF hx.symm
 rw [if_neg (by simp [h1]),if_neg (by simp),if_neg (by simp),if_neg (by
  simp only [List.any_cons,List.any_nil,Bool.or_false,ajw hg hb]
  simp only [not_or]
  exact ⟨fun hx=>by have:=hc hx.1;omega,by simp,by simp⟩),if_neg (by show ¬ out 0 0 99=true;decide),if_neg (by simp [hg])]
theorem ajE {s:State} {c b:ByteArray} (hd:due s (EF c b)=b) (hw:b≠bQ) (hwt:wanted s (EF c b) b=true):dY s (EF c b)=0:=by
 unfold dY
 rw [if_neg (by simp [EF]),if_neg (by rw [hd];simp [EF]),if_neg (by show ¬ has [b] bQ=true;rw [adf hw];simp),if_neg (by
  show ¬ ([b].any fun x=>wanted s (EF c b) x=false)=true
  simp [hwt])]
theorem aeL {g:Game} (hg:g.kind=aW) {s:State} {c b:ByteArray} (hd:due s (EF c b)=b) (hw:b≠bQ) (hwt:wanted s (EF c b) b=true):judge g s (EF c b)=⟨dL s (EF c b),0,0,decide (0<dL s (EF c b))⟩:=by
 unfold judge
 rw [if_pos hg]
 unfold fD
 rw [ajE hd hw hwt,if_neg (by decide)]
theorem agX {g:Game} (hg:g.kind=aW) {s:State} {c b:ByteArray} (h:Ok g s) (hw:s.aB<0) (hs:s.s0≤95000∧s.s1≤95000) (hcall:iy g s (EF c b)=true) (I9:b=dw→0<s.bI) (hgo:s.phase=dG→s.colour≤value b∨value b<2)
 (hd:due s (EF c b)=b) (hwh:b≠bQ) (hwt:wanted s (EF c b) b=true) (hp:dL s (EF c b)≤7):legal g s (EF c b)=0:=by
 have hk:(EF c b).kind=dJ:=rfl;refine uP.2 ⟨hw,fun hx=>?_,hcall,fun _=>?_,fun _=>?_⟩
 · rcases hx with hx | hx
   · exact absurd (show dJ=jI from hx) (by decide)
   · exact absurd (show dJ=kL from hx) (by decide)
 · have e3:l9 g s (EF c b)=gW s (EF c b):=by unfold l9;rw [if_pos hg]
   rw [e3]
   unfold gW
   have hr0:=h.inr.bI.1
   have hg0:gone s b=false:=by
    unfold gone
    simp only [decide_eq_false_iff_not]
    rintro ⟨h1,h2,h3⟩
    have:=hgo h1
    omega
   rw [if_neg (by
    show ¬ (s.bI<count [b] dw∨(s.bI=0∧has [b] dw=true))
    by_cases hb:b=dw
    · have:=I9 hb
      subst hb;rw [aaR]
      omega
    · rw [acn hb,adf hb]
      simp
      omega),if_neg (by show ¬ twice [b] _=true;rw [ae2];simp)]
   show decide (([b].any (gone s)=false)∧([b].any (gone s)=false))=true
   simp [hg0]
 · have hn:=adx (g:=g) (s:=s) hk
   have hj:=aeL hg hd hwh hwt;rw [hn.1,hn.2,hj]
   dsimp only
   have:=h.inr.turn
   repeat' split
   all_goals omega
structure agh (g:Game) (s:State):Prop where
 ent:dV g (aad s)=0
 legal:legal g s (aad s)=0
 gB:(judge g s (aad s)).gB=0
 points:0<(judge g s (aad s)).points∧(judge g s (aad s)).points≤7
 next:(judge g s (aad s)).points=left s∨((next g s (aad s)).turn=s.turn∧(next g s (aad s)).aB<0∧left (next g s (aad s))+(judge g s (aad s)).points=left s∧aat (next g s (aad s))+1=aat s)
theorem ahS {g:Game} (hg:g.kind=aW) {s:State} {c b:ByteArray}:next g s (EF c b)=dB (mid g s (judge g s (EF c b))) (EF c b) (judge g s (EF c b)):=by
 rw [Px rfl]
 unfold after
 rw [if_pos hg]
theorem agP {g:Game} {s:State} {P:Int} (hP:0<P):mid g s ⟨P,0,0,decide (0<P)⟩=mO g s ⟨P,0,0,decide (0<P)⟩:=by unfold mid;rw [if_pos (by simpa using hP)]
theorem aed {g:Game} (hg:g.kind=aW) {s:State} (h:Ok g s) (hw:s.aB<0) (hs:s.s0≤95000∧s.s1≤95000) (c b:ByteArray) (he:aad s=EF c b) (hc:c≠dH→2≤value c) (hb:0<value b) (hcall:iy g s (EF c b)=true) (I9:b=dw→0<s.bI)
 (hgo:s.phase=dG→s.colour≤value b∨value b<2) (hd:due s (EF c b)=b) (hwh:b≠bQ) (hwt:wanted s (EF c b) b=true) (hp:0<dL s (EF c b)∧dL s (EF c b)≤7)
 (hn:dL s (EF c b)=left s∨∀ n,n=dB (mO g s ⟨dL s (EF c b),0,0,true⟩) (EF c b) ⟨dL s (EF c b),0,0,true⟩→n.turn=s.turn∧n.aB<0∧left n+dL s (EF c b)=left s∧aat n+1=aat s):agh g s:=by
 have hj:=aeL hg hd hwh hwt
 have ht:decide (0<dL s (EF c b))=true:=by simpa using hp.1
 refine ⟨by rw [he];exact akm hg hc hb,by rw [he];exact agX hg h hw hs hcall I9 hgo hd hwh hwt hp.2,by rw [he,hj],by rw [he,hj];exact hp,?_⟩;rw [he,hj]
 rcases hn with hn | hn
 · exact .inl hn
 · refine .inr ?_
   have e1:=ahS hg (s:=s) (c:=c) (b:=b);rw [hj,agP hp.1,ht] at e1;exact hn _ e1
theorem aeD {g:Game} {s:State} {b:ByteArray} (hp:s.phase≠dW):iy g s (EF dH b)=true:=by
 unfold iy
 split
 · rfl
 · simp [EF]
theorem aal:qj≠dH:=by decide
theorem ab9 {b:ByteArray} (h:b≠dH):called (EF b b)=true:=by unfold called EF;simp [h,ac5]
theorem afq {b:ByteArray}:called (EF dH b)=false:=by unfold called EF;simp
theorem adV {s:State} {b:ByteArray} (h:b≠dH):due s (EF b b)=b:=by unfold due;rw [if_neg (by exact h)];rfl
theorem ahu {s:State} {b:ByteArray} (h:on s=[b]):due s (EF dH b)=b:=by unfold due;rw [if_pos (show (EF dH b).called=dH from rfl),h];rfl
theorem adp {s:State} {b:ByteArray} (h:b≠dH):wanted s (EF b b) b=true:=by unfold wanted EF;simp [h]
theorem agz {s:State} {b:ByteArray} (hp:s.phase≠dW) (h:on s=[b]):wanted s (EF dH b) b=true:=by unfold wanted;simp [hp,h,ac5]
theorem ajg {g:Game} (hg:g.kind=aW) {s:State} (h:Ok g s) (hw:s.aB<0) (hs:s.s0≤95000∧s.s1≤95000):agh g s:=by
 have hrr:=h.inr.bI.1;have cbr:count [qj] dw=0:=acn (by decide)
 rcases Gm h hg with ⟨hp,hc0,hr0⟩ | ⟨hp,hc0,hfr,hfo⟩ | ⟨hp,hr0,hc⟩
 · have hnc:s.phase≠dW:=by rw [hp];exact fun hx=>wO hx.symm
   have hnf:s.phase≠dG:=by rw [hp];exact fun hx=>uO hx.symm
   cases hf:s.free
   · have hpt:dL s (EF dH dw)=1:=by unfold dL;rw [if_pos hp,afq];show count [dw] dw+_=1;rw [aaR];rfl
     refine aed hg h hw hs dH dw (by unfold aad;rw [if_neg (by simp [hf]),if_neg hnc,if_neg hnf]) (fun hx=>absurd rfl hx) (by decide+kernel) (aeD hnc) (fun _=>hr0) (fun hx=>absurd hx hnf) (ahu (ah0 hp)) (by decide) (agz hnc (ah0 hp)) (by rw [hpt];omega) (.inr fun n hn=>?_);rw [hpt] at hn ⊢
     unfold dB at hn
     rw [if_pos (by show s.phase≠dG;exact hnf),if_pos ⟨by exact hp,rfl⟩] at hn;subst hn;refine ⟨rfl,hw,?_,?_⟩
     · rw [F9 (by exact hw) rfl,Pg hw hp,hf]
       show 8*(s.bI - count [dw] dw)+34+1=8*s.bI+27+0
       rw [aaR];omega
     · unfold aat
       rw [if_neg (by exact wO),if_pos rfl,if_pos hp,hf]
       show 2*(s.bI - count [dw] dw)+7+1=2*s.bI+6+0
       rw [aaR];omega
   · have hpt:dL s (EF qj qj)=1:=by unfold dL;rw [if_pos hp,ab9 aal];show count [qj] dw+_=1;rw [cbr];rfl
     refine aed hg h hw hs qj qj (by unfold aad;rw [if_pos ⟨hf,.inl hp⟩]) (fun _=>by rw [aaB];omega) (by rw [aaB];omega) ?_ (fun hx=>absurd hx (by decide)) (fun hx=>absurd hx hnf) (adV aal) (by decide) (adp aal) (by rw [hpt];omega) (.inr fun n hn=>?_)
     · unfold iy
       rw [if_neg (by simp [EF,hg]),if_neg hnc]
       simp only [decide_eq_true_eq]
       right
       unfold callable
       rw [if_neg (by simp [hf]),if_pos hp]
       show decide (2≤value qj)=true
       rw [aaB];rfl
     · rw [hpt] at hn ⊢
       unfold dB at hn
       rw [if_pos (by show s.phase≠dG;exact hnf),if_pos ⟨by exact hp,rfl⟩] at hn;subst hn;refine ⟨rfl,hw,?_,?_⟩
       · rw [F9 (by exact hw) rfl,Pg hw hp,hf]
         show 8*(s.bI - count [qj] dw)+34+1=8*s.bI+27+8
         rw [cbr];omega
       · unfold aat
         rw [if_neg (by exact wO),if_pos rfl,if_pos hp,hf]
         show 2*(s.bI - count [qj] dw)+7+1=2*s.bI+6+2
         rw [cbr];omega
 · have hnr:s.phase≠iI:=by rw [hp];exact wO
   have hnf:s.phase≠dG:=by rw [hp];exact fun hx=>rO hx.symm
   have hwv:worth s (EF qj qj)=7:=by unfold worth;rw [if_neg hnr,if_pos hp];exact aaB
   have hpt:dL s (EF qj qj)=7:=by unfold dL;rw [if_neg hnr,if_pos (.inl (ab9 aal)),hwv]
   refine aed hg h hw hs qj qj (by unfold aad;rw [if_neg (by simp [hfr]),if_pos hp]) (fun _=>by rw [aaB];omega) (by rw [aaB];omega) ?_ (fun hx=>absurd hx (by decide)) (fun hx=>absurd hx hnf) (adV aal) (by decide) (adp aal) (by rw [hpt];omega) (.inr fun n hn=>?_)
   · unfold iy
     rw [if_neg (by simp [EF,hg]),if_pos hp]
     simp [EF]
   · rw [hpt] at hn ⊢
     unfold dB at hn
     rw [if_pos (by show s.phase≠dG;exact hnf),if_neg (fun hx=>hnr hx.1)] at hn
     have e1:(mO g s ⟨7,0,0,true⟩).bI - count (EF qj qj).aV dw=s.bI:=by show s.bI - count [qj] dw=s.bI;rw [cbr];omega
     rw [e1] at hn
     by_cases hr:0<s.bI
     · rw [if_pos hr] at hn
       subst hn;refine ⟨rfl,hw,?_,?_⟩
       · rw [Pg (by exact hw) rfl,F9 hw hp]
         show 8*s.bI+27+0+7=_
         omega
       · unfold aat
         rw [if_pos rfl,if_neg hnr,if_pos hp]
         show 2*s.bI+6+0+1=_
         omega
     · rw [if_neg hr] at hn
       subst hn;refine ⟨rfl,hw,?_,?_⟩
       · rw [Jg (by exact hw) rfl ⟨Int.le_refl 2,by show (2:Int)≤7;decide⟩,F9 hw hp]
         show (2+7)*(8 - 2) / 2+(if false=true∧(2:Int)<7 then 2 else 0)+7=_
         simp;omega
       · unfold aat
         rw [if_neg (by exact uO),if_neg (by exact rO),if_neg hnr,if_pos hp]
         show 8 - 2+(if false=true∧(2:Int)<7 then 1 else 0)+1=_
         simp;omega
 · have hnr:s.phase≠iI:=by rw [hp];exact uO
   have hnc:s.phase≠dW:=by rw [hp];exact rO
   have hwv:∀ e,worth s e=s.colour:=fun e=>by unfold worth;rw [if_neg hnr,if_neg hnc]
   obtain ⟨v1,v2,v3,v4,v5⟩:=ahd hc
   by_cases hf:s.free=true∧s.colour<7
   · have hpt:dL s (EF qj qj)=s.colour:=by unfold dL;rw [if_neg hnr,if_pos (.inl (ab9 aal)),hwv]
     refine aed hg h hw hs qj qj (by unfold aad;rw [if_pos ⟨hf.1,.inr hf.2⟩]) (fun _=>by rw [aaB];omega) (by rw [aaB];omega) ?_ (fun hx=>absurd hx (by decide)) (fun _=> .inl (by rw [aaB];omega)) (adV aal) (by decide) (adp aal) (by rw [hpt];omega) (.inr fun n hn=>?_)
     · unfold iy
       rw [if_neg (by simp [EF,hg]),if_neg hnc]
       simp only [decide_eq_true_eq]
       right
       unfold callable
       rw [if_neg (by simp [hf.1]),if_neg hnr]
       show decide (s.phase=dG∧s.colour<value qj)=true
       rw [aaB];simp [hp,hf.2]
     · rw [hpt] at hn ⊢
       have hnp:has [qj] (gQ s.colour)=false:=adf (fun hx=>v5 hf.2 hx.symm)
       unfold dB at hn
       rw [if_neg (by show ¬ s.phase≠dG;simp [hp])] at hn
       dsimp only at hn
       have e1:has (EF qj qj).aV (gQ (mO g s ⟨s.colour,0,0,true⟩).colour)=false:=hnp;rw [e1,if_pos (by exact hf.2)] at hn
       simp only [Bool.false_eq_true,and_false,decide_false,if_false] at hn
       subst hn;refine ⟨rfl,hw,?_,?_⟩
       · rw [Jg (by exact hw) (by exact hp) (by exact hc),Jg hw hp hc,if_pos hf]
         show (s.colour+7)*(8 - s.colour) / 2+(if false=true∧s.colour<7 then s.colour else 0)+s.colour=_
         simp
       · unfold aat
         rw [if_neg (by exact hnr),if_neg (by exact hnc),if_neg hnr,if_neg hnc,if_pos hf]
         show 8 - s.colour+(if false=true∧s.colour<7 then 1 else 0)+1=_
         simp
   · have hpt:dL s (EF dH (gQ s.colour))=s.colour:=by
      unfold dL
      rw [if_neg hnr,if_pos (.inr ⟨by rw [ad5 hp];exact ac5 _,hp⟩),hwv]
     refine aed hg h hw hs dH (gQ s.colour) (by unfold aad;rw [if_neg (fun hx=>hx.2.elim hnr (fun hy=>hf ⟨hx.1,hy⟩)),if_neg hnc,if_pos hp]) (fun hx=>absurd rfl hx) (by rw [v1];omega) (aeD hnc) (fun hx=>absurd hx v4) (fun _=> .inl (by rw [v1];omega)) (ahu (ad5 hp)) v3 (agz hnc (ad5 hp)) (by rw [hpt];omega) ?_;rw [hpt]
     by_cases h7:s.colour<7
     · refine .inr fun n hn=>?_
       unfold dB at hn
       rw [if_neg (by show ¬ s.phase≠dG;simp [hp])] at hn
       dsimp only at hn
       have e1:has (EF dH (gQ s.colour)).aV (gQ (mO g s ⟨s.colour,0,0,true⟩).colour)=true:=ac5 _;rw [e1,if_pos (by exact h7)] at hn
       simp only [and_true,decide_true,if_true] at hn
       subst hn;have hts:=af7 ⟨hc.1,h7⟩
       unfold tri at hts
       refine ⟨rfl,hw,?_,?_⟩
       · rw [Jg (by exact hw) (by exact hp) (by show 2≤s.colour+1∧s.colour+1≤7;omega),Jg hw hp hc,if_neg hf]
         show (s.colour+1+7)*(8 - (s.colour+1)) / 2+(if false=true∧s.colour+1<7 then s.colour+1 else 0)+s.colour=_
         simp;omega
       · unfold aat
         rw [if_neg (by exact hnr),if_neg (by exact hnc),if_neg hnr,if_neg hnc,if_neg hf]
         show 8 - (s.colour+1)+(if false=true∧s.colour+1<7 then 1 else 0)+1=_
         simp;omega
     · refine .inl ?_
       have:s.colour=7:=by omega
       rw [Jg hw hp hc,if_neg hf,this]
       decide
theorem acX {g:Game} (hg:g.kind=aW) {s:State} (h:Ok g s):1≤aat s∧aat s≤38:=by
 have hr:=h.inr.bI
 have hgr:g.bI≤15:=by rcases iM h.game with ⟨_,a,_⟩ | ⟨a,_⟩ | ⟨a,_⟩;exact a.2;rw [hg] at a;exact absurd a.symm rD;rw [hg] at a;exact absurd a.symm rF
 unfold aat
 rcases Gm h hg with ⟨hp,_⟩ | ⟨hp,_⟩ | ⟨hp,_,hc⟩
 · rw [if_pos hp];split <;> omega
 · rw [if_neg (by rw [hp];exact wO),if_pos hp];omega
 · rw [if_neg (by rw [hp];exact uO),if_neg (by rw [hp];exact rO)];split <;> omega
end Sk
end Go.Proofs.YtjbbfmofpjflmaaGreatDoor
