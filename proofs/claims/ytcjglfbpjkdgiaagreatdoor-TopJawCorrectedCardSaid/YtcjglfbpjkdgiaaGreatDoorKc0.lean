/- Parts of a proof. -/
import Derived.Lib.Hide
set_option linter.unusedVariables false
set_option linter.unusedSimpArgs false
namespace Go.Proofs.YtcjglfbpjkdgiaaGreatDoor
namespace M
abbrev dR:ByteArray:=⟨#[98,114,101,97,107]⟩
abbrev nP:ByteArray:=⟨#[112,108,97,121]⟩
abbrev DK:ByteArray:=⟨#[115,97,102,101,116,121]⟩
abbrev fJ:ByteArray:=⟨#[112,117,115,104]⟩
abbrev gU:ByteArray:=⟨#[112,97,115,115]⟩
abbrev bf:ByteArray:=⟨#[99,111,110,99,101,100,101]⟩
abbrev aH:ByteArray:=⟨#[115,116,114,97,105,103,104,116]⟩
abbrev bC:ByteArray:=⟨#[101,105,103,104,116]⟩
abbrev dJ:ByteArray:=⟨#[110,105,110,101]⟩
structure ny where
 aT:Int
 aX:Int
 deriving DecidableEq
structure Rules where
 game:ByteArray
 target:Int
 bG:Int
structure aV where
 aN:Int
 kind:ByteArray
 aT:Int
 aX:Int
 first:Int
 dK:Bool
 aF:List ny
structure State where
 turn:Int
 brk:Bool
 hand:Bool
 push:Bool
 pushed:Bool
 group:Int
 aA:List Int
 s0:Int
 s1:Int
 f0:Int
 f1:Int
 run:Int
 bI:Int
 over:Bool
 bQ:Int
def isKind (k:ByteArray):Bool:=k=dR∨k=nP∨k=DK∨k=fJ∨k=gU∨k=bf
def mY (g:ByteArray):Bool:=g=aH∨g=bC∨g=dJ
def out (n a b:Int):Bool:=n<a∨b<n
def bP (r:Rules):Int:=
 if mY r.game=false then 13
 else if (r.game=aH∧out r.target 1 200)∨(r.game≠aH∧r.target≠0)∨(r.bG≠0∧out r.bG 2 9) then 3
 else 0
def fE (seen:List ny):List ny→Int
 | []=>0
 | p::l=>
   if out p.aT 0 15∨out p.aX 1 6 then 3
   else if p.aT∈seen.map (·.aT) then 9
   else fE (seen++[p]) l
def fO (x:aV):Int:=
 if out x.aN 0 1 then 3
 else if isKind x.kind=false then 13
 else if out x.aT 0 15∨out x.aX 0 6∨out x.first 0 15 then 3
 else if decide (x.aT=0)≠decide (x.aX=0) then 2
 else if 16<x.aF.length then 5
 else 0
def oZ (x:aV):Int:=
 if (x.kind=gU∨x.kind=bf)∧(x.aT≠0∨x.first≠0∨x.dK∨x.aF≠[]) then 1 else 0
def cZ (x:aV):Int:=
 if fO x≠0 then fO x
 else if fE [] x.aF≠0 then fE [] x.aF
 else oZ x
def gy:List aV→Int
 | []=>0
 | x::l=>if cZ x≠0 then cZ x else gy l
def dB (l:List aV):Int:=if 1000<l.length then 5 else gy l
def jG (n:Nat):List Int:=(List.range n).map fun (i:Nat)=>(i:Int)+1
def zY (g:ByteArray):Nat:=if g=dJ then 9 else 15
def iV (r:Rules):List Int:=jG (zY r.game)
def start (r:Rules):State:={turn:=0,brk:=true,hand:=false,push:=false,pushed:=false,group:=0,aA:=iV r,s0:=0,s1:=0,f0:=0,f1:=0,run:=0,bI:=1,over:=false,bQ:=0 }
def zero:State:={turn:=0,brk:=false,hand:=false,push:=false,pushed:=false,group:=0,aA:=[],s0:=0,s1:=0,f0:=0,f1:=0,run:=0,bI:=0,over:=false,bQ:=0 }
def side (b:Int):Int:=if b<8 then 1 else if 8<b then 2 else 0
def own (s:State):Int:=if s.group=0∨s.turn=0 then s.group else 3 - s.group
def Dk (s:State):List Int:=s.aA.filter fun b=>b≠8∧(s.group=0∨side b=own s)
def targets (r:Rules) (s:State):List Int:=
 if r.game=aH∨(r.game=bC∧s.brk) then s.aA
 else if r.game=dJ then s.aA.take 1
 else if Dk s=[]∧(8:Int)∈s.aA then [8] else Dk s
def calls (r:Rules) (x:aV):Bool:=x.kind=nP∧r.game≠dJ
def objects (x:aV):List Int:=(x.aF.map (·.aT)).filter (· ≠0)
def legal (r:Rules) (s:State) (x:aV):Int:=
 if s.over then 1
 else if x.aN≠s.turn∧x.kind≠bf then 2
 else if (s.brk∧x.kind≠dR∧x.kind≠bf)∨(s.brk=false∧x.kind=dR) then 3
 else if (x.kind=fJ∧s.push=false)∨(x.kind=gU∧s.pushed=false) then 4
 else if (calls r x∧x.aT ∉ s.aA)∨(calls r x=false∧x.aT≠0) then 5
 else if x.first≠0∧x.first ∉ s.aA then 6
 else if (objects x).any (fun b=>x.first=0∨b ∉ s.aA) then 7
 else 0
def fU (r:Rules) (s:State) (x:aV):Int:=
 if x.kind=gU∨x.kind=bf then 0
 else if (objects x).length<x.aF.length then 1
 else if x.first=0 then 2
 else if x.kind=fJ then 0
 else if x.first ∉ targets r s then 3
 else if x.dK=false∧x.aF=[] then 4
 else 0
def good (r:Rules) (s:State) (x:aV):Bool:=
 if fU r s x≠0∨x.aF=[] then false
 else if x.kind=dR then r.game≠aH
 else if x.kind≠nP then false
 else x.aF.any fun p=>p=⟨x.aT,x.aX⟩∨r.game=dJ
def stays (r:Rules) (s:State) (x:aV) (b:Int):Bool:=
 (b ∉ objects x)∨(r.game=aH∧good r s x=false)∨(r.game=bC∧b=8∧x.kind=dR)∨(r.game=dJ∧b=9∧good r s x=false)
def left (r:Rules) (s:State) (x:aV):List Int:=s.aA.filter (stays r s x)
def sel (p a b:Int):Int:=if p=0 then a else b
def State.score (s:State) (p:Int):Int:=sel p s.s0 s.s1
def State.jC (s:State) (p:Int):Int:=sel p s.f0 s.f1
def State.rH (s:State) (p n:Int):State:=if p=0 then {s with s0:=n } else {s with s1:=n }
def State.rG (s:State) (p n:Int):State:=if p=0 then {s with f0:=n } else {s with f1:=n }
def calm (r:Rules) (s:State) (x:aV):State:={s with brk:=false,hand:=false,push:=r.game=dJ∧x.kind=dR,pushed:=x.kind=fJ }
def won (r:Rules) (s:State) (x:aV):Bool:=good r s x∧x.aT=8∧targets r s=[8]
def ended (r:Rules) (s:State) (x:aV) (t:State):State:=
 if r.game=aH∧good r s x∧r.target≤t.score x.aN then {t with over:=true,bQ:=x.aN }
 else if r.game=dJ∧good r s x∧(9:Int)∈objects x then {t with over:=true,bQ:=x.aN }
 else if r.game=bC∧x.kind≠dR∧(8:Int)∈objects x then {t with over:=true,bQ:=if won r s x then x.aN else 1 - x.aN }
 else t
def limit (r:Rules) (t:State) (p:Int):State:=
 if r.game≠aH then {t with over:=true,bQ:=1 - p }
 else {(t.rH p (t.score p - 15)).rG p 0 with aA:=iV r,brk:=true,bI:=t.bI+1 }
def counted (r:Rules) (s:State) (x:aV):State:=
 let t:={calm r s x with aA:=left r s x }
 let n:Int:=(objects x).length
 let t:=if good r s x then {t.rH x.aN (t.score x.aN+n) with run:=t.run+n } else t
 if fU r s x=0 then t.rG x.aN 0
 else
  let t:={t.rG x.aN (t.jC x.aN+1) with run:=0 }
  if r.game=aH then t.rH x.aN (t.score x.aN - 1) else t
def passed (r:Rules) (s:State) (x:aV) (t:State):State:={t with turn:=1 - x.aN,run:=0,hand:=fU r s x≠0∧(r.game≠aH∨fU r s x=1) }
def grouped (r:Rules) (s:State) (x:aV) (t:State):State:=
 if r.game=bC∧x.kind=nP∧s.group=0 then {t with group:=if x.aN=1 then 3 - side x.aT else side x.aT } else t
def eX (r:Rules) (t:State):State:=if r.game=aH∧t.aA.length≤1 then {t with aA:=iV r,bI:=t.bI+1 } else t
def play (r:Rules) (s:State) (x:aV):State:=
 let t:=ended r s x (counted r s x)
 if t.over then t
 else if fU r s x≠0∧t.jC x.aN=r.bG then limit r t x.aN
 else if good r s x=false then passed r s x t
 else eX r (grouped r s x t)
def next (r:Rules) (s:State) (x:aV):State:=
 if x.kind=bf then {s with over:=true,bQ:=1 - x.aN }
 else if x.kind=gU then {calm r s x with turn:=1 - x.aN,run:=0 }
 else play r s x
def step (r:Rules) (s:State) (x:aV):State:=if legal r s x=0 then next r s x else s
def states (r:Rules) (s:State):List aV→List State
 | []=>[]
 | x::l=>step r s x::states r (step r s x) l
def final (r:Rules) (s:State) (l:List aV):State:=l.foldl (step r) s
structure uz where
 number:Int
 rule:Int
 deriving DecidableEq
structure Note where
 number:Int
 aN:Int
 rule:Int
 fU:Int
 points:Int
 turn:Bool
 deriving DecidableEq
def iP (r:Rules) (s:State) (n:Int):List aV→List uz
 | []=>[]
 | x::l=>(if legal r s x≠0 then [⟨n,legal r s x⟩] else [])++iP r (step r s x) (n+1) l
def note (r:Rules) (s:State) (n:Int) (x:aV):Note:=
 if legal r s x≠0 then ⟨n,x.aN,legal r s x,0,0,false⟩
 else ⟨n,x.aN,0,fU r s x,(next r s x).score x.aN - s.score x.aN,(next r s x).turn≠s.turn⟩
def notes (r:Rules) (s:State) (n:Int):List aV→List Note
 | []=>[]
 | x::l=>note r s n x::notes r (step r s x) (n+1) l
end M
namespace M
def fB (i:Int):List Bool→Int
 | []=>0
 | b::l=>if b then fB (i+1) l else i
def permitted (s:State) (k:ByteArray):Bool:=if k=fJ then s.push else if k=gU then s.pushed else true
def q2 (s:State) (x:aV):Bool:=x.kind=bf∨x.aN=s.turn
def q3 (s:State) (x:aV):Bool:=x.kind=bf∨s.brk=decide (x.kind=dR)
def q5 (r:Rules) (s:State) (x:aV):Bool:=(calls r x∧x.aT∈s.aA)∨(calls r x=false∧x.aT=0)
def q6 (s:State) (x:aV):Bool:=x.first=0∨x.first∈s.aA
def q7 (s:State) (x:aV):Bool:=((objects x).any (fun b=>decide (b ∉ s.aA)))=false∧(0<x.first∨objects x=[])
def DU (r:Rules) (s:State) (x:aV):List Bool:=[!s.over,q2 s x,q3 s x,permitted s x.kind,q5 r s x,q6 s x,q7 s x]
theorem WV (o:Bool) (P2 P3 P4 P5 P6:Prop) (b7:Bool) [Decidable P2] [Decidable P3] [Decidable P4] [Decidable P5] [Decidable P6]:
 (if o then (1:Int) else if P2 then 2 else if P3 then 3 else if P4 then 4 else if P5 then 5 else if P6 then 6 else if b7 then 7 else 0)=fB 1 [!o, !decide P2, !decide P3, !decide P4, !decide P5, !decide P6, !b7]:=by
 cases o
 · by_cases h2:P2
   · simp [fB,h2]
   by_cases h3:P3
   · simp [fB,h2,h3]
   by_cases h4:P4
   · simp [fB,h2,h3,h4]
   by_cases h5:P5
   · simp [fB,h2,h3,h4,h5]
   by_cases h6:P6
   · simp [fB,h2,h3,h4,h5,h6]
   cases b7 <;> simp [fB,h2,h3,h4,h5,h6]
 · simp [fB]
theorem DW:fJ≠gU:=by decide
theorem LK (r:Rules) (s:State) (x:aV) (hf:0≤x.first):legal r s x=fB 1 (DU r s x):=by
 unfold legal DU
 have h2:q2 s x= !decide (x.aN≠s.turn∧x.kind≠bf):=by
  unfold q2;by_cases h1:x.kind=bf <;> by_cases h2:x.aN=s.turn <;> simp [h1,h2]
 have h3:q3 s x= !decide ((s.brk∧x.kind≠dR∧x.kind≠bf)∨(s.brk=false∧x.kind=dR)):=by
  unfold q3
  have hbc:bf≠dR:=by decide
  by_cases h1:x.kind=bf
  · simp [h1,hbc]
  · by_cases h2:x.kind=dR <;> cases s.brk <;> simp [h1,h2]
 have h4:permitted s x.kind= !decide ((x.kind=fJ∧s.push=false)∨(x.kind=gU∧s.pushed=false)):=by
  unfold permitted
  by_cases h1:x.kind=fJ
  · simp [h1,DW]
  · by_cases h2:x.kind=gU <;> simp [h1,h2]
 have h5:q5 r s x= !decide ((calls r x∧x.aT ∉ s.aA)∨(calls r x=false∧x.aT≠0)):=by
  unfold q5;cases calls r x <;> by_cases h2:x.aT∈s.aA <;> by_cases h3:x.aT=0 <;> simp [h2,h3]
 have h6:q6 s x= !decide (x.first≠0∧x.first ∉ s.aA):=by
  unfold q6;by_cases h2:x.first∈s.aA <;> by_cases h3:x.first=0 <;> simp [h2,h3]
 have h7:q7 s x= !((objects x).any (fun b=>x.first=0∨b ∉ s.aA)):=by
  unfold q7
  rcases h0:objects x with _ | ⟨b,l⟩
  · simp
  · by_cases h3:x.first=0
    · simp [h3]
    · have:0<x.first:=by omega
      simp only [h3,false_or,this,true_or,and_true]
      cases (b::l).any fun b=>decide (b ∉ s.aA) <;> simp
 rw [h2,h3,h4,h5,h6,h7];exact WV _ _ _ _ _ _ _
def jr (k:ByteArray):Bool:=k≠gU∧k≠bf
def jU (x:aV):Bool:=x.aF.any fun p=>decide (p.aT=0)
def JK (r:Rules) (s:State) (x:aV):List Bool:=
 [!jU x,decide (0<x.first),decide (x.kind=fJ∨x.first∈targets r s),decide (x.kind=fJ∨x.dK=true∨0<(objects x).length)]
theorem qK (x:aV):decide ((objects x).length<x.aF.length)=jU x:=by
 unfold objects jU
 induction x.aF with
 | nil=>rfl
 | cons p l ih=>
   have hl:=List.length_filter_le (fun b:Int=>decide (b≠0)) (l.map (·.aT));rw [List.length_map] at hl
   simp only [List.map_cons,List.any_cons,List.length_cons]
   by_cases h:p.aT=0
   · rw [List.filter_cons_of_neg (by simp [h])]
     simp only [h,decide_true,Bool.true_or,decide_eq_true_eq]
     omega
   · rw [List.filter_cons_of_pos (by simp [h]), ← ih]
     simp [h]
theorem xB (x:aV) (h:jU x=false):(objects x).length=x.aF.length:=by
 have h1:=qK x;rw [h,decide_eq_false_iff_not] at h1;have h2:=List.length_filter_le (fun b:Int=>decide (b≠0)) (x.aF.map (·.aT));rw [List.length_map] at h2
 unfold objects at h1 ⊢
 omega
theorem OY (r:Rules) (s:State) (x:aV) (hf:0≤x.first):fU r s x=if jr x.kind then fB 1 (JK r s x) else 0:=by
 unfold fU JK jr
 by_cases h1:x.kind=gU
 · simp [h1]
 by_cases h2:x.kind=bf
 · simp [h2]
 simp only [h1,h2,or_self,if_false,ne_eq,not_false_eq_true,and_self,decide_true,if_true,fB]
 have hs:=qK x
 cases hc:jU x
 · rw [hc,decide_eq_false_iff_not] at hs
   have ho:=xB x hc
   have hp:(x.aF=[])↔(objects x).length=0:=by rw [ho];exact List.length_eq_zero_iff.symm
   simp only [hs,if_false,Bool.not_false,if_true]
   by_cases h3:x.first=0
   · simp [h3]
   have h4:0<x.first:=by omega
   simp only [h3,if_false,h4,decide_true,if_true]
   by_cases h5:x.kind=fJ
   · simp [h5]
   simp only [h5,if_false,false_or]
   by_cases h6:x.first∈targets r s
   · simp only [h6,not_true,if_false,decide_true,if_true,hp]
     by_cases h7:(objects x).length=0
     · cases x.dK <;> simp [h7]
     · have:0<(objects x).length:=by omega
       simp [h7,this]
   · simp [h6]
 · rw [hc,decide_eq_true_eq] at hs
   simp [hs]
theorem BN (r:Rules) (s:State) (x:aV):good r s x=
 if x.kind=dR then decide (fU r s x=0∧0<(objects x).length∧r.game≠aH)
 else if x.kind≠nP then false
 else if r.game=dJ then decide (fU r s x=0∧0<(objects x).length)
 else decide (fU r s x=0∧0<(objects x).length∧(⟨x.aT,x.aX⟩:ny)∈x.aF):=by
 have key:∀ (h1:x.kind≠gU) (h2:x.kind≠bf),fU r s x=0→((0<(objects x).length)↔x.aF≠[]):=by
  intro h1 h2 hf
  have hs:jU x=false:=by
   rw [← qK,decide_eq_false_iff_not];intro hl
   unfold fU at hf
   simp [h1,h2,hl] at hf
  rw [xB x hs];exact List.length_pos_iff
 unfold good
 by_cases hb:x.kind=dR
 · have k1:=key (by rw [hb];decide) (by rw [hb];decide)
   simp only [hb,if_true]
   by_cases hf:fU r s x=0
   · have:=k1 hf
     by_cases hp:x.aF=[]
     · simp [hp] at this
       simp [hf,hp,this]
     · simp [hp] at this
       simp [hf,hp,this]
   · simp [hf]
 · by_cases hpl:x.kind=nP
   · have k1:=key (by rw [hpl];decide) (by rw [hpl];decide)
     have hpb:¬ nP=dR:=by decide
     simp only [hpl,hpb,if_false,ne_eq,not_true]
     by_cases hf:fU r s x=0
     · have:=k1 hf
       by_cases hp:x.aF=[]
       · simp [hp] at this
         simp [hf,hp,this]
       · obtain ⟨q,l,hq⟩:=List.exists_cons_of_ne_nil hp
         simp [hp] at this
         by_cases hg:r.game=dJ
         · simp [hf,hp,this,hg,hq]
         · rw [Bool.eq_iff_iff]
           simp only [hf,hp,hg,this,if_false,or_false,ne_eq,not_true,List.any_eq_true,decide_eq_true_eq,true_and]
           constructor
           · rintro ⟨p,h1,h2⟩;rw [← h2];exact h1
           · intro h;exact ⟨_,h,rfl⟩
     · simp [hf]
   · simp [hb,hpl]
end M
namespace M
structure Ok (r:Rules) (n:Int) (s:State):Prop where
 turn:s.turn=0∨s.turn=1
 bQ:s.bQ=0∨s.bQ=1
 group:0≤s.group∧s.group≤2
 game:s.group≠0→r.game=bC
 aA:∀ b∈s.aA,1≤b∧b≤(zY r.game:Int)
 order:s.aA.Pairwise (· < ·)
 s0: -n≤s.s0∧s.s0≤n
 s1: -n≤s.s1∧s.s1≤n
 f0:0≤s.f0∧s.f0≤n
 f1:0≤s.f1∧s.f1≤n
 l0:0<r.bG→s.f0≤r.bG∧(s.over=false→s.f0<r.bG)
 l1:0<r.bG→s.f1≤r.bG∧(s.over=false→s.f1<r.bG)
 run:0≤s.run∧s.run≤n
 bI:1≤s.bI∧s.bI≤n
 push:s.push=true→r.game=dJ∧s.brk=false
 pushed:s.pushed=true→r.game=dJ∧s.brk=false
 both:s.push=true→s.pushed=true→False
 live:s.over=false→s.bQ=0∧s.aA≠[]∧(r.game=bC→(8:Int)∈s.aA)∧(r.game=dJ→(9:Int)∈s.aA)
theorem Ok.more {r:Rules} {n m:Int} {s:State} (h:Ok r n s) (hm:n≤m):Ok r m s:=
 {h with
  s0:=by have:=h.s0;omega
  s1:=by have:=h.s1;omega
  f0:=by have:=h.f0;omega
  f1:=by have:=h.f1;omega
  run:=by have:=h.run;omega
  bI:=by have:=h.bI;omega }
theorem qF {n a b:Int}:out n a b=false↔a≤n∧n≤b:=by
 unfold out;rw [decide_eq_false_iff_not];omega
structure oW (x:aV):Prop where
 aN:x.aN=0∨x.aN=1
 kind:isKind x.kind=true
 aT:0≤x.aT∧x.aT≤15
 aX:0≤x.aX∧x.aX≤6
 first:0≤x.first∧x.first≤15
 called:x.aT=0↔x.aX=0
 few:x.aF.length≤16
 aF:∀ p∈x.aF,(0≤p.aT∧p.aT≤15)∧(1≤p.aX∧p.aX≤6)
theorem yS:∀ (l seen:List ny),fE seen l=0→∀ p∈l,(0≤p.aT∧p.aT≤15)∧(1≤p.aX∧p.aX≤6)
 | [],_,_,p,hp=>by cases hp
 | q::l,seen,h,p,hp=>by
   rw [fE] at h
   split at h
   · cases h
   · next h1=>
     split at h
     · cases h
     · rw [not_or,Bool.not_eq_true,Bool.not_eq_true,qF,qF] at h1
       rcases List.mem_cons.1 hp with rfl | hp
       · exact h1
       · exact yS l _ h p hp
theorem rJ {x:aV} (h:cZ x=0):oW x:=by
 unfold cZ at h
 by_cases h1:fO x=0
 · rw [if_neg (by simp [h1])] at h
   by_cases h2:fE [] x.aF=0
   · unfold fO at h1
     by_cases a1:out x.aN 0 1=true
     · rw [if_pos a1] at h1;cases h1
     rw [if_neg a1] at h1
     by_cases a2:isKind x.kind=false
     · rw [if_pos a2] at h1;cases h1
     rw [if_neg a2] at h1
     by_cases a3:out x.aT 0 15=true∨out x.aX 0 6=true∨out x.first 0 15=true
     · rw [if_pos a3] at h1;cases h1
     rw [if_neg a3] at h1
     by_cases a4:decide (x.aT=0)≠decide (x.aX=0)
     · rw [if_pos a4] at h1;cases h1
     rw [if_neg a4] at h1
     by_cases a5:16<x.aF.length
     · rw [if_pos a5] at h1;cases h1
     rw [not_or,not_or,Bool.not_eq_true,Bool.not_eq_true,Bool.not_eq_true,qF,qF,qF] at a3;rw [Bool.not_eq_true,qF] at a1;rw [ne_eq,Classical.not_not,decide_eq_decide] at a4;exact ⟨by omega,by simpa using a2,a3.1,a3.2.1,a3.2.2,a4,by omega,yS _ _ h2⟩
   · rw [if_pos h2] at h;exact absurd h h2
 · rw [if_pos h1] at h;exact absurd h h1
theorem zT (x:aV):(objects x).length≤x.aF.length:=by
 have:=List.length_filter_le (fun b:Int=>decide (b≠0)) (x.aF.map (·.aT))
 rw [List.length_map] at this;exact this
theorem oW.objs {x:aV} (h:oW x):((objects x).length:Int)≤16:=by
 have:=zT x;have:=h.few;omega
theorem ED {x:aV} (hp:(⟨x.aT,x.aX⟩:ny)∈x.aF) (h0:x.aT≠0):x.aT∈objects x:=by
 unfold objects
 rw [List.mem_filter];exact ⟨List.mem_map.2 ⟨_,hp,rfl⟩,by simpa using h0⟩
theorem zL {n:Nat} {b:Int}:b∈jG n↔1≤b∧b≤n:=by
 unfold jG
 rw [List.mem_map]
 constructor
 · rintro ⟨i,hi,rfl⟩;rw [List.mem_range] at hi;omega
 · intro h;exact ⟨(b - 1).toNat,List.mem_range.2 (by omega),by omega⟩
theorem Ju (n:Nat):(jG n).Pairwise (· < ·):=by
 unfold jG
 rw [List.pairwise_map];exact List.pairwise_lt_range.imp (by intro a b h;omega)
theorem Sv (g:ByteArray):9≤zY g:=by unfold zY;split <;> omega
theorem mem_left {r:Rules} {s:State} {x:aV} {b:Int}:b∈left r s x↔b∈s.aA∧stays r s x b=true:=List.mem_filter
theorem yj:nP≠dR:=by decide
structure Lawful (r:Rules) (s:State) (x:aV):Prop where
 over:s.over=false
 turn:x.kind≠bf→x.aN=s.turn
 brk:x.kind≠bf→(s.brk=true↔x.kind=dR)
 push:x.kind=fJ→s.push=true
 pass:x.kind=gU→s.pushed=true
 called:calls r x=true→x.aT∈s.aA
 ZX:calls r x=false→x.aT=0
 first:x.first≠0→x.first∈s.aA
 objs:∀ b∈objects x,x.first≠0∧b∈s.aA
theorem lawful {r:Rules} {s:State} {x:aV} (h:legal r s x=0):Lawful r s x:=by
 unfold legal at h
 by_cases h1:s.over=true
 · rw [if_pos h1] at h;cases h
 rw [if_neg h1] at h
 by_cases h2:x.aN≠s.turn∧x.kind≠bf
 · rw [if_pos h2] at h;cases h
 rw [if_neg h2] at h
 by_cases h3:(s.brk=true∧x.kind≠dR∧x.kind≠bf)∨(s.brk=false∧x.kind=dR)
 · rw [if_pos h3] at h;cases h
 rw [if_neg h3] at h
 by_cases h4:(x.kind=fJ∧s.push=false)∨(x.kind=gU∧s.pushed=false)
 · rw [if_pos h4] at h;cases h
 rw [if_neg h4] at h
 by_cases h5:(calls r x=true∧x.aT ∉ s.aA)∨(calls r x=false∧x.aT≠0)
 · rw [if_pos h5] at h;cases h
 rw [if_neg h5] at h
 by_cases h6:x.first≠0∧x.first ∉ s.aA
 · rw [if_pos h6] at h;cases h
 rw [if_neg h6] at h
 by_cases h7:((objects x).any fun b=>decide (x.first=0∨b ∉ s.aA))=true
 · rw [if_pos h7] at h;cases h
 refine ⟨by simpa using h1,fun hk=>Classical.byContradiction fun hn=>h2 ⟨hn,hk⟩,fun hk=>⟨fun hb=>Classical.byContradiction fun hn=>h3 (.inl ⟨hb,hn,hk⟩),fun hb=>?_⟩,fun hk=>?_,fun hk=>?_,
  fun hc=>Classical.byContradiction fun hn=>h5 (.inl ⟨hc,hn⟩),fun hc=>Classical.byContradiction fun hn=>h5 (.inr ⟨hc,hn⟩),fun hf=>Classical.byContradiction fun hn=>h6 ⟨hf,hn⟩,fun b hb=>?_⟩
 · rcases hs:s.brk with _ | _
   · exact absurd (.inr ⟨hs,hb⟩) h3
   · rfl
 · rcases hs:s.push with _ | _
   · exact absurd (.inl ⟨hk,hs⟩) h4
   · rfl
 · rcases hs:s.pushed with _ | _
   · exact absurd (.inr ⟨hk,hs⟩) h4
   · rfl
 · rw [Bool.not_eq_true,List.any_eq_false] at h7
   have:=h7 b hb
   simpa using this
def sc (r:Rules) (s:State) (x:aV) (a:Int):Int:=
 let b:=if good r s x=true then a+(objects x).length else a
 if fU r s x=0 then b else if r.game=aH then b - 1 else b
def fc (r:Rules) (s:State) (x:aV) (a:Int):Int:=if fU r s x=0 then 0 else a+1
def rc (r:Rules) (s:State) (x:aV) (a:Int):Int:=if fU r s x=0 then (if good r s x=true then a+(objects x).length else a) else 0
theorem iE (r:Rules) (s:State) (x:aV):counted r s x= {calm r s x with aA:=left r s x,s0:=if x.aN=0 then sc r s x s.s0 else s.s0,s1:=if x.aN=0 then s.s1 else sc r s x s.s1,f0:=if x.aN=0 then fc r s x s.f0 else s.f0,f1:=if x.aN=0 then s.f1 else fc r s x s.f1,run:=rc r s x s.run }:=by
 unfold counted sc fc rc
 by_cases hp:x.aN=0 <;> by_cases hg:good r s x=true <;> by_cases hf:fU r s x=0 <;> by_cases hs:r.game=aH <;> simp [hp,hg,hf,hs,State.rH,State.rG,State.score,State.jC,sel,calm]
theorem EL (r:Rules) (s:State) (x:aV) (t:State) (hx:oW x):
 ended r s x t=t∧¬ (r.game=dJ∧good r s x=true∧(9:Int)∈objects x)∧¬ (r.game=bC∧x.kind≠dR∧(8:Int)∈objects x)∨
 ∃ v,(v=0∨v=1)∧ended r s x t= {t with over:=true,bQ:=v }:=by
 have hp:=hx.aN
 unfold ended
 split
 · exact .inr ⟨_,hp,rfl⟩
 · split
   · exact .inr ⟨_,hp,rfl⟩
   · next h2=>
     split
     · refine .inr ⟨_,?_,rfl⟩;split <;> omega
     · next h3=>exact .inl ⟨rfl,h2,h3⟩
theorem Lj {r:Rules} {s:State} {x:aV} (h:good r s x=true):fU r s x=0:=by
 unfold good at h
 split at h
 · cases h
 · next h1=>rw [not_or] at h1;exact Classical.not_not.1 h1.1
theorem VF {r:Rules} {s:State} {x:aV} (hx:oW x) (a:Int):a - 1≤sc r s x a∧sc r s x a≤a+16:=by
 have:=hx.objs
 unfold sc
 simp only
 split <;> split <;> first | omega | (split <;> omega)
theorem ZR {r:Rules} {s:State} {x:aV} (hx:oW x) {a:Int} (h:0≤a):0≤rc r s x a∧rc r s x a≤a+16:=by
 have:=hx.objs
 unfold rc
 split
 · split <;> omega
 · omega
theorem JI {r:Rules} {s:State} {x:aV} {a:Int} (h:0≤a):0≤fc r s x a∧fc r s x a≤a+1:=by
 unfold fc;split <;> omega
theorem Ej (b:Int):0≤side b∧side b≤2:=by unfold side;split <;> first | omega | (split <;> omega)
theorem Nu {b:Int} (h:side b=0):b=8:=by unfold side at h;split at h <;> first | omega | (split at h <;> omega)
section
variable {r:Rules} {n:Int} {s:State} {x:aV}
theorem Ih (h:Ok r n s) (hx:oW x) (hl:Lawful r s x) (v:Int) (hv:v=0∨v=1):Ok r (n+16) {counted r s x with over:=true,bQ:=v }:=by
 have h1:=h.bI;have k0:=VF (r:=r) (s:=s) hx s.s0;have k1:=VF (r:=r) (s:=s) hx s.s1;have k2:=JI (r:=r) (s:=s) (x:=x) h.f0.1;have k3:=JI (r:=r) (s:=s) (x:=x) h.f1.1;have k4:=ZR (r:=r) (s:=s) hx h.run.1;have a0:=h.s0;have a1:=h.s1;have a2:=h.f0;have a3:=h.f1;have a4:=h.run;rw [iE];refine ⟨h.turn,hv,h.group,h.game,fun b hb=>h.aA b (mem_left.1 hb).1,h.order.filter _,?_,?_,?_,?_,?_,?_,?_,?_,?_,?_,?_,?_⟩
 · show -(n+16)≤(if x.aN=0 then sc r s x s.s0 else s.s0)∧(if x.aN=0 then sc r s x s.s0 else s.s0)≤n+16
   split <;> omega
 · show -(n+16)≤(if x.aN=0 then s.s1 else sc r s x s.s1)∧(if x.aN=0 then s.s1 else sc r s x s.s1)≤n+16
   split <;> omega
 · show 0≤(if x.aN=0 then fc r s x s.f0 else s.f0)∧(if x.aN=0 then fc r s x s.f0 else s.f0)≤n+16
   split <;> omega
 · show 0≤(if x.aN=0 then s.f1 else fc r s x s.f1)∧(if x.aN=0 then s.f1 else fc r s x s.f1)≤n+16
   split <;> omega
 · intro h0
   have:=h.l0 h0
   have:=this.2 hl.over
   refine ⟨?_,fun e=>by cases e⟩
   show (if x.aN=0 then fc r s x s.f0 else s.f0)≤r.bG
   split <;> omega
 · intro h0
   have:=h.l1 h0
   have:=this.2 hl.over
   refine ⟨?_,fun e=>by cases e⟩
   show (if x.aN=0 then s.f1 else fc r s x s.f1)≤r.bG
   split <;> omega
 · show 0≤rc r s x s.run∧rc r s x s.run≤n+16
   omega
 · show 1≤s.bI∧s.bI≤n+16
   omega
 · intro hp
   have hp:decide (r.game=dJ∧x.kind=dR)=true:=hp;exact ⟨(of_decide_eq_true hp).1,rfl⟩
 · intro hp
   have hp:decide (x.kind=fJ)=true:=hp;exact ⟨(h.push (hl.push (of_decide_eq_true hp))).1,rfl⟩
 · intro h1 h2
   have h1:decide (r.game=dJ∧x.kind=dR)=true:=h1;have h2:decide (x.kind=fJ)=true:=h2;have e1:=(of_decide_eq_true h1).2;have e2:=of_decide_eq_true h2;rw [e1] at e2;exact absurd e2 (by decide)
 · intro e;cases e
theorem Ok.fin {t:State} (h:Ok r n {t with over:=true,bQ:=(0:Int) }) (v:Int) (hv:v=0∨v=1):Ok r n {t with over:=true,bQ:=v }:=
 ⟨h.turn,hv,h.group,h.game,h.aA,h.order,h.s0,h.s1,h.f0,h.f1,h.l0,h.l1,h.run,h.bI,h.push,h.pushed,h.both,fun e=>by cases e⟩
theorem Ok.goes {t:State} (h:Ok r n {t with over:=true,bQ:=(0:Int) }) (hw:t.bQ=0) (hf0:0<r.bG→t.f0<r.bG) (hf1:0<r.bG→t.f1<r.bG) (hb:t.aA≠[]) (h8:r.game=bC→(8:Int)∈t.aA) (h9:r.game=dJ→(9:Int)∈t.aA):Ok r n t:=
 ⟨h.turn,.inl hw,h.group,h.game,h.aA,h.order,h.s0,h.s1,h.f0,h.f1,fun h0=>⟨(h.l0 h0).1,fun _=>hf0 h0⟩,fun h0=>⟨(h.l1 h0).1,fun _=>hf1 h0⟩,h.run,h.bI,h.push,h.pushed,h.both,fun _=>⟨hw,hb,h8,h9⟩⟩
theorem qJ (h:bP r=0):r.game=aH∨r.game=bC∨r.game=dJ:=by
 unfold bP at h
 split at h
 · cases h
 · next h1=>
   have h2:mY r.game=true:=by cases h:mY r.game <;> simp_all
   unfold mY at h2
   exact of_decide_eq_true h2
theorem GV (h:bP r=0):r.bG=0∨(2≤r.bG∧r.bG≤9):=by
 unfold bP at h
 split at h
 · cases h
 · split at h
   · cases h
   · next h1=>
     rw [not_or,not_or] at h1
     by_cases h0:r.bG=0
     · exact .inl h0
     · right
       have:=h1.2.2
       rw [not_and,Bool.not_eq_true,qF] at this;exact this h0
theorem LH (hr:bP r=0) (h:Ok r n s) (hl:Lawful r s x) (h9:¬ (r.game=dJ∧good r s x=true∧(9:Int)∈objects x)) (h8:¬ (r.game=bC∧x.kind≠dR∧(8:Int)∈objects x)):
 (r.game=bC→(8:Int)∈left r s x)∧(r.game=dJ→(9:Int)∈left r s x)∧(good r s x=false→left r s x≠[]):=by
 obtain ⟨_,hb,k8,k9⟩:=h.live hl.over
 have e8:r.game=bC→(8:Int)∈left r s x:=by
  intro hg;refine mem_left.2 ⟨k8 hg,?_⟩
  unfold stays
  rw [decide_eq_true_eq]
  by_cases ho:(8:Int)∈objects x
  · right;right;left
    exact ⟨hg,rfl,Classical.byContradiction fun hk=>h8 ⟨hg,hk,ho⟩⟩
  · exact .inl ho
 have e9:r.game=dJ→(9:Int)∈left r s x:=by
  intro hg;refine mem_left.2 ⟨k9 hg,?_⟩
  unfold stays
  rw [decide_eq_true_eq]
  by_cases ho:(9:Int)∈objects x
  · right;right;right
    refine ⟨hg,rfl,?_⟩
    rcases hgd:good r s x with _ | _
    · rfl
    · exact absurd ⟨hg,hgd,ho⟩ h9
  · exact .inl ho
 refine ⟨e8,e9,fun hgd=>?_⟩
 rcases qJ hr with hg | hg | hg
 · obtain ⟨b,l,e⟩:=List.exists_cons_of_ne_nil hb
   intro he
   have:b∈left r s x:=mem_left.2 ⟨by rw [e];exact List.mem_cons_self,by unfold stays;rw [decide_eq_true_eq];exact .inr (.inl ⟨hg,hgd⟩)⟩
   rw [he] at this
   cases this
 · exact fun he=>by have:=e8 hg;rw [he] at this;cases this
 · exact fun he=>by have:=e9 hg;rw [he] at this;cases this
theorem ql (r:Rules) (s:State) (x:aV):(counted r s x).over=s.over:=by rw [iE];rfl
theorem iK (r:Rules) (s:State) (x:aV):(counted r s x).bQ=s.bQ:=by rw [iE];rfl
theorem nC (r:Rules) (s:State) (x:aV):(counted r s x).aA=left r s x:=by rw [iE]
theorem sO (r:Rules) (s:State) (x:aV):(counted r s x).bI=s.bI:=by rw [iE];rfl
theorem tq (r:Rules) (s:State) (x:aV):(counted r s x).f0=if x.aN=0 then fc r s x s.f0 else s.f0:=by rw [iE]
theorem tC (r:Rules) (s:State) (x:aV):(counted r s x).f1=if x.aN=0 then s.f1 else fc r s x s.f1:=by rw [iE]
theorem AQ (r:Rules) (s:State) (x:aV):(counted r s x).jC x.aN=fc r s x (s.jC x.aN):=by
 unfold State.jC sel
 rw [tq,tC]
 split <;> rfl
theorem Kr:(∀ b∈iV r,1≤b∧b≤(zY r.game:Int))∧(iV r).Pairwise (· < ·)∧iV r≠[]∧(8:Int)∈iV r∧(9:Int)∈iV r:=by
 have hn:=Sv r.game;have h8:(8:Int)∈iV r:=zL.2 (by omega);have h9:(9:Int)∈iV r:=zL.2 (by omega);exact ⟨fun b hb=>zL.1 hb,Ju _,fun e=>(by rw [e] at h8;cases h8),h8,h9⟩
theorem UJ (hr:bP r=0) (h:Ok r n s) (hx:oW x) (hl:Lawful r s x) (hn:0≤n):Ok r (n+16) (next r s x):=by
 have hp:=hx.aN
 have hn16:(0:Int)≤n+16:=by omega
 unfold next
 split
 · exact (Ok.fin (t:=s) ⟨h.turn,.inl rfl,h.group,h.game,h.aA,h.order,h.s0,h.s1,h.f0,h.f1,fun h0=>⟨(h.l0 h0).1,fun e=>by cases e⟩,fun h0=>⟨(h.l1 h0).1,fun e=>by cases e⟩,h.run,h.bI,h.push,h.pushed,h.both,fun e=>by cases e⟩ _ (by omega)).more (by omega)
 · next hc=>
   split
   · next hpa=>
     have hb:r.game=dJ∧x.kind=dR→False:=fun e=>by rw [hpa] at e;exact absurd e.2 (by decide)
     have hpu:x.kind=fJ→False:=fun e=>by rw [hpa] at e;exact absurd e (by decide)
     refine Ok.more (n:=n) ⟨?_,h.bQ,h.group,h.game,h.aA,h.order,h.s0,h.s1,h.f0,h.f1,h.l0,h.l1,⟨Int.le_refl 0,hn⟩,h.bI,fun e=>(hb (of_decide_eq_true e)).elim,fun e=>(hpu (of_decide_eq_true e)).elim,fun e=>(hb (of_decide_eq_true e)).elim,h.live⟩ (by omega)
     show 1 - x.aN=0∨1 - x.aN=1
     omega
   · have hk:=Ih h hx hl 0 (.inl rfl)
     unfold play
     simp only
     rcases EL r s x (counted r s x) hx with ⟨he,h9,h8⟩ | ⟨v,hv,he⟩
     · rw [he,if_neg (by rw [ql,hl.over];decide)]
       obtain ⟨w1,w2,w3,w4⟩:=h.live hl.over;obtain ⟨e8,e9,en⟩:=LH hr h hl h9 h8;obtain ⟨r1,r2,r3,r4,r5⟩:=Kr (r:=r);have hf:=JI (r:=r) (s:=s) (x:=x) h.f0.1;have hf':=JI (r:=r) (s:=s) (x:=x) h.f1.1;have hfr:=GV hr
       split
       · next hfo=>
         obtain ⟨hfo,hlim⟩:=hfo
         unfold limit
         split
         · exact hk.fin _ (by omega)
         · next hg=>
           have hg:=Classical.not_not.1 hg
           have hsc: -(n+16)≤(counted r s x).score x.aN - 15∧(counted r s x).score x.aN - 15≤n+16:=by
            have hb0:=h.s0;have hb1:=h.s1
            have hgd:good r s x=false:=by
             rcases hgd:good r s x with _ | _
             · rfl
             · exact absurd (Lj hgd) hfo
            have hv:∀ a,sc r s x a=a - 1:=fun a=>by unfold sc;simp [hgd,hfo,hg]
            unfold State.score sel
            rw [iE]
            split
            · next h0=>simp only [hv];omega
            · next h0=>simp only [hv];omega
           have JL:r.game≠dJ:=by rw [hg];decide
           have hne:r.game≠bC:=by rw [hg];decide
           have hpu:=hk.push;have Vw:=hk.pushed
           have hrk:1≤(counted r s x).bI+1∧(counted r s x).bI+1≤n+16:=by rw [sO];have:=h.bI;omega
           unfold State.rH State.rG
           rcases hp with hp | hp
           · rw [hp] at hsc ⊢
             simp only [if_true]
             exact ⟨hk.turn,.inl (by rw [iK];exact w1),hk.group,hk.game,r1,r2,hsc,hk.s1,⟨Int.le_refl 0,hn16⟩,hk.f1,fun h0=>⟨by show (0:Int)≤_;omega,fun _=>h0⟩,
              fun h0=>⟨(hk.l1 h0).1,fun _=>by show (counted r s x).f1<_;rw [tC,hp,if_pos rfl];exact (h.l1 h0).2 hl.over⟩,hk.run,hrk,fun e=>absurd (hpu e).1 JL,fun e=>absurd (Vw e).1 JL,hk.both,
              fun _=>⟨by rw [iK];exact w1,r3,fun e=>absurd e hne,fun e=>absurd e JL⟩⟩
           · rw [hp] at hsc ⊢
             simp only [show ¬ (1:Int)=0 by decide,if_false]
             exact ⟨hk.turn,.inl (by rw [iK];exact w1),hk.group,hk.game,r1,r2,hk.s0,hsc,hk.f0,⟨Int.le_refl 0,hn16⟩,
              fun h0=>⟨(hk.l0 h0).1,fun _=>by show (counted r s x).f0<_;rw [tq,hp,if_neg (by decide)];exact (h.l0 h0).2 hl.over⟩,fun h0=>⟨by show (0:Int)≤_;omega,fun _=>h0⟩,hk.run,hrk,fun e=>absurd (hpu e).1 JL,fun e=>absurd (Vw e).1 JL,hk.both,
              fun _=>⟨by rw [iK];exact w1,r3,fun e=>absurd e hne,fun e=>absurd e JL⟩⟩
       · next hnl=>
         have hq:∀ h0:0<r.bG,(counted r s x).f0<r.bG∧(counted r s x).f1<r.bG:=by
          intro h0;have g0:=(h.l0 h0).2 hl.over;have g1:=(h.l1 h0).2 hl.over
          have hfz:fU r s x=0∨(counted r s x).jC x.aN≠r.bG:=by
           by_cases hz:fU r s x=0
           · exact .inl hz
           · exact .inr fun e=>hnl ⟨hz,e⟩
          rw [AQ] at hfz;rw [tq,tC]
          unfold State.jC sel at hfz
          unfold fc at hfz ⊢
          rcases hp with hp | hp
          · simp only [hp,if_true] at hfz ⊢
            refine ⟨?_,g1⟩
            by_cases hz:fU r s x=0
            · rw [if_pos hz];exact h0
            · rw [if_neg hz] at hfz ⊢;omega
          · simp only [hp,show ¬ (1:Int)=0 by decide,if_false] at hfz ⊢
            refine ⟨g0,?_⟩
            by_cases hz:fU r s x=0
            · rw [if_pos hz];exact h0
            · rw [if_neg hz] at hfz ⊢;omega
         split
         · next hgd=>
           have hgo:=hk.goes (by rw [iK];exact w1) (fun h0=>(hq h0).1) (fun h0=>(hq h0).2) (by rw [nC];exact en hgd) (by rw [nC];exact e8) (by rw [nC];exact e9);refine ⟨?_,hgo.bQ,hgo.group,hgo.game,hgo.aA,hgo.order,hgo.s0,hgo.s1,hgo.f0,hgo.f1,hgo.l0,hgo.l1,⟨Int.le_refl 0,hn16⟩,hgo.bI,hgo.push,hgo.pushed,hgo.both,hgo.live⟩
           show 1 - x.aN=0∨1 - x.aN=1
           omega
         · next hgd=>
           have hgd:good r s x=true:=by simpa using hgd
           have hgr:Ok r (n+16) {grouped r s x (counted r s x) with over:=true,bQ:=(0:Int) }:=by
            unfold grouped
            split
            · next hg=>
              have abv:0≤(if x.aN=1 then 3 - side x.aT else side x.aT)∧(if x.aN=1 then 3 - side x.aT else side x.aT)≤2:=by
               have hs:=Ej x.aT
               split
               · have:side x.aT≠0:=by
                  intro h0;have hb8:=Nu h0;refine h8 ⟨hg.1,by rw [hg.2.1];decide,?_⟩;have hgs:=BN r s x;rw [hgd,if_neg (by rw [hg.2.1];decide),if_neg (by rw [hg.2.1];decide),if_neg (by rw [hg.1];decide)] at hgs
                  have:=(of_decide_eq_true hgs.symm).2.2
                  rw [← hb8];exact ED this (by omega)
                 omega
               · exact hs
              exact ⟨hk.turn,hk.bQ,abv,fun _=>hg.1,hk.aA,hk.order,hk.s0,hk.s1,hk.f0,hk.f1,hk.l0,hk.l1,hk.run,hk.bI,hk.push,hk.pushed,hk.both,hk.live⟩
            · exact hk
           have gb:(grouped r s x (counted r s x)).aA=left r s x:=by unfold grouped;split <;> exact nC r s x
           have go:(grouped r s x (counted r s x)).over=false:=by unfold grouped;split <;> exact (ql r s x).trans hl.over
           have gw:(grouped r s x (counted r s x)).bQ=0:=by unfold grouped;split <;> exact (iK r s x).trans w1
           have gr:(grouped r s x (counted r s x)).bI=s.bI:=by unfold grouped;split <;> exact sO r s x
           have g0:(grouped r s x (counted r s x)).f0=(counted r s x).f0:=by unfold grouped;split <;> rfl
           have g1:(grouped r s x (counted r s x)).f1=(counted r s x).f1:=by unfold grouped;split <;> rfl
           unfold eX
           split
           · next hg=>
             have JL:r.game≠dJ:=by rw [hg.1];decide
             have hne:r.game≠bC:=by rw [hg.1];decide
             have hrk:1≤(grouped r s x (counted r s x)).bI+1∧(grouped r s x (counted r s x)).bI+1≤n+16:=by rw [gr];have:=h.bI;omega
             exact ⟨hgr.turn,.inl gw,hgr.group,hgr.game,r1,r2,hgr.s0,hgr.s1,hgr.f0,hgr.f1,fun h0=>⟨(hgr.l0 h0).1,fun _=>by show (grouped r s x (counted r s x)).f0<_;rw [g0];exact (hq h0).1⟩,fun h0=>⟨(hgr.l1 h0).1,fun _=>by show (grouped r s x (counted r s x)).f1<_;rw [g1];exact (hq h0).2⟩,
              hgr.run,hrk,hgr.push,hgr.pushed,hgr.both,fun _=>⟨gw,r3,fun e=>absurd e hne,fun e=>absurd e JL⟩⟩
           · next hg=>
             refine hgr.goes gw (fun h0=>by rw [g0];exact (hq h0).1) (fun h0=>by rw [g1];exact (hq h0).2) ?_ (by rw [gb];exact e8) (by rw [gb];exact e9);rw [gb] at hg ⊢;intro hnil
             rcases qJ hr with h1 | h1 | h1
             · exact hg ⟨h1,by rw [hnil];decide⟩
             · have:=e8 h1;rw [hnil] at this;cases this
             · have:=e9 h1;rw [hnil] at this;cases this
     · rw [he,if_pos rfl]
       exact hk.fin v hv
theorem SL (r:Rules):Ok r 1 (start r):=by
 obtain ⟨r1,r2,r3,r4,r5⟩:=Kr (r:=r)
 have z0:(0:Int)≤0∧(0:Int)≤1:=by omega
 have z1:(-1:Int)≤0∧(0:Int)≤1:=by omega
 have z2:(1:Int)≤1∧(1:Int)≤1:=by omega
 have z3:(0:Int)≤0∧(0:Int)≤2:=by omega
 exact {turn:= .inl rfl,bQ:= .inl rfl,group:=z3,game:=fun h=>absurd rfl h,aA:=r1,order:=r2,s0:=z1,s1:=z1,f0:=z0,f1:=z0,l0:=fun h=>⟨Int.le_of_lt h,fun _=>h⟩,l1:=(fun h=>⟨Int.le_of_lt h,fun _=>h⟩),run:=z0,bI:=z2,push:=fun e=>(by cases e),pushed:=fun e=>(by cases e),both:=fun e=>(by cases e),live:=fun _=>⟨rfl,r3,fun _=>r4,fun _=>r5⟩ }
theorem step_ok (hr:bP r=0) (h:Ok r n s) (hx:oW x) (hn:0≤n):Ok r (n+16) (step r s x):=by
 unfold step
 split
 · next hl=>exact UJ hr h hx (lawful hl) hn
 · exact h.more (by omega)
end
end M
namespace M
def eY (cur:List UInt8):List UInt8→List (List UInt8)
 | []=>[cur]
 | c::l=>if c=32 then cur::eY [] l else eY (cur++[c]) l
def words (l:List UInt8):List (List UInt8):=eY [] l
theorem Ep (l cur:List UInt8):eY cur l≠[]:=by
 induction l generalizing cur with
 | nil=>simp [eY]
 | cons c l ih=>rw [eY];split <;> simp [ih]
def join:List (List UInt8)→List UInt8
 | []=>[]
 | a::l=>a++l.flatMap fun b=>32::b
def pR (c:UInt8):Bool:=48≤c∧c≤57
def num:List UInt8→Option Int
 | [a]=>if pR a then some ((a.toNat:Int) - 48) else none
 | [a,b]=>if pR a=true∧pR b=true∧a≠48 then some (10*((a.toNat:Int) - 48)+((b.toNat:Int) - 48)) else none
 | _=>none
def dig (n:Nat):UInt8:=UInt8.ofNat (48+n)
def dec (n:Int):List UInt8:=if n<10 then [dig n.toNat] else [dig (n.toNat / 10),dig (n.toNat % 10)]
theorem BU {c:UInt8}:pR c=true↔48≤c.toNat∧c.toNat≤57:=by
 unfold pR
 rw [decide_eq_true_eq,UInt8.le_iff_toNat_le,UInt8.le_iff_toNat_le]
 rfl
def cutAt (c:UInt8):List UInt8→Option (List UInt8 × List UInt8)
 | []=>none
 | a::l=>if a=c then some ([],l) else (cutAt c l).map fun p=>(a::p.1,p.2)
theorem EJ {c:UInt8}:∀ {a:List UInt8} (b:List UInt8),c ∉ a→cutAt c (a++c::b)=some (a,b)
 | [],b,_=>by rw [List.nil_append,cutAt,if_pos rfl]
 | d::a,b,h=>by
   rw [List.mem_cons,not_or] at h;rw [List.cons_append,cutAt,if_neg (fun e=>h.1 e.symm),EJ b h.2]
   rfl
theorem yU {c:UInt8}:∀ {l:List UInt8},cutAt c l=none↔c ∉ l
 | []=>by simp [cutAt]
 | d::l=>by
   rw [cutAt,List.mem_cons,not_or]
   split
   · next h=>subst h;simp
   · next h=>rw [Option.map_eq_none_iff,yU];exact ⟨fun k=>⟨fun e=>h e.symm,k⟩,fun k=>k.2⟩
def two:Option Int→Option Int→Option (Int × Int)
 | some a,some b=>some (a,b)
 | _,_=>none
def gV (letter:UInt8):List UInt8→Option (Int × Int)
 | []=>none
 | a::l=>if a=letter then (match cutAt 47 l with | none=>none | some p=>two (num p.1) (num p.2)) else none
def FU (letter:UInt8) (a b:Int):List UInt8:=letter::(dec a++47::dec b)
def letter (p:Int):List UInt8:=if p=1 then [98] else [97]
def tail (x:aV):List (List UInt8):=
 (if x.aT≠0 then [FU 99 x.aT x.aX] else [])++(if x.first≠0 then [102::dec x.first] else [])++(if x.dK=true then [[43]] else [])++x.aF.map fun p=>FU 112 p.aT p.aX
def pieces (x:aV):List (List UInt8):=letter x.aN::x.kind.toList::tail x
def print (x:aV):List UInt8:=join (pieces x)
def blank:aV:={aN:=0,kind:=⟨#[]⟩,aT:=0,aX:=0,first:=0,dK:=false,aF:=[] }
def yG (w:List UInt8):Bool:=isKind ⟨w.toArray⟩
def wZ:List UInt8→Option Int
 | []=>none
 | c::l=>if c=102 then num l else none
def read (x:aV) (place:Nat) (w:List UInt8):Option (aV × Nat):=
 match (if place≤2 then gV 99 w else none).filter fun p=>0<p.1∧0<p.2 with
 | some p=>some ({x with aT:=p.1,aX:=p.2 },3)
 | none=>
   match (if place≤3 then wZ w else none).filter fun h=>0<h with
   | some h=>some ({x with first:=h },4)
   | none=>
     if place≤4∧w=[43] then some ({x with dK:=true },5)
     else match gV 112 w with
      | some p=>some ({x with aF:=x.aF++[⟨p.1,p.2⟩] },5)
      | none=>none
def readAll (x:aV) (place:Nat) (n:Int):List (List UInt8)→Except Int aV
 | []=> .ok x
 | w::l=>match read x place w with
   | some q=>readAll q.1 q.2 (n+1) l
   | none=> .error (n+1)
def iO:List (List UInt8)→Except Int aV
 | []=> .error 1
 | w::l=>
   if w≠[97]∧w≠[98] then .error 1
   else match l with
    | []=> .error 2
    | k::l=>if yG k=false then .error 2 else readAll {blank with aN:=if w=[98] then 1 else 0,kind:=⟨k.toArray⟩ } 2 2 l
def parse (s:List UInt8):aV × Int × Int:=
 if 4096<s.length then (blank,0,26)
 else match iO (words s) with
  | .error n=>(blank,n,25)
  | .ok x=>if cZ x≠0 then (blank,0,cZ x) else (x,0,0)
def iW (x:aV) (n:Int):List (List UInt8)→Except Int aV
 | []=> .ok x
 | w::l=>match gV 112 w with
   | some p=>iW {x with aF:=x.aF++[⟨p.1,p.2⟩] } (n+1) l
   | none=> .error (n+1)
def fP (x:aV) (n:Int):List (List UInt8)→Except Int aV
 | []=> .ok x
 | w::l=>if w=[43] then iW {x with dK:=true } (n+1) l else iW x n (w::l)
def mZ (x:aV) (n:Int):List (List UInt8)→Except Int aV
 | []=> .ok x
 | w::l=>match (wZ w).filter fun h=>0<h with
   | some h=>fP {x with first:=h } (n+1) l
   | none=>fP x n (w::l)
def oQ (x:aV) (n:Int):List (List UInt8)→Except Int aV
 | []=> .ok x
 | w::l=>match (gV 99 w).filter fun p=>0<p.1∧0<p.2 with
   | some p=>mZ {x with aT:=p.1,aX:=p.2 } (n+1) l
   | none=>mZ x n (w::l)
theorem pW (l:List (List UInt8)):∀ (x:aV) (n:Int),readAll x 5 n l=iW x n l:=by
 induction l with
 | nil=>intro x n;rfl
 | cons w l ih=>
   intro x n;rw [readAll,iW,read]
   simp only [show ¬ (5≤2) by omega,show ¬ (5≤3) by omega,show ¬ (5≤4) by omega,if_false,Option.filter_none,false_and]
   cases gV 112 w with
   | none=>rfl
   | some p=>exact ih _ _
theorem xM (l:List (List UInt8)) (x:aV) (n:Int):readAll x 4 n l=fP x n l:=by
 cases l with
 | nil=>rfl
 | cons w l=>
   rw [readAll,fP,read]
   simp only [show ¬ (4≤2) by omega,show ¬ (4≤3) by omega,if_false,Option.filter_none,Nat.le_refl,true_and]
   by_cases h:w=[43]
   · simp only [h,if_true];exact pW _ _ _
   · simp only [h,if_false]
     rw [iW]
     cases gV 112 w with
     | none=>rfl
     | some p=>exact pW _ _ _
theorem U9 (l:List (List UInt8)) (x:aV) (n:Int):readAll x 3 n l=mZ x n l:=by
 cases l with
 | nil=>rfl
 | cons w l=>
   rw [readAll,mZ,read]
   simp only [show ¬ (3≤2) by omega,if_false,Option.filter_none,Nat.le_refl,if_true]
   cases (wZ w).filter fun h=>decide (0<h) with
   | some h=>exact xM _ _ _
   | none=>
     simp only [show 3≤4 by omega,true_and]
     rw [fP]
     by_cases h:w=[43]
     · simp only [h,if_true];exact pW _ _ _
     · simp only [h,if_false]
       rw [iW]
       cases gV 112 w with
       | none=>rfl
       | some p=>exact pW _ _ _
theorem SA (l:List (List UInt8)) (x:aV) (n:Int):readAll x 2 n l=oQ x n l:=by
 cases l with
 | nil=>rfl
 | cons w l=>
   rw [readAll,oQ,read]
   simp only [Nat.le_refl,if_true]
   cases (gV 99 w).filter fun p=>decide (0<p.1∧0<p.2) with
   | some p=>exact U9 _ _ _
   | none=>
     simp only [show 2≤3 by omega,if_true]
     rw [mZ]
     cases (wZ w).filter fun h=>decide (0<h) with
     | some h=>exact xM _ _ _
     | none=>
       simp only [show 2≤4 by omega,true_and]
       rw [fP]
       by_cases h:w=[43]
       · simp only [h,if_true];exact pW _ _ _
       · simp only [h,if_false]
         rw [iW]
         cases gV 112 w with
         | none=>rfl
         | some p=>exact pW _ _ _
end M
namespace M
section
variable {r:Rules} {n:Int} {s:State} {x:aV}
theorem PN (hl:legal r s x=0):note r s n x=⟨n,x.aN,0,fU r s x,(next r s x).score x.aN - s.score x.aN,(next r s x).turn≠s.turn⟩:=by unfold note;rw [if_neg (by simp [hl])]
theorem kF (r:Rules):∀ (l:List aV) (s:State) (n:Int),(notes r s n l).length=l.length
 | [],s,n=>rfl
 | x::l,s,n=>by rw [notes,List.length_cons,kF,List.length_cons]
end
end M
namespace M
section
variable {r:Rules} {n:Int} {s:State} {x:aV}
def kept (r:Rules) (s:State):List aV→List aV
 | []=>[]
 | x::l=>if legal r s x=0 then x::kept r (step r s x) l else kept r (step r s x) l
theorem wW:∀ l:List aV,gy l=0↔∀ x∈l,cZ x=0
 | []=>by simp [gy]
 | x::l=>by
   rw [gy]
   by_cases h:cZ x=0
   · rw [if_neg (by simp [h]),wW l]
     constructor
     · intro h2 y hy
       rcases List.mem_cons.1 hy with rfl | hy
       · exact h
       · exact h2 y hy
     · exact fun h2 y hy=>h2 y (List.mem_cons_of_mem _ hy)
   · rw [if_pos h]
     constructor
     · intro h2;exact absurd h2 h
     · intro h2;exact h2 x List.mem_cons_self
theorem jB (l:List aV):dB l=0↔l.length≤1000∧∀ x∈l,cZ x=0:=by
 unfold dB
 split
 · next h=>
   constructor
   · intro e;cases e
   · intro e;omega
 · next h=>
   rw [wW];exact ⟨fun e=>⟨by omega,e⟩,fun e=>e.2⟩
def State.eq (a b:State):Bool:=a.aA=b.aA∧a.turn=b.turn∧a.brk=b.brk∧a.hand=b.hand∧a.push=b.push∧a.pushed=b.pushed∧a.group=b.group∧a.s0=b.s0∧a.s1=b.s1∧a.f0=b.f0∧a.f1=b.f1∧a.run=b.run∧a.bI=b.bI∧a.over=b.over∧a.bQ=b.bQ
theorem State.eq_iff {a b:State}:a.eq b=true↔a=b:=by
 unfold State.eq
 rw [decide_eq_true_eq]
 constructor
 · rintro ⟨h1,h2,h3,h4,h5,h6,h7,h8,h9,h10,h11,h12,h13,h14,h15⟩
   cases a;cases b
   simp only at h1 h2 h3 h4 h5 h6 h7 h8 h9 h10 h11 h12 h13 h14 h15
   subst h1 h2 h3 h4 h5 h6 h7 h8 h9 h10 h11 h12 h13 h14 h15
   rfl
 · rintro rfl;simp
def jm (f:Nat→Bool) (n:Nat):Nat→Int
 | 0=>0
 | k+1=>if f n then jm f (n+1) k else n
def fH (r:Rules) (l:List aV) (k:Nat):State:=final r (start r) (l.take k)
def changed (r:Rules) (a b:List aV):Int:=jm (fun n=>(fH r a n).eq (fH r b n)) 1 (max a.length b.length)
theorem AU (f:Nat→Bool) {n k:Nat} (h:n<k):jm f (n+1) (k - n)=if f (n+1) then jm f (n+1+1) (k - (n+1)) else ((n+1:Nat):Int):=by
 have:k - n=(k - (n+1))+1:=by omega
 rw [this,jm]
end
end M
namespace Nm
structure Fr where
 n:Int
 d:Int
 deriving DecidableEq
def gcd (a b:Int):Int:=(Int.gcd a b:Int)
def make (n d:Int):Fr:=
 let a:=if d<0 then -n else n
 let b:=if d<0 then -d else d
 if b=1 then ⟨a,b⟩ else ⟨a / gcd a b,b / gcd a b⟩
def whole (n:Int):Fr:=⟨n,1⟩
def neg (a:Fr):Fr:=⟨-a.n,a.d⟩
def add (a b:Fr):Fr:=if a.d=1∧b.d=1 then whole (a.n+b.n) else make (a.n*b.d+b.n*a.d) (a.d*b.d)
def sub (a b:Fr):Fr:=add a (neg b)
def mul (a b:Fr):Fr:=make (a.n*b.n) (a.d*b.d)
def inv (a:Fr):Fr:=make a.d a.n
def div (a b:Fr):Fr:=mul a (inv b)
def VG (a:Int):Int:=if a<0 then -1 else if 0<a then 1 else 0
def sm (a:Int):Bool:= -1000000000≤a∧a≤1000000000
def ok (a:Fr):Bool:=sm a.n∧sm a.d∧1≤a.d
theorem wP {a:Int}:sm a=true↔ -1000000000≤a∧a≤1000000000:=by unfold sm;rw [decide_eq_true_eq]
theorem Hz {a b m n:Int} (ha: -m≤a∧a≤m) (hb: -n≤b∧b≤n): -(m*n)≤a*b∧a*b≤m*n:=by
 have hm:0≤m:=by omega
 have hn:0≤n:=by omega
 have h1:(a*b).natAbs≤(m*n).natAbs:=by
  rw [Int.natAbs_mul,Int.natAbs_mul];exact Nat.mul_le_mul (by omega) (by omega)
 have h2:0≤m*n:=Int.mul_nonneg hm hn
 omega
theorem Xx {a b:Int} (ha:sm a=true) (hb:sm b=true): -1000000000000000000≤a*b∧a*b≤1000000000000000000:=by
 have:=Hz (wP.1 ha) (wP.1 hb)
 omega
theorem down {a b:Int} (hb:0<b):(if Int.tmod a b<0 then Int.tdiv a b - 1 else Int.tdiv a b)=a / b∧(if Int.tmod a b<0 then Int.tmod a b+b else Int.tmod a b)=a % b:=by
 have h1:=Int.mul_tdiv_add_tmod a b;have h2:=Int.mul_ediv_add_emod a b;have h3:=Int.emod_nonneg a (by omega:b≠0);have h4:=Int.emod_lt_of_pos a hb
 have h5: -b<Int.tmod a b:=by
  have:=Int.lt_tmod_of_pos a hb
  omega
 have h6:Int.tmod a b<b:=Int.tmod_lt_of_pos a hb
 have key:∀ q r:Int,b*q+r=a→0≤r→r<b→q=a / b∧r=a % b:=by
  intro q r hq hr hl
  have e:r=a % b:=by
   have:a % b=(r+b*q) % b:=by rw [← hq];congr 1;omega
   rw [this,Int.add_mul_emod_self_left,Int.emod_eq_of_lt hr hl]
  refine ⟨?_,e⟩
  have e2:b*q=b*(a / b):=by omega
  exact Int.eq_of_mul_eq_mul_left (by omega) e2
 split
 · refine key _ _ ?_ (by omega) (by omega)
   rw [Int.mul_sub];omega
 · exact key _ _ h1 (by omega) h6
end Nm
namespace M
theorem wY (f:Nat→Bool) (t:Nat):∀ k n,(∀ j,n≤j→j<t→f j=true)→jm f n k=0∨(t:Int)≤jm f n k
 | 0,n,_=> .inl rfl
 | k+1,n,h=>by
   rw [jm]
   by_cases hf:f n=true
   · rw [if_pos hf]
     exact wY f t k (n+1) (fun j h1 h2=>h j (by omega) h2)
   · rw [if_neg hf]
     refine .inr ?_
     rcases Nat.lt_or_ge n t with h1 | h1
     · exact absurd (h n (Nat.le_refl _) h1) hf
     · omega
theorem xQ {α:Type} (l:List α) (k j:Nat) (a:α) (h:j≤k):(l.set k a).take j=l.take j:=by
 rw [List.take_set];exact List.set_eq_of_length_le (by rw [List.length_take];omega)
theorem SK (r:Rules) (l:List aV) (f:aV) (k j:Nat) (h:j≤k):fH r (l.set k f) j=fH r l j:=by
 unfold fH;rw [xQ l k j f h]
theorem EH (r:Rules) (l:List aV) (f:aV) (k:Nat):changed r l (l.set k f)=0∨(k:Int)+1≤changed r l (l.set k f):=by
 have:=wY (fun n=>(fH r l n).eq (fH r (l.set k f) n)) (k+1) (max l.length (l.set k f).length) 1 (fun j _ h=>by
  show (fH r l j).eq _=true
  rw [State.eq_iff,SK r l f k j (by omega)])
 unfold changed
 omega
theorem tY (r:Rules):∀ (l:List aV) (s:State) (n:Int) (i:Nat),(notes r s n l).take i=notes r s n (l.take i)
 | [],s,n,i=>by simp [notes]
 | x::l,s,n,0=>by simp [notes]
 | x::l,s,n,i+1=>by
   rw [notes,List.take_succ_cons,List.take_succ_cons,notes,tY r l (step r s x) (n+1) i]
theorem L6 (r:Rules) (l:List aV) (f:aV) (k i:Nat) (h:i<k) (h1:i<(notes r (start r) 1 l).length) (h2:i<(notes r (start r) 1 (l.set k f)).length):
 (notes r (start r) 1 l)[i]=(notes r (start r) 1 (l.set k f))[i]:=by
 have e:(notes r (start r) 1 (l.set k f)).take (i+1)=(notes r (start r) 1 l).take (i+1):=by
  rw [tY,tY,xQ l k (i+1) f (by omega)]
 have e2:=congrArg (fun m:List Note=>m[i]?) e
 simp only [List.getElem?_take] at e2
 rw [if_pos (by omega),if_pos (by omega),List.getElem?_eq_getElem h2,List.getElem?_eq_getElem h1] at e2;exact (Option.some.inj e2).symm
theorem uI (r:Rules) (s:State) (a b:List aV):final r s (a++b)=final r (final r s a) b:=by unfold final;rw [List.foldl_append]
theorem D5 (r:Rules) (s:State) (x:aV) (hk:x.kind=gU) (h1:s.over=false) (h2:s.pushed=false):step r s x=s:=by
 have hl:legal r s x≠0:=by
  unfold legal
  rw [if_neg (by simp [h1])]
  split
  · omega
  split
  · omega
  rw [if_pos (.inr ⟨hk,h2⟩)]
  omega
 unfold step
 rw [if_neg hl]
theorem LX (r:Rules) (l:List aV) (x:aV) (k:Nat) (hk:k<l.length) (hx:x.kind=gU) (h1:(fH r l k).over=false) (h2:(fH r l k).pushed=false):
 final r (start r) (l.set k x)=final r (start r) (l.take k++l.drop (k+1)):=by
 rw [List.set_eq_take_append_cons_drop,if_pos hk,uI,uI]
 show final r (step r (fH r l k) x) _=final r (fH r l k) _
 rw [D5 r _ x hx h1 h2]
theorem SG {α:Type} (l:List α) (k:Nat) (a:α) (hk:k<l.length):(l.set k a).set k l[k]=l:=by
 rw [List.set_set,List.set_getElem_self]
theorem Kq (p:Int) (h:p=0∨p=1):cZ {aN:=p,kind:=gU,aT:=0,aX:=0,first:=0,dK:=false,aF:=[] }=0:=by
 rcases h with rfl | rfl <;> decide
end M
end Go.Proofs.YtcjglfbpjkdgiaaGreatDoor
