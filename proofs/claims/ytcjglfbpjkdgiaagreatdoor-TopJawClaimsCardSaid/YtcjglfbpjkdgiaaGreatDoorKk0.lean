/- Parts of a proof. -/
import Derived.Lib.Hide
set_option linter.unusedVariables false
set_option linter.unusedSimpArgs false
namespace Go.Proofs.YtcjglfbpjkdgiaaGreatDoor
namespace M
abbrev dS:ByteArray:=⟨#[98,114,101,97,107]⟩
abbrev oq:ByteArray:=⟨#[112,108,97,121]⟩
abbrev Bg:ByteArray:=⟨#[115,97,102,101,116,121]⟩
abbrev gI:ByteArray:=⟨#[112,117,115,104]⟩
abbrev iW:ByteArray:=⟨#[112,97,115,115]⟩
abbrev bC:ByteArray:=⟨#[99,111,110,99,101,100,101]⟩
abbrev aH:ByteArray:=⟨#[115,116,114,97,105,103,104,116]⟩
abbrev bF:ByteArray:=⟨#[101,105,103,104,116]⟩
abbrev dA:ByteArray:=⟨#[110,105,110,101]⟩
structure kL where
 aT:Int
 aP:Int
 deriving DecidableEq
structure Rules where
 game:ByteArray
 target:Int
 bD:Int
structure aV where
 aG:Int
 kind:ByteArray
 aT:Int
 aP:Int
 first:Int
 cO:Bool
 aC:List kL
structure State where
 turn:Int
 brk:Bool
 hand:Bool
 push:Bool
 pushed:Bool
 group:Int
 au:List Int
 s0:Int
 s1:Int
 f0:Int
 f1:Int
 run:Int
 bI:Int
 over:Bool
 bP:Int
def isKind (k:ByteArray):Bool:=k=dS∨k=oq∨k=Bg∨k=gI∨k=iW∨k=bC
def oH (g:ByteArray):Bool:=g=aH∨g=bF∨g=dA
def out (n a b:Int):Bool:=n<a∨b<n
def aQ (r:Rules):Int:=
 if oH r.game=false then 13
 else if (r.game=aH∧out r.target 1 200)∨(r.game≠aH∧r.target≠0)∨(r.bD≠0∧out r.bD 2 9) then 3
 else 0
def gJ (seen:List kL):List kL→Int
 | []=>0
 | p::l=>
   if out p.aT 0 15∨out p.aP 1 6 then 3
   else if p.aT∈seen.map (·.aT) then 9
   else gJ (seen++[p]) l
def gZ (x:aV):Int:=
 if out x.aG 0 1 then 3
 else if isKind x.kind=false then 13
 else if out x.aT 0 15∨out x.aP 0 6∨out x.first 0 15 then 3
 else if decide (x.aT=0)≠decide (x.aP=0) then 2
 else if 16<x.aC.length then 5
 else 0
def rU (x:aV):Int:=
 if (x.kind=iW∨x.kind=bC)∧(x.aT≠0∨x.first≠0∨x.cO∨x.aC≠[]) then 1 else 0
def bT (x:aV):Int:=
 if gZ x≠0 then gZ x
 else if gJ [] x.aC≠0 then gJ [] x.aC
 else rU x
def iD:List aV→Int
 | []=>0
 | x::l=>if bT x≠0 then bT x else iD l
def dO (l:List aV):Int:=if 1000<l.length then 5 else iD l
def kJ (n:Nat):List Int:=(List.range n).map fun (i:Nat)=>(i:Int)+1
def fH (g:ByteArray):Nat:=if g=dA then 9 else 15
def jr (r:Rules):List Int:=kJ (fH r.game)
def gu (n:Int) (last:Option Int):List Int→Int
 | []=>0
 | b::l=>if out b 1 n then 3 else if (last.map (fun a=>decide (b≤a))).getD false then 11 else gu n (some b) l
def oL (r:Rules) (over:Bool) (n:Int):Bool:=out n 0 99999∨(0<r.bD∧(r.bD<n∨(n=r.bD∧over=false)))
def dK (r:Rules) (s:State):Int:=
 if out s.s0 (-99999) 99999∨out s.s1 (-99999) 99999∨oL r s.over s.f0∨oL r s.over s.f1∨out s.run 0 99999∨out s.bI 1 1000 then 3 else 0
def vY (r:Rules) (s:State):Bool:=((s.push∨s.pushed)∧(r.game≠dA∨s.brk))∨(s.push∧s.pushed)
def missing (r:Rules) (s:State):Bool:=s.au=[]∨(r.game=bF∧(8:Int) ∉ s.au)∨(r.game=dA∧(9:Int) ∉ s.au)
def dR (r:Rules) (s:State):Int:=
 if aQ r≠0 then aQ r
 else if out s.turn 0 1∨out s.bP 0 1∨out s.group 0 2∨(s.group≠0∧r.game≠bF) then 3 else 0
def kV (r:Rules) (s:State):Int:=if vY r s∨(s.over=false∧(s.bP≠0∨missing r s)) then 19 else 0
def eH (r:Rules) (s:State):Int:=
 if dR r s≠0 then dR r s
 else if gu (fH r.game) none s.au≠0 then gu (fH r.game) none s.au
 else if dK r s≠0 then 3
 else kV r s
def start (r:Rules):State:={turn:=0,brk:=true,hand:=false,push:=false,pushed:=false,group:=0,au:=jr r,s0:=0,s1:=0,f0:=0,f1:=0,run:=0,bI:=1,over:=false,bP:=0 }
def zero:State:={turn:=0,brk:=false,hand:=false,push:=false,pushed:=false,group:=0,au:=[],s0:=0,s1:=0,f0:=0,f1:=0,run:=0,bI:=0,over:=false,bP:=0 }
def side (b:Int):Int:=if b<8 then 1 else if 8<b then 2 else 0
def own (s:State):Int:=if s.group=0∨s.turn=0 then s.group else 3 - s.group
def FU (s:State):List Int:=s.au.filter fun b=>b≠8∧(s.group=0∨side b=own s)
def targets (r:Rules) (s:State):List Int:=
 if r.game=aH∨(r.game=bF∧s.brk) then s.au
 else if r.game=dA then s.au.take 1
 else if FU s=[]∧(8:Int)∈s.au then [8] else FU s
def calls (r:Rules) (x:aV):Bool:=x.kind=oq∧r.game≠dA
def objects (x:aV):List Int:=(x.aC.map (·.aT)).filter (· ≠0)
def legal (r:Rules) (s:State) (x:aV):Int:=
 if s.over then 1
 else if x.aG≠s.turn∧x.kind≠bC then 2
 else if (s.brk∧x.kind≠dS∧x.kind≠bC)∨(s.brk=false∧x.kind=dS) then 3
 else if (x.kind=gI∧s.push=false)∨(x.kind=iW∧s.pushed=false) then 4
 else if (calls r x∧x.aT ∉ s.au)∨(calls r x=false∧x.aT≠0) then 5
 else if x.first≠0∧x.first ∉ s.au then 6
 else if (objects x).any (fun b=>x.first=0∨b ∉ s.au) then 7
 else 0
def iw (r:Rules) (s:State) (x:aV):Int:=
 if x.kind=iW∨x.kind=bC then 0
 else if (objects x).length<x.aC.length then 1
 else if x.first=0 then 2
 else if x.kind=gI then 0
 else if x.first ∉ targets r s then 3
 else if x.cO=false∧x.aC=[] then 4
 else 0
def good (r:Rules) (s:State) (x:aV):Bool:=
 if iw r s x≠0∨x.aC=[] then false
 else if x.kind=dS then r.game≠aH
 else if x.kind≠oq then false
 else x.aC.any fun p=>p=⟨x.aT,x.aP⟩∨r.game=dA
def stays (r:Rules) (s:State) (x:aV) (b:Int):Bool:=
 (b ∉ objects x)∨(r.game=aH∧good r s x=false)∨(r.game=bF∧b=8∧x.kind=dS)∨(r.game=dA∧b=9∧good r s x=false)
def left (r:Rules) (s:State) (x:aV):List Int:=s.au.filter (stays r s x)
def sel (p a b:Int):Int:=if p=0 then a else b
def State.score (s:State) (p:Int):Int:=sel p s.s0 s.s1
def State.kD (s:State) (p:Int):Int:=sel p s.f0 s.f1
def State.qK (s:State) (p n:Int):State:=if p=0 then {s with s0:=n } else {s with s1:=n }
def State.qJ (s:State) (p n:Int):State:=if p=0 then {s with f0:=n } else {s with f1:=n }
def calm (r:Rules) (s:State) (x:aV):State:={s with brk:=false,hand:=false,push:=r.game=dA∧x.kind=dS,pushed:=x.kind=gI }
def won (r:Rules) (s:State) (x:aV):Bool:=good r s x∧x.aT=8∧targets r s=[8]
def ended (r:Rules) (s:State) (x:aV) (t:State):State:=
 if r.game=aH∧good r s x∧r.target≤t.score x.aG then {t with over:=true,bP:=x.aG }
 else if r.game=dA∧good r s x∧(9:Int)∈objects x then {t with over:=true,bP:=x.aG }
 else if r.game=bF∧x.kind≠dS∧(8:Int)∈objects x then {t with over:=true,bP:=if won r s x then x.aG else 1 - x.aG }
 else t
def limit (r:Rules) (t:State) (p:Int):State:=
 if r.game≠aH then {t with over:=true,bP:=1 - p }
 else {(t.qK p (t.score p - 15)).qJ p 0 with au:=jr r,brk:=true,bI:=t.bI+1 }
def counted (r:Rules) (s:State) (x:aV):State:=
 let t:={calm r s x with au:=left r s x }
 let n:Int:=(objects x).length
 let t:=if good r s x then {t.qK x.aG (t.score x.aG+n) with run:=t.run+n } else t
 if iw r s x=0 then t.qJ x.aG 0
 else
  let t:={t.qJ x.aG (t.kD x.aG+1) with run:=0 }
  if r.game=aH then t.qK x.aG (t.score x.aG - 1) else t
def passed (r:Rules) (s:State) (x:aV) (t:State):State:={t with turn:=1 - x.aG,run:=0,hand:=iw r s x≠0∧(r.game≠aH∨iw r s x=1) }
def grouped (r:Rules) (s:State) (x:aV) (t:State):State:=
 if r.game=bF∧x.kind=oq∧s.group=0 then {t with group:=if x.aG=1 then 3 - side x.aT else side x.aT } else t
def fB (r:Rules) (t:State):State:=if r.game=aH∧t.au.length≤1 then {t with au:=jr r,bI:=t.bI+1 } else t
def play (r:Rules) (s:State) (x:aV):State:=
 let t:=ended r s x (counted r s x)
 if t.over then t
 else if iw r s x≠0∧t.kD x.aG=r.bD then limit r t x.aG
 else if good r s x=false then passed r s x t
 else fB r (grouped r s x t)
def next (r:Rules) (s:State) (x:aV):State:=
 if x.kind=bC then {s with over:=true,bP:=1 - x.aG }
 else if x.kind=iW then {calm r s x with turn:=1 - x.aG,run:=0 }
 else play r s x
def step (r:Rules) (s:State) (x:aV):State:=if legal r s x=0 then next r s x else s
def states (r:Rules) (s:State):List aV→List State
 | []=>[]
 | x::l=>step r s x::states r (step r s x) l
def final (r:Rules) (s:State) (l:List aV):State:=l.foldl (step r) s
structure wZ where
 number:Int
 rule:Int
 deriving DecidableEq
structure Note where
 number:Int
 aG:Int
 rule:Int
 iw:Int
 points:Int
 turn:Bool
 deriving DecidableEq
def gQ (r:Rules) (s:State) (n:Int):List aV→List wZ
 | []=>[]
 | x::l=>(if legal r s x≠0 then [⟨n,legal r s x⟩] else [])++gQ r (step r s x) (n+1) l
def note (r:Rules) (s:State) (n:Int) (x:aV):Note:=
 if legal r s x≠0 then ⟨n,x.aG,legal r s x,0,0,false⟩
 else ⟨n,x.aG,0,iw r s x,(next r s x).score x.aG - s.score x.aG,(next r s x).turn≠s.turn⟩
def notes (r:Rules) (s:State) (n:Int):List aV→List Note
 | []=>[]
 | x::l=>note r s n x::notes r (step r s x) (n+1) l
end M
namespace M
def fZ (i:Int):List Bool→Int
 | []=>0
 | b::l=>if b then fZ (i+1) l else i
def permitted (s:State) (k:ByteArray):Bool:=if k=gI then s.push else if k=iW then s.pushed else true
def q2 (s:State) (x:aV):Bool:=x.kind=bC∨x.aG=s.turn
def q3 (s:State) (x:aV):Bool:=x.kind=bC∨s.brk=decide (x.kind=dS)
def q5 (r:Rules) (s:State) (x:aV):Bool:=(calls r x∧x.aT∈s.au)∨(calls r x=false∧x.aT=0)
def q6 (s:State) (x:aV):Bool:=x.first=0∨x.first∈s.au
def q7 (s:State) (x:aV):Bool:=((objects x).any (fun b=>decide (b ∉ s.au)))=false∧(0<x.first∨objects x=[])
def Gu (r:Rules) (s:State) (x:aV):List Bool:=[!s.over,q2 s x,q3 s x,permitted s x.kind,q5 r s x,q6 s x,q7 s x]
theorem ab6 (o:Bool) (P2 P3 P4 P5 P6:Prop) (b7:Bool) [Decidable P2] [Decidable P3] [Decidable P4] [Decidable P5] [Decidable P6]:
 (if o then (1:Int) else if P2 then 2 else if P3 then 3 else if P4 then 4 else if P5 then 5 else if P6 then 6 else if b7 then 7 else 0)=fZ 1 [!o, !decide P2, !decide P3, !decide P4, !decide P5, !decide P6, !b7]:=by
 cases o
 · by_cases h2:P2
   · simp [fZ,h2]
   by_cases h3:P3
   · simp [fZ,h2,h3]
   by_cases h4:P4
   · simp [fZ,h2,h3,h4]
   by_cases h5:P5
   · simp [fZ,h2,h3,h4,h5]
   by_cases h6:P6
   · simp [fZ,h2,h3,h4,h5,h6]
   cases b7 <;> simp [fZ,h2,h3,h4,h5,h6]
 · simp [fZ]
theorem Gz:gI≠iW:=by decide
theorem Qd (r:Rules) (s:State) (x:aV) (hf:0≤x.first):legal r s x=fZ 1 (Gu r s x):=by
 unfold legal Gu
 have h2:q2 s x= !decide (x.aG≠s.turn∧x.kind≠bC):=by
  unfold q2;by_cases h1:x.kind=bC <;> by_cases h2:x.aG=s.turn <;> simp [h1,h2]
 have h3:q3 s x= !decide ((s.brk∧x.kind≠dS∧x.kind≠bC)∨(s.brk=false∧x.kind=dS)):=by
  unfold q3
  have hbc:bC≠dS:=by decide
  by_cases h1:x.kind=bC
  · simp [h1,hbc]
  · by_cases h2:x.kind=dS <;> cases s.brk <;> simp [h1,h2]
 have h4:permitted s x.kind= !decide ((x.kind=gI∧s.push=false)∨(x.kind=iW∧s.pushed=false)):=by
  unfold permitted
  by_cases h1:x.kind=gI
  · simp [h1,Gz]
  · by_cases h2:x.kind=iW <;> simp [h1,h2]
 have h5:q5 r s x= !decide ((calls r x∧x.aT ∉ s.au)∨(calls r x=false∧x.aT≠0)):=by
  unfold q5;cases calls r x <;> by_cases h2:x.aT∈s.au <;> by_cases h3:x.aT=0 <;> simp [h2,h3]
 have h6:q6 s x= !decide (x.first≠0∧x.first ∉ s.au):=by
  unfold q6;by_cases h2:x.first∈s.au <;> by_cases h3:x.first=0 <;> simp [h2,h3]
 have h7:q7 s x= !((objects x).any (fun b=>x.first=0∨b ∉ s.au)):=by
  unfold q7
  rcases h0:objects x with _ | ⟨b,l⟩
  · simp
  · by_cases h3:x.first=0
    · simp [h3]
    · have:0<x.first:=by omega
      simp only [h3,false_or,this,true_or,and_true]
      cases (b::l).any fun b=>decide (b ∉ s.au) <;> simp
 rw [h2,h3,h4,h5,h6,h7];exact ab6 _ _ _ _ _ _ _
def jC (k:ByteArray):Bool:=k≠iW∧k≠bC
def kX (x:aV):Bool:=x.aC.any fun p=>decide (p.aT=0)
def OC (r:Rules) (s:State) (x:aV):List Bool:=
 [!kX x,decide (0<x.first),decide (x.kind=gI∨x.first∈targets r s),decide (x.kind=gI∨x.cO=true∨0<(objects x).length)]
theorem tZ (x:aV):decide ((objects x).length<x.aC.length)=kX x:=by
 unfold objects kX
 induction x.aC with
 | nil=>rfl
 | cons p l ih=>
   have hl:=List.length_filter_le (fun b:Int=>decide (b≠0)) (l.map (·.aT));rw [List.length_map] at hl
   simp only [List.map_cons,List.any_cons,List.length_cons]
   by_cases h:p.aT=0
   · rw [List.filter_cons_of_neg (by simp [h])]
     simp only [h,decide_true,Bool.true_or,decide_eq_true_eq]
     omega
   · rw [List.filter_cons_of_pos (by simp [h]), ← ih]
     simp [h]
theorem zU (x:aV) (h:kX x=false):(objects x).length=x.aC.length:=by
 have h1:=tZ x;rw [h,decide_eq_false_iff_not] at h1;have h2:=List.length_filter_le (fun b:Int=>decide (b≠0)) (x.aC.map (·.aT));rw [List.length_map] at h2
 unfold objects at h1 ⊢
 omega
theorem TI (r:Rules) (s:State) (x:aV) (hf:0≤x.first):iw r s x=if jC x.kind then fZ 1 (OC r s x) else 0:=by
 unfold iw OC jC
 by_cases h1:x.kind=iW
 · simp [h1]
 by_cases h2:x.kind=bC
 · simp [h2]
 simp only [h1,h2,or_self,if_false,ne_eq,not_false_eq_true,and_self,decide_true,if_true,fZ]
 have hs:=tZ x
 cases hc:kX x
 · rw [hc,decide_eq_false_iff_not] at hs
   have ho:=zU x hc
   have hp:(x.aC=[])↔(objects x).length=0:=by rw [ho];exact List.length_eq_zero_iff.symm
   simp only [hs,if_false,Bool.not_false,if_true]
   by_cases h3:x.first=0
   · simp [h3]
   have h4:0<x.first:=by omega
   simp only [h3,if_false,h4,decide_true,if_true]
   by_cases h5:x.kind=gI
   · simp [h5]
   simp only [h5,if_false,false_or]
   by_cases h6:x.first∈targets r s
   · simp only [h6,not_true,if_false,decide_true,if_true,hp]
     by_cases h7:(objects x).length=0
     · cases x.cO <;> simp [h7]
     · have:0<(objects x).length:=by omega
       simp [h7,this]
   · simp [h6]
 · rw [hc,decide_eq_true_eq] at hs
   simp [hs]
theorem yU (r:Rules) (s:State) (x:aV):good r s x=
 if x.kind=dS then decide (iw r s x=0∧0<(objects x).length∧r.game≠aH)
 else if x.kind≠oq then false
 else if r.game=dA then decide (iw r s x=0∧0<(objects x).length)
 else decide (iw r s x=0∧0<(objects x).length∧(⟨x.aT,x.aP⟩:kL)∈x.aC):=by
 have key:∀ (h1:x.kind≠iW) (h2:x.kind≠bC),iw r s x=0→((0<(objects x).length)↔x.aC≠[]):=by
  intro h1 h2 hf
  have hs:kX x=false:=by
   rw [← tZ,decide_eq_false_iff_not];intro hl
   unfold iw at hf
   simp [h1,h2,hl] at hf
  rw [zU x hs];exact List.length_pos_iff
 unfold good
 by_cases hb:x.kind=dS
 · have k1:=key (by rw [hb];decide) (by rw [hb];decide)
   simp only [hb,if_true]
   by_cases hf:iw r s x=0
   · have:=k1 hf
     by_cases hp:x.aC=[]
     · simp [hp] at this
       simp [hf,hp,this]
     · simp [hp] at this
       simp [hf,hp,this]
   · simp [hf]
 · by_cases hpl:x.kind=oq
   · have k1:=key (by rw [hpl];decide) (by rw [hpl];decide)
     have hpb:¬ oq=dS:=by decide
     simp only [hpl,hpb,if_false,ne_eq,not_true]
     by_cases hf:iw r s x=0
     · have:=k1 hf
       by_cases hp:x.aC=[]
       · simp [hp] at this
         simp [hf,hp,this]
       · obtain ⟨q,l,hq⟩:=List.exists_cons_of_ne_nil hp
         simp [hp] at this
         by_cases hg:r.game=dA
         · simp [hf,hp,this,hg,hq]
         · rw [Bool.eq_iff_iff]
           simp only [hf,hp,hg,this,if_false,or_false,ne_eq,not_true,List.any_eq_true,decide_eq_true_eq,true_and]
           constructor
           · rintro ⟨p,h1,h2⟩;rw [← h2];exact h1
           · intro h;exact ⟨_,h,rfl⟩
     · simp [hf]
   · simp [hb,hpl]
end M
namespace M
structure Ok (r:Rules) (n:Int) (s:State):Prop where
 turn:s.turn=0∨s.turn=1
 bP:s.bP=0∨s.bP=1
 group:0≤s.group∧s.group≤2
 game:s.group≠0→r.game=bF
 au:∀ b∈s.au,1≤b∧b≤(fH r.game:Int)
 order:s.au.Pairwise (· < ·)
 s0: -n≤s.s0∧s.s0≤n
 s1: -n≤s.s1∧s.s1≤n
 f0:0≤s.f0∧s.f0≤n
 f1:0≤s.f1∧s.f1≤n
 l0:0<r.bD→s.f0≤r.bD∧(s.over=false→s.f0<r.bD)
 l1:0<r.bD→s.f1≤r.bD∧(s.over=false→s.f1<r.bD)
 run:0≤s.run∧s.run≤n
 bI:1≤s.bI∧s.bI≤n
 push:s.push=true→r.game=dA∧s.brk=false
 pushed:s.pushed=true→r.game=dA∧s.brk=false
 both:s.push=true→s.pushed=true→False
 live:s.over=false→s.bP=0∧s.au≠[]∧(r.game=bF→(8:Int)∈s.au)∧(r.game=dA→(9:Int)∈s.au)
theorem Ok.more {r:Rules} {n m:Int} {s:State} (h:Ok r n s) (hm:n≤m):Ok r m s:=
 {h with
  s0:=by have:=h.s0;omega
  s1:=by have:=h.s1;omega
  f0:=by have:=h.f0;omega
  f1:=by have:=h.f1;omega
  run:=by have:=h.run;omega
  bI:=by have:=h.bI;omega }
theorem kF {n a b:Int}:out n a b=false↔a≤n∧n≤b:=by
 unfold out;rw [decide_eq_false_iff_not];omega
structure jR (x:aV):Prop where
 aG:x.aG=0∨x.aG=1
 kind:isKind x.kind=true
 aT:0≤x.aT∧x.aT≤15
 aP:0≤x.aP∧x.aP≤6
 first:0≤x.first∧x.first≤15
 called:x.aT=0↔x.aP=0
 few:x.aC.length≤16
 aC:∀ p∈x.aC,(0≤p.aT∧p.aT≤15)∧(1≤p.aP∧p.aP≤6)
theorem BK:∀ (l seen:List kL),gJ seen l=0→∀ p∈l,(0≤p.aT∧p.aT≤15)∧(1≤p.aP∧p.aP≤6)
 | [],_,_,p,hp=>by cases hp
 | q::l,seen,h,p,hp=>by
   rw [gJ] at h
   split at h
   · cases h
   · next h1=>
     split at h
     · cases h
     · rw [not_or,Bool.not_eq_true,Bool.not_eq_true,kF,kF] at h1
       rcases List.mem_cons.1 hp with rfl | hp
       · exact h1
       · exact BK l _ h p hp
theorem lV {x:aV} (h:bT x=0):jR x:=by
 unfold bT at h
 by_cases h1:gZ x=0
 · rw [if_neg (by simp [h1])] at h
   by_cases h2:gJ [] x.aC=0
   · unfold gZ at h1
     by_cases a1:out x.aG 0 1=true
     · rw [if_pos a1] at h1;cases h1
     rw [if_neg a1] at h1
     by_cases a2:isKind x.kind=false
     · rw [if_pos a2] at h1;cases h1
     rw [if_neg a2] at h1
     by_cases a3:out x.aT 0 15=true∨out x.aP 0 6=true∨out x.first 0 15=true
     · rw [if_pos a3] at h1;cases h1
     rw [if_neg a3] at h1
     by_cases a4:decide (x.aT=0)≠decide (x.aP=0)
     · rw [if_pos a4] at h1;cases h1
     rw [if_neg a4] at h1
     by_cases a5:16<x.aC.length
     · rw [if_pos a5] at h1;cases h1
     rw [not_or,not_or,Bool.not_eq_true,Bool.not_eq_true,Bool.not_eq_true,kF,kF,kF] at a3;rw [Bool.not_eq_true,kF] at a1;rw [ne_eq,Classical.not_not,decide_eq_decide] at a4;exact ⟨by omega,by simpa using a2,a3.1,a3.2.1,a3.2.2,a4,by omega,BK _ _ h2⟩
   · rw [if_pos h2] at h;exact absurd h h2
 · rw [if_pos h1] at h;exact absurd h h1
theorem Di (x:aV):(objects x).length≤x.aC.length:=by
 have:=List.length_filter_le (fun b:Int=>decide (b≠0)) (x.aC.map (·.aT))
 rw [List.length_map] at this;exact this
theorem jR.objs {x:aV} (h:jR x):((objects x).length:Int)≤16:=by
 have:=Di x;have:=h.few;omega
theorem H8 {x:aV} (hp:(⟨x.aT,x.aP⟩:kL)∈x.aC) (h0:x.aT≠0):x.aT∈objects x:=by
 unfold objects
 rw [List.mem_filter];exact ⟨List.mem_map.2 ⟨_,hp,rfl⟩,by simpa using h0⟩
theorem CX {n:Nat} {b:Int}:b∈kJ n↔1≤b∧b≤n:=by
 unfold kJ
 rw [List.mem_map]
 constructor
 · rintro ⟨i,hi,rfl⟩;rw [List.mem_range] at hi;omega
 · intro h;exact ⟨(b - 1).toNat,List.mem_range.2 (by omega),by omega⟩
theorem Ob (n:Nat):(kJ n).Pairwise (· < ·):=by
 unfold kJ
 rw [List.pairwise_map];exact List.pairwise_lt_range.imp (by intro a b h;omega)
theorem WE (g:ByteArray):9≤fH g:=by unfold fH;split <;> omega
theorem mem_left {r:Rules} {s:State} {x:aV} {b:Int}:b∈left r s x↔b∈s.au∧stays r s x b=true:=List.mem_filter
theorem Az:oq≠dS:=by decide
structure Lawful (r:Rules) (s:State) (x:aV):Prop where
 over:s.over=false
 turn:x.kind≠bC→x.aG=s.turn
 brk:x.kind≠bC→(s.brk=true↔x.kind=dS)
 push:x.kind=gI→s.push=true
 pass:x.kind=iW→s.pushed=true
 called:calls r x=true→x.aT∈s.au
 aqx:calls r x=false→x.aT=0
 first:x.first≠0→x.first∈s.au
 objs:∀ b∈objects x,x.first≠0∧b∈s.au
theorem lawful {r:Rules} {s:State} {x:aV} (h:legal r s x=0):Lawful r s x:=by
 unfold legal at h
 by_cases h1:s.over=true
 · rw [if_pos h1] at h;cases h
 rw [if_neg h1] at h
 by_cases h2:x.aG≠s.turn∧x.kind≠bC
 · rw [if_pos h2] at h;cases h
 rw [if_neg h2] at h
 by_cases h3:(s.brk=true∧x.kind≠dS∧x.kind≠bC)∨(s.brk=false∧x.kind=dS)
 · rw [if_pos h3] at h;cases h
 rw [if_neg h3] at h
 by_cases h4:(x.kind=gI∧s.push=false)∨(x.kind=iW∧s.pushed=false)
 · rw [if_pos h4] at h;cases h
 rw [if_neg h4] at h
 by_cases h5:(calls r x=true∧x.aT ∉ s.au)∨(calls r x=false∧x.aT≠0)
 · rw [if_pos h5] at h;cases h
 rw [if_neg h5] at h
 by_cases h6:x.first≠0∧x.first ∉ s.au
 · rw [if_pos h6] at h;cases h
 rw [if_neg h6] at h
 by_cases h7:((objects x).any fun b=>decide (x.first=0∨b ∉ s.au))=true
 · rw [if_pos h7] at h;cases h
 refine ⟨by simpa using h1,fun hk=>Classical.byContradiction fun hn=>h2 ⟨hn,hk⟩,fun hk=>⟨fun hb=>Classical.byContradiction fun hn=>h3 (.inl ⟨hb,hn,hk⟩),fun hb=>?_⟩,fun hk=>?_,fun hk=>?_,
  fun hc=>Classical.byContradiction fun hn=>h5 (.inl ⟨hc,hn⟩),fun hc=>Classical.byContradiction fun hn=>h5 (.inr ⟨hc,hn⟩),fun hf=>Classical.byContradiction fun hn=>h6 ⟨hf,hn⟩,fun b hb=>?_⟩
 · rcases hs:s.brk with _ | _
   · exact absurd (.inr ⟨hs,hb⟩) h3
   · rfl
 · rcases hs:s.push with _ | _
   · exact absurd (.inl ⟨hk,hs⟩) h4
   · rfl
 · rcases hs:s.pushed with _ | _
   · exact absurd (.inr ⟨hk,hs⟩) h4
   · rfl
 · rw [Bool.not_eq_true,List.any_eq_false] at h7
   have:=h7 b hb
   simpa using this
def sc (r:Rules) (s:State) (x:aV) (a:Int):Int:=
 let b:=if good r s x=true then a+(objects x).length else a
 if iw r s x=0 then b else if r.game=aH then b - 1 else b
def fc (r:Rules) (s:State) (x:aV) (a:Int):Int:=if iw r s x=0 then 0 else a+1
def rc (r:Rules) (s:State) (x:aV) (a:Int):Int:=if iw r s x=0 then (if good r s x=true then a+(objects x).length else a) else 0
theorem iH (r:Rules) (s:State) (x:aV):counted r s x= {calm r s x with au:=left r s x,s0:=if x.aG=0 then sc r s x s.s0 else s.s0,s1:=if x.aG=0 then s.s1 else sc r s x s.s1,f0:=if x.aG=0 then fc r s x s.f0 else s.f0,f1:=if x.aG=0 then s.f1 else fc r s x s.f1,run:=rc r s x s.run }:=by
 unfold counted sc fc rc
 by_cases hp:x.aG=0 <;> by_cases hg:good r s x=true <;> by_cases hf:iw r s x=0 <;> by_cases hs:r.game=aH <;> simp [hp,hg,hf,hs,State.qK,State.qJ,State.score,State.kD,sel,calm]
theorem Ie (r:Rules) (s:State) (x:aV) (t:State) (hx:jR x):
 ended r s x t=t∧¬ (r.game=dA∧good r s x=true∧(9:Int)∈objects x)∧¬ (r.game=bF∧x.kind≠dS∧(8:Int)∈objects x)∨
 ∃ v,(v=0∨v=1)∧ended r s x t= {t with over:=true,bP:=v }:=by
 have hp:=hx.aG
 unfold ended
 split
 · exact .inr ⟨_,hp,rfl⟩
 · split
   · exact .inr ⟨_,hp,rfl⟩
   · next h2=>
     split
     · refine .inr ⟨_,?_,rfl⟩;split <;> omega
     · next h3=>exact .inl ⟨rfl,h2,h3⟩
theorem yT {r:Rules} {s:State} {x:aV} (h:good r s x=true):iw r s x=0:=by
 unfold good at h
 split at h
 · cases h
 · next h1=>rw [not_or] at h1;exact Classical.not_not.1 h1.1
theorem Zo {r:Rules} {s:State} {x:aV} (hx:jR x) (a:Int):a - 1≤sc r s x a∧sc r s x a≤a+16:=by
 have:=hx.objs
 unfold sc
 simp only
 split <;> split <;> first | omega | (split <;> omega)
theorem ap4 {r:Rules} {s:State} {x:aV} (hx:jR x) {a:Int} (h:0≤a):0≤rc r s x a∧rc r s x a≤a+16:=by
 have:=hx.objs
 unfold rc
 split
 · split <;> omega
 · omega
theorem OA {r:Rules} {s:State} {x:aV} {a:Int} (h:0≤a):0≤fc r s x a∧fc r s x a≤a+1:=by
 unfold fc;split <;> omega
theorem Hf (b:Int):0≤side b∧side b≤2:=by unfold side;split <;> first | omega | (split <;> omega)
theorem Ri {b:Int} (h:side b=0):b=8:=by unfold side at h;split at h <;> first | omega | (split at h <;> omega)
section
variable {r:Rules} {n:Int} {s:State} {x:aV}
theorem L6 (h:Ok r n s) (hx:jR x) (hl:Lawful r s x) (v:Int) (hv:v=0∨v=1):Ok r (n+16) {counted r s x with over:=true,bP:=v }:=by
 have h1:=h.bI;have k0:=Zo (r:=r) (s:=s) hx s.s0;have k1:=Zo (r:=r) (s:=s) hx s.s1;have k2:=OA (r:=r) (s:=s) (x:=x) h.f0.1;have k3:=OA (r:=r) (s:=s) (x:=x) h.f1.1;have k4:=ap4 (r:=r) (s:=s) hx h.run.1;have a0:=h.s0;have a1:=h.s1;have a2:=h.f0;have a3:=h.f1;have a4:=h.run;rw [iH];refine ⟨h.turn,hv,h.group,h.game,fun b hb=>h.au b (mem_left.1 hb).1,h.order.filter _,?_,?_,?_,?_,?_,?_,?_,?_,?_,?_,?_,?_⟩
 · show -(n+16)≤(if x.aG=0 then sc r s x s.s0 else s.s0)∧(if x.aG=0 then sc r s x s.s0 else s.s0)≤n+16
   split <;> omega
 · show -(n+16)≤(if x.aG=0 then s.s1 else sc r s x s.s1)∧(if x.aG=0 then s.s1 else sc r s x s.s1)≤n+16
   split <;> omega
 · show 0≤(if x.aG=0 then fc r s x s.f0 else s.f0)∧(if x.aG=0 then fc r s x s.f0 else s.f0)≤n+16
   split <;> omega
 · show 0≤(if x.aG=0 then s.f1 else fc r s x s.f1)∧(if x.aG=0 then s.f1 else fc r s x s.f1)≤n+16
   split <;> omega
 · intro h0
   have:=h.l0 h0
   have:=this.2 hl.over
   refine ⟨?_,fun e=>by cases e⟩
   show (if x.aG=0 then fc r s x s.f0 else s.f0)≤r.bD
   split <;> omega
 · intro h0
   have:=h.l1 h0
   have:=this.2 hl.over
   refine ⟨?_,fun e=>by cases e⟩
   show (if x.aG=0 then s.f1 else fc r s x s.f1)≤r.bD
   split <;> omega
 · show 0≤rc r s x s.run∧rc r s x s.run≤n+16
   omega
 · show 1≤s.bI∧s.bI≤n+16
   omega
 · intro hp
   have hp:decide (r.game=dA∧x.kind=dS)=true:=hp;exact ⟨(of_decide_eq_true hp).1,rfl⟩
 · intro hp
   have hp:decide (x.kind=gI)=true:=hp;exact ⟨(h.push (hl.push (of_decide_eq_true hp))).1,rfl⟩
 · intro h1 h2
   have h1:decide (r.game=dA∧x.kind=dS)=true:=h1;have h2:decide (x.kind=gI)=true:=h2;have e1:=(of_decide_eq_true h1).2;have e2:=of_decide_eq_true h2;rw [e1] at e2;exact absurd e2 (by decide)
 · intro e;cases e
theorem Ok.fin {t:State} (h:Ok r n {t with over:=true,bP:=(0:Int) }) (v:Int) (hv:v=0∨v=1):Ok r n {t with over:=true,bP:=v }:=
 ⟨h.turn,hv,h.group,h.game,h.au,h.order,h.s0,h.s1,h.f0,h.f1,h.l0,h.l1,h.run,h.bI,h.push,h.pushed,h.both,fun e=>by cases e⟩
theorem Ok.goes {t:State} (h:Ok r n {t with over:=true,bP:=(0:Int) }) (hw:t.bP=0) (hf0:0<r.bD→t.f0<r.bD) (hf1:0<r.bD→t.f1<r.bD) (hb:t.au≠[]) (h8:r.game=bF→(8:Int)∈t.au) (h9:r.game=dA→(9:Int)∈t.au):Ok r n t:=
 ⟨h.turn,.inl hw,h.group,h.game,h.au,h.order,h.s0,h.s1,h.f0,h.f1,fun h0=>⟨(h.l0 h0).1,fun _=>hf0 h0⟩,fun h0=>⟨(h.l1 h0).1,fun _=>hf1 h0⟩,h.run,h.bI,h.push,h.pushed,h.both,fun _=>⟨hw,hb,h8,h9⟩⟩
theorem tX (h:aQ r=0):r.game=aH∨r.game=bF∨r.game=dA:=by
 unfold aQ at h
 split at h
 · cases h
 · next h1=>
   have h2:oH r.game=true:=by cases h:oH r.game <;> simp_all
   unfold oH at h2
   exact of_decide_eq_true h2
theorem Ky (h:aQ r=0):r.bD=0∨(2≤r.bD∧r.bD≤9):=by
 unfold aQ at h
 split at h
 · cases h
 · split at h
   · cases h
   · next h1=>
     rw [not_or,not_or] at h1
     by_cases h0:r.bD=0
     · exact .inl h0
     · right
       have:=h1.2.2
       rw [not_and,Bool.not_eq_true,kF] at this;exact this h0
theorem Qc (hr:aQ r=0) (h:Ok r n s) (hl:Lawful r s x) (h9:¬ (r.game=dA∧good r s x=true∧(9:Int)∈objects x)) (h8:¬ (r.game=bF∧x.kind≠dS∧(8:Int)∈objects x)):
 (r.game=bF→(8:Int)∈left r s x)∧(r.game=dA→(9:Int)∈left r s x)∧(good r s x=false→left r s x≠[]):=by
 obtain ⟨_,hb,k8,k9⟩:=h.live hl.over
 have e8:r.game=bF→(8:Int)∈left r s x:=by
  intro hg;refine mem_left.2 ⟨k8 hg,?_⟩
  unfold stays
  rw [decide_eq_true_eq]
  by_cases ho:(8:Int)∈objects x
  · right;right;left
    exact ⟨hg,rfl,Classical.byContradiction fun hk=>h8 ⟨hg,hk,ho⟩⟩
  · exact .inl ho
 have e9:r.game=dA→(9:Int)∈left r s x:=by
  intro hg;refine mem_left.2 ⟨k9 hg,?_⟩
  unfold stays
  rw [decide_eq_true_eq]
  by_cases ho:(9:Int)∈objects x
  · right;right;right
    refine ⟨hg,rfl,?_⟩
    rcases hgd:good r s x with _ | _
    · rfl
    · exact absurd ⟨hg,hgd,ho⟩ h9
  · exact .inl ho
 refine ⟨e8,e9,fun hgd=>?_⟩
 rcases tX hr with hg | hg | hg
 · obtain ⟨b,l,e⟩:=List.exists_cons_of_ne_nil hb
   intro he
   have:b∈left r s x:=mem_left.2 ⟨by rw [e];exact List.mem_cons_self,by unfold stays;rw [decide_eq_true_eq];exact .inr (.inl ⟨hg,hgd⟩)⟩
   rw [he] at this
   cases this
 · exact fun he=>by have:=e8 hg;rw [he] at this;cases this
 · exact fun he=>by have:=e9 hg;rw [he] at this;cases this
theorem sS (r:Rules) (s:State) (x:aV):(counted r s x).over=s.over:=by rw [iH];rfl
theorem jk (r:Rules) (s:State) (x:aV):(counted r s x).bP=s.bP:=by rw [iH];rfl
theorem oN (r:Rules) (s:State) (x:aV):(counted r s x).au=left r s x:=by rw [iH]
theorem vM (r:Rules) (s:State) (x:aV):(counted r s x).bI=s.bI:=by rw [iH];rfl
theorem vZ (r:Rules) (s:State) (x:aV):(counted r s x).f0=if x.aG=0 then fc r s x s.f0 else s.f0:=by rw [iH]
theorem wu (r:Rules) (s:State) (x:aV):(counted r s x).f1=if x.aG=0 then s.f1 else fc r s x s.f1:=by rw [iH]
theorem D7 (r:Rules) (s:State) (x:aV):(counted r s x).kD x.aG=fc r s x (s.kD x.aG):=by
 unfold State.kD sel
 rw [vZ,wu]
 split <;> rfl
theorem O5:(∀ b∈jr r,1≤b∧b≤(fH r.game:Int))∧(jr r).Pairwise (· < ·)∧jr r≠[]∧(8:Int)∈jr r∧(9:Int)∈jr r:=by
 have hn:=WE r.game;have h8:(8:Int)∈jr r:=CX.2 (by omega);have h9:(9:Int)∈jr r:=CX.2 (by omega);exact ⟨fun b hb=>CX.1 hb,Ob _,fun e=>(by rw [e] at h8;cases h8),h8,h9⟩
theorem OX (hr:aQ r=0) (h:Ok r n s) (hx:jR x) (hl:Lawful r s x) (hn:0≤n):Ok r (n+16) (next r s x):=by
 have hp:=hx.aG
 have hn16:(0:Int)≤n+16:=by omega
 unfold next
 split
 · exact (Ok.fin (t:=s) ⟨h.turn,.inl rfl,h.group,h.game,h.au,h.order,h.s0,h.s1,h.f0,h.f1,fun h0=>⟨(h.l0 h0).1,fun e=>by cases e⟩,fun h0=>⟨(h.l1 h0).1,fun e=>by cases e⟩,h.run,h.bI,h.push,h.pushed,h.both,fun e=>by cases e⟩ _ (by omega)).more (by omega)
 · next hc=>
   split
   · next hpa=>
     have hb:r.game=dA∧x.kind=dS→False:=fun e=>by rw [hpa] at e;exact absurd e.2 (by decide)
     have hpu:x.kind=gI→False:=fun e=>by rw [hpa] at e;exact absurd e (by decide)
     refine Ok.more (n:=n) ⟨?_,h.bP,h.group,h.game,h.au,h.order,h.s0,h.s1,h.f0,h.f1,h.l0,h.l1,⟨Int.le_refl 0,hn⟩,h.bI,fun e=>(hb (of_decide_eq_true e)).elim,fun e=>(hpu (of_decide_eq_true e)).elim,fun e=>(hb (of_decide_eq_true e)).elim,h.live⟩ (by omega)
     show 1 - x.aG=0∨1 - x.aG=1
     omega
   · have hk:=L6 h hx hl 0 (.inl rfl)
     unfold play
     simp only
     rcases Ie r s x (counted r s x) hx with ⟨he,h9,h8⟩ | ⟨v,hv,he⟩
     · rw [he,if_neg (by rw [sS,hl.over];decide)]
       obtain ⟨w1,w2,w3,w4⟩:=h.live hl.over;obtain ⟨e8,e9,en⟩:=Qc hr h hl h9 h8;obtain ⟨r1,r2,r3,r4,r5⟩:=O5 (r:=r);have hf:=OA (r:=r) (s:=s) (x:=x) h.f0.1;have hf':=OA (r:=r) (s:=s) (x:=x) h.f1.1;have hfr:=Ky hr
       split
       · next hfo=>
         obtain ⟨hfo,hlim⟩:=hfo
         unfold limit
         split
         · exact hk.fin _ (by omega)
         · next hg=>
           have hg:=Classical.not_not.1 hg
           have hsc: -(n+16)≤(counted r s x).score x.aG - 15∧(counted r s x).score x.aG - 15≤n+16:=by
            have hb0:=h.s0;have hb1:=h.s1
            have hgd:good r s x=false:=by
             rcases hgd:good r s x with _ | _
             · rfl
             · exact absurd (yT hgd) hfo
            have hv:∀ a,sc r s x a=a - 1:=fun a=>by unfold sc;simp [hgd,hfo,hg]
            unfold State.score sel
            rw [iH]
            split
            · next h0=>simp only [hv];omega
            · next h0=>simp only [hv];omega
           have Ht:r.game≠dA:=by rw [hg];decide
           have hne:r.game≠bF:=by rw [hg];decide
           have hpu:=hk.push;have Zf:=hk.pushed
           have hrk:1≤(counted r s x).bI+1∧(counted r s x).bI+1≤n+16:=by rw [vM];have:=h.bI;omega
           unfold State.qK State.qJ
           rcases hp with hp | hp
           · rw [hp] at hsc ⊢
             simp only [if_true]
             exact ⟨hk.turn,.inl (by rw [jk];exact w1),hk.group,hk.game,r1,r2,hsc,hk.s1,⟨Int.le_refl 0,hn16⟩,hk.f1,fun h0=>⟨by show (0:Int)≤_;omega,fun _=>h0⟩,
              fun h0=>⟨(hk.l1 h0).1,fun _=>by show (counted r s x).f1<_;rw [wu,hp,if_pos rfl];exact (h.l1 h0).2 hl.over⟩,hk.run,hrk,fun e=>absurd (hpu e).1 Ht,fun e=>absurd (Zf e).1 Ht,hk.both,
              fun _=>⟨by rw [jk];exact w1,r3,fun e=>absurd e hne,fun e=>absurd e Ht⟩⟩
           · rw [hp] at hsc ⊢
             simp only [show ¬ (1:Int)=0 by decide,if_false]
             exact ⟨hk.turn,.inl (by rw [jk];exact w1),hk.group,hk.game,r1,r2,hk.s0,hsc,hk.f0,⟨Int.le_refl 0,hn16⟩,
              fun h0=>⟨(hk.l0 h0).1,fun _=>by show (counted r s x).f0<_;rw [vZ,hp,if_neg (by decide)];exact (h.l0 h0).2 hl.over⟩,fun h0=>⟨by show (0:Int)≤_;omega,fun _=>h0⟩,hk.run,hrk,fun e=>absurd (hpu e).1 Ht,fun e=>absurd (Zf e).1 Ht,hk.both,
              fun _=>⟨by rw [jk];exact w1,r3,fun e=>absurd e hne,fun e=>absurd e Ht⟩⟩
       · next hnl=>
         have hq:∀ h0:0<r.bD,(counted r s x).f0<r.bD∧(counted r s x).f1<r.bD:=by
          intro h0;have g0:=(h.l0 h0).2 hl.over;have g1:=(h.l1 h0).2 hl.over
          have hfz:iw r s x=0∨(counted r s x).kD x.aG≠r.bD:=by
           by_cases hz:iw r s x=0
           · exact .inl hz
           · exact .inr fun e=>hnl ⟨hz,e⟩
          rw [D7] at hfz;rw [vZ,wu]
          unfold State.kD sel at hfz
          unfold fc at hfz ⊢
          rcases hp with hp | hp
          · simp only [hp,if_true] at hfz ⊢
            refine ⟨?_,g1⟩
            by_cases hz:iw r s x=0
            · rw [if_pos hz];exact h0
            · rw [if_neg hz] at hfz ⊢;omega
          · simp only [hp,show ¬ (1:Int)=0 by decide,if_false] at hfz ⊢
            refine ⟨g0,?_⟩
            by_cases hz:iw r s x=0
            · rw [if_pos hz];exact h0
            · rw [if_neg hz] at hfz ⊢;omega
         split
         · next hgd=>
           have hgo:=hk.goes (by rw [jk];exact w1) (fun h0=>(hq h0).1) (fun h0=>(hq h0).2) (by rw [oN];exact en hgd) (by rw [oN];exact e8) (by rw [oN];exact e9);refine ⟨?_,hgo.bP,hgo.group,hgo.game,hgo.au,hgo.order,hgo.s0,hgo.s1,hgo.f0,hgo.f1,hgo.l0,hgo.l1,⟨Int.le_refl 0,hn16⟩,hgo.bI,hgo.push,hgo.pushed,hgo.both,hgo.live⟩
           show 1 - x.aG=0∨1 - x.aG=1
           omega
         · next hgd=>
           have hgd:good r s x=true:=by simpa using hgd
           have hgr:Ok r (n+16) {grouped r s x (counted r s x) with over:=true,bP:=(0:Int) }:=by
            unfold grouped
            split
            · next hg=>
              have asN:0≤(if x.aG=1 then 3 - side x.aT else side x.aT)∧(if x.aG=1 then 3 - side x.aT else side x.aT)≤2:=by
               have hs:=Hf x.aT
               split
               · have:side x.aT≠0:=by
                  intro h0;have hb8:=Ri h0;refine h8 ⟨hg.1,by rw [hg.2.1];decide,?_⟩;have hgs:=yU r s x;rw [hgd,if_neg (by rw [hg.2.1];decide),if_neg (by rw [hg.2.1];decide),if_neg (by rw [hg.1];decide)] at hgs
                  have:=(of_decide_eq_true hgs.symm).2.2
                  rw [← hb8];exact H8 this (by omega)
                 omega
               · exact hs
              exact ⟨hk.turn,hk.bP,asN,fun _=>hg.1,hk.au,hk.order,hk.s0,hk.s1,hk.f0,hk.f1,hk.l0,hk.l1,hk.run,hk.bI,hk.push,hk.pushed,hk.both,hk.live⟩
            · exact hk
           have gb:(grouped r s x (counted r s x)).au=left r s x:=by unfold grouped;split <;> exact oN r s x
           have go:(grouped r s x (counted r s x)).over=false:=by unfold grouped;split <;> exact (sS r s x).trans hl.over
           have gw:(grouped r s x (counted r s x)).bP=0:=by unfold grouped;split <;> exact (jk r s x).trans w1
           have gr:(grouped r s x (counted r s x)).bI=s.bI:=by unfold grouped;split <;> exact vM r s x
           have g0:(grouped r s x (counted r s x)).f0=(counted r s x).f0:=by unfold grouped;split <;> rfl
           have g1:(grouped r s x (counted r s x)).f1=(counted r s x).f1:=by unfold grouped;split <;> rfl
           unfold fB
           split
           · next hg=>
             have Ht:r.game≠dA:=by rw [hg.1];decide
             have hne:r.game≠bF:=by rw [hg.1];decide
             have hrk:1≤(grouped r s x (counted r s x)).bI+1∧(grouped r s x (counted r s x)).bI+1≤n+16:=by rw [gr];have:=h.bI;omega
             exact ⟨hgr.turn,.inl gw,hgr.group,hgr.game,r1,r2,hgr.s0,hgr.s1,hgr.f0,hgr.f1,fun h0=>⟨(hgr.l0 h0).1,fun _=>by show (grouped r s x (counted r s x)).f0<_;rw [g0];exact (hq h0).1⟩,fun h0=>⟨(hgr.l1 h0).1,fun _=>by show (grouped r s x (counted r s x)).f1<_;rw [g1];exact (hq h0).2⟩,
              hgr.run,hrk,hgr.push,hgr.pushed,hgr.both,fun _=>⟨gw,r3,fun e=>absurd e hne,fun e=>absurd e Ht⟩⟩
           · next hg=>
             refine hgr.goes gw (fun h0=>by rw [g0];exact (hq h0).1) (fun h0=>by rw [g1];exact (hq h0).2) ?_ (by rw [gb];exact e8) (by rw [gb];exact e9);rw [gb] at hg ⊢;intro hnil
             rcases tX hr with h1 | h1 | h1
             · exact hg ⟨h1,by rw [hnil];decide⟩
             · have:=e8 h1;rw [hnil] at this;cases this
             · have:=e9 h1;rw [hnil] at this;cases this
     · rw [he,if_pos rfl]
       exact hk.fin v hv
theorem WS (r:Rules):Ok r 1 (start r):=by
 obtain ⟨r1,r2,r3,r4,r5⟩:=O5 (r:=r)
 have z0:(0:Int)≤0∧(0:Int)≤1:=by omega
 have z1:(-1:Int)≤0∧(0:Int)≤1:=by omega
 have z2:(1:Int)≤1∧(1:Int)≤1:=by omega
 have z3:(0:Int)≤0∧(0:Int)≤2:=by omega
 exact {turn:= .inl rfl,bP:= .inl rfl,group:=z3,game:=fun h=>absurd rfl h,au:=r1,order:=r2,s0:=z1,s1:=z1,f0:=z0,f1:=z0,l0:=fun h=>⟨Int.le_of_lt h,fun _=>h⟩,l1:=(fun h=>⟨Int.le_of_lt h,fun _=>h⟩),run:=z0,bI:=z2,push:=fun e=>(by cases e),pushed:=fun e=>(by cases e),both:=fun e=>(by cases e),live:=fun _=>⟨rfl,r3,fun _=>r4,fun _=>r5⟩ }
theorem step_ok (hr:aQ r=0) (h:Ok r n s) (hx:jR x) (hn:0≤n):Ok r (n+16) (step r s x):=by
 unfold step
 split
 · next hl=>exact OX hr h hx (lawful hl) hn
 · exact h.more (by omega)
end
end M
namespace M
section
variable {r:Rules} {n:Int} {s:State} {x:aV}
theorem sQ (n:Int):∀ (l:List Int) (last:Option Int),gu n last l=0↔(∀ b∈l,1≤b∧b≤n)∧l.Pairwise (· < ·)∧∀ a,last=some a→∀ b∈l,a<b
 | [],last=>by simp [gu]
 | b::l,last=>by
   rw [gu]
   by_cases h1:out b 1 n=true
   · rw [if_pos h1]
     constructor
     · intro h;cases h
     · rintro ⟨h,_⟩
       have:=h b List.mem_cons_self
       unfold out at h1;rw [decide_eq_true_eq] at h1;omega
   · rw [if_neg h1]
     have h1':=kF.1 (by simpa using h1)
     by_cases h2:(last.map (fun a=>decide (b≤a))).getD false=true
     · rw [if_pos h2]
       constructor
       · intro h;cases h
       · rintro ⟨_,_,h⟩
         cases last with
         | none=>simp at h2
         | some a=>have:=h a rfl b List.mem_cons_self;simp at h2;omega
     · rw [if_neg h2,sQ n l (some b)]
       have hl:∀ a,last=some a→a<b:=by
        intro a e;subst e;simp at h2;omega
       constructor
       · rintro ⟨i1,i2,i3⟩
         refine ⟨?_,List.pairwise_cons.2 ⟨fun c hc=>i3 b rfl c hc,i2⟩,fun a e c hc=>?_⟩
         · intro c hc
           rcases List.mem_cons.1 hc with rfl | hc
           · exact h1'
           · exact i1 c hc
         · rcases List.mem_cons.1 hc with rfl | hc
           · exact hl a e
           · have:=hl a e
             have:=i3 b rfl c hc
             omega
       · rintro ⟨i1,i2,i3⟩
         obtain ⟨j1,j2⟩:=List.pairwise_cons.1 i2;exact ⟨fun c hc=>i1 c (List.mem_cons_of_mem _ hc),j2,fun a e c hc=>by cases e;exact j1 c hc⟩
theorem Ir:dR r s=0↔aQ r=0∧(s.turn=0∨s.turn=1)∧(s.bP=0∨s.bP=1)∧(0≤s.group∧s.group≤2)∧(s.group≠0→r.game=bF):=by
 unfold dR
 by_cases h:aQ r=0
 · rw [if_neg (by simp [h])]
   unfold out
   by_cases hg:r.game=bF
   · simp only [h,hg,decide_eq_true_eq,ne_eq,not_true,and_false,or_false,true_and,implies_true,and_true]
     split
     · constructor
       · intro e;cases e
       · omega
     · constructor
       · intro _;omega
       · intro _;rfl
   · simp only [h,hg,decide_eq_true_eq,ne_eq,not_false_eq_true,and_true,true_and]
     split
     · constructor
       · intro e;cases e
       · rintro ⟨h1,h2,h3,h4⟩
         by_cases h0:s.group=0
         · omega
         · exact (h4 h0).elim
     · next h1=>
       constructor
       · intro _;exact ⟨by omega,by omega,by omega,fun h0=>by omega⟩
       · intro _;rfl
 · rw [if_pos h]
   constructor
   · intro e;exact absurd e h
   · rintro ⟨e,_⟩;exact absurd e h
theorem uZ {over:Bool} {f:Int}:oL r over f=false↔(0≤f∧f≤99999)∧(0<r.bD→f≤r.bD∧(over=false→f<r.bD)):=by
 unfold oL
 rw [decide_eq_false_iff_not,not_or,Bool.not_eq_true,kF,not_and,not_or,not_and]
 constructor
 · rintro ⟨h1,h2⟩
   refine ⟨h1,fun h0=>⟨by have:=(h2 h0).1;omega,fun ho=>?_⟩⟩;have h3:=(h2 h0).1;have h4:=(h2 h0).2
   rcases Int.lt_or_le f r.bD with h | h
   · exact h
   · exact absurd ho (h4 (by omega))
 · rintro ⟨h1,h2⟩
   refine ⟨h1,fun h0=>⟨by have:=(h2 h0).1;omega,fun e ho=>?_⟩⟩
   have:=(h2 h0).2 ho
   omega
theorem zT:dK r s=0↔(-99999≤s.s0∧s.s0≤99999)∧(-99999≤s.s1∧s.s1≤99999)∧oL r s.over s.f0=false∧oL r s.over s.f1=false∧(0≤s.run∧s.run≤99999)∧(1≤s.bI∧s.bI≤1000):=by
 unfold dK
 rw [← kF, ← kF, ← kF (n:=s.run), ← kF (n:=s.bI)]
 cases out s.s0 (-99999) 99999 <;> cases out s.s1 (-99999) 99999 <;> cases oL r s.over s.f0 <;> cases oL r s.over s.f1 <;> cases out s.run 0 99999 <;> cases out s.bI 1 1000 <;> simp
theorem Nq:dK r s=0∨dK r s=3:=by unfold dK;split <;> simp
theorem KF:kV r s=0↔vY r s=false∧(s.over=false→s.bP=0∧missing r s=false):=by
 unfold kV
 cases vY r s <;> cases s.over <;> cases missing r s <;> by_cases h:s.bP=0 <;> simp [h]
theorem zQ:missing r s=false↔s.au≠[]∧(r.game=bF→(8:Int)∈s.au)∧(r.game=dA→(9:Int)∈s.au):=by
 unfold missing
 rw [decide_eq_false_iff_not,not_or,not_or,not_and,not_and,Classical.not_not,Classical.not_not]
theorem Jv:vY r s=false↔(s.push=true→r.game=dA∧s.brk=false)∧(s.pushed=true→r.game=dA∧s.brk=false)∧(s.push=true→s.pushed=true→False):=by
 unfold vY
 by_cases hg:r.game=dA <;> cases s.push <;> cases s.pushed <;> cases s.brk <;> simp [hg]
theorem Rk:eH r s=0↔dR r s=0∧gu (fH r.game) none s.au=0∧dK r s=0∧kV r s=0:=by
 unfold eH
 by_cases h1:dR r s=0
 · by_cases h2:gu (fH r.game) none s.au=0
   · by_cases h3:dK r s=0
     · simp [h1,h2,h3]
     · simp [h1,h2,h3]
   · simp [h1,h2]
 · simp [h1]
theorem Jl (h:eH r s=0):aQ r=0∧Ok r 99999 s:=by
 obtain ⟨h1,h2,h3,h4⟩:=Rk.1 h;obtain ⟨a1,a2,a3,a4,a5⟩:=Ir.1 h1;obtain ⟨b1,b2,_⟩:=(sQ _ _ _).1 h2;obtain ⟨c1,c2,c3,c4,c5,c6⟩:=zT.1 h3;obtain ⟨d1,d2⟩:=KF.1 h4;obtain ⟨e1,e2⟩:=uZ.1 c3;obtain ⟨e3,e4⟩:=uZ.1 c4;obtain ⟨p1,p2,p3⟩:=Jv.1 d1;exact ⟨a1,a2,a3,a4,a5,b1,b2,c1,c2,e1,e3,e2,e4,c5,by omega,p1,p2,p3,fun ho=>⟨(d2 ho).1,zQ.1 (d2 ho).2⟩⟩
theorem Ah (hr:aQ r=0) (h:Ok r n s):eH r s=dK r s:=by
 have h1:dR r s=0:=Ir.2 ⟨hr,h.turn,h.bP,h.group,h.game⟩;have h2:gu (fH r.game) none s.au=0:=(sQ _ _ _).2 ⟨h.au,h.order,fun a e=>by cases e⟩;have h4:kV r s=0:=KF.2 ⟨Jv.2 ⟨h.push,h.pushed,h.both⟩,fun ho=>⟨(h.live ho).1,zQ.2 (h.live ho).2⟩⟩
 unfold eH
 rw [if_neg (by simp [h1]),if_neg (by simp [h2])]
 rcases Nq (r:=r) (s:=s) with h3 | h3
 · rw [if_neg (by simp [h3]),h4,h3]
 · rw [if_pos (by rw [h3];decide),h3]
theorem DK (hr:aQ r=0) (h:Ok r n s) (hn:n≤1000):eH r s=0:=by
 rw [Ah hr h]
 have:=h.s0;have:=h.s1;have:=h.f0;have:=h.f1;have:=h.run;have:=h.bI
 exact zT.2 ⟨by omega,by omega,uZ.2 ⟨by omega,h.l0⟩,uZ.2 ⟨by omega,h.l1⟩,by omega,by omega⟩
theorem EC (h:good r s x=true):x.kind≠bC∧x.kind≠iW:=by
 rw [yU] at h
 split at h
 · next h1=>rw [h1];decide
 · split at h
   · cases h
   · next h2=>rw [ne_eq,Classical.not_not] at h2;rw [h2];decide
end
end M
namespace M
def dW (cur:List UInt8):List UInt8→List (List UInt8)
 | []=>[cur]
 | c::l=>if c=32 then cur::dW [] l else dW (cur++[c]) l
def words (l:List UInt8):List (List UInt8):=dW [] l
theorem yx (l cur:List UInt8):dW cur l≠[]:=by
 induction l generalizing cur with
 | nil=>simp [dW]
 | cons c l ih=>rw [dW];split <;> simp [ih]
def join:List (List UInt8)→List UInt8
 | []=>[]
 | a::l=>a++l.flatMap fun b=>32::b
theorem jH (a:List UInt8) (ha:(32:UInt8) ∉ a) (l cur:List UInt8):dW cur (a++l)=dW (cur++a) l:=by
 induction a generalizing cur with
 | nil=>simp
 | cons c a ih=>
   rw [List.mem_cons,not_or] at ha;rw [List.cons_append,dW,if_neg (fun e=>ha.1 e.symm),ih ha.2]
   simp
theorem Oq (a:List UInt8) (l:List (List UInt8)) (ha:(32:UInt8) ∉ a) (hl:∀ b∈l,(32:UInt8) ∉ b):words (join (a::l))=a::l:=by
 have key:∀ (l:List (List UInt8)),(∀ b∈l,(32:UInt8) ∉ b)→∀ cur,dW cur (l.flatMap fun b=>32::b)=cur::l:=by
  intro l
  induction l with
  | nil=>intro _ cur;rfl
  | cons b l ih=>
    intro h cur;rw [List.flatMap_cons,List.cons_append,dW,if_pos rfl,jH b (h b List.mem_cons_self),ih (fun c hc=>h c (List.mem_cons_of_mem _ hc))]
    rfl
 unfold words join
 rw [jH a ha,key l hl]
 rfl
def lI (c:UInt8):Bool:=48≤c∧c≤57
def num:List UInt8→Option Int
 | [a]=>if lI a then some ((a.toNat:Int) - 48) else none
 | [a,b]=>if lI a=true∧lI b=true∧a≠48 then some (10*((a.toNat:Int) - 48)+((b.toNat:Int) - 48)) else none
 | _=>none
def Y6 (n:Nat):UInt8:=UInt8.ofNat (48+n)
def dec (n:Int):List UInt8:=if n<10 then [Y6 n.toNat] else [Y6 (n.toNat / 10),Y6 (n.toNat % 10)]
theorem XC:∀ n:Fin 10,lI (Y6 n.val)=true∧(Y6 n.val).toNat=48+n.val:=by decide
theorem wE {n:Nat} (h:n<10):lI (Y6 n)=true∧(Y6 n).toNat=48+n:=XC ⟨n,h⟩
theorem qj {c:UInt8}:lI c=true↔48≤c.toNat∧c.toNat≤57:=by
 unfold lI
 rw [decide_eq_true_eq,UInt8.le_iff_toNat_le,UInt8.le_iff_toNat_le]
 rfl
theorem L9 {c:UInt8} (h:lI c=true):Y6 (c.toNat - 48)=c:=by
 have:=qj.1 h
 apply UInt8.toNat_inj.1;rw [(wE (n:=c.toNat - 48) (by omega)).2]
 omega
theorem Bh {n:Int} (h0:0≤n) (h1:n≤99):num (dec n)=some n:=by
 unfold dec
 split
 · have:=wE (n:=n.toNat) (by omega)
   rw [num,if_pos this.1,this.2]
   congr 1
   omega
 · have a:=wE (n:=n.toNat / 10) (by omega)
   have b:=wE (n:=n.toNat % 10) (by omega);rw [num,if_pos ⟨a.1,b.1,fun e=>by have:=a.2;rw [e] at this;have h48:(48:UInt8).toNat=48:=rfl;omega⟩,a.2,b.2]
   congr 1
   omega
theorem XB {l:List UInt8} {n:Int} (h:num l=some n):l=dec n∧0≤n∧n≤99:=by
 match l,h with
 | [a],h=>
   rw [num] at h
   split at h
   · next ha=>
     have h48:=qj.1 ha
     injection h with h
     subst h;refine ⟨?_,by omega,by omega⟩
     unfold dec
     rw [if_pos (by omega),show ((a.toNat:Int) - 48).toNat=a.toNat - 48 by omega,L9 ha]
   · cases h
 | [a,b],h=>
   rw [num] at h
   split at h
   · next hab=>
     obtain ⟨ha,hb,h0⟩:=hab;have ha':=qj.1 ha;have hb':=qj.1 hb;have h0':a.toNat≠48:=fun e=>h0 (UInt8.toNat_inj.1 (by rw [e];rfl))
     injection h with h
     subst h;refine ⟨?_,by omega,by omega⟩
     unfold dec
     rw [if_neg (by omega),show (10*((a.toNat:Int) - 48)+((b.toNat:Int) - 48)).toNat / 10=a.toNat - 48 by omega,show (10*((a.toNat:Int) - 48)+((b.toNat:Int) - 48)).toNat % 10=b.toNat - 48 by omega,L9 ha,L9 hb]
   · cases h
def cutAt (c:UInt8):List UInt8→Option (List UInt8 × List UInt8)
 | []=>none
 | a::l=>if a=c then some ([],l) else (cutAt c l).map fun p=>(a::p.1,p.2)
theorem wC {c:UInt8}:∀ {l a b:List UInt8},cutAt c l=some (a,b)→l=a++c::b∧c ∉ a
 | [],a,b,h=>by cases h
 | d::l,a,b,h=>by
   rw [cutAt] at h
   split at h
   · next hd=>injection h with h;injection h with h1 h2;subst h1 h2 hd;simp
   · next hd=>
     cases hc:cutAt c l with
     | none=>rw [hc] at h;cases h
     | some p=>
       obtain ⟨p1,p2⟩:=p;rw [hc] at h
       injection h with h;injection h with h1 h2
       subst h1 h2;obtain ⟨e,hn⟩:=wC hc;exact ⟨by rw [e];rfl,by rw [List.mem_cons,not_or];exact ⟨fun e=>hd e.symm,hn⟩⟩
theorem BN {c:UInt8}:∀ {a:List UInt8} (b:List UInt8),c ∉ a→cutAt c (a++c::b)=some (a,b)
 | [],b,_=>by rw [List.nil_append,cutAt,if_pos rfl]
 | d::a,b,h=>by
   rw [List.mem_cons,not_or] at h;rw [List.cons_append,cutAt,if_neg (fun e=>h.1 e.symm),BN b h.2]
   rfl
theorem wB {c:UInt8}:∀ {l:List UInt8},cutAt c l=none↔c ∉ l
 | []=>by simp [cutAt]
 | d::l=>by
   rw [cutAt,List.mem_cons,not_or]
   split
   · next h=>subst h;simp
   · next h=>rw [Option.map_eq_none_iff,wB];exact ⟨fun k=>⟨fun e=>h e.symm,k⟩,fun k=>k.2⟩
def two:Option Int→Option Int→Option (Int × Int)
 | some a,some b=>some (a,b)
 | _,_=>none
def dQ (letter:UInt8):List UInt8→Option (Int × Int)
 | []=>none
 | a::l=>if a=letter then (match cutAt 47 l with | none=>none | some p=>two (num p.1) (num p.2)) else none
def bV (letter:UInt8) (a b:Int):List UInt8:=letter::(dec a++47::dec b)
theorem Ew {n:Int} (h1:n≤99):∀ c∈dec n,lI c=true:=by
 intro c hc
 unfold dec at hc
 split at hc
 · rw [List.mem_singleton] at hc;subst hc;exact (wE (by omega)).1
 · rw [List.mem_cons,List.mem_singleton] at hc
   rcases hc with rfl | rfl
   · exact (wE (by omega)).1
   · exact (wE (by omega)).1
theorem OY {c d:UInt8} (h:lI c=true) (hd:lI d=false):c≠d:=fun e=>by rw [e,hd] at h;cases h
theorem EX (letter:UInt8) {a b:Int} (ha:0≤a∧a≤99) (hb:0≤b∧b≤99):dQ letter (bV letter a b)=some (a,b):=by
 unfold bV
 have h47:(47:UInt8) ∉ dec a:=fun h=>absurd rfl (OY (Ew ha.2 _ h) (d:=47) (by decide));rw [dQ,if_pos rfl,BN _ h47]
 simp only [Bh ha.1 ha.2,Bh hb.1 hb.2,two]
def letter (p:Int):List UInt8:=if p=1 then [98] else [97]
def tail (x:aV):List (List UInt8):=
 (if x.aT≠0 then [bV 99 x.aT x.aP] else [])++(if x.first≠0 then [102::dec x.first] else [])++(if x.cO=true then [[43]] else [])++x.aC.map fun p=>bV 112 p.aT p.aP
def pieces (x:aV):List (List UInt8):=letter x.aG::x.kind.toList::tail x
def print (x:aV):List UInt8:=join (pieces x)
def blank:aV:={aG:=0,kind:=⟨#[]⟩,aT:=0,aP:=0,first:=0,cO:=false,aC:=[] }
def jy (w:List UInt8):Bool:=isKind ⟨w.toArray⟩
def rE:List UInt8→Option Int
 | []=>none
 | c::l=>if c=102 then num l else none
def read (x:aV) (place:Nat) (w:List UInt8):Option (aV × Nat):=
 match (if place≤2 then dQ 99 w else none).filter fun p=>0<p.1∧0<p.2 with
 | some p=>some ({x with aT:=p.1,aP:=p.2 },3)
 | none=>
   match (if place≤3 then rE w else none).filter fun h=>0<h with
   | some h=>some ({x with first:=h },4)
   | none=>
     if place≤4∧w=[43] then some ({x with cO:=true },5)
     else match dQ 112 w with
      | some p=>some ({x with aC:=x.aC++[⟨p.1,p.2⟩] },5)
      | none=>none
def readAll (x:aV) (place:Nat) (n:Int):List (List UInt8)→Except Int aV
 | []=> .ok x
 | w::l=>match read x place w with
   | some q=>readAll q.1 q.2 (n+1) l
   | none=> .error (n+1)
def gK:List (List UInt8)→Except Int aV
 | []=> .error 1
 | w::l=>
   if w≠[97]∧w≠[98] then .error 1
   else match l with
    | []=> .error 2
    | k::l=>if jy k=false then .error 2 else readAll {blank with aG:=if w=[98] then 1 else 0,kind:=⟨k.toArray⟩ } 2 2 l
def parse (s:List UInt8):aV × Int × Int:=
 if 4096<s.length then (blank,0,26)
 else match gK (words s) with
  | .error n=>(blank,n,25)
  | .ok x=>if bT x≠0 then (blank,0,bT x) else (x,0,0)
def fO (x:aV) (n:Int):List (List UInt8)→Except Int aV
 | []=> .ok x
 | w::l=>match dQ 112 w with
   | some p=>fO {x with aC:=x.aC++[⟨p.1,p.2⟩] } (n+1) l
   | none=> .error (n+1)
def eF (x:aV) (n:Int):List (List UInt8)→Except Int aV
 | []=> .ok x
 | w::l=>if w=[43] then fO {x with cO:=true } (n+1) l else fO x n (w::l)
def jq (x:aV) (n:Int):List (List UInt8)→Except Int aV
 | []=> .ok x
 | w::l=>match (rE w).filter fun h=>0<h with
   | some h=>eF {x with first:=h } (n+1) l
   | none=>eF x n (w::l)
def kG (x:aV) (n:Int):List (List UInt8)→Except Int aV
 | []=> .ok x
 | w::l=>match (dQ 99 w).filter fun p=>0<p.1∧0<p.2 with
   | some p=>jq {x with aT:=p.1,aP:=p.2 } (n+1) l
   | none=>jq x n (w::l)
theorem sH (l:List (List UInt8)):∀ (x:aV) (n:Int),readAll x 5 n l=fO x n l:=by
 induction l with
 | nil=>intro x n;rfl
 | cons w l ih=>
   intro x n;rw [readAll,fO,read]
   simp only [show ¬ (5≤2) by omega,show ¬ (5≤3) by omega,show ¬ (5≤4) by omega,if_false,Option.filter_none,false_and]
   cases dQ 112 w with
   | none=>rfl
   | some p=>exact ih _ _
theorem Ad (l:List (List UInt8)) (x:aV) (n:Int):readAll x 4 n l=eF x n l:=by
 cases l with
 | nil=>rfl
 | cons w l=>
   rw [readAll,eF,read]
   simp only [show ¬ (4≤2) by omega,show ¬ (4≤3) by omega,if_false,Option.filter_none,Nat.le_refl,true_and]
   by_cases h:w=[43]
   · simp only [h,if_true];exact sH _ _ _
   · simp only [h,if_false]
     rw [fO]
     cases dQ 112 w with
     | none=>rfl
     | some p=>exact sH _ _ _
theorem YM (l:List (List UInt8)) (x:aV) (n:Int):readAll x 3 n l=jq x n l:=by
 cases l with
 | nil=>rfl
 | cons w l=>
   rw [readAll,jq,read]
   simp only [show ¬ (3≤2) by omega,if_false,Option.filter_none,Nat.le_refl,if_true]
   cases (rE w).filter fun h=>decide (0<h) with
   | some h=>exact Ad _ _ _
   | none=>
     simp only [show 3≤4 by omega,true_and]
     rw [eF]
     by_cases h:w=[43]
     · simp only [h,if_true];exact sH _ _ _
     · simp only [h,if_false]
       rw [fO]
       cases dQ 112 w with
       | none=>rfl
       | some p=>exact sH _ _ _
theorem Kr (l:List (List UInt8)) (x:aV) (n:Int):readAll x 2 n l=kG x n l:=by
 cases l with
 | nil=>rfl
 | cons w l=>
   rw [readAll,kG,read]
   simp only [Nat.le_refl,if_true]
   cases (dQ 99 w).filter fun p=>decide (0<p.1∧0<p.2) with
   | some p=>exact YM _ _ _
   | none=>
     simp only [show 2≤3 by omega,if_true]
     rw [jq]
     cases (rE w).filter fun h=>decide (0<h) with
     | some h=>exact Ad _ _ _
     | none=>
       simp only [show 2≤4 by omega,true_and]
       rw [eF]
       by_cases h:w=[43]
       · simp only [h,if_true];exact sH _ _ _
       · simp only [h,if_false]
         rw [fO]
         cases dQ 112 w with
         | none=>rfl
         | some p=>exact sH _ _ _
theorem TV (c:UInt8) (l:List UInt8) (h:c≠102):rE (c::l)=none:=by rw [rE,if_neg h]
theorem Qv (d c:UInt8) (l:List UInt8) (h:c≠d):dQ d (c::l)=none:=by rw [dQ,if_neg h]
theorem Iw (l:List (List UInt8)) (x:aV) (n:Int) (h:∀ c t m,l=(c::t)::m→c≠102) (h0:∀ m,l≠[]::m):jq x n l=eF x n l:=by
 match l with
 | []=>rfl
 | []::m=>exact absurd rfl (h0 m)
 | (c::t)::m=>rw [jq,TV c t (h c t m rfl)];rfl
theorem yP (l:List (List UInt8)) (x:aV) (n:Int) (h:∀ c t m,l=(c::t)::m→c≠99) (h0:∀ m,l≠[]::m):kG x n l=jq x n l:=by
 match l with
 | []=>rfl
 | []::m=>exact absurd rfl (h0 m)
 | (c::t)::m=>rw [kG,Qv 99 c t (h c t m rfl)];rfl
end M
namespace M
section
variable {r:Rules} {n:Int} {s:State} {x:aV}
theorem agn (r:Rules) (s:State) (x:aV):∃ e:Int,(∀ a,sc r s x a=a+e)∧(good r s x=true→e=(objects x).length)∧(good r s x=false→(e=0∨e= -1)∧(r.game≠aH→e=0)):=by
 unfold sc
 simp only
 cases hg:good r s x with
 | true=>rw [yT hg];exact ⟨_,fun a=>rfl,fun _=>rfl,fun e=>by cases e⟩
 | false=>
   by_cases hf:iw r s x=0
   · exact ⟨0,fun a=>(by simp [hf]),fun e=>(by cases e),fun _=>⟨.inl rfl,fun _=>rfl⟩⟩
   · by_cases hs:r.game=aH
     · exact ⟨-1,fun a=>(by simp [hf,hs];omega),fun e=>(by cases e),fun _=>⟨.inr rfl,fun h=>absurd hs h⟩⟩
     · exact ⟨0,fun a=>(by simp [hf,hs]),fun e=>(by cases e),fun _=>⟨.inl rfl,fun _=>rfl⟩⟩
theorem FZ (r:Rules) (s:State) (x:aV) (t:State):(ended r s x t).s0=t.s0∧(ended r s x t).s1=t.s1∧(ended r s x t).au=t.au∧(ended r s x t).bI=t.bI:=by
 unfold ended;split <;> (try exact ⟨rfl,rfl,rfl,rfl⟩);split <;> (try exact ⟨rfl,rfl,rfl,rfl⟩);split <;> exact ⟨rfl,rfl,rfl,rfl⟩
theorem CB (r:Rules) (s:State) (x:aV) (t:State):(grouped r s x t).s0=t.s0∧(grouped r s x t).s1=t.s1∧(grouped r s x t).au=t.au∧(grouped r s x t).bI=t.bI∧(grouped r s x t).over=t.over:=by
 unfold grouped;split <;> exact ⟨rfl,rfl,rfl,rfl,rfl⟩
theorem AP (r:Rules) (t:State):(fB r t).s0=t.s0∧(fB r t).s1=t.s1:=by
 unfold fB;split <;> exact ⟨rfl,rfl⟩
theorem BM (r:Rules) (s:State) (x:aV):(counted r s x).s0=(if x.aG=0 then sc r s x s.s0 else s.s0)∧(counted r s x).s1=(if x.aG=0 then s.s1 else sc r s x s.s1):=by
 rw [iH];exact ⟨rfl,rfl⟩
theorem Jf (r:Rules) (s:State) (x:aV):∃ d:Int,(next r s x).s0=s.s0+(if x.aG=0 then d else 0)∧(next r s x).s1=s.s1+(if x.aG=0 then 0 else d)∧
 (good r s x=true→d=(objects x).length)∧(good r s x=false→ -16≤d∧d≤0∧(r.game≠aH→d=0)):=by
 unfold next
 split
 · next hc=>exact ⟨0,by simp,by simp,fun hg=>absurd hc (EC hg).1,fun _=>⟨by omega,Int.le_refl 0,fun _=>rfl⟩⟩
 split
 · next hc=>exact ⟨0,by simp [calm],by simp [calm],fun hg=>absurd hc (EC hg).2,fun _=>⟨by omega,Int.le_refl 0,fun _=>rfl⟩⟩
 obtain ⟨e,he,hgo,hba⟩:=agn r s x;obtain ⟨c0,c1⟩:=BM r s x;obtain ⟨e0,e1,_,_⟩:=FZ r s x (counted r s x)
 have t0:(ended r s x (counted r s x)).s0=s.s0+(if x.aG=0 then e else 0):=by rw [e0,c0];split <;> simp [he]
 have t1:(ended r s x (counted r s x)).s1=s.s1+(if x.aG=0 then 0 else e):=by rw [e1,c1];split <;> simp [he]
 have X4:good r s x=false→ -16≤e∧e≤0∧(r.game≠aH→e=0):=fun h=>⟨by have:=(hba h).1;omega,by have:=(hba h).1;omega,(hba h).2⟩
 unfold play
 simp only
 split
 · exact ⟨e,t0,t1,hgo,X4⟩
 split
 · next hf=>
   have Ht:good r s x=false:=by
    cases hg:good r s x with
    | false=>rfl
    | true=>exact absurd (yT hg) hf.1
   unfold limit
   split
   · exact ⟨e,t0,t1,hgo,X4⟩
   · next hs=>
     refine ⟨e - 15,?_,?_,fun h=>(by rw [Ht] at h;cases h),fun _=>⟨(by have:=(hba Ht).1;omega),(by have:=(hba Ht).1;omega),fun h=>absurd (Classical.not_not.1 hs) h⟩⟩
     · unfold State.qK State.qJ State.score sel
       by_cases h0:x.aG=0
       · simp only [h0,if_true] at t0 ⊢;rw [t0];omega
       · simp only [h0,if_false] at t0 ⊢;exact t0
     · unfold State.qK State.qJ State.score sel
       by_cases h0:x.aG=0
       · simp only [h0,if_true] at t1 ⊢;exact t1
       · simp only [h0,if_false] at t1 ⊢;rw [t1];omega
 split
 · exact ⟨e,t0,t1,hgo,X4⟩
 · have g:=CB r s x (ended r s x (counted r s x))
   have k:=AP r (grouped r s x (ended r s x (counted r s x)));exact ⟨e,by rw [k.1,g.1,t0],by rw [k.2,g.2.1,t1],hgo,X4⟩
theorem Jh (hp:x.aG=0∨x.aG=1):∃ d:Int,(next r s x).score x.aG - s.score x.aG=d∧(next r s x).s0=s.s0+(if x.aG=0 then d else 0)∧(next r s x).s1=s.s1+(if x.aG=1 then d else 0)∧
 (good r s x=true→d=(objects x).length)∧(good r s x=false→ -16≤d∧d≤0∧(r.game≠aH→d=0)):=by
 obtain ⟨d,h0,h1,hg,hb⟩:=Jf r s x;refine ⟨d,?_,h0,?_,hg,hb⟩
 · unfold State.score sel
   rcases hp with hp | hp
   · simp only [hp,if_true] at h0 ⊢;omega
   · simp only [hp,show ¬ (1:Int)=0 by decide,if_false] at h1 ⊢;omega
 · rcases hp with hp | hp
   · simp only [hp,if_true,show ¬ (0:Int)=1 by decide,if_false] at h1 ⊢;exact h1
   · simp only [hp,show ¬ (1:Int)=0 by decide,if_true,if_false] at h1 ⊢;exact h1
theorem Ji (hl:legal r s x=0):note r s n x=⟨n,x.aG,0,iw r s x,(next r s x).score x.aG - s.score x.aG,(next r s x).turn≠s.turn⟩:=by unfold note;rw [if_neg (by simp [hl])]
theorem Yq (hl:¬ legal r s x=0):note r s n x=⟨n,x.aG,legal r s x,0,0,false⟩:=by unfold note;rw [if_pos hl]
def sumOf (p:Int):List Note→Int
 | []=>0
 | a::l=>(if a.aG=p then a.points else 0)+sumOf p l
theorem uh (p:Int) (b:List Note):∀ a:List Note,sumOf p (a++b)=sumOf p a+sumOf p b
 | []=>by simp [sumOf]
 | x::a=>by rw [List.cons_append,sumOf,sumOf,uh p b a];omega
theorem pX (r:Rules):∀ (l:List aV) (s:State) (n:Int),(notes r s n l).length=l.length
 | [],s,n=>rfl
 | x::l,s,n=>by rw [notes,List.length_cons,pX,List.length_cons]
theorem wU (r:Rules):∀ (l:List aV) (s:State) (n:Int),(∀ x∈l,x.aG=0∨x.aG=1)→(final r s l).s0=s.s0+sumOf 0 (notes r s n l)∧(final r s l).s1=s.s1+sumOf 1 (notes r s n l)
 | [],s,n,_=>by simp [final,notes,sumOf]
 | x::l,s,n,h=>by
   have ih:=wU r l (step r s x) (n+1) (fun y hy=>h y (List.mem_cons_of_mem _ hy));have hf:final r s (x::l)=final r (step r s x) l:=rfl;rw [hf,notes,sumOf,sumOf,ih.1,ih.2]
   by_cases hl:legal r s x=0
   · have hst:step r s x=next r s x:=by unfold step;rw [if_pos hl]
     obtain ⟨d,hd,h0,h1,_,_⟩:=Jh (r:=r) (s:=s) (h x List.mem_cons_self);rw [Ji hl,hst,h0,h1,hd]
     constructor <;> simp only [Int.add_assoc]
   · have hst:step r s x=s:=by unfold step;rw [if_neg hl]
     rw [Yq hl,hst]
     simp
end
end M
namespace M
section
variable {r:Rules} {n:Int} {s:State} {x:aV}
def kept (r:Rules) (s:State):List aV→List aV
 | []=>[]
 | x::l=>if legal r s x=0 then x::kept r (step r s x) l else kept r (step r s x) l
theorem zG:∀ l:List aV,iD l=0↔∀ x∈l,bT x=0
 | []=>by simp [iD]
 | x::l=>by
   rw [iD]
   by_cases h:bT x=0
   · rw [if_neg (by simp [h]),zG l]
     constructor
     · intro h2 y hy
       rcases List.mem_cons.1 hy with rfl | hy
       · exact h
       · exact h2 y hy
     · exact fun h2 y hy=>h2 y (List.mem_cons_of_mem _ hy)
   · rw [if_pos h]
     constructor
     · intro h2;exact absurd h2 h
     · intro h2;exact h2 x List.mem_cons_self
theorem jJ (l:List aV):dO l=0↔l.length≤1000∧∀ x∈l,bT x=0:=by
 unfold dO
 split
 · next h=>
   constructor
   · intro e;cases e
   · intro e;omega
 · next h=>
   rw [zG];exact ⟨fun e=>⟨by omega,e⟩,fun e=>e.2⟩
def State.eq (a b:State):Bool:=a.au=b.au∧a.turn=b.turn∧a.brk=b.brk∧a.hand=b.hand∧a.push=b.push∧a.pushed=b.pushed∧a.group=b.group∧a.s0=b.s0∧a.s1=b.s1∧a.f0=b.f0∧a.f1=b.f1∧a.run=b.run∧a.bI=b.bI∧a.over=b.over∧a.bP=b.bP
theorem State.eq_iff {a b:State}:a.eq b=true↔a=b:=by
 unfold State.eq
 rw [decide_eq_true_eq]
 constructor
 · rintro ⟨h1,h2,h3,h4,h5,h6,h7,h8,h9,h10,h11,h12,h13,h14,h15⟩
   cases a;cases b
   simp only at h1 h2 h3 h4 h5 h6 h7 h8 h9 h10 h11 h12 h13 h14 h15
   subst h1 h2 h3 h4 h5 h6 h7 h8 h9 h10 h11 h12 h13 h14 h15
   rfl
 · rintro rfl;simp
def iq (f:Nat→Bool) (n:Nat):Nat→Int
 | 0=>0
 | k+1=>if f n then iq f (n+1) k else n
def jf (r:Rules) (l:List aV) (k:Nat):State:=final r (start r) (l.take k)
def changed (r:Rules) (a b:List aV):Int:=iq (fun n=>(jf r a n).eq (jf r b n)) 1 (max a.length b.length)
def qW (r:Rules) (l:List aV) (c:List (Int × Int)):Int:=iq (fun n=>decide (((jf r l n).s0,(jf r l n).s1)=c.getD (n - 1) (0,0))) 1 l.length
theorem vN (f:Nat→Bool) {n k:Nat} (h:n<k):iq f (n+1) (k - n)=if f (n+1) then iq f (n+1+1) (k - (n+1)) else ((n+1:Nat):Int):=by
 have:k - n=(k - (n+1))+1:=by omega
 rw [this,iq]
end
end M
namespace Nm
structure Fr where
 n:Int
 d:Int
 deriving DecidableEq
def gcd (a b:Int):Int:=(Int.gcd a b:Int)
def make (n d:Int):Fr:=
 let a:=if d<0 then -n else n
 let b:=if d<0 then -d else d
 if b=1 then ⟨a,b⟩ else ⟨a / gcd a b,b / gcd a b⟩
def whole (n:Int):Fr:=⟨n,1⟩
def neg (a:Fr):Fr:=⟨-a.n,a.d⟩
def add (a b:Fr):Fr:=if a.d=1∧b.d=1 then whole (a.n+b.n) else make (a.n*b.d+b.n*a.d) (a.d*b.d)
def sub (a b:Fr):Fr:=add a (neg b)
def mul (a b:Fr):Fr:=make (a.n*b.n) (a.d*b.d)
def inv (a:Fr):Fr:=make a.d a.n
def div (a b:Fr):Fr:=mul a (inv b)
def Zp (a:Int):Int:=if a<0 then -1 else if 0<a then 1 else 0
def sm (a:Int):Bool:= -1000000000≤a∧a≤1000000000
def ok (a:Fr):Bool:=sm a.n∧sm a.d∧1≤a.d
theorem zy {a:Int}:sm a=true↔ -1000000000≤a∧a≤1000000000:=by unfold sm;rw [decide_eq_true_eq]
theorem LM {a b m n:Int} (ha: -m≤a∧a≤m) (hb: -n≤b∧b≤n): -(m*n)≤a*b∧a*b≤m*n:=by
 have hm:0≤m:=by omega
 have hn:0≤n:=by omega
 have h1:(a*b).natAbs≤(m*n).natAbs:=by
  rw [Int.natAbs_mul,Int.natAbs_mul];exact Nat.mul_le_mul (by omega) (by omega)
 have h2:0≤m*n:=Int.mul_nonneg hm hn
 omega
theorem agv {a b:Int} (ha:sm a=true) (hb:sm b=true): -1000000000000000000≤a*b∧a*b≤1000000000000000000:=by
 have:=LM (zy.1 ha) (zy.1 hb)
 omega
theorem down {a b:Int} (hb:0<b):(if Int.tmod a b<0 then Int.tdiv a b - 1 else Int.tdiv a b)=a / b∧(if Int.tmod a b<0 then Int.tmod a b+b else Int.tmod a b)=a % b:=by
 have h1:=Int.mul_tdiv_add_tmod a b;have h2:=Int.mul_ediv_add_emod a b;have h3:=Int.emod_nonneg a (by omega:b≠0);have h4:=Int.emod_lt_of_pos a hb
 have h5: -b<Int.tmod a b:=by
  have:=Int.lt_tmod_of_pos a hb
  omega
 have h6:Int.tmod a b<b:=Int.tmod_lt_of_pos a hb
 have key:∀ q r:Int,b*q+r=a→0≤r→r<b→q=a / b∧r=a % b:=by
  intro q r hq hr hl
  have e:r=a % b:=by
   have:a % b=(r+b*q) % b:=by rw [← hq];congr 1;omega
   rw [this,Int.add_mul_emod_self_left,Int.emod_eq_of_lt hr hl]
  refine ⟨?_,e⟩
  have e2:b*q=b*(a / b):=by omega
  exact Int.eq_of_mul_eq_mul_left (by omega) e2
 split
 · refine key _ _ ?_ (by omega) (by omega)
   rw [Int.mul_sub];omega
 · exact key _ _ h1 (by omega) h6
end Nm
namespace M
theorem xB (f:Nat→Bool):∀ k n,(∀ j,n≤j→j<n+k→f j=true)→iq f n k=0
 | 0,n,_=>rfl
 | k+1,n,h=>by
   rw [iq,if_pos (h n (Nat.le_refl _) (by omega))];exact xB f k (n+1) (fun j h1 h2=>h j (by omega) (by omega))
theorem zJ (f:Nat→Bool) (t:Nat) (ht:f t=false):∀ k n,n≤t→t<n+k→(∀ j,n≤j→j<t→f j=true)→iq f n k=t
 | 0,n,h1,h2,_=>by omega
 | k+1,n,h1,h2,h=>by
   rw [iq]
   rcases Nat.eq_or_lt_of_le h1 with e | e
   · subst e;rw [if_neg (by simp [ht])]
   · rw [if_pos (h n (Nat.le_refl _) e)]
     exact zJ f t ht k (n+1) e (by omega) (fun j h1 h2=>h j (by omega) h2)
theorem CZ (r:Rules):∀ (l:List aV) (s:State) (n:Int) (i:Nat),(notes r s n l).take i=notes r s n (l.take i)
 | [],s,n,i=>by simp [notes]
 | x::l,s,n,0=>by simp [notes]
 | x::l,s,n,i+1=>by
   rw [notes,List.take_succ_cons,List.take_succ_cons,notes,CZ r l (step r s x) (n+1) i]
theorem LY (p:Int) (h:p=0∨p=1):bT {aG:=p,kind:=bC,aT:=0,aP:=0,first:=0,cO:=false,aC:=[] }=0:=by
 rcases h with rfl | rfl <;> decide
def dN (r:Rules) (l:List aV) (k:Nat):Int × Int:=((jf r l k).s0,(jf r l k).s1)
def scores (r:Rules) (l:List aV):List (Int × Int):=(List.range l.length).map fun k=>dN r l (k+1)
theorem jL (r:Rules) (l:List aV):(scores r l).length=l.length:=by simp [scores]
theorem tY (r:Rules) (l:List aV) (k:Nat) (hk:k<l.length):(scores r l)[k]'(by rw [jL];exact hk)=dN r l (k+1):=by simp [scores]
theorem Af (r:Rules) (l:List aV) (k:Nat) (hk:k<l.length):(scores r l).getD k (0,0)=dN r l (k+1):=by
 rw [List.getD_eq_getElem?_getD,List.getElem?_eq_getElem (by rw [jL];exact hk),tY r l k hk];rfl
theorem Fj (r:Rules) (l:List aV):jf r l 0=start r:=rfl
theorem Kz (r:Rules) (l:List aV) (h:∀ x∈l,x.aG=0∨x.aG=1) (k:Nat) (hk:k<l.length) (hn:k<(notes r (start r) 1 l).length):
 (notes r (start r) 1 l)[k].aG=l[k].aG∧
 dN r l (k+1)=((dN r l k).1+(if (notes r (start r) 1 l)[k].aG=0 then (notes r (start r) 1 l)[k].points else 0),(dN r l k).2+(if (notes r (start r) 1 l)[k].aG=1 then (notes r (start r) 1 l)[k].points else 0)):=by
 have hp:∀ (l:List aV) (s:State) (n:Int) (k:Nat) (hk:k<l.length) (hn:k<(notes r s n l).length),(notes r s n l)[k].aG=l[k].aG:=by
  intro l
  induction l with
  | nil=>intro s n k hk;exact absurd hk (by simp)
  | cons x l ih=>
    intro s n k hk hn
    cases k with
    | zero=>
      simp only [notes,List.getElem_cons_zero]
      unfold note;split <;> rfl
    | succ k=>
      simp only [notes,List.getElem_cons_succ]
      exact ih _ _ k (by simpa using hk) _
 refine ⟨hp l _ _ k hk hn,?_⟩;have a:=wU r (l.take k) (start r) 1 (fun x hx=>h x (List.mem_of_mem_take hx));have b:=wU r (l.take (k+1)) (start r) 1 (fun x hx=>h x (List.mem_of_mem_take hx));rw [← CZ] at a b;rw [List.take_succ_eq_append_getElem hn,uh,uh] at b
 simp only [sumOf,Int.add_zero] at b
 unfold dN
 ext
 · show (jf r l (k+1)).s0=(jf r l k).s0+_
   unfold jf
   rw [b.1,a.1];omega
 · show (jf r l (k+1)).s1=(jf r l k).s1+_
   unfold jf
   rw [b.2,a.2];omega
theorem FC (r:Rules) (l:List aV):qW r l (scores r l)=0:=by
 refine xB _ _ _ (fun j h1 h2=>?_);rw [decide_eq_true_eq,Af r l (j - 1) (by omega),show j - 1+1=j by omega]
 rfl
theorem H6 (r:Rules) (l:List aV) (k:Nat) (hk:k<l.length) (z:Int × Int) (hz:z≠dN r l (k+1)):qW r l ((scores r l).set k z)=(k:Int)+1:=by
 have:=zJ (fun n=>decide (((jf r l n).s0,(jf r l n).s1)=((scores r l).set k z).getD (n - 1) (0,0))) (k+1) ?_ l.length 1 (by omega) (by omega) (fun j h1 h2=>?_)
 · unfold qW;rw [this];omega
 · rw [decide_eq_false_iff_not,Nat.add_sub_cancel,List.getD_eq_getElem?_getD,List.getElem?_set_self (by rw [jL];exact hk)]
   exact fun e=>hz e.symm
 · rw [decide_eq_true_eq,List.getD_eq_getElem?_getD,List.getElem?_set_ne (by omega), ← List.getD_eq_getElem?_getD,Af r l (j - 1) (by omega),show j - 1+1=j by omega]
   rfl
theorem D6 (r:Rules) (s:State) (p:Int) (h:s.over=false):legal r s {aG:=p,kind:=bC,aT:=0,aP:=0,first:=0,cO:=false,aC:=[] }=0:=by
 have e1:bC≠oq:=by decide
 have e2:bC≠gI:=by decide
 have e3:bC≠iW:=by decide
 have e4:bC≠dS:=by decide
 unfold legal calls objects
 simp [h,e1,e2,e3,e4]
theorem FV (r:Rules) (s:State) (p:Int):next r s {aG:=p,kind:=bC,aT:=0,aP:=0,first:=0,cO:=false,aC:=[] }= {s with over:=true,bP:=1 - p }:=by
 unfold next;rw [if_pos rfl]
end M
end Go.Proofs.YtcjglfbpjkdgiaaGreatDoor
