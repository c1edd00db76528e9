/- Parts of the proofs about chapter 5 (pool), joined by program. -/
import Derived.Lib.Hide
set_option linter.unusedVariables false
set_option linter.unusedSimpArgs false
namespace Go.Proofs.YtelpepbpdojikaaGreatDoor
namespace M
abbrev dh:ByteArray:=⟨#[98,114,101,97,107]⟩
abbrev jO:ByteArray:=⟨#[112,108,97,121]⟩
abbrev vk:ByteArray:=⟨#[115,97,102,101,116,121]⟩
abbrev eu:ByteArray:=⟨#[112,117,115,104]⟩
abbrev jo:ByteArray:=⟨#[112,97,115,115]⟩
abbrev aT:ByteArray:=⟨#[99,111,110,99,101,100,101]⟩
abbrev aB:ByteArray:=⟨#[115,116,114,97,105,103,104,116]⟩
abbrev aQ:ByteArray:=⟨#[101,105,103,104,116]⟩
abbrev bM:ByteArray:=⟨#[110,105,110,101]⟩
structure rD where
 aJ:Int
 aP:Int
 deriving DecidableEq
structure Rules where
 game:ByteArray
 target:Int
 aY:Int
structure aI where
 aC:Int
 kind:ByteArray
 aJ:Int
 aP:Int
 first:Int
 dA:Bool
 aA:List rD
structure State where
 turn:Int
 brk:Bool
 hand:Bool
 push:Bool
 pushed:Bool
 group:Int
 ay:List Int
 s0:Int
 s1:Int
 f0:Int
 f1:Int
 run:Int
 aZ:Int
 over:Bool
 bC:Int
def isKind (k:ByteArray):Bool:=k=dh∨k=jO∨k=vk∨k=eu∨k=jo∨k=aT
def rP (g:ByteArray):Bool:=g=aB∨g=aQ∨g=bM
def out (n a b:Int):Bool:=n<a∨b<n
def aH (r:Rules):Int:=
 if rP r.game=false then 13
 else if (r.game=aB∧out r.target 1 200)∨(r.game≠aB∧r.target≠0)∨(r.aY≠0∧out r.aY 2 9) then 3
 else 0
def eH (seen:List rD):List rD→Int
 | []=>0
 | p::l=>
   if out p.aJ 0 15∨out p.aP 1 6 then 3
   else if p.aJ∈seen.map (·.aJ) then 9
   else eH (seen++[p]) l
def iK (x:aI):Int:=
 if out x.aC 0 1 then 3
 else if isKind x.kind=false then 13
 else if out x.aJ 0 15∨out x.aP 0 6∨out x.first 0 15 then 3
 else if decide (x.aJ=0)≠decide (x.aP=0) then 2
 else if 16<x.aA.length then 5
 else 0
def sK (x:aI):Int:=
 if (x.kind=jo∨x.kind=aT)∧(x.aJ≠0∨x.first≠0∨x.dA∨x.aA≠[]) then 1 else 0
def cZ (x:aI):Int:=
 if iK x≠0 then iK x
 else if eH [] x.aA≠0 then eH [] x.aA
 else sK x
def lD:List aI→Int
 | []=>0
 | x::l=>if cZ x≠0 then cZ x else lD l
def je (l:List aI):Int:=if 1000<l.length then 5 else lD l
def kH (n:Nat):List Int:=(List.range n).map fun (i:Nat)=>(i:Int)+1
def dS (g:ByteArray):Nat:=if g=bM then 9 else 15
def jA (r:Rules):List Int:=kH (dS r.game)
def jq (n:Int) (last:Option Int):List Int→Int
 | []=>0
 | b::l=>if out b 1 n then 3 else if (last.map (fun a=>decide (b≤a))).getD false then 11 else jq n (some b) l
def yL (r:Rules) (over:Bool) (n:Int):Bool:=out n 0 99999∨(0<r.aY∧(r.aY<n∨(n=r.aY∧over=false)))
def iP (r:Rules) (s:State):Int:=
 if out s.s0 (-99999) 99999∨out s.s1 (-99999) 99999∨yL r s.over s.f0∨yL r s.over s.f1∨out s.run 0 99999∨out s.aZ 1 1000 then 3 else 0
def ET (r:Rules) (s:State):Bool:=((s.push∨s.pushed)∧(r.game≠bM∨s.brk))∨(s.push∧s.pushed)
def missing (r:Rules) (s:State):Bool:=s.ay=[]∨(r.game=aQ∧(8:Int) ∉ s.ay)∨(r.game=bM∧(9:Int) ∉ s.ay)
def dw (r:Rules) (s:State):Int:=
 if aH r≠0 then aH r
 else if out s.turn 0 1∨out s.bC 0 1∨out s.group 0 2∨(s.group≠0∧r.game≠aQ) then 3 else 0
def xU (r:Rules) (s:State):Int:=if ET r s∨(s.over=false∧(s.bC≠0∨missing r s)) then 19 else 0
def jf (r:Rules) (s:State):Int:=
 if dw r s≠0 then dw r s
 else if jq (dS r.game) none s.ay≠0 then jq (dS r.game) none s.ay
 else if iP r s≠0 then 3
 else xU r s
def start (r:Rules):State:={turn:=0,brk:=true,hand:=false,push:=false,pushed:=false,group:=0,ay:=jA r,s0:=0,s1:=0,f0:=0,f1:=0,run:=0,aZ:=1,over:=false,bC:=0 }
def zero:State:={turn:=0,brk:=false,hand:=false,push:=false,pushed:=false,group:=0,ay:=[],s0:=0,s1:=0,f0:=0,f1:=0,run:=0,aZ:=0,over:=false,bC:=0 }
def side (b:Int):Int:=if b<8 then 1 else if 8<b then 2 else 0
def own (s:State):Int:=if s.group=0∨s.turn=0 then s.group else 3 - s.group
def Cb (s:State):List Int:=s.ay.filter fun b=>b≠8∧(s.group=0∨side b=own s)
def targets (r:Rules) (s:State):List Int:=
 if r.game=aB∨(r.game=aQ∧s.brk) then s.ay
 else if r.game=bM then s.ay.take 1
 else if Cb s=[]∧(8:Int)∈s.ay then [8] else Cb s
def calls (r:Rules) (x:aI):Bool:=x.kind=jO∧r.game≠bM
def objects (x:aI):List Int:=(x.aA.map (·.aJ)).filter (· ≠0)
def legal (r:Rules) (s:State) (x:aI):Int:=
 if s.over then 1
 else if x.aC≠s.turn∧x.kind≠aT then 2
 else if (s.brk∧x.kind≠dh∧x.kind≠aT)∨(s.brk=false∧x.kind=dh) then 3
 else if (x.kind=eu∧s.push=false)∨(x.kind=jo∧s.pushed=false) then 4
 else if (calls r x∧x.aJ ∉ s.ay)∨(calls r x=false∧x.aJ≠0) then 5
 else if x.first≠0∧x.first ∉ s.ay then 6
 else if (objects x).any (fun b=>x.first=0∨b ∉ s.ay) then 7
 else 0
def iW (r:Rules) (s:State) (x:aI):Int:=
 if x.kind=jo∨x.kind=aT then 0
 else if (objects x).length<x.aA.length then 1
 else if x.first=0 then 2
 else if x.kind=eu then 0
 else if x.first ∉ targets r s then 3
 else if x.dA=false∧x.aA=[] then 4
 else 0
def good (r:Rules) (s:State) (x:aI):Bool:=
 if iW r s x≠0∨x.aA=[] then false
 else if x.kind=dh then r.game≠aB
 else if x.kind≠jO then false
 else x.aA.any fun p=>p=⟨x.aJ,x.aP⟩∨r.game=bM
def stays (r:Rules) (s:State) (x:aI) (b:Int):Bool:=
 (b ∉ objects x)∨(r.game=aB∧good r s x=false)∨(r.game=aQ∧b=8∧x.kind=dh)∨(r.game=bM∧b=9∧good r s x=false)
def left (r:Rules) (s:State) (x:aI):List Int:=s.ay.filter (stays r s x)
def sel (p a b:Int):Int:=if p=0 then a else b
def State.score (s:State) (p:Int):Int:=sel p s.s0 s.s1
def State.jZ (s:State) (p:Int):Int:=sel p s.f0 s.f1
def State.uT (s:State) (p n:Int):State:=if p=0 then {s with s0:=n } else {s with s1:=n }
def State.uS (s:State) (p n:Int):State:=if p=0 then {s with f0:=n } else {s with f1:=n }
def calm (r:Rules) (s:State) (x:aI):State:={s with brk:=false,hand:=false,push:=r.game=bM∧x.kind=dh,pushed:=x.kind=eu }
def won (r:Rules) (s:State) (x:aI):Bool:=good r s x∧x.aJ=8∧targets r s=[8]
def ended (r:Rules) (s:State) (x:aI) (t:State):State:=
 if r.game=aB∧good r s x∧r.target≤t.score x.aC then {t with over:=true,bC:=x.aC }
 else if r.game=bM∧good r s x∧(9:Int)∈objects x then {t with over:=true,bC:=x.aC }
 else if r.game=aQ∧x.kind≠dh∧(8:Int)∈objects x then {t with over:=true,bC:=if won r s x then x.aC else 1 - x.aC }
 else t
def limit (r:Rules) (t:State) (p:Int):State:=
 if r.game≠aB then {t with over:=true,bC:=1 - p }
 else {(t.uT p (t.score p - 15)).uS p 0 with ay:=jA r,brk:=true,aZ:=t.aZ+1 }
def counted (r:Rules) (s:State) (x:aI):State:=
 let t:={calm r s x with ay:=left r s x }
 let n:Int:=(objects x).length
 let t:=if good r s x then {t.uT x.aC (t.score x.aC+n) with run:=t.run+n } else t
 if iW r s x=0 then t.uS x.aC 0
 else
  let t:={t.uS x.aC (t.jZ x.aC+1) with run:=0 }
  if r.game=aB then t.uT x.aC (t.score x.aC - 1) else t
def passed (r:Rules) (s:State) (x:aI) (t:State):State:={t with turn:=1 - x.aC,run:=0,hand:=iW r s x≠0∧(r.game≠aB∨iW r s x=1) }
def grouped (r:Rules) (s:State) (x:aI) (t:State):State:=
 if r.game=aQ∧x.kind=jO∧s.group=0 then {t with group:=if x.aC=1 then 3 - side x.aJ else side x.aJ } else t
def dW (r:Rules) (t:State):State:=if r.game=aB∧t.ay.length≤1 then {t with ay:=jA r,aZ:=t.aZ+1 } else t
def play (r:Rules) (s:State) (x:aI):State:=
 let t:=ended r s x (counted r s x)
 if t.over then t
 else if iW r s x≠0∧t.jZ x.aC=r.aY then limit r t x.aC
 else if good r s x=false then passed r s x t
 else dW r (grouped r s x t)
def next (r:Rules) (s:State) (x:aI):State:=
 if x.kind=aT then {s with over:=true,bC:=1 - x.aC }
 else if x.kind=jo then {calm r s x with turn:=1 - x.aC,run:=0 }
 else play r s x
def step (r:Rules) (s:State) (x:aI):State:=if legal r s x=0 then next r s x else s
def final (r:Rules) (s:State) (l:List aI):State:=l.foldl (step r) s
structure uZ where
 number:Int
 rule:Int
 deriving DecidableEq
structure Note where
 number:Int
 aC:Int
 rule:Int
 iW:Int
 points:Int
 turn:Bool
 deriving DecidableEq
structure Run where
 aC:Int
 points:Int
 deriving DecidableEq
def jy (r:Rules) (s:State) (n:Int):List aI→List uZ
 | []=>[]
 | x::l=>(if legal r s x≠0 then [⟨n,legal r s x⟩] else [])++jy r (step r s x) (n+1) l
def note (r:Rules) (s:State) (n:Int) (x:aI):Note:=
 if legal r s x≠0 then ⟨n,x.aC,legal r s x,0,0,false⟩
 else ⟨n,x.aC,0,iW r s x,(next r s x).score x.aC - s.score x.aC,(next r s x).turn≠s.turn⟩
def notes (r:Rules) (s:State) (n:Int):List aI→List Note
 | []=>[]
 | x::l=>note r s n x::notes r (step r s x) (n+1) l
end M
namespace M
def dY (i:Int):List Bool→Int
 | []=>0
 | b::l=>if b then dY (i+1) l else i
def permitted (s:State) (k:ByteArray):Bool:=if k=eu then s.push else if k=jo then s.pushed else true
def q2 (s:State) (x:aI):Bool:=x.kind=aT∨x.aC=s.turn
def q3 (s:State) (x:aI):Bool:=x.kind=aT∨s.brk=decide (x.kind=dh)
def q5 (r:Rules) (s:State) (x:aI):Bool:=(calls r x∧x.aJ∈s.ay)∨(calls r x=false∧x.aJ=0)
def q6 (s:State) (x:aI):Bool:=x.first=0∨x.first∈s.ay
def q7 (s:State) (x:aI):Bool:=((objects x).any (fun b=>decide (b ∉ s.ay)))=false∧(0<x.first∨objects x=[])
def CU (r:Rules) (s:State) (x:aI):List Bool:=[!s.over,q2 s x,q3 s x,permitted s x.kind,q5 r s x,q6 s x,q7 s x]
theorem Qh (o:Bool) (P2 P3 P4 P5 P6:Prop) (b7:Bool) [Decidable P2] [Decidable P3] [Decidable P4] [Decidable P5] [Decidable P6]:
 (if o then (1:Int) else if P2 then 2 else if P3 then 3 else if P4 then 4 else if P5 then 5 else if P6 then 6 else if b7 then 7 else 0)=dY 1 [!o, !decide P2, !decide P3, !decide P4, !decide P5, !decide P6, !b7]:=by
 cases o
 · by_cases h2:P2
   · simp [dY,h2]
   by_cases h3:P3
   · simp [dY,h2,h3]
   by_cases h4:P4
   · simp [dY,h2,h3,h4]
   by_cases h5:P5
   · simp [dY,h2,h3,h4,h5]
   by_cases h6:P6
   · simp [dY,h2,h3,h4,h5,h6]
   cases b7 <;> simp [dY,h2,h3,h4,h5,h6]
 · simp [dY]
theorem CY:eu≠jo:=by decide
theorem Ih (r:Rules) (s:State) (x:aI) (hf:0≤x.first):legal r s x=dY 1 (CU r s x):=by
 unfold legal CU
 have h2:q2 s x= !decide (x.aC≠s.turn∧x.kind≠aT):=by
  unfold q2;by_cases h1:x.kind=aT <;> by_cases h2:x.aC=s.turn <;> simp [h1,h2]
 have h3:q3 s x= !decide ((s.brk∧x.kind≠dh∧x.kind≠aT)∨(s.brk=false∧x.kind=dh)):=by
  unfold q3
  have hbc:aT≠dh:=by decide
  by_cases h1:x.kind=aT
  · simp [h1,hbc]
  · by_cases h2:x.kind=dh <;> cases s.brk <;> simp [h1,h2]
 have h4:permitted s x.kind= !decide ((x.kind=eu∧s.push=false)∨(x.kind=jo∧s.pushed=false)):=by
  unfold permitted
  by_cases h1:x.kind=eu
  · simp [h1,CY]
  · by_cases h2:x.kind=jo <;> simp [h1,h2]
 have h5:q5 r s x= !decide ((calls r x∧x.aJ ∉ s.ay)∨(calls r x=false∧x.aJ≠0)):=by
  unfold q5;cases calls r x <;> by_cases h2:x.aJ∈s.ay <;> by_cases h3:x.aJ=0 <;> simp [h2,h3]
 have h6:q6 s x= !decide (x.first≠0∧x.first ∉ s.ay):=by
  unfold q6;by_cases h2:x.first∈s.ay <;> by_cases h3:x.first=0 <;> simp [h2,h3]
 have h7:q7 s x= !((objects x).any (fun b=>x.first=0∨b ∉ s.ay)):=by
  unfold q7
  rcases h0:objects x with _ | ⟨b,l⟩
  · simp
  · by_cases h3:x.first=0
    · simp [h3]
    · have:0<x.first:=by omega
      simp only [h3,false_or,this,true_or,and_true]
      cases (b::l).any fun b=>decide (b ∉ s.ay) <;> simp
 rw [h2,h3,h4,h5,h6,h7]
 exact Qh _ _ _ _ _ _ _
def jF (k:ByteArray):Bool:=k≠jo∧k≠aT
def lu (x:aI):Bool:=x.aA.any fun p=>decide (p.aJ=0)
def Gz (r:Rules) (s:State) (x:aI):List Bool:=
 [!lu x,decide (0<x.first),decide (x.kind=eu∨x.first∈targets r s),decide (x.kind=eu∨x.dA=true∨0<(objects x).length)]
theorem uo (x:aI):decide ((objects x).length<x.aA.length)=lu x:=by
 unfold objects lu
 induction x.aA with
 | nil=>rfl
 | cons p l ih=>
   have hl:=List.length_filter_le (fun b:Int=>decide (b≠0)) (l.map (·.aJ))
   rw [List.length_map] at hl
   simp only [List.map_cons,List.any_cons,List.length_cons]
   by_cases h:p.aJ=0
   · rw [List.filter_cons_of_neg (by simp [h])]
     simp only [h,decide_true,Bool.true_or,decide_eq_true_eq]
     omega
   · rw [List.filter_cons_of_pos (by simp [h]), ← ih]
     simp [h]
theorem yt (x:aI) (h:lu x=false):(objects x).length=x.aA.length:=by
 have h1:=uo x
 rw [h,decide_eq_false_iff_not] at h1
 have h2:=List.length_filter_le (fun b:Int=>decide (b≠0)) (x.aA.map (·.aJ))
 rw [List.length_map] at h2
 unfold objects at h1 ⊢
 omega
theorem J9 (r:Rules) (s:State) (x:aI) (hf:0≤x.first):iW r s x=if jF x.kind then dY 1 (Gz r s x) else 0:=by
 unfold iW Gz jF
 by_cases h1:x.kind=jo
 · simp [h1]
 by_cases h2:x.kind=aT
 · simp [h2]
 simp only [h1,h2,or_self,if_false,ne_eq,not_false_eq_true,and_self,decide_true,if_true,dY]
 have hs:=uo x
 cases hc:lu x
 · rw [hc,decide_eq_false_iff_not] at hs
   have ho:=yt x hc
   have hp:(x.aA=[])↔(objects x).length=0:=by rw [ho];exact List.length_eq_zero_iff.symm
   simp only [hs,if_false,Bool.not_false,if_true]
   by_cases h3:x.first=0
   · simp [h3]
   have h4:0<x.first:=by omega
   simp only [h3,if_false,h4,decide_true,if_true]
   by_cases h5:x.kind=eu
   · simp [h5]
   simp only [h5,if_false,false_or]
   by_cases h6:x.first∈targets r s
   · simp only [h6,not_true,if_false,decide_true,if_true,hp]
     by_cases h7:(objects x).length=0
     · cases x.dA <;> simp [h7]
     · have:0<(objects x).length:=by omega
       simp [h7,this]
   · simp [h6]
 · rw [hc,decide_eq_true_eq] at hs
   simp [hs]
theorem Bj (r:Rules) (s:State) (x:aI):good r s x=
 if x.kind=dh then decide (iW r s x=0∧0<(objects x).length∧r.game≠aB)
 else if x.kind≠jO then false
 else if r.game=bM then decide (iW r s x=0∧0<(objects x).length)
 else decide (iW r s x=0∧0<(objects x).length∧(⟨x.aJ,x.aP⟩:rD)∈x.aA):=by
 have key:∀ (h1:x.kind≠jo) (h2:x.kind≠aT),iW r s x=0→((0<(objects x).length)↔x.aA≠[]):=by
  intro h1 h2 hf
  have hs:lu x=false:=by
   rw [← uo,decide_eq_false_iff_not]
   intro hl
   unfold iW at hf
   simp [h1,h2,hl] at hf
  rw [yt x hs]
  exact List.length_pos_iff
 unfold good
 by_cases hb:x.kind=dh
 · have k1:=key (by rw [hb];decide) (by rw [hb];decide)
   simp only [hb,if_true]
   by_cases hf:iW r s x=0
   · have:=k1 hf
     by_cases hp:x.aA=[]
     · simp [hp] at this
       simp [hf,hp,this]
     · simp [hp] at this
       simp [hf,hp,this]
   · simp [hf]
 · by_cases hpl:x.kind=jO
   · have k1:=key (by rw [hpl];decide) (by rw [hpl];decide)
     have hpb:¬ jO=dh:=by decide
     simp only [hpl,hpb,if_false,ne_eq,not_true]
     by_cases hf:iW r s x=0
     · have:=k1 hf
       by_cases hp:x.aA=[]
       · simp [hp] at this
         simp [hf,hp,this]
       · obtain ⟨q,l,hq⟩:=List.exists_cons_of_ne_nil hp
         simp [hp] at this
         by_cases hg:r.game=bM
         · simp [hf,hp,this,hg,hq]
         · rw [Bool.eq_iff_iff]
           simp only [hf,hp,hg,this,if_false,or_false,ne_eq,not_true,List.any_eq_true,decide_eq_true_eq,true_and]
           constructor
           · rintro ⟨p,h1,h2⟩;rw [← h2];exact h1
           · intro h;exact ⟨_,h,rfl⟩
     · simp [hf]
   · simp [hb,hpl]
end M
namespace M
structure Ok (r:Rules) (n:Int) (s:State):Prop where
 turn:s.turn=0∨s.turn=1
 bC:s.bC=0∨s.bC=1
 group:0≤s.group∧s.group≤2
 game:s.group≠0→r.game=aQ
 ay:∀ b∈s.ay,1≤b∧b≤(dS r.game:Int)
 order:s.ay.Pairwise (· < ·)
 s0: -n≤s.s0∧s.s0≤n
 s1: -n≤s.s1∧s.s1≤n
 f0:0≤s.f0∧s.f0≤n
 f1:0≤s.f1∧s.f1≤n
 l0:0<r.aY→s.f0≤r.aY∧(s.over=false→s.f0<r.aY)
 l1:0<r.aY→s.f1≤r.aY∧(s.over=false→s.f1<r.aY)
 run:0≤s.run∧s.run≤n
 aZ:1≤s.aZ∧s.aZ≤n
 push:s.push=true→r.game=bM∧s.brk=false
 pushed:s.pushed=true→r.game=bM∧s.brk=false
 both:s.push=true→s.pushed=true→False
 live:s.over=false→s.bC=0∧s.ay≠[]∧(r.game=aQ→(8:Int)∈s.ay)∧(r.game=bM→(9:Int)∈s.ay)
theorem Ok.more {r:Rules} {n m:Int} {s:State} (h:Ok r n s) (hm:n≤m):Ok r m s:=
 {h with
  s0:=by have:=h.s0;omega
  s1:=by have:=h.s1;omega
  f0:=by have:=h.f0;omega
  f1:=by have:=h.f1;omega
  run:=by have:=h.run;omega
  aZ:=by have:=h.aZ;omega }
theorem uh {n a b:Int}:out n a b=false↔a≤n∧n≤b:=by
 unfold out;rw [decide_eq_false_iff_not];omega
structure ni (x:aI):Prop where
 aC:x.aC=0∨x.aC=1
 kind:isKind x.kind=true
 aJ:0≤x.aJ∧x.aJ≤15
 aP:0≤x.aP∧x.aP≤6
 first:0≤x.first∧x.first≤15
 called:x.aJ=0↔x.aP=0
 few:x.aA.length≤16
 aA:∀ p∈x.aA,(0≤p.aJ∧p.aJ≤15)∧(1≤p.aP∧p.aP≤6)
theorem yZ:∀ (l seen:List rD),eH seen l=0→∀ p∈l,(0≤p.aJ∧p.aJ≤15)∧(1≤p.aP∧p.aP≤6)
 | [],_,_,p,hp=>by cases hp
 | q::l,seen,h,p,hp=>by
   rw [eH] at h
   split at h
   · cases h
   · next h1=>
     split at h
     · cases h
     · rw [not_or,Bool.not_eq_true,Bool.not_eq_true,uh,uh] at h1
       rcases List.mem_cons.1 hp with rfl | hp
       · exact h1
       · exact yZ l _ h p hp
theorem uw {x:aI} (h:cZ x=0):ni x:=by
 unfold cZ at h
 by_cases h1:iK x=0
 · rw [if_neg (by simp [h1])] at h
   by_cases h2:eH [] x.aA=0
   · unfold iK at h1
     by_cases a1:out x.aC 0 1=true
     · rw [if_pos a1] at h1;cases h1
     rw [if_neg a1] at h1
     by_cases a2:isKind x.kind=false
     · rw [if_pos a2] at h1;cases h1
     rw [if_neg a2] at h1
     by_cases a3:out x.aJ 0 15=true∨out x.aP 0 6=true∨out x.first 0 15=true
     · rw [if_pos a3] at h1;cases h1
     rw [if_neg a3] at h1
     by_cases a4:decide (x.aJ=0)≠decide (x.aP=0)
     · rw [if_pos a4] at h1;cases h1
     rw [if_neg a4] at h1
     by_cases a5:16<x.aA.length
     · rw [if_pos a5] at h1;cases h1
     rw [not_or,not_or,Bool.not_eq_true,Bool.not_eq_true,Bool.not_eq_true,uh,uh,uh] at a3
     rw [Bool.not_eq_true,uh] at a1
     rw [ne_eq,Classical.not_not,decide_eq_decide] at a4
     exact ⟨by omega,by simpa using a2,a3.1,a3.2.1,a3.2.2,a4,by omega,yZ _ _ h2⟩
   · rw [if_pos h2] at h;exact absurd h h2
 · rw [if_pos h1] at h;exact absurd h h1
theorem FQ (x:aI):(objects x).length≤x.aA.length:=by
 have:=List.length_filter_le (fun b:Int=>decide (b≠0)) (x.aA.map (·.aJ))
 rw [List.length_map] at this
 exact this
theorem ni.objs {x:aI} (h:ni x):((objects x).length:Int)≤16:=by
 have:=FQ x;have:=h.few;omega
theorem DF {x:aI} (hp:(⟨x.aJ,x.aP⟩:rD)∈x.aA) (h0:x.aJ≠0):x.aJ∈objects x:=by
 unfold objects
 rw [List.mem_filter]
 exact ⟨List.mem_map.2 ⟨_,hp,rfl⟩,by simpa using h0⟩
theorem zH {n:Nat} {b:Int}:b∈kH n↔1≤b∧b≤n:=by
 unfold kH
 rw [List.mem_map]
 constructor
 · rintro ⟨i,hi,rfl⟩;rw [List.mem_range] at hi;omega
 · intro h;exact ⟨(b - 1).toNat,List.mem_range.2 (by omega),by omega⟩
theorem Gh (n:Nat):(kH n).Pairwise (· < ·):=by
 unfold kH
 rw [List.pairwise_map]
 exact List.pairwise_lt_range.imp (by intro a b h;omega)
theorem Np (g:ByteArray):9≤dS g:=by unfold dS;split <;> omega
theorem mem_left {r:Rules} {s:State} {x:aI} {b:Int}:b∈left r s x↔b∈s.ay∧stays r s x b=true:=List.mem_filter
theorem yG:jO≠dh:=by decide
structure Lawful (r:Rules) (s:State) (x:aI):Prop where
 over:s.over=false
 turn:x.kind≠aT→x.aC=s.turn
 brk:x.kind≠aT→(s.brk=true↔x.kind=dh)
 push:x.kind=eu→s.push=true
 pass:x.kind=jo→s.pushed=true
 called:calls r x=true→x.aJ∈s.ay
 TT:calls r x=false→x.aJ=0
 first:x.first≠0→x.first∈s.ay
 objs:∀ b∈objects x,x.first≠0∧b∈s.ay
theorem lawful {r:Rules} {s:State} {x:aI} (h:legal r s x=0):Lawful r s x:=by
 unfold legal at h
 by_cases h1:s.over=true
 · rw [if_pos h1] at h;cases h
 rw [if_neg h1] at h
 by_cases h2:x.aC≠s.turn∧x.kind≠aT
 · rw [if_pos h2] at h;cases h
 rw [if_neg h2] at h
 by_cases h3:(s.brk=true∧x.kind≠dh∧x.kind≠aT)∨(s.brk=false∧x.kind=dh)
 · rw [if_pos h3] at h;cases h
 rw [if_neg h3] at h
 by_cases h4:(x.kind=eu∧s.push=false)∨(x.kind=jo∧s.pushed=false)
 · rw [if_pos h4] at h;cases h
 rw [if_neg h4] at h
 by_cases h5:(calls r x=true∧x.aJ ∉ s.ay)∨(calls r x=false∧x.aJ≠0)
 · rw [if_pos h5] at h;cases h
 rw [if_neg h5] at h
 by_cases h6:x.first≠0∧x.first ∉ s.ay
 · rw [if_pos h6] at h;cases h
 rw [if_neg h6] at h
 by_cases h7:((objects x).any fun b=>decide (x.first=0∨b ∉ s.ay))=true
 · rw [if_pos h7] at h;cases h
 refine ⟨by simpa using h1,fun hk=>Classical.byContradiction fun hn=>h2 ⟨hn,hk⟩,fun hk=>⟨fun hb=>Classical.byContradiction fun hn=>h3 (.inl ⟨hb,hn,hk⟩),fun hb=>?_⟩,fun hk=>?_,fun hk=>?_,
  fun hc=>Classical.byContradiction fun hn=>h5 (.inl ⟨hc,hn⟩),fun hc=>Classical.byContradiction fun hn=>h5 (.inr ⟨hc,hn⟩),fun hf=>Classical.byContradiction fun hn=>h6 ⟨hf,hn⟩,fun b hb=>?_⟩
 · rcases hs:s.brk with _ | _
   · exact absurd (.inr ⟨hs,hb⟩) h3
   · rfl
 · rcases hs:s.push with _ | _
   · exact absurd (.inl ⟨hk,hs⟩) h4
   · rfl
 · rcases hs:s.pushed with _ | _
   · exact absurd (.inr ⟨hk,hs⟩) h4
   · rfl
 · rw [Bool.not_eq_true,List.any_eq_false] at h7
   have:=h7 b hb
   simpa using this
def sc (r:Rules) (s:State) (x:aI) (a:Int):Int:=
 let b:=if good r s x=true then a+(objects x).length else a
 if iW r s x=0 then b else if r.game=aB then b - 1 else b
def fc (r:Rules) (s:State) (x:aI) (a:Int):Int:=if iW r s x=0 then 0 else a+1
def rc (r:Rules) (s:State) (x:aI) (a:Int):Int:=if iW r s x=0 then (if good r s x=true then a+(objects x).length else a) else 0
theorem jm (r:Rules) (s:State) (x:aI):counted r s x= {calm r s x with ay:=left r s x,s0:=if x.aC=0 then sc r s x s.s0 else s.s0,s1:=if x.aC=0 then s.s1 else sc r s x s.s1,f0:=if x.aC=0 then fc r s x s.f0 else s.f0,f1:=if x.aC=0 then s.f1 else fc r s x s.f1,run:=rc r s x s.run }:=by
 unfold counted sc fc rc
 by_cases hp:x.aC=0 <;> by_cases hg:good r s x=true <;> by_cases hf:iW r s x=0 <;> by_cases hs:r.game=aB <;> simp [hp,hg,hf,hs,State.uT,State.uS,State.score,State.jZ,sel,calm]
theorem DL (r:Rules) (s:State) (x:aI) (t:State) (hx:ni x):
 ended r s x t=t∧¬ (r.game=bM∧good r s x=true∧(9:Int)∈objects x)∧¬ (r.game=aQ∧x.kind≠dh∧(8:Int)∈objects x)∨
 ∃ v,(v=0∨v=1)∧ended r s x t= {t with over:=true,bC:=v }:=by
 have hp:=hx.aC
 unfold ended
 split
 · exact .inr ⟨_,hp,rfl⟩
 · split
   · exact .inr ⟨_,hp,rfl⟩
   · next h2=>
     split
     · refine .inr ⟨_,?_,rfl⟩;split <;> omega
     · next h3=>exact .inl ⟨rfl,h2,h3⟩
theorem Hw {r:Rules} {s:State} {x:aI} (h:good r s x=true):iW r s x=0:=by
 unfold good at h
 split at h
 · cases h
 · next h1=>rw [not_or] at h1;exact Classical.not_not.1 h1.1
theorem Pv {r:Rules} {s:State} {x:aI} (hx:ni x) (a:Int):a - 1≤sc r s x a∧sc r s x a≤a+16:=by
 have:=hx.objs
 unfold sc
 simp only
 split <;> split <;> first | omega | (split <;> omega)
theorem TQ {r:Rules} {s:State} {x:aI} (hx:ni x) {a:Int} (h:0≤a):0≤rc r s x a∧rc r s x a≤a+16:=by
 have:=hx.objs
 unfold rc
 split
 · split <;> omega
 · omega
theorem Gy {r:Rules} {s:State} {x:aI} {a:Int} (h:0≤a):0≤fc r s x a∧fc r s x a≤a+1:=by
 unfold fc;split <;> omega
theorem Dq (b:Int):0≤side b∧side b≤2:=by unfold side;split <;> first | omega | (split <;> omega)
theorem Jy {b:Int} (h:side b=0):b=8:=by unfold side at h;split at h <;> first | omega | (split at h <;> omega)
section
variable {r:Rules} {n:Int} {s:State} {x:aI}
theorem EW (h:Ok r n s) (hx:ni x) (hl:Lawful r s x) (v:Int) (hv:v=0∨v=1):Ok r (n+16) {counted r s x with over:=true,bC:=v }:=by
 have h1:=h.aZ
 have k0:=Pv (r:=r) (s:=s) hx s.s0
 have k1:=Pv (r:=r) (s:=s) hx s.s1
 have k2:=Gy (r:=r) (s:=s) (x:=x) h.f0.1
 have k3:=Gy (r:=r) (s:=s) (x:=x) h.f1.1
 have k4:=TQ (r:=r) (s:=s) hx h.run.1
 have a0:=h.s0
 have a1:=h.s1
 have a2:=h.f0
 have a3:=h.f1
 have a4:=h.run
 rw [jm]
 refine ⟨h.turn,hv,h.group,h.game,fun b hb=>h.ay b (mem_left.1 hb).1,h.order.filter _,?_,?_,?_,?_,?_,?_,?_,?_,?_,?_,?_,?_⟩
 · show -(n+16)≤(if x.aC=0 then sc r s x s.s0 else s.s0)∧(if x.aC=0 then sc r s x s.s0 else s.s0)≤n+16
   split <;> omega
 · show -(n+16)≤(if x.aC=0 then s.s1 else sc r s x s.s1)∧(if x.aC=0 then s.s1 else sc r s x s.s1)≤n+16
   split <;> omega
 · show 0≤(if x.aC=0 then fc r s x s.f0 else s.f0)∧(if x.aC=0 then fc r s x s.f0 else s.f0)≤n+16
   split <;> omega
 · show 0≤(if x.aC=0 then s.f1 else fc r s x s.f1)∧(if x.aC=0 then s.f1 else fc r s x s.f1)≤n+16
   split <;> omega
 · intro h0
   have:=h.l0 h0
   have:=this.2 hl.over
   refine ⟨?_,fun e=>by cases e⟩
   show (if x.aC=0 then fc r s x s.f0 else s.f0)≤r.aY
   split <;> omega
 · intro h0
   have:=h.l1 h0
   have:=this.2 hl.over
   refine ⟨?_,fun e=>by cases e⟩
   show (if x.aC=0 then s.f1 else fc r s x s.f1)≤r.aY
   split <;> omega
 · show 0≤rc r s x s.run∧rc r s x s.run≤n+16
   omega
 · show 1≤s.aZ∧s.aZ≤n+16
   omega
 · intro hp
   have hp:decide (r.game=bM∧x.kind=dh)=true:=hp
   exact ⟨(of_decide_eq_true hp).1,rfl⟩
 · intro hp
   have hp:decide (x.kind=eu)=true:=hp
   exact ⟨(h.push (hl.push (of_decide_eq_true hp))).1,rfl⟩
 · intro h1 h2
   have h1:decide (r.game=bM∧x.kind=dh)=true:=h1
   have h2:decide (x.kind=eu)=true:=h2
   have e1:=(of_decide_eq_true h1).2
   have e2:=of_decide_eq_true h2
   rw [e1] at e2
   exact absurd e2 (by decide)
 · intro e;cases e
theorem Ok.fin {t:State} (h:Ok r n {t with over:=true,bC:=(0:Int) }) (v:Int) (hv:v=0∨v=1):Ok r n {t with over:=true,bC:=v }:=
 ⟨h.turn,hv,h.group,h.game,h.ay,h.order,h.s0,h.s1,h.f0,h.f1,h.l0,h.l1,h.run,h.aZ,h.push,h.pushed,h.both,fun e=>by cases e⟩
theorem Ok.goes {t:State} (h:Ok r n {t with over:=true,bC:=(0:Int) }) (hw:t.bC=0) (hf0:0<r.aY→t.f0<r.aY) (hf1:0<r.aY→t.f1<r.aY) (hb:t.ay≠[]) (h8:r.game=aQ→(8:Int)∈t.ay) (h9:r.game=bM→(9:Int)∈t.ay):Ok r n t:=
 ⟨h.turn,.inl hw,h.group,h.game,h.ay,h.order,h.s0,h.s1,h.f0,h.f1,fun h0=>⟨(h.l0 h0).1,fun _=>hf0 h0⟩,fun h0=>⟨(h.l1 h0).1,fun _=>hf1 h0⟩,h.run,h.aZ,h.push,h.pushed,h.both,fun _=>⟨hw,hb,h8,h9⟩⟩
theorem um (h:aH r=0):r.game=aB∨r.game=aQ∨r.game=bM:=by
 unfold aH at h
 split at h
 · cases h
 · next h1=>
   have h2:rP r.game=true:=by cases h:rP r.game <;> simp_all
   unfold rP at h2
   exact of_decide_eq_true h2
theorem Ez (h:aH r=0):r.aY=0∨(2≤r.aY∧r.aY≤9):=by
 unfold aH at h
 split at h
 · cases h
 · split at h
   · cases h
   · next h1=>
     rw [not_or,not_or] at h1
     by_cases h0:r.aY=0
     · exact .inl h0
     · right
       have:=h1.2.2
       rw [not_and,Bool.not_eq_true,uh] at this
       exact this h0
theorem Ie (hr:aH r=0) (h:Ok r n s) (hl:Lawful r s x) (h9:¬ (r.game=bM∧good r s x=true∧(9:Int)∈objects x)) (h8:¬ (r.game=aQ∧x.kind≠dh∧(8:Int)∈objects x)):
 (r.game=aQ→(8:Int)∈left r s x)∧(r.game=bM→(9:Int)∈left r s x)∧(good r s x=false→left r s x≠[]):=by
 obtain ⟨_,hb,k8,k9⟩:=h.live hl.over
 have e8:r.game=aQ→(8:Int)∈left r s x:=by
  intro hg
  refine mem_left.2 ⟨k8 hg,?_⟩
  unfold stays
  rw [decide_eq_true_eq]
  by_cases ho:(8:Int)∈objects x
  · right;right;left
    exact ⟨hg,rfl,Classical.byContradiction fun hk=>h8 ⟨hg,hk,ho⟩⟩
  · exact .inl ho
 have e9:r.game=bM→(9:Int)∈left r s x:=by
  intro hg
  refine mem_left.2 ⟨k9 hg,?_⟩
  unfold stays
  rw [decide_eq_true_eq]
  by_cases ho:(9:Int)∈objects x
  · right;right;right
    refine ⟨hg,rfl,?_⟩
    rcases hgd:good r s x with _ | _
    · rfl
    · exact absurd ⟨hg,hgd,ho⟩ h9
  · exact .inl ho
 refine ⟨e8,e9,fun hgd=>?_⟩
 rcases um hr with hg | hg | hg
 · obtain ⟨b,l,e⟩:=List.exists_cons_of_ne_nil hb
   intro he
   have:b∈left r s x:=mem_left.2 ⟨by rw [e];exact List.mem_cons_self,by unfold stays;rw [decide_eq_true_eq];exact .inr (.inl ⟨hg,hgd⟩)⟩
   rw [he] at this
   cases this
 · exact fun he=>by have:=e8 hg;rw [he] at this;cases this
 · exact fun he=>by have:=e9 hg;rw [he] at this;cases this
theorem tV (r:Rules) (s:State) (x:aI):(counted r s x).over=s.over:=by rw [jm];rfl
theorem jv (r:Rules) (s:State) (x:aI):(counted r s x).bC=s.bC:=by rw [jm];rfl
theorem mD (r:Rules) (s:State) (x:aI):(counted r s x).ay=left r s x:=by rw [jm]
theorem vJ (r:Rules) (s:State) (x:aI):(counted r s x).aZ=s.aZ:=by rw [jm];rfl
theorem vT (r:Rules) (s:State) (x:aI):(counted r s x).f0=if x.aC=0 then fc r s x s.f0 else s.f0:=by rw [jm]
theorem vU (r:Rules) (s:State) (x:aI):(counted r s x).f1=if x.aC=0 then s.f1 else fc r s x s.f1:=by rw [jm]
theorem Ap (r:Rules) (s:State) (x:aI):(counted r s x).jZ x.aC=fc r s x (s.jZ x.aC):=by
 unfold State.jZ sel
 rw [vT,vU]
 split <;> rfl
theorem GV:(∀ b∈jA r,1≤b∧b≤(dS r.game:Int))∧(jA r).Pairwise (· < ·)∧jA r≠[]∧(8:Int)∈jA r∧(9:Int)∈jA r:=by
 have hn:=Np r.game
 have h8:(8:Int)∈jA r:=zH.2 (by omega)
 have h9:(9:Int)∈jA r:=zH.2 (by omega)
 exact ⟨fun b hb=>zH.1 hb,Gh _,fun e=>(by rw [e] at h8;cases h8),h8,h9⟩
theorem OB (hr:aH r=0) (h:Ok r n s) (hx:ni x) (hl:Lawful r s x) (hn:0≤n):Ok r (n+16) (next r s x):=by
 have hp:=hx.aC
 have hn16:(0:Int)≤n+16:=by omega
 unfold next
 split
 · exact (Ok.fin (t:=s) ⟨h.turn,.inl rfl,h.group,h.game,h.ay,h.order,h.s0,h.s1,h.f0,h.f1,fun h0=>⟨(h.l0 h0).1,fun e=>by cases e⟩,fun h0=>⟨(h.l1 h0).1,fun e=>by cases e⟩,h.run,h.aZ,h.push,h.pushed,h.both,fun e=>by cases e⟩ _ (by omega)).more (by omega)
 · next hc=>
   split
   · next hpa=>
     have hb:r.game=bM∧x.kind=dh→False:=fun e=>by rw [hpa] at e;exact absurd e.2 (by decide)
     have hpu:x.kind=eu→False:=fun e=>by rw [hpa] at e;exact absurd e (by decide)
     refine Ok.more (n:=n) ⟨?_,h.bC,h.group,h.game,h.ay,h.order,h.s0,h.s1,h.f0,h.f1,h.l0,h.l1,⟨Int.le_refl 0,hn⟩,h.aZ,fun e=>(hb (of_decide_eq_true e)).elim,fun e=>(hpu (of_decide_eq_true e)).elim,fun e=>(hb (of_decide_eq_true e)).elim,h.live⟩ (by omega)
     show 1 - x.aC=0∨1 - x.aC=1
     omega
   · have hk:=EW h hx hl 0 (.inl rfl)
     unfold play
     simp only
     rcases DL r s x (counted r s x) hx with ⟨he,h9,h8⟩ | ⟨v,hv,he⟩
     · rw [he,if_neg (by rw [tV,hl.over];decide)]
       obtain ⟨w1,w2,w3,w4⟩:=h.live hl.over
       obtain ⟨e8,e9,en⟩:=Ie hr h hl h9 h8
       obtain ⟨r1,r2,r3,r4,r5⟩:=GV (r:=r)
       have hf:=Gy (r:=r) (s:=s) (x:=x) h.f0.1
       have hf':=Gy (r:=r) (s:=s) (x:=x) h.f1.1
       have hfr:=Ez hr
       split
       · next hfo=>
         obtain ⟨hfo,hlim⟩:=hfo
         unfold limit
         split
         · exact hk.fin _ (by omega)
         · next hg=>
           have hg:=Classical.not_not.1 hg
           have hsc: -(n+16)≤(counted r s x).score x.aC - 15∧(counted r s x).score x.aC - 15≤n+16:=by
            have hb0:=h.s0
            have hb1:=h.s1
            have hgd:good r s x=false:=by
             rcases hgd:good r s x with _ | _
             · rfl
             · exact absurd (Hw hgd) hfo
            have hv:∀ a,sc r s x a=a - 1:=fun a=>by unfold sc;simp [hgd,hfo,hg]
            unfold State.score sel
            rw [jm]
            split
            · next h0=>simp only [hv];omega
            · next h0=>simp only [hv];omega
           have GI:r.game≠bM:=by rw [hg];decide
           have hne:r.game≠aQ:=by rw [hg];decide
           have hpu:=hk.push
           have Pg:=hk.pushed
           have hrk:1≤(counted r s x).aZ+1∧(counted r s x).aZ+1≤n+16:=by rw [vJ];have:=h.aZ;omega
           unfold State.uT State.uS
           rcases hp with hp | hp
           · rw [hp] at hsc ⊢
             simp only [if_true]
             exact ⟨hk.turn,.inl (by rw [jv];exact w1),hk.group,hk.game,r1,r2,hsc,hk.s1,⟨Int.le_refl 0,hn16⟩,hk.f1,fun h0=>⟨by show (0:Int)≤_;omega,fun _=>h0⟩,
              fun h0=>⟨(hk.l1 h0).1,fun _=>by show (counted r s x).f1<_;rw [vU,hp,if_pos rfl];exact (h.l1 h0).2 hl.over⟩,hk.run,hrk,fun e=>absurd (hpu e).1 GI,fun e=>absurd (Pg e).1 GI,hk.both,
              fun _=>⟨by rw [jv];exact w1,r3,fun e=>absurd e hne,fun e=>absurd e GI⟩⟩
           · rw [hp] at hsc ⊢
             simp only [show ¬ (1:Int)=0 by decide,if_false]
             exact ⟨hk.turn,.inl (by rw [jv];exact w1),hk.group,hk.game,r1,r2,hk.s0,hsc,hk.f0,⟨Int.le_refl 0,hn16⟩,
              fun h0=>⟨(hk.l0 h0).1,fun _=>by show (counted r s x).f0<_;rw [vT,hp,if_neg (by decide)];exact (h.l0 h0).2 hl.over⟩,fun h0=>⟨by show (0:Int)≤_;omega,fun _=>h0⟩,hk.run,hrk,fun e=>absurd (hpu e).1 GI,fun e=>absurd (Pg e).1 GI,hk.both,
              fun _=>⟨by rw [jv];exact w1,r3,fun e=>absurd e hne,fun e=>absurd e GI⟩⟩
       · next hnl=>
         have hq:∀ h0:0<r.aY,(counted r s x).f0<r.aY∧(counted r s x).f1<r.aY:=by
          intro h0
          have g0:=(h.l0 h0).2 hl.over
          have g1:=(h.l1 h0).2 hl.over
          have hfz:iW r s x=0∨(counted r s x).jZ x.aC≠r.aY:=by
           by_cases hz:iW r s x=0
           · exact .inl hz
           · exact .inr fun e=>hnl ⟨hz,e⟩
          rw [Ap] at hfz
          rw [vT,vU]
          unfold State.jZ sel at hfz
          unfold fc at hfz ⊢
          rcases hp with hp | hp
          · simp only [hp,if_true] at hfz ⊢
            refine ⟨?_,g1⟩
            by_cases hz:iW r s x=0
            · rw [if_pos hz];exact h0
            · rw [if_neg hz] at hfz ⊢;omega
          · simp only [hp,show ¬ (1:Int)=0 by decide,if_false] at hfz ⊢
            refine ⟨g0,?_⟩
            by_cases hz:iW r s x=0
            · rw [if_pos hz];exact h0
            · rw [if_neg hz] at hfz ⊢;omega
         split
         · next hgd=>
           have hgo:=hk.goes (by rw [jv];exact w1) (fun h0=>(hq h0).1) (fun h0=>(hq h0).2) (by rw [mD];exact en hgd) (by rw [mD];exact e8) (by rw [mD];exact e9)
           refine ⟨?_,hgo.bC,hgo.group,hgo.game,hgo.ay,hgo.order,hgo.s0,hgo.s1,hgo.f0,hgo.f1,hgo.l0,hgo.l1,⟨Int.le_refl 0,hn16⟩,hgo.aZ,hgo.push,hgo.pushed,hgo.both,hgo.live⟩
           show 1 - x.aC=0∨1 - x.aC=1
           omega
         · next hgd=>
           have hgd:good r s x=true:=by simpa using hgd
           have hgr:Ok r (n+16) {grouped r s x (counted r s x) with over:=true,bC:=(0:Int) }:=by
            unfold grouped
            split
            · next hg=>
              have Va:0≤(if x.aC=1 then 3 - side x.aJ else side x.aJ)∧(if x.aC=1 then 3 - side x.aJ else side x.aJ)≤2:=by
               have hs:=Dq x.aJ
               split
               · have:side x.aJ≠0:=by
                  intro h0
                  have hb8:=Jy h0
                  refine h8 ⟨hg.1,by rw [hg.2.1];decide,?_⟩
                  have hgs:=Bj r s x
                  rw [hgd,if_neg (by rw [hg.2.1];decide),if_neg (by rw [hg.2.1];decide),if_neg (by rw [hg.1];decide)] at hgs
                  have:=(of_decide_eq_true hgs.symm).2.2
                  rw [← hb8]
                  exact DF this (by omega)
                 omega
               · exact hs
              exact ⟨hk.turn,hk.bC,Va,fun _=>hg.1,hk.ay,hk.order,hk.s0,hk.s1,hk.f0,hk.f1,hk.l0,hk.l1,hk.run,hk.aZ,hk.push,hk.pushed,hk.both,hk.live⟩
            · exact hk
           have gb:(grouped r s x (counted r s x)).ay=left r s x:=by unfold grouped;split <;> exact mD r s x
           have go:(grouped r s x (counted r s x)).over=false:=by unfold grouped;split <;> exact (tV r s x).trans hl.over
           have gw:(grouped r s x (counted r s x)).bC=0:=by unfold grouped;split <;> exact (jv r s x).trans w1
           have gr:(grouped r s x (counted r s x)).aZ=s.aZ:=by unfold grouped;split <;> exact vJ r s x
           have g0:(grouped r s x (counted r s x)).f0=(counted r s x).f0:=by unfold grouped;split <;> rfl
           have g1:(grouped r s x (counted r s x)).f1=(counted r s x).f1:=by unfold grouped;split <;> rfl
           unfold dW
           split
           · next hg=>
             have GI:r.game≠bM:=by rw [hg.1];decide
             have hne:r.game≠aQ:=by rw [hg.1];decide
             have hrk:1≤(grouped r s x (counted r s x)).aZ+1∧(grouped r s x (counted r s x)).aZ+1≤n+16:=by rw [gr];have:=h.aZ;omega
             exact ⟨hgr.turn,.inl gw,hgr.group,hgr.game,r1,r2,hgr.s0,hgr.s1,hgr.f0,hgr.f1,fun h0=>⟨(hgr.l0 h0).1,fun _=>by show (grouped r s x (counted r s x)).f0<_;rw [g0];exact (hq h0).1⟩,fun h0=>⟨(hgr.l1 h0).1,fun _=>by show (grouped r s x (counted r s x)).f1<_;rw [g1];exact (hq h0).2⟩,
              hgr.run,hrk,hgr.push,hgr.pushed,hgr.both,fun _=>⟨gw,r3,fun e=>absurd e hne,fun e=>absurd e GI⟩⟩
           · next hg=>
             refine hgr.goes gw (fun h0=>by rw [g0];exact (hq h0).1) (fun h0=>by rw [g1];exact (hq h0).2) ?_ (by rw [gb];exact e8) (by rw [gb];exact e9)
             rw [gb] at hg ⊢
             intro hnil
             rcases um hr with h1 | h1 | h1
             · exact hg ⟨h1,by rw [hnil];decide⟩
             · have:=e8 h1;rw [hnil] at this;cases this
             · have:=e9 h1;rw [hnil] at this;cases this
     · rw [he,if_pos rfl]
       exact hk.fin v hv
theorem NG (r:Rules):Ok r 1 (start r):=by
 obtain ⟨r1,r2,r3,r4,r5⟩:=GV (r:=r)
 have z0:(0:Int)≤0∧(0:Int)≤1:=by omega
 have z1:(-1:Int)≤0∧(0:Int)≤1:=by omega
 have z2:(1:Int)≤1∧(1:Int)≤1:=by omega
 have z3:(0:Int)≤0∧(0:Int)≤2:=by omega
 exact {turn:= .inl rfl,bC:= .inl rfl,group:=z3,game:=fun h=>absurd rfl h,ay:=r1,order:=r2,s0:=z1,s1:=z1,f0:=z0,f1:=z0,l0:=fun h=>⟨Int.le_of_lt h,fun _=>h⟩,l1:=(fun h=>⟨Int.le_of_lt h,fun _=>h⟩),run:=z0,aZ:=z2,push:=fun e=>(by cases e),pushed:=fun e=>(by cases e),both:=fun e=>(by cases e),live:=fun _=>⟨rfl,r3,fun _=>r4,fun _=>r5⟩ }
theorem step_ok (hr:aH r=0) (h:Ok r n s) (hx:ni x) (hn:0≤n):Ok r (n+16) (step r s x):=by
 unfold step
 split
 · next hl=>exact OB hr h hx (lawful hl) hn
 · exact h.more (by omega)
end
end M
namespace M
section
variable {r:Rules} {n:Int} {s:State} {x:aI}
def bump (n:Int):List Run→List Run
 | []=>[]
 | [a]=>[⟨a.aC,a.points+n⟩]
 | a::b::l=>a::bump n (b::l)
theorem Ba (n:Int) (a:Run):∀ l:List Run,bump n (l++[a])=l++[⟨a.aC,a.points+n⟩]
 | []=>rfl
 | [b]=>rfl
 | b::c::l=>by
   have:=Ba n a (c::l)
   simp only [List.cons_append] at this ⊢
   rw [bump,this]
def Ac (r:Rules) (s:State) (opened:Bool) (acc:List Run):List aI→List Run
 | []=>acc
 | x::l=>
   if legal r s x≠0 then Ac r (step r s x) opened acc l
   else if good r s x=false then Ac r (step r s x) false acc l
   else if opened then Ac r (step r s x) true (bump (objects x).length acc) l
   else Ac r (step r s x) true (acc++[⟨x.aC,(objects x).length⟩]) l
def runs (r:Rules) (l:List aI):List Run:=Ac r (start r) false [] l
end
end M
namespace M
def dM (cur:List UInt8):List UInt8→List (List UInt8)
 | []=>[cur]
 | c::l=>if c=32 then cur::dM [] l else dM (cur++[c]) l
def words (l:List UInt8):List (List UInt8):=dM [] l
theorem wW (l cur:List UInt8):dM cur l≠[]:=by
 induction l generalizing cur with
 | nil=>simp [dM]
 | cons c l ih=>rw [dM];split <;> simp [ih]
def join:List (List UInt8)→List UInt8
 | []=>[]
 | a::l=>a++l.flatMap fun b=>32::b
theorem nJ (a:List UInt8) (ha:(32:UInt8) ∉ a) (l cur:List UInt8):dM cur (a++l)=dM (cur++a) l:=by
 induction a generalizing cur with
 | nil=>simp
 | cons c a ih=>
   rw [List.mem_cons,not_or] at ha
   rw [List.cons_append,dM,if_neg (fun e=>ha.1 e.symm),ih ha.2]
   simp
def qR (c:UInt8):Bool:=48≤c∧c≤57
def num:List UInt8→Option Int
 | [a]=>if qR a then some ((a.toNat:Int) - 48) else none
 | [a,b]=>if qR a=true∧qR b=true∧a≠48 then some (10*((a.toNat:Int) - 48)+((b.toNat:Int) - 48)) else none
 | _=>none
def O5 (n:Nat):UInt8:=UInt8.ofNat (48+n)
def dec (n:Int):List UInt8:=if n<10 then [O5 n.toNat] else [O5 (n.toNat / 10),O5 (n.toNat % 10)]
theorem N8:∀ n:Fin 10,qR (O5 n.val)=true∧(O5 n.val).toNat=48+n.val:=by decide
theorem Ce {n:Nat} (h:n<10):qR (O5 n)=true∧(O5 n).toNat=48+n:=N8 ⟨n,h⟩
theorem rE {c:UInt8}:qR c=true↔48≤c.toNat∧c.toNat≤57:=by
 unfold qR
 rw [decide_eq_true_eq,UInt8.le_iff_toNat_le,UInt8.le_iff_toNat_le]
 rfl
theorem EY {c:UInt8} (h:qR c=true):O5 (c.toNat - 48)=c:=by
 have:=rE.1 h
 apply UInt8.toNat_inj.1
 rw [(Ce (n:=c.toNat - 48) (by omega)).2]
 omega
theorem OC {n:Int} (h0:0≤n) (h1:n≤99):num (dec n)=some n:=by
 unfold dec
 split
 · have:=Ce (n:=n.toNat) (by omega)
   rw [num,if_pos this.1,this.2]
   congr 1
   omega
 · have a:=Ce (n:=n.toNat / 10) (by omega)
   have b:=Ce (n:=n.toNat % 10) (by omega)
   rw [num,if_pos ⟨a.1,b.1,fun e=>by have:=a.2;rw [e] at this;have h48:(48:UInt8).toNat=48:=rfl;omega⟩,a.2,b.2]
   congr 1
   omega
theorem N7 {l:List UInt8} {n:Int} (h:num l=some n):l=dec n∧0≤n∧n≤99:=by
 match l,h with
 | [a],h=>
   rw [num] at h
   split at h
   · next ha=>
     have h48:=rE.1 ha
     injection h with h
     subst h
     refine ⟨?_,by omega,by omega⟩
     unfold dec
     rw [if_pos (by omega),show ((a.toNat:Int) - 48).toNat=a.toNat - 48 by omega,EY ha]
   · cases h
 | [a,b],h=>
   rw [num] at h
   split at h
   · next hab=>
     obtain ⟨ha,hb,h0⟩:=hab
     have ha':=rE.1 ha
     have hb':=rE.1 hb
     have h0':a.toNat≠48:=fun e=>h0 (UInt8.toNat_inj.1 (by rw [e];rfl))
     injection h with h
     subst h
     refine ⟨?_,by omega,by omega⟩
     unfold dec
     rw [if_neg (by omega),show (10*((a.toNat:Int) - 48)+((b.toNat:Int) - 48)).toNat / 10=a.toNat - 48 by omega,show (10*((a.toNat:Int) - 48)+((b.toNat:Int) - 48)).toNat % 10=b.toNat - 48 by omega,EY ha,EY hb]
   · cases h
def cutAt (c:UInt8):List UInt8→Option (List UInt8 × List UInt8)
 | []=>none
 | a::l=>if a=c then some ([],l) else (cutAt c l).map fun p=>(a::p.1,p.2)
theorem vW {c:UInt8}:∀ {l a b:List UInt8},cutAt c l=some (a,b)→l=a++c::b∧c ∉ a
 | [],a,b,h=>by cases h
 | d::l,a,b,h=>by
   rw [cutAt] at h
   split at h
   · next hd=>injection h with h;injection h with h1 h2;subst h1 h2 hd;simp
   · next hd=>
     cases hc:cutAt c l with
     | none=>rw [hc] at h;cases h
     | some p=>
       obtain ⟨p1,p2⟩:=p
       rw [hc] at h
       injection h with h;injection h with h1 h2
       subst h1 h2
       obtain ⟨e,hn⟩:=vW hc
       exact ⟨by rw [e];rfl,by rw [List.mem_cons,not_or];exact ⟨fun e=>hd e.symm,hn⟩⟩
theorem DK {c:UInt8}:∀ {a:List UInt8} (b:List UInt8),c ∉ a→cutAt c (a++c::b)=some (a,b)
 | [],b,_=>by rw [List.nil_append,cutAt,if_pos rfl]
 | d::a,b,h=>by
   rw [List.mem_cons,not_or] at h
   rw [List.cons_append,cutAt,if_neg (fun e=>h.1 e.symm),DK b h.2]
   rfl
theorem vV {c:UInt8}:∀ {l:List UInt8},cutAt c l=none↔c ∉ l
 | []=>by simp [cutAt]
 | d::l=>by
   rw [cutAt,List.mem_cons,not_or]
   split
   · next h=>subst h;simp
   · next h=>rw [Option.map_eq_none_iff,vV];exact ⟨fun k=>⟨fun e=>h e.symm,k⟩,fun k=>k.2⟩
def two:Option Int→Option Int→Option (Int × Int)
 | some a,some b=>some (a,b)
 | _,_=>none
def dF (letter:UInt8):List UInt8→Option (Int × Int)
 | []=>none
 | a::l=>if a=letter then (match cutAt 47 l with | none=>none | some p=>two (num p.1) (num p.2)) else none
def dR (letter:UInt8) (a b:Int):List UInt8:=letter::(dec a++47::dec b)
def letter (p:Int):List UInt8:=if p=1 then [98] else [97]
def tail (x:aI):List (List UInt8):=
 (if x.aJ≠0 then [dR 99 x.aJ x.aP] else [])++(if x.first≠0 then [102::dec x.first] else [])++(if x.dA=true then [[43]] else [])++x.aA.map fun p=>dR 112 p.aJ p.aP
def pieces (x:aI):List (List UInt8):=letter x.aC::x.kind.toList::tail x
def print (x:aI):List UInt8:=join (pieces x)
def blank:aI:={aC:=0,kind:=⟨#[]⟩,aJ:=0,aP:=0,first:=0,dA:=false,aA:=[] }
def ku (w:List UInt8):Bool:=isKind ⟨w.toArray⟩
def uM:List UInt8→Option Int
 | []=>none
 | c::l=>if c=102 then num l else none
def read (x:aI) (place:Nat) (w:List UInt8):Option (aI × Nat):=
 match (if place≤2 then dF 99 w else none).filter fun p=>0<p.1∧0<p.2 with
 | some p=>some ({x with aJ:=p.1,aP:=p.2 },3)
 | none=>
   match (if place≤3 then uM w else none).filter fun h=>0<h with
   | some h=>some ({x with first:=h },4)
   | none=>
     if place≤4∧w=[43] then some ({x with dA:=true },5)
     else match dF 112 w with
      | some p=>some ({x with aA:=x.aA++[⟨p.1,p.2⟩] },5)
      | none=>none
def readAll (x:aI) (place:Nat) (n:Int):List (List UInt8)→Except Int aI
 | []=> .ok x
 | w::l=>match read x place w with
   | some q=>readAll q.1 q.2 (n+1) l
   | none=> .error (n+1)
def iU:List (List UInt8)→Except Int aI
 | []=> .error 1
 | w::l=>
   if w≠[97]∧w≠[98] then .error 1
   else match l with
    | []=> .error 2
    | k::l=>if ku k=false then .error 2 else readAll {blank with aC:=if w=[98] then 1 else 0,kind:=⟨k.toArray⟩ } 2 2 l
def parse (s:List UInt8):aI × Int × Int:=
 if 4096<s.length then (blank,0,26)
 else match iU (words s) with
  | .error n=>(blank,n,25)
  | .ok x=>if cZ x≠0 then (blank,0,cZ x) else (x,0,0)
def jG (x:aI) (n:Int):List (List UInt8)→Except Int aI
 | []=> .ok x
 | w::l=>match dF 112 w with
   | some p=>jG {x with aA:=x.aA++[⟨p.1,p.2⟩] } (n+1) l
   | none=> .error (n+1)
def iM (x:aI) (n:Int):List (List UInt8)→Except Int aI
 | []=> .ok x
 | w::l=>if w=[43] then jG {x with dA:=true } (n+1) l else jG x n (w::l)
def lY (x:aI) (n:Int):List (List UInt8)→Except Int aI
 | []=> .ok x
 | w::l=>match (uM w).filter fun h=>0<h with
   | some h=>iM {x with first:=h } (n+1) l
   | none=>iM x n (w::l)
def sG (x:aI) (n:Int):List (List UInt8)→Except Int aI
 | []=> .ok x
 | w::l=>match (dF 99 w).filter fun p=>0<p.1∧0<p.2 with
   | some p=>lY {x with aJ:=p.1,aP:=p.2 } (n+1) l
   | none=>lY x n (w::l)
theorem sV (l:List (List UInt8)):∀ (x:aI) (n:Int),readAll x 5 n l=jG x n l:=by
 induction l with
 | nil=>intro x n;rfl
 | cons w l ih=>
   intro x n
   rw [readAll,jG,read]
   simp only [show ¬ (5≤2) by omega,show ¬ (5≤3) by omega,show ¬ (5≤4) by omega,if_false,Option.filter_none,false_and]
   cases dF 112 w with
   | none=>rfl
   | some p=>exact ih _ _
theorem yA (l:List (List UInt8)) (x:aI) (n:Int):readAll x 4 n l=iM x n l:=by
 cases l with
 | nil=>rfl
 | cons w l=>
   rw [readAll,iM,read]
   simp only [show ¬ (4≤2) by omega,show ¬ (4≤3) by omega,if_false,Option.filter_none,Nat.le_refl,true_and]
   by_cases h:w=[43]
   · simp only [h,if_true];exact sV _ _ _
   · simp only [h,if_false]
     rw [jG]
     cases dF 112 w with
     | none=>rfl
     | some p=>exact sV _ _ _
theorem OI (l:List (List UInt8)) (x:aI) (n:Int):readAll x 3 n l=lY x n l:=by
 cases l with
 | nil=>rfl
 | cons w l=>
   rw [readAll,lY,read]
   simp only [show ¬ (3≤2) by omega,if_false,Option.filter_none,Nat.le_refl,if_true]
   cases (uM w).filter fun h=>decide (0<h) with
   | some h=>exact yA _ _ _
   | none=>
     simp only [show 3≤4 by omega,true_and]
     rw [iM]
     by_cases h:w=[43]
     · simp only [h,if_true];exact sV _ _ _
     · simp only [h,if_false]
       rw [jG]
       cases dF 112 w with
       | none=>rfl
       | some p=>exact sV _ _ _
theorem Nu (l:List (List UInt8)) (x:aI) (n:Int):readAll x 2 n l=sG x n l:=by
 cases l with
 | nil=>rfl
 | cons w l=>
   rw [readAll,sG,read]
   simp only [Nat.le_refl,if_true]
   cases (dF 99 w).filter fun p=>decide (0<p.1∧0<p.2) with
   | some p=>exact OI _ _ _
   | none=>
     simp only [show 2≤3 by omega,if_true]
     rw [lY]
     cases (uM w).filter fun h=>decide (0<h) with
     | some h=>exact yA _ _ _
     | none=>
       simp only [show 2≤4 by omega,true_and]
       rw [iM]
       by_cases h:w=[43]
       · simp only [h,if_true];exact sV _ _ _
       · simp only [h,if_false]
         rw [jG]
         cases dF 112 w with
         | none=>rfl
         | some p=>exact sV _ _ _
end M
namespace M
section
variable {r:Rules} {n:Int} {s:State} {x:aI}
theorem KC (hl:legal r s x=0):note r s n x=⟨n,x.aC,0,iW r s x,(next r s x).score x.aC - s.score x.aC,(next r s x).turn≠s.turn⟩:=by unfold note;rw [if_neg (by simp [hl])]
end
end M
namespace M
section
variable {r:Rules} {n:Int} {s:State} {x:aI}
def kept (r:Rules) (s:State):List aI→List aI
 | []=>[]
 | x::l=>if legal r s x=0 then x::kept r (step r s x) l else kept r (step r s x) l
def State.eq (a b:State):Bool:=a.ay=b.ay∧a.turn=b.turn∧a.brk=b.brk∧a.hand=b.hand∧a.push=b.push∧a.pushed=b.pushed∧a.group=b.group∧a.s0=b.s0∧a.s1=b.s1∧a.f0=b.f0∧a.f1=b.f1∧a.run=b.run∧a.aZ=b.aZ∧a.over=b.over∧a.bC=b.bC
def DT (f:Nat→Bool) (n:Nat):Nat→Int
 | 0=>0
 | k+1=>if f n then DT f (n+1) k else n
def TS (r:Rules) (l:List aI) (k:Nat):State:=final r (start r) (l.take k)
def changed (r:Rules) (a b:List aI):Int:=DT (fun n=>(TS r a n).eq (TS r b n)) 1 (max a.length b.length)
end
end M
end Go.Proofs.YtelpepbpdojikaaGreatDoor
