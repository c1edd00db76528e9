/- Parts of a proof. -/
import Derived.Lib.Hide
set_option maxHeartbeats 4000000
set_option linter.unusedVariables false
set_option linter.unusedSimpArgs false
namespace Go.Proofs.YtjbbfmofpjflmaaGreatDoor
namespace Sk
abbrev aK:ByteArray:=⟨#[115,110,111,111,107,101,114]⟩
abbrev bT:ByteArray:=⟨#[98,105,108,108,105,97,114,100,115]⟩
abbrev fC:ByteArray:=⟨#[99,97,114,111,109]⟩
abbrev fM:ByteArray:=⟨#[114,101,100]⟩
abbrev dA:ByteArray:=⟨#[99,111,108,111,117,114]⟩
abbrev bH:ByteArray:=⟨#[102,105,110,97,108]⟩
abbrev uo:ByteArray:=⟨#[112,108,97,121]⟩
abbrev cO:ByteArray:=⟨#[115,104,111,116]⟩
abbrev gu:ByteArray:=⟨#[97,103,97,105,110]⟩
abbrev iI:ByteArray:=⟨#[102,114,101,101]⟩
abbrev fJ:ByteArray:=⟨#[99,111,110,99,101,100,101]⟩
abbrev bf:ByteArray:=⟨#[119,104,105,116,101]⟩
abbrev bG:ByteArray:=⟨#[114,101,100]⟩
abbrev bM:ByteArray:=⟨#[121,101,108,108,111,119]⟩
abbrev jJ:ByteArray:=⟨#[103,114,101,101,110]⟩
abbrev nY:ByteArray:=⟨#[98,114,111,119,110]⟩
abbrev zh:ByteArray:=⟨#[98,108,117,101]⟩
abbrev zi:ByteArray:=⟨#[112,105,110,107]⟩
abbrev nX:ByteArray:=⟨#[98,108,97,99,107]⟩
abbrev bU:ByteArray:=⟨#[]⟩
def dX:List ByteArray:=[bf,bG,bM,jJ,nY,zh,zi,nX]
structure Game where
 kind:ByteArray
 aY:Int
 target:Int
 turns:Int
structure Entry where
 kind:ByteArray
 called:ByteArray
 hits:List ByteArray
 aF:List ByteArray
 aX:Int
structure State where
 turn:Int
 s0:Int
 s1:Int
 brk:Int
 phase:ByteArray
 aY:Int
 colour:Int
 free:Bool
 aN:Bool
 aO:Int
 t0:Int
 t1:Int
 ay:Int
structure dI where
 points:Int
 gU:Int
 penalty:Int
 stays:Bool
 deriving DecidableEq
structure wR where
 number:Int
 rule:Int
 deriving DecidableEq
def out (n a b:Int):Bool:=n<a∨b<n
def at_ (b:ByteArray):List ByteArray→Int→Int
 | [],_=> -1
 | x::l,n=>if x=b then n else at_ b l (n+1)
def value (b:ByteArray):Int:=at_ b dX 0
def has (l:List ByteArray) (b:ByteArray):Bool:=l.any fun x=>x=b
def score (s:State) (p:Int):Int:=if p=0 then s.s0 else s.s1
def count (l:List ByteArray) (b:ByteArray):Int:=(l.filter (· =b)).length
def iM (n:Int):ByteArray:=dX.getD n.toNat bU
def fits (g:Game):Bool:=
 if g.kind=aK then out g.aY 1 15=false∧g.target=0∧g.turns=0
 else if g.kind=bT then g.aY=0∧out g.target 1 1000=false∧g.turns=0
 else g.aY=0∧out g.target 1 1000=false∧out g.turns 1 100=false
def jB (k:ByteArray):Bool:=k=aK∨k=bT∨k=fC
def dM (g:Game):Int:=if jB g.kind=false then 13 else if fits g then 0 else 3
def jq (g:Game) (p:ByteArray):Bool:=if g.kind=aK then p=fM∨p=dA∨p=bH else p=uo
def far (g:Game) (s:State):Bool:=
 out s.turn 0 1∨out s.brk 0 99999∨out s.aY 0 g.aY∨out s.colour 0 7∨out s.aO 0 5∨out s.ay (-1) 2∨out s.s0 0 99999∨out s.t0 0 g.turns∨out s.s1 0 99999∨out s.t1 0 g.turns
def eu (s:State):Bool:=(s.free∧s.aN)∨((s.free∨s.aN)∧(s.phase=dA∨0≤s.ay))
def bQ (s:State):Bool:=
 if s.aO≠0∨s.ay=2 then false
 else if s.phase=bH then s.aY=0∧2≤s.colour
 else s.colour=0∧(s.phase≠fM∨0<s.aY)
def jC (s:State):Bool:=s.colour=0∧s.free=false∧s.aN=false
def dF (g:Game) (s:State):Bool:=jC s∧s.ay≠2∧(0≤s.ay∨max s.s0 s.s1<g.target)
def mP (g:Game) (s:State):Bool:=
 if jC s=false∨s.aO≠0 then false
 else if 0≤s.ay then s.t0=s.t1∨(s.turn=1∧s.t0=s.t1+1)
 else if s.turn=1 then s.t0=s.t1+1
 else s.t0=s.t1∧s.t0<g.turns∧max s.s0 s.s1<g.target
def jG (g:Game) (s:State):Bool:=if g.kind=aK then bQ s else if g.kind=bT then dF g s else mP g s
def dh (g:Game) (s:State):Int:=
 if dM g≠0 then dM g
 else if far g s then 3
 else if jq g s.phase=false then 13
 else if score s s.turn<s.brk∨eu s∨jG g s=false then 19
 else 0
def dZ (g:Game) (b:ByteArray) (hit:Bool):Bool:=
 if g.kind=aK then 0<value b∨(b=bf∧hit=false) else b=bf∨b=bM∨b=bG
def isKind (k:ByteArray):Bool:=k=cO∨k=gu∨k=iI∨k=fJ
def dH (g:Game) (e:Entry):Int:=
 if isKind e.kind=false then 13
 else if e.kind≠cO then (if e.called≠bU∨0<e.hits.length+e.aF.length∨e.aX≠0 then 1 else 0)
 else if 22<e.hits.length∨22<e.aF.length then 5
 else if (e.called≠bU∧value e.called<2)∨e.hits.any (fun b=>dZ g b true=false)∨e.aF.any (fun b=>dZ g b false=false) then 10
 else if out e.aX 0 99 then 3
 else if (g.kind≠aK∧e.called≠bU)∨(g.kind=fC∧0<e.aF.length)∨(g.kind≠fC∧e.aX≠0) then 1
 else 0
def kZ (g:Game):List Entry→Int
 | []=>0
 | x::l=>if dH g x≠0 then dH g x else kZ g l
def iO (g:Game) (l:List Entry):Int:=if dM g≠0 then dM g else if 1000<l.length then 5 else kZ g l
def start (g:Game):State:={turn:=0,s0:=0,s1:=0,brk:=0,phase:=if g.kind=aK then fM else uo,aY:=g.aY,colour:=0,free:=false,aN:=false,aO:=0,t0:=0,t1:=0,ay:= -1 }
def zero:State:={turn:=0,s0:=0,s1:=0,brk:=0,phase:=bU,aY:=0,colour:=0,free:=false,aN:=false,aO:=0,t0:=0,t1:=0,ay:=0 }
def callable (s:State) (b:ByteArray):Bool:=
 if s.free=false then false else if s.phase=fM then 2≤value b else s.phase=bH∧s.colour<value b
def on (s:State):List ByteArray:=
 if s.phase=fM then [bG] else if s.phase=dA then dX.drop 2 else [iM s.colour]
def mine (p:Int):ByteArray:=if p=0 then bf else bM
def theirs (s:State):ByteArray:=if s.turn=0 then bM else bf
def own (s:State):ByteArray:=if s.turn=0 then bf else bM
def wanted (s:State) (e:Entry) (b:ByteArray):Bool:=(b=e.called∧e.called≠bU)∨(s.phase≠dA∧has (on s) b)
def worth (s:State) (e:Entry):Int:=if s.phase=fM then 1 else if s.phase=dA then value e.called else s.colour
def due (s:State) (e:Entry):ByteArray:=if e.called=bU then (on s).headD bU else e.called
def cu (s:State) (e:Entry):Int:=
 if e.hits=[] then 1
 else if e.hits.headD bU≠due s e then 2
 else if has e.aF bf then 3
 else if e.aF.any (fun b=>wanted s e b=false) then 4
 else 0
def most (s:State) (e:Entry) (m:Int):List ByteArray→Int
 | []=>m
 | b::l=>most s e (if wanted s e b then m else max m (value b)) l
def called (e:Entry):Bool:=e.called≠bU∧has e.aF e.called
def dB (s:State) (e:Entry):Int:=
 if s.phase=fM then count e.aF bG+(if called e then 1 else 0)
 else if called e∨(has e.aF ((on s).headD bU)∧s.phase=bH) then worth s e else 0
def eF (s:State) (e:Entry):dI:=
 if 0<cu s e then
  ⟨0,cu s e,most s e (if cu s e=2 then max (max 4 (worth s e)) (value (e.hits.headD bU)) else max 4 (worth s e)) e.aF,false⟩
 else ⟨dB s e,0,0,0<dB s e⟩
def eU (s:State) (e:Entry):Bool:=has e.hits (theirs s)∧has e.hits bG
def lT (s:State) (e:Entry) (m:Int):List ByteArray→Int
 | []=>m
 | b::l=>lT s e (m+(if b=bG∨(b=own s∧e.hits.headD bU=bG) then 3 else 2)) l
def bW (s:State) (e:Entry):Int:=lT s e (if eU s e then 2 else 0) e.aF
def bC (s:State) (e:Entry):dI:=
 if e.hits=[] then ⟨0,1,2,false⟩
 else if e.aF≠[]∧eU s e=false∧s.aO=5 then ⟨0,5,2,false⟩
 else ⟨bW s e,0,0,0<bW s e⟩
def gG (s:State) (e:Entry):dI:=if eU s e∧3≤e.aX then ⟨1,0,0,true⟩ else ⟨0,0,0,false⟩
def judge (g:Game) (s:State) (e:Entry):dI:=if g.kind=aK then eF s e else if g.kind=bT then bC s e else gG s e
def pass (s:State):State:={s with turn:=1 - s.turn,brk:=0,aO:=0 }
def leader (s:State):Int:=if s.s1<s.s0 then 0 else if s.s0<s.s1 then 1 else 2
def bZ (s:State) (e:Entry) (v:dI):State:=
 if s.phase≠bH then
  if s.phase=fM∧v.stays then {s with aY:=s.aY - count e.aF bG,phase:=dA }
  else if 0<s.aY - count e.aF bG then {s with aY:=s.aY - count e.aF bG,phase:=fM }
  else {s with aY:=s.aY - count e.aF bG,phase:=bH,colour:=2 }
 else
  let r:=s.aY - count e.aF bG
  let uq:Bool:=v.gU=0∧has e.aF (iM s.colour)
  if s.colour<7 then (if uq then {s with aY:=r,colour:=s.colour+1 } else {s with aY:=r })
  else if v.gU=0∧uq=false then {s with aY:=r }
  else if leader s<2 then {s with aY:=r,ay:=leader s,aN:=false }
  else if uq then pass {s with aY:=r } else {s with aY:=r }
def dD (g:Game) (s:State) (e:Entry) (v:dI):State:=
 let Yt:=if v.stays then s.turn else 1 - s.turn
 let k:=if v.stays∧eU {zero with turn:=Yt } e then 0 else if v.stays then s.aO+1 else s.aO
 {s with aO:=k,ay:=if g.target≤max s.s0 s.s1 then leader s else s.ay }
def jH (s:State) (p:Int):State:=if p=0 then {s with t0:=s.t0+1 } else {s with t1:=s.t1+1 }
def jf (g:Game) (s:State) (p:Int):State:=
 if p=1∧(g.target≤max (jH s p).s0 (jH s p).s1∨(jH s p).t1=g.turns) then {jH s p with ay:=leader (jH s p) } else jH s p
def dK (g:Game) (s:State) (v:dI):State:=
 if v.stays=false then jf g s (1 - s.turn)
 else if score s s.turn<g.target then s
 else jf g (pass s) s.turn
def after (g:Game) (s:State) (e:Entry) (v:dI):State:=if g.kind=aK then bZ s e v else if g.kind=bT then dD g s e v else dK g s v
def jk (g:Game) (s:State) (v:dI):State:=
 {s with free:=false,aN:=g.kind=aK∧0<v.gU,s0:=s.s0+(if s.turn=0 then v.points else v.penalty),s1:=s.s1+(if s.turn=0 then v.penalty else v.points),brk:=s.brk+v.points }
def sW (g:Game) (s:State) (e:Entry):State:=
 after g (if (judge g s e).stays then jk g s (judge g s e) else pass (jk g s (judge g s e))) e (judge g s e)
def next (g:Game) (s:State) (e:Entry):State:=
 if e.kind=cO then sW g s e
 else if e.kind=gu then pass {s with aN:=false,free:=false }
 else if e.kind=iI then {s with aN:=false,free:=true }
 else if e.kind=fJ then {s with aN:=false,free:=false,ay:=1 - s.turn }
 else {s with aN:=false,free:=false }
def twice (l:List ByteArray):List ByteArray→Bool
 | []=>false
 | b::r=>1<count l b∨twice l r
def gone (s:State) (b:ByteArray):Bool:=s.phase=bH∧2≤value b∧value b<s.colour
def gY (s:State) (e:Entry):Bool:=
 if s.aY<count e.aF bG∨(s.aY=0∧has e.hits bG) then false
 else if twice e.aF (dX.filter (· ≠bG)) then false
 else e.hits.any (gone s)=false∧e.aF.any (gone s)=false
def nJ (s:State) (e:Entry):Bool:=if twice e.aF [bf,bM,bG] then false else has e.hits (own s)=false
def kK (g:Game) (s:State) (e:Entry):Bool:=if g.kind=aK then gY s e else nJ s e
def gB (g:Game) (s:State) (e:Entry):Bool:=
 if e.kind≠cO∨g.kind≠aK then true
 else if s.phase=dA then e.called≠bU
 else e.called=bU∨callable s e.called
def legal (g:Game) (s:State) (e:Entry):Int:=
 if 0≤s.ay then 1
 else if s.aN=false∧(e.kind=gu∨e.kind=iI) then 2
 else if gB g s e=false then 3
 else if e.kind=cO∧kK g s e=false then 4
 else if e.kind=cO∧99999<max (next g s e).s0 (next g s e).s1 then 5
 else 0
def step (g:Game) (s:State) (e:Entry):State:=if legal g s e=0 then next g s e else s
def final (g:Game) (s:State) (l:List Entry):State:=l.foldl (step g) s
def iE (g:Game) (s:State) (n:Int):List Entry→List wR
 | []=>[]
 | x::l=>(if legal g s x=0 then [] else [⟨n,legal g s x⟩])++iE g (step g s x) (n+1) l
def qP (g:Game) (p:Int) (s:State) (sum:Int):List Entry→List Int
 | []=>[]
 | x::l=>
   let sum':=if legal g s x=0∧x.kind=cO∧s.turn=p then sum+(judge g s x).points else sum
   let t:=step g s x
   if t.turn=s.turn∧t.ay<0∧l≠[] then qP g p t sum' l
   else (if 0<sum' then [sum'] else [])++qP g p t 0 l
def breaks (g:Game) (p:Int) (l:List Entry):List Int:=qP g p (start g) 0 l
def qO (g:Game) (s:State) (n:Int):List Entry→List (Int × Int)→Int
 | x::l,c::cs=>if ((step g s x).s0,(step g s x).s1)=c then qO g (step g s x) (n+1) l cs else n
 | _,_=>0
def qN (g:Game) (l:List Entry) (c:List (Int × Int)):Int:=qO g (start g) 1 l c
def jS (c:Int):Nat→Int
 | 0=>0
 | k+1=>c+jS (c+1) k
def left (s:State):Int:=
 if 0≤s.ay then 0
 else if s.phase=fM then 8*s.aY+27+(if s.free then 8 else 0)
 else if s.phase=dA then 8*s.aY+27+7
 else jS s.colour (8 - s.colour).toNat+(if s.free∧s.colour<7 then s.colour else 0)
def needed (s:State) (p:Int):Int:=max 0 ((score s (1 - p) - score s p - left s+4 - 1).tdiv 4)
end Sk
namespace Sk
theorem xO {n a b:Int}:out n a b=false↔a≤n∧n≤b:=by unfold out;simp
theorem Yr {n a b:Int} (h:out n a b=false):a≤n∧n≤b:=xO.1 h
structure InR (g:Game) (s:State):Prop where
 turn:s.turn=0∨s.turn=1
 brk:0≤s.brk∧s.brk≤99999
 aY:0≤s.aY∧s.aY≤g.aY
 colour:0≤s.colour∧s.colour≤7
 aO:0≤s.aO∧s.aO≤5
 ay: -1≤s.ay∧s.ay≤2
 s0:0≤s.s0∧s.s0≤99999
 s1:0≤s.s1∧s.s1≤99999
 t0:0≤s.t0∧s.t0≤g.turns
 t1:0≤s.t1∧s.t1≤g.turns
theorem KF {g:Game} {s:State}:far g s=false↔InR g s:=by
 unfold far
 simp only [decide_eq_false_iff_not,not_or,Bool.not_eq_true,xO]
 constructor
 · rintro ⟨h1,h2,h3,h4,h5,h6,h7,h8,h9,h10⟩
   exact ⟨by omega,h2,h3,h4,h5,h6,h7,h9,h8,h10⟩
 · intro h
   exact ⟨by have:=h.turn;omega,h.brk,h.aY,h.colour,h.aO,h.ay,h.s0,h.t0,h.s1,h.t1⟩
structure Ok (g:Game) (s:State):Prop where
 game:dM g=0
 inr:InR g s
 phase:jq g s.phase=true
 brk:s.brk≤score s s.turn
 gU:eu s=false
 st:jG g s=true
theorem kG {g:Game} {s:State}:dh g s=0↔Ok g s:=by
 unfold dh
 constructor
 · intro h
   by_cases h1:dM g=0
   · rw [if_neg (by simp [h1])] at h
     by_cases h2:far g s=false
     · rw [if_neg (by simp [h2])] at h
       by_cases h3:jq g s.phase=true
       · rw [if_neg (by simp [h3])] at h
         by_cases h4:score s s.turn<s.brk∨eu s=true∨jG g s=false
         · rw [if_pos h4] at h;cases h
         · simp only [not_or,Bool.not_eq_true,Bool.not_eq_false,Int.not_lt] at h4
           exact ⟨h1,KF.1 h2,h3,h4.1,h4.2.1,h4.2.2⟩
       · rw [if_pos (by simpa using h3)] at h;cases h
     · rw [if_pos (by simpa using h2)] at h;cases h
   · rw [if_pos h1] at h;exact absurd h h1
 · intro h
   rw [if_neg (by simp [h.game]),if_neg (by simp [KF.2 h.inr]),if_neg (by simp [h.phase]),if_neg (by simp only [h.gU,h.st];have:=h.brk;simp;omega)]
theorem Un {g:Game} (h:dM g=0):jB g.kind=true∧fits g=true:=by
 unfold dM at h
 cases h1:jB g.kind
 · rw [h1] at h;simp at h
 · rw [h1] at h;simp at h;exact ⟨rfl,h⟩
theorem iW {g:Game} (h:dM g=0):(g.kind=aK∧(1≤g.aY∧g.aY≤15)∧g.target=0∧g.turns=0)∨(g.kind=bT∧g.aY=0∧(1≤g.target∧g.target≤1000)∧g.turns=0)∨(g.kind=fC∧g.aY=0∧(1≤g.target∧g.target≤1000)∧1≤g.turns∧g.turns≤100):=by
 obtain ⟨h1,h2⟩:=Un h
 unfold fits at h2
 unfold jB at h1
 simp only [decide_eq_true_eq] at h1
 have n1:bT≠aK:=by decide
 have n2:fC≠aK:=by decide
 have n3:fC≠bT:=by decide
 rcases h1 with h1 | h1 | h1
 · rw [if_pos h1] at h2
   simp only [decide_eq_true_eq,xO] at h2
   exact .inl ⟨h1,h2.1,h2.2.1,h2.2.2⟩
 · rw [if_neg (by rw [h1];exact n1),if_pos h1] at h2
   simp only [decide_eq_true_eq,xO] at h2
   exact .inr (.inl ⟨h1,h2.1,h2.2.1,h2.2.2⟩)
 · rw [if_neg (by rw [h1];exact n2),if_neg (by rw [h1];exact n3)] at h2
   simp only [decide_eq_true_eq,xO] at h2
   exact .inr (.inr ⟨h1,h2.1,h2.2.1,h2.2.2⟩)
theorem oU:bT≠aK:=by decide
theorem qy:fC≠aK:=by decide
theorem uU:fC≠bT:=by decide
theorem oI:dA≠fM:=by decide
theorem lM:bH≠fM:=by decide
theorem kL:bH≠dA:=by decide
theorem tN (l:List ByteArray) (b:ByteArray):0≤count l b:=by unfold count;omega
theorem lI:∀ b, -1≤value b∧value b≤7:=by
 intro b
 unfold value dX at_ at_ at_ at_ at_ at_ at_ at_ at_
 repeat' split
 all_goals omega
theorem KX (s:State) (e:Entry):∀ (l:List ByteArray) (m:Int),m≤most s e m l
 | [],m=>Int.le_refl _
 | b::l,m=>by
   rw [most];refine Int.le_trans ?_ (KX s e l _)
   split <;> omega
theorem ES (s:State) (e:Entry):∀ (l:List ByteArray) (m:Int),m≤7→most s e m l≤7
 | [],m,h=>h
 | b::l,m,h=>by
   rw [most];refine ES s e l _ ?_
   have:=(lI b).2
   split <;> omega
theorem Ib {s:State} {e:Entry} (h:s.colour≤7):worth s e≤7:=by
 unfold worth
 have:=(lI e.called).2
 repeat' split
 all_goals omega
structure Xn (g:Game) (v:dI):Prop where
 points:0≤v.points
 penalty:0≤v.penalty
 gU:0≤v.gU
 both:0<v.gU↔0<v.penalty
 none_:0<v.gU→v.points=0∧v.stays=false
 stays:v.stays=decide (0<v.points)
 ayx:g.kind=aK→0<v.gU→4≤v.penalty∧v.penalty≤7
 zero:v.gU=0→v.penalty=0
theorem Ci (s:State) (e:Entry):0≤cu s e:=by unfold cu;repeat' split;all_goals omega
theorem TG {g:Game} {s:State} {e:Entry} (h:0≤s.colour) (hc:s.phase=dA→0≤value e.called):0≤worth s e:=by
 unfold worth
 repeat' split
 · omega
 · rename_i h1;exact hc h1
 · exact h
theorem xP (s:State) (e:Entry):∀ (l:List ByteArray) (m:Int),m≤lT s e m l
 | [],m=>Int.le_refl _
 | b::l,m=>by
   rw [lT];refine Int.le_trans ?_ (xP s e l _)
   split <;> omega
end Sk
namespace Sk
theorem uh (g:Game) (s:State) (e:Entry) (hc:0≤s.colour∧s.colour≤7) (hw:g.kind=aK→s.phase=dA→0≤value e.called):Xn g (judge g s e):=by
 unfold judge
 split
 · rename_i hg
   unfold eF
   have h0:=Ci s e
   split
   · rename_i hf
     have h1:=KX s e e.aF (if cu s e=2 then max (max 4 (worth s e)) (value (e.hits.headD bU)) else max 4 (worth s e))
     have h2:=ES s e e.aF (if cu s e=2 then max (max 4 (worth s e)) (value (e.hits.headD bU)) else max 4 (worth s e)) (by
      have:=Ib (e:=e) hc.2
      have:=(lI (e.hits.headD bU)).2
      split <;> omega)
     have h3:4≤(if cu s e=2 then max (max 4 (worth s e)) (value (e.hits.headD bU)) else max 4 (worth s e)):=by split <;> omega
     obtain ⟨m0,hm0⟩:∃ m,(if cu s e=2 then max (max 4 (worth s e)) (value (e.hits.headD bU)) else max 4 (worth s e))=m:=⟨_,rfl⟩;rw [hm0] at h1 h2 h3 ⊢;obtain ⟨m,hm⟩:∃ m,most s e m0 e.aF=m:=⟨_,rfl⟩;obtain ⟨f,hff⟩:∃ f,cu s e=f:=⟨_,rfl⟩;rw [hm] at h1 h2 ⊢;rw [hff] at hf h0 ⊢;exact ⟨Int.le_refl _,by show 0≤m;omega,h0,by show 0<f↔0<m;omega,fun _=>⟨rfl,rfl⟩,by simp,fun _ _=>⟨by show 4≤m;omega,h2⟩,fun h=>by have h:f=0:=h;omega⟩
   · have hp:0≤dB s e:=by
      unfold dB
      have:=tN e.aF bG
      have:=TG (g:=g) (e:=e) hc.1 (hw hg)
      repeat' split
      all_goals omega
     exact ⟨hp,by simp,by simp,by simp,fun h=>absurd h (by simp),by simp,fun _ h=>absurd h (by simp),fun _=>rfl⟩
 · rename_i hg
   split
   · rename_i hg2
     unfold bC
     split
     · exact ⟨by simp,by simp,by simp,by simp,fun _=>⟨rfl,rfl⟩,by simp,fun h=>absurd h hg,fun h=>absurd h (by simp)⟩
     · split
       · exact ⟨by simp,by simp,by simp,by simp,fun _=>⟨rfl,rfl⟩,by simp,fun h=>absurd h hg,fun h=>absurd h (by simp)⟩
       · have hp:0≤bW s e:=by
          unfold bW
          refine Int.le_trans ?_ (xP s e e.aF _)
          split <;> omega
         exact ⟨hp,by simp,by simp,by simp,fun h=>absurd h (by simp),by simp,fun h=>absurd h hg,fun _=>rfl⟩
   · unfold gG
     split
     · exact ⟨by simp,by simp,by simp,by simp,fun h=>absurd h (by simp),by simp,fun h=>absurd h hg,fun _=>rfl⟩
     · exact ⟨by simp,by simp,by simp,by simp,fun h=>absurd h (by simp),by simp,fun h=>absurd h hg,fun _=>rfl⟩
structure Lawful (g:Game) (s:State) (e:Entry):Prop where
 ay:s.ay<0
 aN:e.kind=gu∨e.kind=iI→s.aN=true
 call:gB g s e=true
 dX:e.kind=cO→kK g s e=true
 most:e.kind=cO→max (next g s e).s0 (next g s e).s1≤99999
theorem mV {g:Game} {s:State} {e:Entry}:legal g s e=0↔Lawful g s e:=by
 unfold legal
 constructor
 · intro h
   by_cases h1:0≤s.ay
   · rw [if_pos h1] at h;cases h
   rw [if_neg h1] at h
   by_cases h2:s.aN=false∧(e.kind=gu∨e.kind=iI)
   · rw [if_pos h2] at h;cases h
   rw [if_neg h2] at h
   by_cases h3:gB g s e=false
   · rw [if_pos h3] at h;cases h
   rw [if_neg h3] at h
   by_cases h4:e.kind=cO∧kK g s e=false
   · rw [if_pos h4] at h;cases h
   rw [if_neg h4] at h
   by_cases h5:e.kind=cO∧99999<max (next g s e).s0 (next g s e).s1
   · rw [if_pos h5] at h;cases h
   refine ⟨by omega,fun hk=>?_,by simpa using h3,fun hk=>?_,fun hk=>?_⟩
   · cases hf:s.aN
     · exact absurd ⟨hf,hk⟩ h2
     · rfl
   · cases hb:kK g s e
     · exact absurd ⟨hk,hb⟩ h4
     · rfl
   · exact Int.not_lt.1 (fun hx=>h5 ⟨hk,hx⟩)
 · intro h
   rw [if_neg (by have:=h.ay;omega),if_neg (fun hx=>by have:=h.aN hx.2;rw [hx.1] at this;cases this),if_neg (by rw [h.call];decide),if_neg (fun hx=>by rw [h.dX hx.1] at hx;exact absurd hx.2 (by decide)),
    if_neg (fun hx=>by have:=h.most hx.1;omega)]
theorem jX {s:State} (h1:s.free=false) (h2:s.aN=false):eu s=false:=by unfold eu;simp [h1,h2]
theorem yO {s:State}:jC s=true↔s.colour=0∧s.free=false∧s.aN=false:=by unfold jC;simp
theorem jL {s:State}:bQ s=true↔s.aO=0∧s.ay≠2∧(s.phase=bH→s.aY=0∧2≤s.colour)∧(s.phase≠bH→s.colour=0∧(s.phase≠fM∨0<s.aY)):=by
 unfold bQ
 constructor
 · intro h
   by_cases h1:s.aO≠0∨s.ay=2
   · rw [if_pos h1] at h;cases h
   · rw [if_neg h1] at h
     by_cases h2:s.phase=bH
     · rw [if_pos h2] at h
       simp only [decide_eq_true_eq] at h
       exact ⟨by omega,by omega,fun _=>h,fun h3=>absurd h2 h3⟩
     · rw [if_neg h2] at h
       simp only [decide_eq_true_eq] at h
       exact ⟨by omega,by omega,fun h3=>absurd h3 h2,fun _=>h⟩
 · rintro ⟨h1,h2,h3,h4⟩
   rw [if_neg (by omega)]
   by_cases h5:s.phase=bH
   · rw [if_pos h5];simpa using h3 h5
   · rw [if_neg h5];simpa using h4 h5
theorem oV {g:Game} {s:State}:dF g s=true↔(s.colour=0∧s.free=false∧s.aN=false)∧s.ay≠2∧(0≤s.ay∨max s.s0 s.s1<g.target):=by
 unfold dF
 simp only [decide_eq_true_eq,yO]
theorem jW {g:Game} {s:State}:mP g s=true↔(s.colour=0∧s.free=false∧s.aN=false)∧s.aO=0∧(0≤s.ay→s.t0=s.t1∨(s.turn=1∧s.t0=s.t1+1))∧(s.ay<0→(s.turn=1→s.t0=s.t1+1)∧(s.turn≠1→s.t0=s.t1∧s.t0<g.turns∧max s.s0 s.s1<g.target)):=by
 unfold mP
 constructor
 · intro h
   by_cases h1:jC s=false∨s.aO≠0
   · rw [if_pos h1] at h;cases h
   · rw [if_neg h1] at h
     simp only [not_or,Bool.not_eq_false,Decidable.not_not] at h1
     refine ⟨yO.1 h1.1,h1.2,fun h2=>?_,fun h2=>⟨fun h3=>?_,fun h3=>?_⟩⟩
     · rw [if_pos h2] at h;simpa using h
     · rw [if_neg (by omega),if_pos h3] at h;simpa using h
     · rw [if_neg (by omega),if_neg h3] at h;simpa using h
 · rintro ⟨h1,h2,h3,h4⟩
   rw [if_neg (by rw [yO.2 h1];simp [h2])]
   by_cases h5:0≤s.ay
   · rw [if_pos h5];simpa using h3 h5
   · rw [if_neg h5]
     by_cases h6:s.turn=1
     · rw [if_pos h6];simpa using (h4 (by omega)).1 h6
     · rw [if_neg h6];simpa using (h4 (by omega)).2 h6
theorem qj {g:Game} (h:g.kind=aK) {p:ByteArray}:jq g p=true↔p=fM∨p=dA∨p=bH:=by unfold jq;rw [if_pos h];simp
theorem GR {g:Game} (h:g.kind≠aK) {p:ByteArray}:jq g p=true↔p=uo:=by unfold jq;rw [if_neg h];simp
theorem nP {g:Game} (h:g.kind=aK) (s:State):jG g s=bQ s:=by unfold jG;rw [if_pos h]
theorem vF {g:Game} (h:g.kind=bT) (s:State):jG g s=dF g s:=by unfold jG;rw [if_neg (by rw [h];exact oU),if_pos h]
theorem mM {g:Game} (h:g.kind=fC) (s:State):jG g s=mP g s:=by unfold jG;rw [if_neg (by rw [h];exact qy),if_neg (by rw [h];exact uU)]
theorem xw {s:State}:eu s=false↔¬ (s.free=true∧s.aN=true)∧(s.free=true∨s.aN=true→s.phase≠dA∧s.ay<0):=by
 unfold eu
 simp only [decide_eq_false_iff_not,not_or]
 constructor
 · rintro ⟨h1,h2⟩
   exact ⟨h1,fun h3=>⟨fun h4=>h2 ⟨h3,.inl h4⟩,Int.not_le.1 (fun h4=>h2 ⟨h3,.inr h4⟩)⟩⟩
 · rintro ⟨h1,h2⟩
   exact ⟨h1,fun h3=>h3.2.elim (h2 h3.1).1 (by have:=(h2 h3.1).2;omega)⟩
theorem Qm {g:Game} {s:State} {e:Entry} (h:Ok g s) (hl:Lawful g s e) (hk:e.kind≠cO):Ok g (next g s e):=by
 have hw:=hl.ay;obtain ⟨r1,r2,r3,r4,r5,r6,r7,r8,r9,r10⟩:=h.inr;have hf:=xw.1 h.gU;have hb:=h.brk
 have n1:iI≠gu:=by decide
 have n2:fJ≠gu:=by decide
 have n3:fJ≠iI:=by decide
 unfold next
 rw [if_neg hk]
 split
 · rename_i h1
   have hfo:=hl.aN (.inl h1);refine ⟨h.game,⟨by show 1 - s.turn=0∨1 - s.turn=1;omega,by show 0≤(0:Int)∧(0:Int)≤99999;omega,r3,r4,by show 0≤(0:Int)∧(0:Int)≤5;omega,r6,r7,r8,r9,r10⟩,h.phase,?_,jX rfl rfl,?_⟩
   · show (0:Int)≤score _ _
     unfold score pass
     split <;> simp <;> omega
   · rcases iW h.game with ⟨hg,_⟩ | ⟨hg,_⟩ | ⟨hg,_⟩
     · have hs:=h.st
       rw [nP hg] at hs ⊢;obtain ⟨a,b,c,d⟩:=jL.1 hs;exact jL.2 ⟨rfl,b,c,d⟩
     · have hs:=h.st
       rw [vF hg] at hs
       have:=(oV.1 hs).1.2.2
       rw [this] at hfo;cases hfo
     · have hs:=h.st
       rw [mM hg] at hs
       have:=(jW.1 hs).1.2.2
       rw [this] at hfo;cases hfo
 · split
   · rename_i h1
     have hfo:=hl.aN (.inr h1);have CQ:=hf.2 (.inr hfo);refine ⟨h.game,⟨r1,r2,r3,r4,r5,r6,r7,r8,r9,r10⟩,h.phase,hb,xw.2 ⟨by simp,fun _=>⟨CQ.1,hw⟩⟩,?_⟩
     rcases iW h.game with ⟨hg,_⟩ | ⟨hg,_⟩ | ⟨hg,_⟩
     · have hs:=h.st
       rw [nP hg] at hs ⊢;obtain ⟨a,b,c,d⟩:=jL.1 hs;exact jL.2 ⟨a,b,c,d⟩
     · have hs:=h.st
       rw [vF hg] at hs
       have:=(oV.1 hs).1.2.2
       rw [this] at hfo;cases hfo
     · have hs:=h.st
       rw [mM hg] at hs
       have:=(jW.1 hs).1.2.2
       rw [this] at hfo;cases hfo
   · have key:∀ w:Int,(w=s.ay∨w=1 - s.turn)→Ok g {s with aN:=false,free:=false,ay:=w }:=by
      intro w hw2
      have hw3: -1≤w∧w≤1:=by omega
      refine ⟨h.game,⟨r1,r2,r3,r4,r5,⟨hw3.1,by show w≤2;omega⟩,r7,r8,r9,r10⟩,h.phase,hb,jX rfl rfl,?_⟩
      rcases iW h.game with ⟨hg,_⟩ | ⟨hg,_⟩ | ⟨hg,_⟩
      · have hs:=h.st
        rw [nP hg] at hs ⊢;obtain ⟨a,b,c,d⟩:=jL.1 hs;exact jL.2 ⟨a,by show w≠2;omega,c,d⟩
      · have hs:=h.st
        rw [vF hg] at hs ⊢;obtain ⟨a,b,c⟩:=oV.1 hs;exact oV.2 ⟨⟨a.1,rfl,rfl⟩,by show w≠2;omega,by show 0≤w∨max s.s0 s.s1<g.target;omega⟩
      · have hs:=h.st
        rw [mM hg] at hs ⊢;obtain ⟨a,b,c,d⟩:=jW.1 hs;have d:=d hw;refine jW.2 ⟨⟨a.1,rfl,rfl⟩,b,fun _=>?_,fun hw4=>d⟩
        show s.t0=s.t1∨(s.turn=1∧s.t0=s.t1+1)
        by_cases h1:s.turn=1
        · exact .inr ⟨h1,d.1 h1⟩
        · exact .inl (d.2 h1).1
     split
     · exact key _ (.inr rfl)
     · exact key s.ay (.inl rfl)
end Sk
namespace Sk
theorem II {g:Game} {e:Entry} (h:dH g e=0) (hk:e.kind=cO) (hc:e.called≠bU):2≤value e.called:=by
 unfold dH at h
 by_cases h1:isKind e.kind=false
 · rw [if_pos h1] at h;cases h
 rw [if_neg h1,if_neg (by simp [hk])] at h
 by_cases h2:22<e.hits.length∨22<e.aF.length
 · rw [if_pos h2] at h;cases h
 rw [if_neg h2] at h
 by_cases h3:(e.called≠bU∧value e.called<2)∨e.hits.any (fun b=>dZ g b true=false)=true∨e.aF.any (fun b=>dZ g b false=false)=true
 · rw [if_pos h3] at h;cases h
 · simp only [not_or] at h3
   exact Int.not_lt.1 (fun hx=>h3.1 ⟨hc,hx⟩)
theorem oZ {g:Game} {s:State} {e:Entry} (h:dH g e=0) (hk:e.kind=cO) (hl:gB g s e=true) (hg:g.kind=aK) (hp:s.phase=dA):2≤value e.called:=by
 refine II h hk ?_
 unfold gB at hl
 rw [if_neg (by simp [hk,hg]),if_pos hp] at hl
 simpa using hl
theorem wS (g:Game) (s:State) (e:Entry) (v:dI):(after g s e v).s0=s.s0∧(after g s e v).s1=s.s1:=by
 unfold after
 split
 · unfold bZ
   dsimp only
   repeat' split
   all_goals exact ⟨rfl,rfl⟩
 · split
   · exact ⟨rfl,rfl⟩
   · unfold dK
     have hc:∀ (s:State) (p:Int),(jf g s p).s0=s.s0∧(jf g s p).s1=s.s1:=by
      intro s p
      unfold jf jH
      repeat' split
      all_goals exact ⟨rfl,rfl⟩
     repeat' split
     · exact hc _ _
     · exact ⟨rfl,rfl⟩
     · exact hc _ _
theorem GL {g:Game} {s:State} {e:Entry} (hk:e.kind=cO):(next g s e).s0=s.s0+(if s.turn=0 then (judge g s e).points else (judge g s e).penalty)∧(next g s e).s1=s.s1+(if s.turn=0 then (judge g s e).penalty else (judge g s e).points):=by
 unfold next
 rw [if_pos hk]
 unfold sW
 have h:=wS g (if (judge g s e).stays then jk g s (judge g s e) else pass (jk g s (judge g s e))) e (judge g s e);rw [h.1,h.2]
 split <;> exact ⟨rfl,rfl⟩
def mid (g:Game) (s:State) (v:dI):State:=if v.stays then jk g s v else pass (jk g s v)
theorem GK {g:Game} {s:State} {e:Entry} (hk:e.kind=cO):next g s e=after g (mid g s (judge g s e)) e (judge g s e):=by
 unfold next mid
 rw [if_pos hk]
 rfl
structure Mid (g:Game) (s m:State) (v:dI):Prop where
 turn:m.turn=if v.stays then s.turn else 1 - s.turn
 brk:0≤m.brk∧m.brk≤score m m.turn
 phase:m.phase=s.phase
 aY:m.aY=s.aY
 colour:m.colour=s.colour
 free:m.free=false
 aN:m.aN=decide (g.kind=aK∧0<v.gU)
 aO:m.aO=if v.stays then s.aO else 0
 t0:m.t0=s.t0
 t1:m.t1=s.t1
 ay:m.ay=s.ay
 s0:m.s0=s.s0+(if s.turn=0 then v.points else v.penalty)
 s1:m.s1=s.s1+(if s.turn=0 then v.penalty else v.points)
theorem Yp {g:Game} {s:State} {v:dI} (h:Ok g s) (hv:Xn g v):Mid g s (mid g s v) v:=by
 have hb:=h.brk;have h1:=hv.points;have h2:=hv.penalty;have h3:=h.inr.brk;have h4:=h.inr.s0;have h5:=h.inr.s1;have ht:=h.inr.turn
 unfold mid
 cases hs:v.stays
 · refine ⟨by rw [hs];rfl,⟨Int.le_refl _,?_⟩,rfl,rfl,rfl,rfl,rfl,by rw [hs];rfl,rfl,rfl,rfl,rfl,rfl⟩
   show (0:Int)≤score (pass (jk g s v)) (1 - s.turn)
   unfold score pass jk
   dsimp only
   repeat' split
   all_goals omega
 · refine ⟨by rw [hs];rfl,⟨?_,?_⟩,rfl,rfl,rfl,rfl,rfl,by rw [hs];rfl,rfl,rfl,rfl,rfl,rfl⟩
   · show 0≤s.brk+v.points
     omega
   · show s.brk+v.points≤score (jk g s v) s.turn
     unfold score jk
     unfold score at hb
     dsimp only
     by_cases h0:s.turn=0
     · rw [if_pos h0] at hb ⊢;rw [if_pos h0];omega
     · rw [if_neg h0] at hb ⊢;rw [if_neg h0];omega
theorem DY (s:State):0≤leader s∧leader s≤2:=by unfold leader;repeat' split;all_goals omega
theorem zG {s:State} {e:Entry} (h:gY s e=true):count e.aF bG≤s.aY∧(s.aY=0→has e.hits bG=false)∧twice e.aF (dX.filter (· ≠bG))=false∧e.hits.any (gone s)=false∧e.aF.any (gone s)=false:=by
 unfold gY at h
 by_cases h1:s.aY<count e.aF bG∨(s.aY=0∧has e.hits bG=true)
 · rw [if_pos h1] at h;cases h
 · rw [if_neg h1] at h
   simp only [not_or,Int.not_lt] at h1
   by_cases h2:twice e.aF (dX.filter (· ≠bG))=true
   · rw [if_pos h2] at h;cases h
   · rw [if_neg h2] at h
     simp only [decide_eq_true_eq] at h
     refine ⟨h1.1,fun h3=>?_,by simpa using h2,h.1,h.2⟩
     cases h4:has e.hits bG
     · rfl
     · exact absurd ⟨h3,h4⟩ h1.2
theorem Tn {g:Game} {s m:State} {e:Entry} {v:dI} (h:Ok g s) (hv:Xn g v) (hvj:v=eF s e) (hw:s.ay<0) (hb:gY s e=true) (hg:g.kind=aK) (hm:Mid g s m v) (hsc:max m.s0 m.s1≤99999):Ok g (bZ m e v):=by
 obtain ⟨r1,r2,r3,r4,r5,r6,r7,r8,r9,r10⟩:=h.inr;have hs:=h.st;rw [nP hg] at hs;obtain ⟨a,b,c,d⟩:=jL.1 hs;obtain ⟨m1,m2,m3,m4,m5,m6,m7,m8,m9,m10,m11,m12,m13⟩:=hm;obtain ⟨b1,b2,b3,b4,b5⟩:=zG hb;have hcnt:=tN e.aF bG;have p1:=hv.points;have p2:=hv.penalty
 have hst:v.stays=true→v.gU=0:=fun hx=>by
  have:=hv.none_
  rcases Int.lt_or_le 0 v.gU with h1 | h1
  · rw [(this h1).2] at hx;cases hx
  · have:=hv.gU;omega
 have htn:m.turn=0∨m.turn=1:=by rw [m1];split <;> omega
 have hmf:m.aN=decide (0<v.gU):=by rw [m7];simp [hg]
 have hmw:m.ay= -1:=by omega
 have hms:m.aO=0:=by rw [m8];split <;> omega
 have g0:0≤m.s0:=by rw [m12];split <;> omega
 have g1:0≤m.s1:=by rw [m13];split <;> omega
 have hbk:m.brk≤99999:=by have:=m2.2;unfold score at this;split at this <;> omega
 have hR:InR g m:=⟨htn,⟨m2.1,hbk⟩,by rw [m4];exact r3,by rw [m5];exact r4,by omega,by omega,by omega,by omega,by rw [m9];exact r9,by rw [m10];exact r10⟩
 -- the same but for aY,phase,colour
 have key:∀ (rd cl:Int) (ph:ByteArray) (w:Int) (fo:Bool),0≤rd→rd≤g.aY→0≤cl→cl≤7→(ph=fM∨ph=dA∨ph=bH)→(ph=bH→rd=0∧2≤cl)→(ph≠bH→cl=0∧(ph≠fM∨0<rd))→(fo=true→ph≠dA∧w<0)→ -1≤w→w≤1→
  Ok g {m with aY:=rd,colour:=cl,phase:=ph,ay:=w,aN:=fo }:=by
  intro rd cl ph w fo h1 h2 h3 h4 h5 h6 h7 h8 h9 h10;refine ⟨h.game,⟨htn,⟨m2.1,hbk⟩,⟨h1,h2⟩,⟨h3,h4⟩,hR.aO,⟨h9,by show w≤2;omega⟩,hR.s0,hR.s1,hR.t0,hR.t1⟩,(qj hg).2 h5,m2.2,xw.2 ⟨by show ¬ (m.free=true∧fo=true);rw [m6];simp,?_⟩,?_⟩
  · show (m.free=true∨fo=true)→ph≠dA∧w<0
    rw [m6];intro hx;exact h8 (hx.elim (fun hy=>by cases hy) id)
  · rw [nP hg]
    exact jL.2 ⟨hms,by show w≠2;omega,h6,h7⟩
 have CQ:=(qj hg).1 h.phase
 unfold bZ
 by_cases hpf:m.phase≠bH
 · rw [if_pos hpf]
   rw [m3] at hpf;obtain ⟨d1,d2⟩:=d hpf
   by_cases q1:m.phase=fM∧v.stays=true
   · rw [if_pos q1]
     have hf0:=hst q1.2
     have:=key (m.aY - count e.aF bG) m.colour dA m.ay m.aN (by omega) (by omega) (by omega) (by omega) (.inr (.inl rfl)) (fun hx=>absurd hx.symm kL) (fun _=>⟨by omega,.inl oI⟩) (fun hx=>by rw [hmf,hf0] at hx;cases hx) (by omega) (by omega)
     exact this
   · rw [if_neg q1]
     split
     · rename_i q2
       exact key (m.aY - count e.aF bG) m.colour fM m.ay m.aN (by omega) (by omega) (by omega) (by omega) (.inl rfl) (fun hx=>absurd hx.symm lM) (fun _=>⟨by omega,.inr q2⟩) (fun _=>⟨fun hx=>oI hx.symm,by omega⟩) (by omega) (by omega)
     · rename_i q2
       exact key (m.aY - count e.aF bG) 2 bH m.ay m.aN (by omega) (by omega) (by omega) (by omega) (.inr (.inr rfl)) (fun _=>⟨by omega,by omega⟩) (fun hx=>absurd rfl hx) (fun _=>⟨kL,by omega⟩) (by omega) (by omega)
 · rw [if_neg hpf]
   have hpm:m.phase=bH:=Decidable.not_not.1 hpf;have hps:s.phase=bH:=m3 ▸ hpm;obtain ⟨c1,c2⟩:=c hps
   have CZ:m.aY - count e.aF bG=0:=by omega
   dsimp only
   rw [CZ]
   have fin:∀ (cl w:Int) (fo:Bool),2≤cl→cl≤7→(fo=true→w<0)→ -1≤w→w≤1→Ok g {m with aY:=0,colour:=cl,ay:=w,aN:=fo }:=by
    intro cl w fo h1 h2 h3 h4 h5
    have:=key 0 cl bH w fo (by omega) (by omega) (by omega) h2 (.inr (.inr rfl)) (fun _=>⟨rfl,h1⟩) (fun hx=>absurd rfl hx) (fun hx=>⟨kL,h3 hx⟩) h4 h5
    rw [← hpm] at this;exact this
   have same:Ok g {m with aY:=0 }:=fin m.colour m.ay m.aN (by omega) (by omega) (fun _=>by omega) (by omega) (by omega)
   split
   · split
     · exact fin (m.colour+1) m.ay m.aN (by omega) (by omega) (fun _=>by omega) (by omega) (by omega)
     · exact same
   · split
     · exact same
     · split
       · rename_i q3
         have:=DY m
         exact fin m.colour (leader m) false (by omega) (by omega) (fun hx=>by cases hx) (by omega) (by omega)
       · rename_i q2 q3
         split
         · rename_i q4
           simp only [decide_eq_true_eq] at q4
           have ao4:m.aN=false:=by rw [hmf,q4.1];rfl
           refine ⟨h.game,⟨by show 1 - m.turn=0∨1 - m.turn=1;omega,by show (0:Int)≤0∧(0:Int)≤99999;omega,by show (0:Int)≤0∧0≤g.aY;omega,hR.colour,by show (0:Int)≤0∧(0:Int)≤5;omega,hR.ay,hR.s0,hR.s1,hR.t0,hR.t1⟩,same.phase,?_,jX m6 ao4,?_⟩
           · show (0:Int)≤score m (1 - m.turn)
             unfold score
             split <;> omega
           · rw [nP hg]
             exact jL.2 ⟨rfl,by show m.ay≠2;omega,fun _=>⟨rfl,by show 2≤m.colour;omega⟩,fun hx=>absurd hpm hx⟩
         · exact same
end Sk
namespace Sk
theorem tH {s t:State} {e:Entry} (h:s.turn=t.turn):eU s e=eU t e:=by unfold eU theirs;rw [h]
theorem Vw {g:Game} {s m:State} {v:dI} (hm:Mid g s m v) (ht:s.turn=0∨s.turn=1) (hz:v.points=0∨v.penalty=0):(m.s0=s.s0∧m.s1=s.s1+v.points+v.penalty)∨(m.s1=s.s1∧m.s0=s.s0+v.points+v.penalty):=by
 have a:=hm.s0;have b:=hm.s1
 rcases ht with ht | ht
 · rw [if_pos ht] at a b
   rcases hz with hz | hz
   · exact .inl ⟨by omega,by omega⟩
   · exact .inr ⟨by omega,by omega⟩
 · rw [if_neg (by omega)] at a b
   rcases hz with hz | hz
   · exact .inr ⟨by omega,by omega⟩
   · exact .inl ⟨by omega,by omega⟩
theorem Um {g:Game} {s m:State} {e:Entry} {v:dI} (h:Ok g s) (hv:Xn g v) (hvj:v=bC s e) (hw:s.ay<0) (hg:g.kind=bT) (hm:Mid g s m v) (hsc:max m.s0 m.s1≤99999):Ok g (dD g m e v):=by
 obtain ⟨r1,r2,r3,r4,r5,r6,r7,r8,r9,r10⟩:=h.inr;have hs:=h.st;rw [vF hg] at hs;obtain ⟨a,b,c⟩:=oV.1 hs;have hos:=Vw hm r1 (by rcases Int.lt_or_le 0 v.gU with h1 | h1;exact .inl (hv.none_ h1).1;exact .inr (hv.zero (by have:=hv.gU;omega)));obtain ⟨m1,m2,m3,m4,m5,m6,m7,m8,m9,m10,m11,m12,m13⟩:=hm;have p1:=hv.points;have p2:=hv.penalty
 have htn:m.turn=0∨m.turn=1:=by rw [m1];split <;> omega
 have hmf:m.aN=false:=by rw [m7];simp [hg,oU]
 have g0:0≤m.s0:=by omega
 have g1:0≤m.s1:=by omega
 have hbk:m.brk≤99999:=by have:=m2.2;unfold score at this;split at this <;> omega
 have hgm:g.target=g.target:=rfl
 -- the aO
 have hk:∀ k:Int,k=(if v.stays=true∧eU {zero with turn:=if v.stays=true then m.turn else 1 - m.turn } e=true then 0 else if v.stays=true then m.aO+1 else m.aO)→0≤k∧k≤5:=by
  intro k hk
  cases hst:v.stays
  · rw [hst] at hk m8
    simp at hk m8
    omega
  · rw [hst] at hk m8 m1
    simp only [if_true,true_and] at hk m8 m1
    have hcn:eU {zero with turn:=m.turn } e=eU s e:=tH m1;rw [hcn] at hk
    cases hc:eU s e
    · rw [hc] at hk
      simp at hk
      -- aF,and no eU:the aO is below 5
      have hlt:s.aO<5:=by
       have hj:v=bC s e:=hvj
       unfold bC at hj
       split at hj
       · rw [hj] at hst;cases hst
       · split at hj
         · rw [hj] at hst;cases hst
         · rename_i q1 q2
           have hpp:e.aF≠[]:=by
            intro hx
            have:bW s e=0:=by unfold bW;rw [hx,hc];rfl
            rw [hj,this] at hst
            simp at hst
           rcases Int.lt_or_le s.aO 5 with h5 | h5
           · exact h5
           · exact absurd ⟨hpp,hc,by omega⟩ q2
      omega
    · rw [hc] at hk
      simp at hk
      omega
 unfold dD
 dsimp only
 obtain ⟨k,hkk⟩:∃ k,(if v.stays=true∧eU {zero with turn:=if v.stays=true then m.turn else 1 - m.turn } e=true then (0:Int) else if v.stays=true then m.aO+1 else m.aO)=k:=⟨_,rfl⟩;have hk5:=hk k hkk.symm;rw [hkk]
 have hmx:max s.s0 s.s1<g.target:=by omega
 obtain ⟨w,WJ⟩:∃ w,(if g.target≤max m.s0 m.s1 then leader m else m.ay)=w:=⟨_,rfl⟩
 have hw2:(g.target≤max m.s0 m.s1→w=0∨w=1)∧(¬ g.target≤max m.s0 m.s1→w= -1):=by
  refine ⟨fun hx=>?_,fun hx=>?_⟩
  · rw [if_pos hx] at WJ
    unfold leader at WJ
    split at WJ
    · exact .inl WJ.symm
    · split at WJ
      · exact .inr WJ.symm
      · omega
  · rw [if_neg hx] at WJ
    omega
 rw [WJ]
 have hwr: -1≤w∧w≤1:=by
  by_cases hx:g.target≤max m.s0 m.s1
  · have:=hw2.1 hx;omega
  · have:=hw2.2 hx;omega
 refine ⟨h.game,⟨htn,⟨m2.1,hbk⟩,by show 0≤m.aY∧m.aY≤g.aY;rw [m4];exact r3,by show 0≤m.colour∧m.colour≤7;rw [m5];exact r4,hk5,⟨hwr.1,by show w≤2;omega⟩,by show 0≤m.s0∧m.s0≤99999;omega,by show 0≤m.s1∧m.s1≤99999;omega,by show 0≤m.t0∧m.t0≤g.turns;rw [m9];exact r9,by show 0≤m.t1∧m.t1≤g.turns;rw [m10];exact r10⟩,by show jq g m.phase=true;rw [m3];exact h.phase,m2.2,jX m6 hmf,?_⟩;rw [vF hg];refine oV.2 ⟨⟨by show m.colour=0;omega,m6,hmf⟩,by show w≠2;omega,?_⟩
 show 0≤w∨max m.s0 m.s1<g.target
 by_cases hx:g.target≤max m.s0 m.s1
 · have:=hw2.1 hx;exact .inl (by omega)
 · exact .inr (by omega)
theorem OG {g:Game} {s m:State} {e:Entry} {v:dI} (h:Ok g s) (hv:Xn g v) (hvj:v=gG s e) (hw:s.ay<0) (hg:g.kind=fC) (hm:Mid g s m v) (hsc:max m.s0 m.s1≤99999):Ok g (dK g m v):=by
 obtain ⟨r1,r2,r3,r4,r5,r6,r7,r8,r9,r10⟩:=h.inr;have hs:=h.st;rw [mM hg] at hs;obtain ⟨a,b,_,d⟩:=jW.1 hs;obtain ⟨d1,d2⟩:=d hw;obtain ⟨m1,m2,m3,m4,m5,m6,m7,m8,m9,m10,m11,m12,m13⟩:=hm;have p1:=hv.points;have p2:=hv.penalty
 have aAG:v.penalty=0:=by rw [hvj];unfold gG;split <;> rfl
 have htn:m.turn=0∨m.turn=1:=by rw [m1];split <;> omega
 have hmf:m.aN=false:=by rw [m7];simp [hg,qy]
 have hms:m.aO=0:=by rw [m8];split <;> omega
 have g0:0≤m.s0:=by rw [m12];split <;> omega
 have g1:0≤m.s1:=by rw [m13];split <;> omega
 have hbk:m.brk≤99999:=by have:=m2.2;unfold score at this;split at this <;> omega
 -- after a agj turn has ended
 have fin:∀ (t:State) (p:Int),p=s.turn→t.turn=1 - p→0≤t.brk∧t.brk≤score t t.turn→t.s0=m.s0→t.s1=m.s1→t.phase=s.phase→t.aY=s.aY→t.colour=s.colour→t.free=false→t.aN=false→t.aO=0→t.t0=s.t0→t.t1=s.t1→t.ay=s.ay→(p=0→s.t0+1≤g.turns)→Ok g (jf g t p):=by
  intro t p hp q1 q2 q3 q4 q5 q6 q7 q8 q9 q10 q11 q12 q13 q14
  have hbk2:t.brk≤99999:=by have:=q2.2;unfold score at this;split at this <;> omega
  unfold jf
  rcases r1 with ht | ht
  · have hp0:p=0:=by omega
    have e1:jH t p= {t with t0:=t.t0+1 }:=by unfold jH;rw [if_pos hp0]
    rw [if_neg (by omega),e1];have hh:=d2 (by omega);refine ⟨h.game,⟨by show t.turn=0∨t.turn=1;omega,⟨q2.1,hbk2⟩,by show 0≤t.aY∧t.aY≤g.aY;rw [q6];exact r3,by show 0≤t.colour∧t.colour≤7;rw [q7];exact r4,by show 0≤t.aO∧t.aO≤5;omega,by show -1≤t.ay∧t.ay≤2;omega,by show 0≤t.s0∧t.s0≤99999;omega,by show 0≤t.s1∧t.s1≤99999;omega,by show 0≤t.t0+1∧t.t0+1≤g.turns;have:=q14 hp0;omega,by show 0≤t.t1∧t.t1≤g.turns;omega⟩,by show jq g t.phase=true;rw [q5];exact h.phase,q2.2,jX q8 q9,?_⟩;rw [mM hg];refine jW.2 ⟨⟨by show t.colour=0;omega,q8,q9⟩,q10,fun hx=>?_,fun _=>⟨fun _=>?_,fun hx=>?_⟩⟩
    · have hx:0≤t.ay:=hx
      omega
    · show t.t0+1=t.t1+1
      omega
    · have hx:t.turn≠1:=hx
      omega
  · have hp1:p=1:=by omega
    have e1:jH t p= {t with t1:=t.t1+1 }:=by unfold jH;rw [if_neg (by omega)]
    rw [e1];have hh:=d1 ht;have hle:=DY {t with t1:=t.t1+1 }
    have Vg:∀ w:Int, -1≤w→w≤2→InR g {t with t1:=t.t1+1,ay:=w }:=fun w h1 h2=>
     ⟨by show t.turn=0∨t.turn=1;omega,⟨q2.1,hbk2⟩,by show 0≤t.aY∧t.aY≤g.aY;rw [q6];exact r3,by show 0≤t.colour∧t.colour≤7;rw [q7];exact r4,by show 0≤t.aO∧t.aO≤5;omega,⟨h1,h2⟩,by show 0≤t.s0∧t.s0≤99999;omega,by show 0≤t.s1∧t.s1≤99999;omega,by show 0≤t.t0∧t.t0≤g.turns;omega,by show 0≤t.t1+1∧t.t1+1≤g.turns;omega⟩
    split
    · refine ⟨h.game,Vg _ (by omega) (by omega),by show jq g t.phase=true;rw [q5];exact h.phase,q2.2,jX q8 q9,?_⟩
      rw [mM hg];refine jW.2 ⟨⟨by show t.colour=0;omega,q8,q9⟩,q10,fun _=> .inl (by show t.t0=t.t1+1;omega),fun hx=>?_⟩;have hx:leader {t with t1:=t.t1+1 }<0:=hx
      omega
    · rename_i hno
      refine ⟨h.game,Vg t.ay (by omega) (by omega),by show jq g t.phase=true;rw [q5];exact h.phase,q2.2,jX q8 q9,?_⟩;rw [mM hg];refine jW.2 ⟨⟨by show t.colour=0;omega,q8,q9⟩,q10,fun hx=>?_,fun _=>⟨fun hx=>?_,fun hx=>?_⟩⟩
      · have hx:0≤t.ay:=hx
        omega
      · have hx:t.turn=1:=hx
        omega
      · show t.t0=t.t1+1∧t.t0<g.turns∧max t.s0 t.s1<g.target
        have hno:¬ (p=1∧(g.target≤max t.s0 t.s1∨t.t1+1=g.turns)):=hno
        omega
 unfold dK
 have hup:s.turn=0→s.t0+1≤g.turns:=fun hx=>by have:=d2 (by omega);omega
 cases hst:v.stays
 · rw [hst] at m1
   simp only [Bool.false_eq_true,if_false] at m1
   rw [if_pos rfl]
   have e1:1 - m.turn=s.turn:=by omega
   rw [e1];exact fin m s.turn rfl m1 m2 rfl rfl m3 m4 m5 m6 hmf hms m9 m10 m11 hup
 · rw [hst] at m1
   simp only [if_true] at m1
   rw [if_neg (by simp)]
   split
   · rename_i hsc2
     have hsc2:score m m.turn<g.target:=hsc2;refine ⟨h.game,⟨htn,⟨m2.1,hbk⟩,by rw [m4];exact r3,by rw [m5];exact r4,by omega,by omega,by omega,by omega,by omega,by omega⟩,by rw [m3];exact h.phase,m2.2,jX m6 hmf,?_⟩;rw [mM hg];refine jW.2 ⟨⟨by omega,m6,hmf⟩,hms,fun hx=>by omega,fun _=>⟨fun hx=>?_,fun hx=>?_⟩⟩
     · have:=d1 (by omega);omega
     · have hh:=d2 (by omega)
       unfold score at hsc2
       rw [if_pos (by omega)] at hsc2;rw [if_pos (by omega)] at m13
       omega
   · refine fin (pass m) m.turn m1 rfl ⟨Int.le_refl _,?_⟩ rfl rfl m3 m4 m5 m6 hmf rfl m9 m10 m11 (by rw [m1];exact hup)
     show (0:Int)≤score m (1 - m.turn)
     unfold score
     split <;> omega
theorem Vu {g:Game} {s:State} {e:Entry} (h:Ok g s) (he:dH g e=0) (hl:Lawful g s e):Ok g (next g s e):=by
 by_cases hk:e.kind=cO
 · have hv:=uh g s e h.inr.colour (fun hg hp=>by have:=oZ he hk hl.call hg hp;omega)
   have hm:=Yp h hv;have F9:=hl.most hk;have hb:=hl.dX hk;rw [GK hk] at F9 ⊢;have hs:=wS g (mid g s (judge g s e)) e (judge g s e);rw [hs.1,hs.2] at F9
   rcases iW h.game with ⟨hg,_⟩ | ⟨hg,_⟩ | ⟨hg,_⟩
   · have e1:judge g s e=eF s e:=by unfold judge;rw [if_pos hg]
     have e2:∀ m v,after g m e v=bZ m e v:=fun m v=>by unfold after;rw [if_pos hg]
     have e3:kK g s e=gY s e:=by unfold kK;rw [if_pos hg]
     rw [e2];exact Tn h hv e1 hl.ay (by rw [← e3];exact hb) hg hm F9
   · have hn:g.kind≠aK:=by rw [hg];exact oU
     have e1:judge g s e=bC s e:=by unfold judge;rw [if_neg hn,if_pos hg]
     have e2:∀ m v,after g m e v=dD g m e v:=fun m v=>by unfold after;rw [if_neg hn,if_pos hg]
     rw [e2];exact Um h hv e1 hl.ay hg hm F9
   · have hn:g.kind≠aK:=by rw [hg];exact qy
     have hn2:g.kind≠bT:=by rw [hg];exact uU
     have e1:judge g s e=gG s e:=by unfold judge;rw [if_neg hn,if_neg hn2]
     have e2:∀ m v,after g m e v=dK g m v:=fun m v=>by unfold after;rw [if_neg hn,if_neg hn2]
     rw [e2];exact OG h hv e1 hl.ay hg hm F9
 · exact Qm h hl hk
theorem step_ok {g:Game} {s:State} {e:Entry} (h:Ok g s) (he:dH g e=0):Ok g (step g s e):=by
 unfold step
 split
 · rename_i hl;exact Vu h he (mV.1 hl)
 · exact h
theorem Tt {g:Game} (h:dM g=0):Ok g (start g):=by
 rcases iW h with ⟨hg,h1,h2,h3⟩ | ⟨hg,h1,h2,h3⟩ | ⟨hg,h1,h2,h3⟩
 · refine ⟨h,⟨.inl rfl,⟨Int.le_refl 0,by show (0:Int)≤99999;decide⟩,⟨by show 0≤g.aY;omega,Int.le_refl _⟩,⟨Int.le_refl 0,by show (0:Int)≤7;decide⟩,⟨Int.le_refl 0,by show (0:Int)≤5;decide⟩,⟨Int.le_refl (-1),by show (-1:Int)≤2;decide⟩,⟨Int.le_refl 0,by show (0:Int)≤99999;decide⟩,⟨Int.le_refl 0,by show (0:Int)≤99999;decide⟩,by show (0:Int)≤0∧0≤g.turns;omega,by show (0:Int)≤0∧0≤g.turns;omega⟩,?_,Int.le_refl 0,jX rfl rfl,?_⟩
   · rw [qj hg];left;show (if g.kind=aK then fM else uo)=fM;rw [if_pos hg]
   · rw [nP hg]
     have e1:(start g).phase=fM:=by show (if g.kind=aK then fM else uo)=fM;rw [if_pos hg]
     refine jL.2 ⟨rfl,by show (-1:Int)≠2;decide,fun hx=>?_,fun _=>⟨rfl,.inr (by show 0<g.aY;omega)⟩⟩;rw [e1] at hx;exact absurd hx.symm lM
 all_goals
  have hn:g.kind≠aK:=by rw [hg];first | exact oU | exact qy
  refine ⟨h,⟨.inl rfl,⟨Int.le_refl 0,by show (0:Int)≤99999;decide⟩,⟨by show 0≤g.aY;omega,Int.le_refl _⟩,⟨Int.le_refl 0,by show (0:Int)≤7;decide⟩,⟨Int.le_refl 0,by show (0:Int)≤5;decide⟩,⟨Int.le_refl (-1),by show (-1:Int)≤2;decide⟩,⟨Int.le_refl 0,by show (0:Int)≤99999;decide⟩,⟨Int.le_refl 0,by show (0:Int)≤99999;decide⟩,by show (0:Int)≤0∧0≤g.turns;omega,by show (0:Int)≤0∧0≤g.turns;omega⟩,?_,Int.le_refl 0,jX rfl rfl,?_⟩
  · rw [GR hn];show (if g.kind=aK then fM else uo)=uo;rw [if_neg hn]
  · first
     | (rw [vF hg];exact oV.2 ⟨⟨rfl,rfl,rfl⟩,by show (-1:Int)≠2;decide,.inr (by show max (0:Int) 0<g.target;omega)⟩)
     | (rw [mM hg];exact jW.2 ⟨⟨rfl,rfl,rfl⟩,rfl,fun hx=>absurd (show (0:Int)≤ -1 from hx) (by decide),fun _=>⟨fun hx=>absurd (show (0:Int)=1 from hx) (by decide),fun _=>⟨rfl,by show (0:Int)<g.turns;omega,by show max (0:Int) 0<g.target;omega⟩⟩⟩)
end Sk
namespace Sk
theorem Hr {g:Game} {s:State} {x:Entry} (h:Ok g s) (hx:dH g x=0) (hl:legal g s x=0) (hk:x.kind=cO):Xn g (judge g s x):=
 uh g s x h.inr.colour (fun hg hp=>by have:=oZ hx hk (mV.1 hl).call hg hp;omega)
end Sk
namespace Sk
theorem Jw {s:State} (hw:s.ay<0) (hp:s.phase=bH) (hc:2≤s.colour∧s.colour≤7):left s=(s.colour+7)*(8 - s.colour) / 2+(if s.free=true∧s.colour<7 then s.colour else 0):=by
 unfold left
 rw [if_neg (by omega),if_neg (by rw [hp];exact lM),if_neg (by rw [hp];exact kL)]
 congr 1
 obtain ⟨c,hcc⟩:∃ c,s.colour=c:=⟨_,rfl⟩;rw [hcc] at hc ⊢
 have:c=2∨c=3∨c=4∨c=5∨c=6∨c=7:=by omega
 rcases this with rfl | rfl | rfl | rfl | rfl | rfl <;> decide
theorem Qd {s:State} (hw:s.ay<0) (hp:s.phase=fM):left s=8*s.aY+27+(if s.free=true then 8 else 0):=by
 unfold left
 rw [if_neg (by omega),if_pos hp]
theorem Gu {s:State} (hw:s.ay<0) (hp:s.phase=dA):left s=8*s.aY+34:=by
 unfold left
 rw [if_neg (by omega),if_neg (by rw [hp];exact oI),if_pos hp]
 omega
theorem Qe {s:State} (hw:0≤s.ay):left s=0:=by unfold left;rw [if_pos hw]
def tri (c:Int):Int:=(c+7)*(8 - c) / 2
theorem Y5 {c:Int} (h:2≤c∧c≤7):7≤tri c∧tri c≤27:=by
 have:c=2∨c=3∨c=4∨c=5∨c=6∨c=7:=by omega
 rcases this with rfl | rfl | rfl | rfl | rfl | rfl <;> decide
theorem pI {g:Game} {s:State} (h:Ok g s) (hg:g.kind=aK):(s.phase=fM∧s.colour=0∧0<s.aY)∨(s.phase=dA∧s.colour=0∧s.free=false∧s.aN=false)∨(s.phase=bH∧s.aY=0∧2≤s.colour∧s.colour≤7):=by
 have hs:=h.st;rw [nP hg] at hs;obtain ⟨a,b,c,d⟩:=jL.1 hs;have hf:=xw.1 h.gU
 rcases (qj hg).1 h.phase with hp | hp | hp
 · have:=d (by rw [hp];exact fun hx=>lM hx.symm)
   exact .inl ⟨hp,this.1,this.2.resolve_left (fun hx=>hx hp)⟩
 · have:=d (by rw [hp];exact fun hx=>kL hx.symm)
   refine .inr (.inl ⟨hp,this.1,?_,?_⟩)
   · cases hx:s.free
     · rfl
     · exact absurd hp (hf.2 (.inl hx)).1
   · cases hx:s.aN
     · rfl
     · exact absurd hp (hf.2 (.inr hx)).1
 · have:=c hp
   exact .inr (.inr ⟨hp,this.1,this.2,h.inr.colour.2⟩)
theorem Jy {g:Game} {s:State} (h:Ok g s) (hg:g.kind=aK):0≤left s∧left s≤200:=by
 by_cases hw:s.ay<0
 · have hr:=h.inr.aY
   have hgr:g.aY≤15:=by rcases iW h.game with ⟨_,a,_⟩ | ⟨a,_⟩ | ⟨a,_⟩;exact a.2;rw [hg] at a;exact absurd a.symm oU;rw [hg] at a;exact absurd a.symm qy
   rcases pI h hg with ⟨hp,_⟩ | ⟨hp,_⟩ | ⟨hp,_,hc⟩
   · rw [Qd hw hp];split <;> omega
   · rw [Gu hw hp];omega
   · rw [Jw hw hp hc]
     have:=Y5 hc
     unfold tri at this
     split <;> omega
 · rw [Qe (by omega)];omega
end Sk
namespace Sk
def uq (c b:ByteArray):Entry:=⟨cO,c,[b],[b],0⟩
theorem Ql {s:State} (h:s.phase=fM):on s=[bG]:=by unfold on;rw [if_pos h]
theorem BA {s:State} (h:s.phase=bH):on s=[iM s.colour]:=by unfold on;rw [if_neg (by rw [h];exact lM),if_neg (by rw [h];exact kL)]
end Sk
namespace Sk
def rG (holds:Bool) (n most:Int):Bool:=if holds=true then !out n 1 most else n=0
def E5 (g:Game):Int:=
 if g.kind≠aK∧g.kind≠bT∧g.kind≠fC then 13
 else if rG (g.kind=aK) g.aY 15=false∨rG (g.kind=bT∨g.kind=fC) g.target 1000=false∨rG (g.kind=fC) g.turns 100=false then 3
 else 0
theorem SG (g:Game):E5 g=dM g:=by
 unfold E5 dM jB fits rG
 by_cases h1:g.kind=aK
 · have n1:aK≠bT:=fun h=>oU h.symm
   have n2:aK≠fC:=fun h=>qy h.symm
   simp only [h1,n1,n2]
   cases out g.aY 1 15 <;> by_cases h2:g.target=0 <;> by_cases h3:g.turns=0 <;> simp [h2,h3]
 · by_cases h2:g.kind=bT
   · have n2:bT≠fC:=fun h=>uU h.symm
     simp only [h2,oU,n2]
     cases out g.target 1 1000 <;> by_cases h3:g.aY=0 <;> by_cases h4:g.turns=0 <;> simp [h3,h4]
   · by_cases h3:g.kind=fC
     · simp only [h3,qy,uU]
       cases out g.target 1 1000 <;> cases out g.turns 1 100 <;> by_cases h4:g.aY=0 <;> simp [h4]
     · simp [h1,h2,h3]
theorem VD:fM≠bH:=fun h=>lM h.symm
theorem Kz:dA≠bH:=fun h=>kL h.symm
end Sk
namespace Sk
def fA (g:Game) (l:List ByteArray):Bool:=l.all fun b=>¬ (value b<0∨(g.kind≠aK∧2<value b))
def JQ (g:Game) (e:Entry):Int:=
 if e.kind=gu∨e.kind=iI∨e.kind=fJ then (if e.called≠bU∨0<e.hits.length+e.aF.length∨e.aX≠0 then 1 else 0)
 else if e.kind≠cO then 13
 else if 22<e.hits.length∨22<e.aF.length then 5
 else if (e.called≠bU∧value e.called<2)∨fA g e.hits=false∨fA g e.aF=false∨(g.kind=aK∧has e.hits bf) then 10
 else if out e.aX 0 99 then 3
 else if (e.called≠bU∧g.kind≠aK)∨(0<e.aF.length∧g.kind=fC)∨(0<e.aX∧g.kind≠fC) then 1
 else 0
theorem Ko (b:ByteArray):(value b=0↔b=bf)∧((value b=0∨value b=1∨value b=2)↔(b=bf∨b=bM∨b=bG)):=by
 unfold value dX at_ at_ at_ at_ at_ at_ at_ at_ at_
 by_cases h1:bf=b
 · subst h1;simp
 by_cases h2:bG=b
 · subst h2;rw [if_neg h1,if_pos rfl];refine ⟨?_,?_⟩
   · constructor
     · intro h;omega
     · intro h;exact absurd h.symm h1
   · simp
 by_cases h3:bM=b
 · subst h3;rw [if_neg h1,if_neg h2,if_pos rfl];refine ⟨?_,?_⟩
   · constructor
     · intro h;omega
     · intro h;exact absurd h.symm h1
   · simp
 rw [if_neg h1,if_neg h2,if_neg h3];have a:¬ b=bf:=fun h=>h1 h.symm;have c:¬ b=bG:=fun h=>h2 h.symm;have d:¬ b=bM:=fun h=>h3 h.symm;refine ⟨?_,?_⟩
 · simp only [a,iff_false]
   repeat' split
   all_goals omega
 · simp only [a,c,d,or_self,iff_false]
   repeat' split
   all_goals omega
theorem mQ (g:Game) (b:ByteArray):(dZ g b false=true↔¬ (value b<0∨(g.kind≠aK∧2<value b)))∧(dZ g b true=true↔¬ (value b<0∨(g.kind≠aK∧2<value b))∧¬ (g.kind=aK∧b=bf)):=by
 unfold dZ
 obtain ⟨z1,z2⟩:=Ko b;have hv:=lI b
 by_cases hg:g.kind=aK
 · simp only [hg,if_true,decide_eq_true_eq]
   have hz:b=bf↔value b=0:=z1.symm
   simp [hz]
   omega
 · rw [if_neg hg,if_neg hg]
   simp only [decide_eq_true_eq, ← z2]
   simp [hg]
   omega
theorem Jv (g:Game) (l:List ByteArray):fA g l=true↔l.any (fun b=>dZ g b false=false)=false:=by
 unfold fA
 rw [List.all_eq_true,List.any_eq_false];refine forall_congr' fun b=>forall_congr' fun _=>?_
 have:=(mQ g b).1
 by_cases hg:g.kind=aK
 · cases h:dZ g b false <;> rw [h] at this <;> simp [hg] at this ⊢ <;> omega
 · cases h:dZ g b false <;> rw [h] at this <;> simp [hg] at this ⊢ <;> omega
theorem Ju (g:Game) (l:List ByteArray):(fA g l=true∧¬ (g.kind=aK∧has l bf=true))↔l.any (fun b=>dZ g b true=false)=false:=by
 unfold fA has
 rw [List.all_eq_true,List.any_eq_false,List.any_eq_true]
 constructor
 · rintro ⟨h1,h2⟩ b hb
   have h3:=(mQ g b).2.2 ⟨of_decide_eq_true (h1 b hb),fun h4=>h2 ⟨h4.1,b,hb,by simpa using h4.2⟩⟩
   simp [h3]
 · intro h
   have h1:∀ b∈l,dZ g b true=true:=fun b hb=>by have:=h b hb;simpa using this
   refine ⟨fun b hb=>?_,fun ⟨hg,b,hb,hw⟩=>?_⟩
   · exact decide_eq_true ((mQ g b).2.1 (h1 b hb)).1
   · exact ((mQ g b).2.1 (h1 b hb)).2 ⟨hg,by simpa using hw⟩
theorem zX:cO≠gu∧cO≠iI∧cO≠fJ:=by decide
theorem VA (g:Game) (h0:dM g=0) (e:Entry):JQ g e=dH g e:=by
 unfold JQ dH isKind
 by_cases h1:e.kind=gu∨e.kind=iI∨e.kind=fJ
 · have h2:e.kind≠cO:=fun h=>by rw [h] at h1;have:=zX;rcases h1 with h1 | h1 | h1;exact this.1 h1;exact this.2.1 h1;exact this.2.2 h1
   have h3:decide (e.kind=cO∨e.kind=gu∨e.kind=iI∨e.kind=fJ)=true:=decide_eq_true (.inr h1);rw [h3]
   simp only [if_pos h1,Bool.true_eq_false,if_false,if_pos h2]
 · rw [if_neg h1]
   by_cases h2:e.kind=cO
   · have e1:((e.called≠bU∧value e.called<2)∨fA g e.hits=false∨fA g e.aF=false∨(g.kind=aK∧has e.hits bf=true))↔((e.called≠bU∧value e.called<2)∨e.hits.any (fun b=>dZ g b true=false)=true∨e.aF.any (fun b=>dZ g b false=false)=true):=by
      have a:=Jv g e.aF;have b:=Ju g e.hits
      have a':e.aF.any (fun b=>dZ g b false=false)=true↔¬ fA g e.aF=true:=by rw [a];simp
      have b':e.hits.any (fun b=>dZ g b true=false)=true↔¬ (fA g e.hits=true∧¬ (g.kind=aK∧has e.hits bf=true)):=by rw [b];simp
      rw [a',b']
      by_cases q1:fA g e.hits=true <;> by_cases q2:fA g e.aF=true <;> by_cases q3:g.kind=aK∧has e.hits bf=true <;> simp [q1,q2,q3]
     have e2:((e.called≠bU∧g.kind≠aK)∨(0<e.aF.length∧g.kind=fC)∨(0<e.aX∧g.kind≠fC))∨out e.aX 0 99=true↔((g.kind≠aK∧e.called≠bU)∨(g.kind=fC∧0<e.aF.length)∨(g.kind≠fC∧e.aX≠0))∨out e.aX 0 99=true:=by
      cases hc:out e.aX 0 99
      · have:=Yr hc
        have e3:e.aX≠0↔0<e.aX:=by omega
        simp only [e3,Bool.false_eq_true,or_false]
        constructor
        · rintro (h | h | h)
          · exact .inl h.symm
          · exact .inr (.inl h.symm)
          · exact .inr (.inr h.symm)
        · rintro (h | h | h)
          · exact .inl h.symm
          · exact .inr (.inl h.symm)
          · exact .inr (.inr h.symm)
      · simp
     have h9:decide (e.kind=cO∨e.kind=gu∨e.kind=iI∨e.kind=fJ)=true:=decide_eq_true (.inl h2);rw [h9]
     simp only [h2,ne_eq,not_true,if_false,Bool.true_eq_false]
     by_cases h3:22<e.hits.length∨22<e.aF.length
     · rw [if_pos h3,if_pos h3]
     rw [if_neg h3,if_neg h3]
     by_cases h4:(e.called≠bU∧value e.called<2)∨fA g e.hits=false∨fA g e.aF=false∨(g.kind=aK∧has e.hits bf=true)
     · rw [if_pos h4,if_pos (e1.1 h4)]
     rw [if_neg h4,if_neg (fun h=>h4 (e1.2 h))]
     cases hc:out e.aX 0 99
     · rw [hc] at e2
       simp only [Bool.false_eq_true,or_false] at e2
       simp only [Bool.false_eq_true,if_false]
       exact ite_congr (propext e2) (fun _=>rfl) (fun _=>rfl)
     · rw [if_pos rfl,if_pos rfl]
   · simp only [not_or] at h1
     simp [h1,h2]
def rF (s:State) (b:ByteArray):Bool:=s.free∧((s.phase=fM∧2≤value b)∨(s.phase=bH∧s.colour<value b))
theorem EZ (s:State) (b:ByteArray):rF s b=callable s b:=by
 unfold rF callable
 cases s.free
 · simp
 · by_cases h:s.phase=fM
   · simp [h,VD]
   · simp [h]
theorem uK {s:State} (h:s.turn=0∨s.turn=1):mine (1 - s.turn)=theirs s∧mine s.turn=own s:=by
 unfold mine theirs own
 rcases h with h | h <;> rw [h] <;> simp
theorem Ul:iM 0=bf∧iM 1=bG∧iM 2=bM∧iM 3=jJ∧iM 4=nY∧iM 5=zh∧iM 6=zi∧iM 7=nX:=by decide+kernel
theorem vals:value bf=0∧value bG=1∧value bM=2∧value jJ=3∧value nY=4∧value zh=5∧value zi=6∧value nX=7:=by decide+kernel
end Sk
namespace Sk
theorem Iw {b:ByteArray} (h:0≤value b):iM (value b)=b:=by
 unfold value dX at_ at_ at_ at_ at_ at_ at_ at_ at_ at h ⊢
 by_cases h1:bf=b
 · subst h1;decide+kernel
 by_cases h2:bG=b
 · subst h2;decide+kernel
 by_cases h3:bM=b
 · subst h3;decide+kernel
 by_cases h4:jJ=b
 · subst h4;decide+kernel
 by_cases h5:nY=b
 · subst h5;decide+kernel
 by_cases h6:zh=b
 · subst h6;decide+kernel
 by_cases h7:zi=b
 · subst h7;decide+kernel
 by_cases h8:nX=b
 · subst h8;decide+kernel
 rw [if_neg h1,if_neg h2,if_neg h3,if_neg h4,if_neg h5,if_neg h6,if_neg h7,if_neg h8] at h
 omega
theorem sU {n:Int} (h:0≤n∧n≤7):value (iM n)=n:=by
 have:n=0∨n=1∨n=2∨n=3∨n=4∨n=5∨n=6∨n=7:=by omega
 rcases this with rfl | rfl | rfl | rfl | rfl | rfl | rfl | rfl <;> decide+kernel
theorem qU (l:List ByteArray) (b:ByteArray):0<count l b↔has l b=true:=by
 unfold count has
 rw [List.any_eq_true]
 constructor
 · intro h
   have h1:0<(l.filter (fun x=>decide (x=b))).length:=by omega
   obtain ⟨x,hx⟩:=List.length_pos_iff_exists_mem.1 h1;exact ⟨x,(List.mem_filter.1 hx).1,(List.mem_filter.1 hx).2⟩
 · rintro ⟨x,hx,h⟩
   have:x∈l.filter (fun x=>decide (x=b)):=List.mem_filter.2 ⟨hx,h⟩
   have:=List.length_pos_iff_exists_mem.2 ⟨x,this⟩
   omega
def ZA (g:Game) (s:State) (e:Entry) (n:Int):Bool:=
 if g.kind≠aK then ¬ (1<count e.aF (iM n)∨(0<count e.hits (iM n)∧iM n=mine s.turn))
 else if n=1 then ¬ (s.aY<count e.aF (iM n)∨(0<count e.hits (iM n)∧s.aY=0))
 else ¬ (1<count e.aF (iM n)∨(1<n∧n<s.colour∧0<count e.hits (iM n)+count e.aF (iM n)))
def mZ (g:Game) (s:State) (e:Entry):Bool:=([0,1,2,3,4,5,6,7]:List Int).all (ZA g s e)
theorem rP (l:List ByteArray):∀ m,twice l m=false↔∀ b∈m,count l b≤1
 | []=>by simp [twice]
 | b::m=>by
   unfold twice
   simp only [decide_eq_false_iff_not,not_or,Int.not_lt,Bool.not_eq_true,rP l m,List.mem_cons,forall_eq_or_imp]
theorem DF {g:Game} {e:Entry} (h:dH g e=0) (hk:e.kind=cO):(∀ b∈e.hits,dZ g b true=true)∧∀ b∈e.aF,dZ g b false=true:=by
 unfold dH at h
 by_cases h1:isKind e.kind=false
 · rw [if_pos h1] at h;cases h
 rw [if_neg h1,if_neg (by simp [hk])] at h
 by_cases h2:22<e.hits.length∨22<e.aF.length
 · rw [if_pos h2] at h;cases h
 rw [if_neg h2] at h
 by_cases h3:(e.called≠bU∧value e.called<2)∨e.hits.any (fun b=>dZ g b true=false)=true∨e.aF.any (fun b=>dZ g b false=false)=true
 · rw [if_pos h3] at h;cases h
 · simp only [not_or,Bool.not_eq_true,List.any_eq_false] at h3
   exact ⟨fun b hb=>by simpa using h3.2.1 b hb,fun b hb=>by simpa using h3.2.2 b hb⟩
theorem uj {g:Game} {b:ByteArray} {f:Bool} (h:dZ g b f=true):0≤value b∧(g.kind≠aK→value b≤2):=by
 have:¬ (value b<0∨(g.kind≠aK∧2<value b)):=by
  cases f
  · exact (mQ g b).1.1 h
  · exact ((mQ g b).2.1 h).1
 exact ⟨by omega,fun hg=>Int.not_lt.1 (fun hx=>this (.inr ⟨hg,hx⟩))⟩
theorem FZ {s:State} (l:List ByteArray) (hl:∀ b∈l,0≤value b) (hp:0<s.colour→s.phase=bH):l.any (gone s)=false↔∀ n:Int,1<n→n<s.colour→n≤7→count l (iM n)≤0:=by
 rw [List.any_eq_false]
 constructor
 · intro h n h1 h2 h7
   refine Int.not_lt.1 fun hc=>?_;have hh:=(qU l (iM n)).1 hc
   unfold has at hh
   obtain ⟨x,hx,he⟩:=List.any_eq_true.1 hh
   have he:x=iM n:=by simpa using he
   have hv:=sU (n:=n) ⟨by omega,h7⟩;refine h x hx ?_
   unfold gone
   rw [he,hv]
   simp only [decide_eq_true_eq]
   exact ⟨hp (by omega),by omega,h2⟩
 · intro h b hb hg
   unfold gone at hg
   simp only [decide_eq_true_eq] at hg
   obtain ⟨g1,g2,g3⟩:=hg;have h7:=(lI b).2
   have:=h (value b) (by omega) g3 h7
   rw [Iw (hl b hb)] at this
   have hh:has l b=true:=by unfold has;rw [List.any_eq_true];exact ⟨b,hb,by simp⟩
   have:=(qU l b).2 hh
   omega
theorem qM {p:Int→Bool}:([0,1,2,3,4,5,6,7]:List Int).all p=true↔∀ n:Int,0≤n→n≤7→p n=true:=by
 constructor
 · intro h n h0 h7
   rw [List.all_eq_true] at h;refine h n ?_
   have:n=0∨n=1∨n=2∨n=3∨n=4∨n=5∨n=6∨n=7:=by omega
   rcases this with rfl | rfl | rfl | rfl | rfl | rfl | rfl | rfl <;> simp
 · intro h
   rw [List.all_eq_true];intro n hn
   simp only [List.mem_cons,List.mem_nil_iff,or_false] at hn
   exact h n (by omega) (by omega)
theorem count_none {l:List ByteArray} {b:ByteArray} (h:∀ x∈l,x≠b):count l b=0:=by
 have h1:=tN l b
 rcases Int.lt_or_le 0 (count l b) with h2 | h2
 · have:=(qU l b).1 h2
   unfold has at this
   obtain ⟨x,hx,he⟩:=List.any_eq_true.1 this;exact absurd (by simpa using he) (h x hx)
 · omega
theorem TA {g:Game} {s:State} {e:Entry} (h:Ok g s) (he:dH g e=0) (hk:e.kind=cO):mZ g s e=kK g s e:=by
 obtain ⟨k1,k2⟩:=DF he hk;have kv1:∀ b∈e.hits,0≤value b∧(g.kind≠aK→value b≤2):=fun b hb=>uj (k1 b hb);have TV:∀ b∈e.aF,0≤value b∧(g.kind≠aK→value b≤2):=fun b hb=>uj (k2 b hb);obtain ⟨b0,b1,b2,b3,b4,b5,b6,b7⟩:=Ul;rw [Bool.eq_iff_iff]
 unfold mZ
 rw [qM]
 unfold kK ZA
 by_cases hg:g.kind=aK
 · simp only [hg,ne_eq,not_true,if_false,if_true]
   have F8:0<s.colour→s.phase=bH:=fun hx=>by
    rcases pI h hg with ⟨_,hc,_⟩ | ⟨_,hc,_⟩ | ⟨hp,_⟩
    · omega
    · omega
    · exact hp
   have g1:=FZ (s:=s) e.hits (fun b hb=>(kv1 b hb).1) F8;have g2:=FZ (s:=s) e.aF (fun b hb=>(TV b hb).1) F8;have CZ:=qU e.hits bG
   constructor
   · intro hx
     have hx1:=hx 1 (by omega) (by omega);rw [if_pos rfl,b1] at hx1
     simp only [decide_eq_true_eq,not_or] at hx1
     have ho:∀ n:Int,0≤n→n≤7→n≠1→count e.aF (iM n)≤1∧(1<n→n<s.colour→count e.hits (iM n)+count e.aF (iM n)≤0):=fun n h0 h7 h1=>by
      have:=hx n h0 h7
      rw [if_neg h1] at this
      simp only [decide_eq_true_eq,not_or,not_and,Int.not_lt] at this
      exact ⟨this.1,this.2⟩
     unfold gY
     rw [if_neg (by rw [← CZ];omega),if_neg]
     · simp only [decide_eq_true_eq]
       refine ⟨g1.2 fun n a b c=>?_,g2.2 fun n a b c=>?_⟩
       · have:=(ho n (by omega) c (by omega)).2 a b;have:=tN e.aF (iM n);omega
       · have:=(ho n (by omega) c (by omega)).2 a b;have:=tN e.hits (iM n);omega
     · rw [Bool.not_eq_true,rP]
       intro b hb;have hb:=List.mem_filter.1 hb
       have hb2:b≠bG:=by simpa using hb.2
       have hm:=hb.1
       unfold dX at hm
       simp only [List.mem_cons,List.mem_nil_iff,or_false] at hm
       rcases hm with rfl | rfl | rfl | rfl | rfl | rfl | rfl | rfl
       · have:=(ho 0 (by omega) (by omega) (by omega)).1;rwa [b0] at this
       · exact absurd rfl hb2
       · have:=(ho 2 (by omega) (by omega) (by omega)).1;rwa [b2] at this
       · have:=(ho 3 (by omega) (by omega) (by omega)).1;rwa [b3] at this
       · have:=(ho 4 (by omega) (by omega) (by omega)).1;rwa [b4] at this
       · have:=(ho 5 (by omega) (by omega) (by omega)).1;rwa [b5] at this
       · have:=(ho 6 (by omega) (by omega) (by omega)).1;rwa [b6] at this
       · have:=(ho 7 (by omega) (by omega) (by omega)).1;rwa [b7] at this
   · intro hx n h0 h7
     obtain ⟨a1,a2,a3,a4,a5⟩:=zG hx
     by_cases h1:n=1
     · rw [if_pos h1,h1,b1]
       simp only [decide_eq_true_eq,not_or,not_and]
       refine ⟨by omega,fun hc hr=>?_⟩
       have:=CZ.1 hc
       rw [a2 hr] at this
       cases this
     · rw [if_neg h1]
       simp only [decide_eq_true_eq,not_or,not_and,Int.not_lt]
       refine ⟨(rP _ _).1 a3 _ ?_,fun c1 c2=>?_⟩
       · have:n=0∨n=2∨n=3∨n=4∨n=5∨n=6∨n=7:=by omega
         rcases this with rfl | rfl | rfl | rfl | rfl | rfl | rfl <;> refine List.mem_filter.2 ⟨?_,by decide+kernel⟩ <;> simp only [b0,b2,b3,b4,b5,b6,b7,dX,List.mem_cons,true_or,or_true]
       · have:=g1.1 a4 n c1 c2 h7
         have:=g2.1 a5 n c1 c2 h7
         omega
 · simp only [hg,ne_eq,not_false_iff,if_true,if_false]
   rw [(uK h.inr.turn).2]
   have hown:own s=bf∨own s=bM:=by unfold own;split <;> simp
   have big:∀ n:Int,3≤n→n≤7→count e.aF (iM n)=0∧iM n≠own s:=fun n h3 h7=>by
    refine ⟨count_none fun x hx hxx=>?_,fun hx=>?_⟩
    · have:=(TV x hx).2 hg
      rw [hxx,sU ⟨by omega,h7⟩] at this
      omega
    · have hv:=sU (n:=n) ⟨by omega,h7⟩
      obtain ⟨v0,v1,v2,_⟩:=vals;rw [hx] at hv
      rcases hown with ho | ho <;> rw [ho] at hv <;> omega
   have hh:=qU e.hits (own s)
   constructor
   · intro hx
     have hx2:∀ n:Int,0≤n→n≤7→count e.aF (iM n)≤1∧(iM n=own s→count e.hits (iM n)≤0):=fun n h0 h7=>by
      have:=hx n h0 h7
      simp only [decide_eq_true_eq,not_or,not_and,Int.not_lt] at this
      exact ⟨this.1,fun hy=>by rcases Int.lt_or_le 0 (count e.hits (iM n)) with h2 | h2;exact absurd hy (this.2 h2);exact h2⟩
     unfold nJ
     rw [if_neg]
     · simp only [decide_eq_true_eq]
       have hz:count e.hits (own s)≤0:=by
        rcases hown with ho | ho
        · have:=(hx2 0 (by omega) (by omega)).2 (by rw [b0,ho]);rwa [b0, ← ho] at this
        · have:=(hx2 2 (by omega) (by omega)).2 (by rw [b2,ho]);rwa [b2, ← ho] at this
       cases hc:has e.hits (own s)
       · rfl
       · have:=hh.2 hc;omega
     · rw [Bool.not_eq_true,rP]
       intro b hb
       simp only [List.mem_cons,List.mem_nil_iff,or_false] at hb
       rcases hb with rfl | rfl | rfl
       · have:=(hx2 0 (by omega) (by omega)).1;rwa [b0] at this
       · have:=(hx2 2 (by omega) (by omega)).1;rwa [b2] at this
       · have:=(hx2 1 (by omega) (by omega)).1;rwa [b1] at this
   · intro hx n h0 h7
     unfold nJ at hx
     by_cases ht:twice e.aF [bf,bM,bG]=true
     · rw [if_pos ht] at hx;cases hx
     rw [if_neg ht] at hx
     have hx:has e.hits (own s)=false:=by simpa using hx
     have ht:=(rP _ _).1 (by simpa using ht:twice e.aF [bf,bM,bG]=false)
     simp only [decide_eq_true_eq,not_or,not_and,Int.not_lt]
     refine ⟨?_,fun hc hy=>?_⟩
     · rcases Int.lt_or_le n 3 with h3 | h3
       · have:n=0∨n=1∨n=2:=by omega
         rcases this with rfl | rfl | rfl
         · rw [b0];exact ht _ (by simp)
         · rw [b1];exact ht _ (by simp)
         · rw [b2];exact ht _ (by simp)
       · rw [(big n h3 h7).1];omega
     · rw [hy] at hc
       have:=hh.1 hc
       rw [hx] at this
       cases this
end Sk
namespace Sk
def iD (s:State) (e:Entry):ByteArray:=if s.phase=fM then bG else if s.phase=dA then e.called else iM s.colour
def JO (s:State) (e:Entry):ByteArray:=if e.called=bU then iD s e else e.called
def sK (s:State) (e:Entry) (b:ByteArray):Bool:=b≠iD s e∧b≠e.called∧b≠bf
def kY (s:State) (e:Entry) (f m:Int):List ByteArray→Int × Int
 | []=>(f,m)
 | b::l=>if sK s e b then kY s e 4 (max m (value b)) l else kY s e f m l
def E8 (s:State) (e:Entry):Int:=if has e.aF bf then 3 else (kY s e 0 (max 4 (value (iD s e))) e.aF).1
def zC (s:State) (e:Entry):Int:=if e.hits=[] then 1 else if e.hits.headD bU≠JO s e then 2 else E8 s e
def Dt (s:State) (e:Entry):Int:=
 if e.hits=[] then (kY s e 0 (max 4 (value (iD s e))) e.aF).2
 else if e.hits.headD bU≠JO s e then max (kY s e 0 (max 4 (value (iD s e))) e.aF).2 (value (e.hits.headD bU))
 else (kY s e 0 (max 4 (value (iD s e))) e.aF).2
def oK (s:State) (e:Entry):Int:=
 if s.phase=fM then (if called e then count e.aF bG+1 else count e.aF bG)
 else if s.phase=dA then (if called e then value e.called else 0)
 else if called e∨has e.aF (iD s e) then s.colour else 0
def pO (s:State) (e:Entry):dI:=if 0<zC s e then ⟨0,zC s e,Dt s e,false⟩ else ⟨oK s e,0,0,0<oK s e⟩
theorem yR (s:State) (e:Entry):∀ (l:List ByteArray) (f m:Int),(kY s e f m l).1=(if l.any (sK s e) then 4 else f)
 | [],f,m=>rfl
 | b::l,f,m=>by
   rw [kY]
   cases h:sK s e b
   · rw [if_neg (by simp),yR s e l];simp [h]
   · rw [if_pos rfl,yR s e l];simp [h]
theorem yQ (s:State) (e:Entry):∀ (l:List ByteArray) (f m k:Int),max (kY s e f m l).2 k=(kY s e f (max m k) l).2
 | [],f,m,k=>rfl
 | b::l,f,m,k=>by
   rw [kY,kY]
   split
   · rw [yQ s e l]
     congr 2
     omega
   · exact yQ s e l f m k
theorem Dl {g:Game} {s:State} (e:Entry) (h:Ok g s) (hg:g.kind=aK):value (iD s e)=worth s e:=by
 unfold iD worth
 rcases pI h hg with ⟨hp,_⟩ | ⟨hp,_⟩ | ⟨hp,_,hc⟩
 · rw [if_pos hp,if_pos hp];exact vals.2.1
 · rw [if_neg (by rw [hp];exact oI),if_pos hp,if_neg (by rw [hp];exact oI),if_pos hp]
 · rw [if_neg (by rw [hp];exact lM),if_neg (by rw [hp];exact kL),if_neg (by rw [hp];exact lM),if_neg (by rw [hp];exact kL)]
   exact sU ⟨by omega,hc.2⟩
theorem sG {g:Game} {s:State} {e:Entry} (h:Ok g s) (hg:g.kind=aK) (hcall:s.phase=dA→e.called≠bU) {b:ByteArray} (hb:0≤value b):sK s e b=true↔wanted s e b=false∧b≠bf:=by
 have hn:b≠bU:=fun hx=>by rw [hx] at hb;exact absurd hb (by decide+kernel)
 unfold sK wanted iD
 rcases pI h hg with ⟨hp,_⟩ | ⟨hp,_⟩ | ⟨hp,_,hc⟩
 · rw [if_pos hp,Ql hp]
   have e1:has [bG] b=decide (bG=b):=by unfold has;simp
   rw [e1]
   simp only [decide_eq_true_eq,decide_eq_false_iff_not,hp,not_or,not_and,ne_eq,Decidable.not_not]
   constructor
   · rintro ⟨h1,h2,h3⟩
     exact ⟨⟨fun h4=>absurd h4 h2,fun _ h4=>h1 h4.symm⟩,h3⟩
   · rintro ⟨⟨h1,h2⟩,h3⟩
     exact ⟨fun h4=>h2 (fun hx=>oI hx.symm) h4.symm,fun h4=>hn (h4.trans (h1 h4)),h3⟩
 · rw [if_neg (by rw [hp];exact oI),if_pos hp]
   have hcn:=hcall hp
   simp only [decide_eq_true_eq,decide_eq_false_iff_not,hp,not_or,not_and,ne_eq,Decidable.not_not,not_true,false_and,not_false_iff,and_true,false_implies]
   constructor
   · rintro ⟨h1,h2,h3⟩
     exact ⟨fun h4=>absurd h4 h2,h3⟩
   · rintro ⟨h1,h3⟩
     exact ⟨fun h4=>hcn (h1 h4),fun h4=>hcn (h1 h4),h3⟩
 · rw [if_neg (by rw [hp];exact lM),if_neg (by rw [hp];exact kL),BA hp]
   have e1:has [iM s.colour] b=decide (iM s.colour=b):=by unfold has;simp
   rw [e1]
   simp only [decide_eq_true_eq,decide_eq_false_iff_not,hp,not_or,not_and,ne_eq,Decidable.not_not]
   constructor
   · rintro ⟨h1,h2,h3⟩
     exact ⟨⟨fun h4=>absurd h4 h2,fun _ h4=>h1 h4.symm⟩,h3⟩
   · rintro ⟨⟨h1,h2⟩,h3⟩
     exact ⟨fun h4=>h2 kL h4.symm,fun h4=>hn (h4.trans (h1 h4)),h3⟩
theorem sN {g:Game} {s:State} {e:Entry} (h:Ok g s) (hg:g.kind=aK) (hcall:s.phase=dA→e.called≠bU):∀ (l:List ByteArray) (f m:Int),(∀ b∈l,0≤value b)→0≤m→(kY s e f m l).2=most s e m l
 | [],f,m,_,_=>rfl
 | b::l,f,m,hl,hm=>by
   have hb:=hl b List.mem_cons_self;have hr:=fun x hx=>hl x (List.mem_cons_of_mem b hx);have ho:=sG h hg hcall hb;rw [kY,most]
   by_cases hx:sK s e b=true
   · rw [if_pos hx,if_neg (by rw [(ho.1 hx).1];simp)]
     exact sN h hg hcall l _ _ hr (by omega)
   · rw [if_neg hx]
     cases hw:wanted s e b
     · have hbw:b=bf:=Decidable.not_not.1 fun hy=>hx (ho.2 ⟨hw,hy⟩)
       rw [if_neg (by simp),hbw,vals.1,Int.max_eq_left hm];exact sN h hg hcall l _ _ hr hm
     · rw [if_pos rfl]
       exact sN h hg hcall l _ _ hr hm
theorem Ky {g:Game} {s:State} {e:Entry} (h:Ok g s) (hg:g.kind=aK) (hcall:s.phase=dA→e.called≠bU):JO s e=due s e:=by
 unfold JO due iD
 by_cases hc:e.called=bU
 · rw [if_pos hc,if_pos hc]
   rcases pI h hg with ⟨hp,_⟩ | ⟨hp,_⟩ | ⟨hp,_⟩
   · rw [if_pos hp,Ql hp];rfl
   · exact absurd hc (hcall hp)
   · rw [if_neg (by rw [hp];exact lM),if_neg (by rw [hp];exact kL),BA hp];rfl
 · rw [if_neg hc,if_neg hc]
theorem Tm {g:Game} {s:State} {e:Entry} (h:Ok g s) (he:dH g e=0) (hk:e.kind=cO) (hg:g.kind=aK) (hcall:s.phase=dA→e.called≠bU):pO s e=eF s e:=by
 obtain ⟨_,k2⟩:=DF he hk;have TV:∀ b∈e.aF,0≤value b:=fun b hb=>(uj (k2 b hb)).1
 have e0:max 4 (value (iD s e))=max 4 (worth s e):=by rw [Dl e h hg]
 have hp2:=fun m (hm:0≤m)=>sN h hg hcall e.aF 0 m TV hm
 have hf:zC s e=cu s e:=by
  unfold zC cu E8
  rw [Ky h hg hcall,yR]
  congr 1
  congr 1
  have e9:has e.aF bf=false→(e.aF.any (sK s e)=true↔e.aF.any (fun b=>wanted s e b=false)=true):=by
   intro hw;rw [List.any_eq_true,List.any_eq_true]
   constructor
   · rintro ⟨b,hb,hx⟩
     exact ⟨b,hb,by have:=((sG h hg hcall (TV b hb)).1 hx).1;simp [this]⟩
   · rintro ⟨b,hb,hx⟩
     refine ⟨b,hb,(sG h hg hcall (TV b hb)).2 ⟨by simpa using hx,fun hy=>?_⟩⟩
     have:has e.aF bf=true:=by unfold has;rw [List.any_eq_true];exact ⟨b,hb,by simpa using hy⟩
     rw [hw] at this;cases this
  cases hw:has e.aF bf
  · simp only [Bool.false_eq_true,if_false]
    exact ite_congr (propext (e9 hw)) (fun _=>rfl) (fun _=>rfl)
  · simp only [if_true]
 have hpn:0<cu s e→Dt s e=most s e (if cu s e=2 then max (max 4 (worth s e)) (value (e.hits.headD bU)) else max 4 (worth s e)) e.aF:=by
  intro _
  unfold Dt
  rw [e0,Ky h hg hcall]
  by_cases h1:e.hits=[]
  · have:cu s e=1:=by unfold cu;rw [if_pos h1]
    rw [if_pos h1,this,if_neg (by omega)];exact hp2 _ (by omega)
  · rw [if_neg h1]
    by_cases h2:e.hits.headD bU≠due s e
    · have:cu s e=2:=by unfold cu;rw [if_neg h1,if_pos h2]
      rw [if_pos h2,this,if_pos rfl,yQ];exact hp2 _ (by omega)
    · have:cu s e≠2:=by
       unfold cu
       rw [if_neg h1,if_neg h2]
       repeat' split
       all_goals omega
      rw [if_neg h2,if_neg this];exact hp2 _ (by omega)
 have hpt:oK s e=dB s e:=by
  unfold oK dB iD worth
  rcases pI h hg with ⟨hp,_⟩ | ⟨hp,_⟩ | ⟨hp,_⟩
  · rw [if_pos hp,if_pos hp]
    cases called e <;> simp
  · have n1:s.phase≠fM:=by rw [hp];exact oI
    have n2:s.phase≠bH:=by rw [hp];exact Kz
    simp only [n1,hp,if_false,if_true,n2,and_false,or_false,oI,Kz]
  · have n1:s.phase≠fM:=by rw [hp];exact lM
    have n2:s.phase≠dA:=by rw [hp];exact kL
    simp only [n1,n2,hp,if_false,BA hp,and_true,lM,kL]
    rfl
 unfold pO eF
 rw [hf,hpt]
 split
 · rename_i hx;rw [hpn hx]
 · rfl
def ql (s:State) (e:Entry):Bool:=has e.hits (mine (1 - s.turn))∧has e.hits bG
theorem yC {s:State} (ht:s.turn=0∨s.turn=1) (e:Entry):ql s e=eU s e:=by unfold ql eU;rw [(uK ht).1]
def iQ (g:Game) (s:State) (e:Entry):dI:=if g.kind=aK then pO s e else if g.kind=bT then bC s e else gG s e
theorem uY {g:Game} {s:State} {e:Entry} (h:Ok g s) (he:dH g e=0) (hk:e.kind=cO) (hcall:gB g s e=true):iQ g s e=judge g s e:=by
 unfold iQ judge
 by_cases hg:g.kind=aK
 · rw [if_pos hg,if_pos hg]
   refine Tm h he hk hg (fun hp=>?_)
   unfold gB at hcall
   rw [if_neg (by simp [hk,hg]),if_pos hp] at hcall
   simpa using hcall
 · rw [if_neg hg,if_neg hg]
def wJ (g:Game) (s:State) (e:Entry):Int:=
 if 0≤s.ay then 1
 else if (e.kind=gu∨e.kind=iI)∧s.aN=false then 2
 else if gB g s e=false then 3
 else if e.kind=cO∧mZ g s e=false then 4
 else if e.kind=cO∧(99999<score s s.turn+(iQ g s e).points∨99999<score s (1 - s.turn)+(iQ g s e).penalty) then 5
 else 0
theorem NK {g:Game} {s:State} {e:Entry} (h:Ok g s) (he:dH g e=0):wJ g s e=legal g s e:=by
 unfold wJ legal
 by_cases h1:0≤s.ay
 · simp only [if_pos h1]
 simp only [if_neg h1]
 by_cases h2:(e.kind=gu∨e.kind=iI)∧s.aN=false
 · simp only [if_pos h2,if_pos h2.symm]
 have h2':¬ (s.aN=false∧(e.kind=gu∨e.kind=iI)):=fun hx=>h2 hx.symm
 simp only [if_neg h2,if_neg h2']
 cases hc:gB g s e
 · simp only [if_true]
 simp only [Bool.true_eq_false,if_false]
 by_cases hk:e.kind=cO
 · rw [TA h he hk,uY h he hk hc]
   by_cases h4:e.kind=cO∧kK g s e=false
   · simp only [if_pos h4]
   simp only [if_neg h4]
   refine ite_congr (propext ?_) (fun _=>rfl) (fun _=>rfl);have hn:=GL (g:=g) (s:=s) hk;rw [hn.1,hn.2];have ht:=h.inr.turn
   unfold score
   constructor
   · rintro ⟨_,h5⟩
     refine ⟨hk,?_⟩
     rcases ht with ht | ht <;> rw [ht] at h5 ⊢ <;> simp at h5 ⊢ <;> omega
   · rintro ⟨_,h5⟩
     refine ⟨hk,?_⟩
     rcases ht with ht | ht <;> rw [ht] at h5 ⊢ <;> simp at h5 ⊢ <;> omega
 · simp only [hk,false_and,if_false]
end Sk
namespace Sk
def iT (s:State) (v:dI):State:=
 {s with free:=false,aN:=false,s0:=s.s0+(if s.turn=0 then v.points else v.penalty),s1:=s.s1+(if s.turn=0 then v.penalty else v.points),brk:=s.brk+v.points }
def fG (g:Game) (s:State) (v:dI):State:=
 if v.stays=true∧score s s.turn<g.target then s
 else
  let t:=pass (jH s s.turn)
  if s.turn=1∧(g.target≤max t.s0 t.s1∨t.t1=g.turns) then {t with ay:=leader t } else t
def eG (before s:State) (e:Entry) (v:dI):State:=
 let s:={s with aY:=s.aY - count e.aF bG,aN:=decide (0<v.gU) }
 if before.phase≠bH then
  if before.phase=fM∧0<v.points then {s with phase:=dA }
  else if 0<s.aY then {s with phase:=fM }
  else {s with phase:=bH,colour:=2 }
 else
  let uq:Bool:=v.gU=0∧has e.aF (iM before.colour)
  let s:=if uq=true∧before.colour<7 then {s with colour:=s.colour+1 } else s
  if before.colour=7∧(uq=true∨0<v.gU) then
   if leader s<2 then {s with ay:=leader s,aN:=false } else if uq then pass s else s
  else s
def uz (g:Game) (s:State) (e:Entry):State:=
 if e.kind=gu then pass {s with free:=false,aN:=false }
 else if e.kind=iI then {s with free:=true,aN:=false }
 else if e.kind=fJ then {s with free:=false,aN:=false,ay:=1 - s.turn }
 else
  let v:=iQ g s e
  let t:=iT s v
  if g.kind=fC then fG g t v
  else
   let t:=if g.kind=bT then (if eU t e then {t with aO:=0 } else if 0<v.points then {t with aO:=t.aO+1 } else t) else t
   let t:=if v.stays then t else pass t
   if g.kind=aK then eG s t e v
   else if g.target≤max t.s0 t.s1 then {t with ay:=leader t } else t
theorem JC {g:Game} {s:State} {e:Entry} {v:dI} (hv:Xn g v) (hg:g.kind=aK) (h7:s.colour≤7):eG s (if v.stays=true then iT s v else pass (iT s v)) e v=bZ (mid g s v) e v:=by
 have hst:=hv.stays
 have e1:mid g s v= {(if v.stays=true then iT s v else pass (iT s v)) with aN:=decide (0<v.gU) }:=by
  unfold mid jk iT
  split <;> simp [hg,pass]
 obtain ⟨m,hm⟩:∃ m,(if v.stays=true then iT s v else pass (iT s v))=m:=⟨_,rfl⟩
 have CQ:m.phase=s.phase:=by rw [← hm];split <;> rfl
 have hcl:m.colour=s.colour:=by rw [← hm];split <;> rfl
 rw [hm] at e1;rw [hm,e1]
 unfold eG bZ
 dsimp only
 rw [CQ,hcl];have hf:=hv.gU
 by_cases hp:s.phase≠bH
 · simp only [if_pos hp,hst,decide_eq_true_eq]
 · simp only [if_neg hp]
   by_cases hpt:v.gU=0∧has e.aF (iM s.colour)=true
   · have hd:decide (v.gU=0∧has e.aF (iM s.colour)=true)=true:=decide_eq_true hpt
     simp only [hd,true_and,true_or,and_true,if_true]
     by_cases h6:s.colour<7
     · have XB:s.colour≠7:=by omega
       simp only [h6,XB,if_true,if_false,false_and]
     · have XB:s.colour=7:=by omega
       simp only [h6,XB,if_false,if_true,Bool.true_eq_false,and_false]
       simp only [show ¬ (7:Int)<7 by omega,if_false]
       rfl
   · have hd:decide (v.gU=0∧has e.aF (iM s.colour)=true)=false:=decide_eq_false hpt
     simp only [hd,Bool.false_eq_true,false_and,false_or,if_false,and_true]
     by_cases h6:s.colour<7
     · have XB:s.colour≠7:=by omega
       simp only [h6,XB,if_true,if_false,false_and]
     · have XB:s.colour=7:=by omega
       simp only [XB,if_false,true_and,show ¬ (7:Int)<7 by omega]
       by_cases hz:v.gU=0
       · have hn:¬ 0<v.gU:=by omega
         simp only [hz,if_true]
         simp
       · have hn:0<v.gU:=by omega
         simp only [hz,hn,if_true,if_false]
         rfl
theorem FM {s:State} {e:Entry} (h:eU s e=true):0<(bC s e).points∧(bC s e).stays=true:=by
 have hn:e.hits≠[]:=by
  intro hx
  unfold eU has at h
  rw [hx] at h
  simp at h
 unfold bC
 rw [if_neg hn,if_neg (by rw [h];simp)]
 have hp:2≤bW s e:=by
  unfold bW
  rw [if_pos h];exact xP s e e.aF 2
 exact ⟨by show 0<bW s e;omega,by show decide (0<bW s e)=true;simp;omega⟩
theorem SH {g:Game} {s:State} {e:Entry} (h:Ok g s) (he:dH g e=0) (hl:Lawful g s e):uz g s e=next g s e:=by
 unfold uz
 by_cases hk:e.kind=cO
 · have n1:¬ e.kind=gu:=by rw [hk];exact zX.1
   have n2:¬ e.kind=iI:=by rw [hk];exact zX.2.1
   have n3:¬ e.kind=fJ:=by rw [hk];exact zX.2.2
   simp only [n1,n2,n3,if_false]
   rw [GK hk,uY h he hk hl.call];have hv:=uh g s e h.inr.colour (fun hg hp=>by have:=oZ he hk hl.call hg hp;omega)
   rcases iW h.game with ⟨hg,_⟩ | ⟨hg,_⟩ | ⟨hg,_⟩
   · have c1:¬ g.kind=fC:=by rw [hg];exact fun hx=>qy hx.symm
     have c2:¬ g.kind=bT:=by rw [hg];exact fun hx=>oU hx.symm
     have e2:∀ m v,after g m e v=bZ m e v:=fun m v=>by unfold after;rw [if_pos hg]
     simp only [if_neg c1,if_neg c2,if_pos hg]
     rw [e2];exact JC hv hg h.inr.colour.2
   · have c1:¬ g.kind=fC:=by rw [hg];exact fun hx=>uU hx.symm
     have c2:¬ g.kind=aK:=by rw [hg];exact oU
     have e1:judge g s e=bC s e:=by unfold judge;rw [if_neg c2,if_pos hg]
     have e2:∀ m v,after g m e v=dD g m e v:=fun m v=>by unfold after;rw [if_neg c2,if_pos hg]
     simp only [c1,c2,if_false]
     rw [if_pos hg,e2];have hcn:=@FM s e;rw [← e1] at hcn;have hst:=hv.stays;obtain ⟨v,hvv⟩:∃ v,judge g s e=v:=⟨_,rfl⟩;rw [hvv] at hcn hst hv ⊢;have ec:eU (iT s v) e=eU s e:=tH rfl;rw [ec]
     unfold dD mid
     have hpp:=hv.points
     cases hs:v.stays
     · have hp:¬ 0<v.points:=by rw [hs] at hst;simpa using hst.symm
       have hc:eU s e=false:=by
        cases hx:eU s e
        · rfl
        · exact absurd (hcn hx).1 hp
       rw [hc]
       simp only [Bool.false_eq_true,if_false,hp,false_and]
       unfold jk iT pass
       simp only [hg,oU,false_and,decide_false]
       by_cases hm:g.target≤max (s.s0+if s.turn=0 then v.points else v.penalty) (s.s1+if s.turn=0 then v.penalty else v.points)
       · simp only [if_pos hm] <;> rfl
       · simp only [if_neg hm]
     · have hp:0<v.points:=by rw [hs] at hst;simpa using hst.symm
       have ec2:eU {zero with turn:=(jk g s v).turn } e=eU s e:=tH rfl
       simp only [if_true,true_and,hp]
       rw [ec2]
       unfold jk iT
       simp only [hg,oU,false_and,decide_false]
       cases hc:eU s e
       · simp only [Bool.false_eq_true,if_false]
         by_cases hm:g.target≤max (s.s0+if s.turn=0 then v.points else v.penalty) (s.s1+if s.turn=0 then v.penalty else v.points)
         · simp only [if_pos hm] <;> rfl
         · simp only [if_neg hm]
       · simp only [if_true]
         by_cases hm:g.target≤max (s.s0+if s.turn=0 then v.points else v.penalty) (s.s1+if s.turn=0 then v.penalty else v.points)
         · simp only [if_pos hm] <;> rfl
         · simp only [if_neg hm]
   · have c1:¬ g.kind=aK:=by rw [hg];exact qy
     have c2:¬ g.kind=bT:=by rw [hg];exact uU
     have e2:∀ m v,after g m e v=dK g m v:=fun m v=>by unfold after;rw [if_neg c1,if_neg c2]
     rw [if_pos hg,e2];obtain ⟨v,hvv⟩:∃ v,judge g s e=v:=⟨_,rfl⟩;rw [hvv] at hv ⊢
     have es:jk g s v=iT s v:=by unfold jk iT;simp [hg,qy]
     unfold fG dK mid
     rw [es];have ht:=h.inr.turn
     cases hs:v.stays
     · simp only [Bool.false_eq_true,false_and,if_false,if_true]
       have e3:1 - (pass (iT s v)).turn=s.turn:=by show 1 - (1 - s.turn)=s.turn;omega
       rw [e3]
       unfold jf jH
       show _=_
       have e4:(iT s v).turn=s.turn:=rfl;rw [e4]
       rcases ht with ht | ht
       · simp [ht,e4,pass,leader]
       · simp [ht,e4,pass,leader]
     · simp only [true_and,if_true,Bool.true_eq_false,if_false]
       by_cases hc:score (iT s v) (iT s v).turn<g.target
       · simp only [if_pos hc]
       · simp only [if_neg hc]
         unfold jf jH
         have e4:(iT s v).turn=s.turn:=rfl;rw [e4]
         rcases ht with ht | ht
         · simp [ht,e4,pass,leader]
         · simp [ht,e4,pass,leader]
 · unfold next
   rw [if_neg hk]
   have hkind:e.kind=gu∨e.kind=iI∨e.kind=fJ:=by
    unfold dH isKind at he
    by_cases h1:decide (e.kind=cO∨e.kind=gu∨e.kind=iI∨e.kind=fJ)=false
    · rw [if_pos h1] at he;cases he
    · simp only [Bool.not_eq_false,decide_eq_true_eq] at h1
      exact h1.resolve_left hk
   have n1:iI≠gu:=by decide
   have n2:fJ≠gu:=by decide
   have n3:fJ≠iI:=by decide
   rcases hkind with hx | hx | hx
   · simp only [hx,if_true]
   · simp only [hx,n1,if_true,if_false]
   · simp only [hx,n2,n3,if_true,if_false]
end Sk
namespace Nm
structure Fr where
 n:Int
 d:Int
 deriving DecidableEq
def gcd (a b:Int):Int:=(Int.gcd a b:Int)
def make (n d:Int):Fr:=
 let a:=if d<0 then -n else n
 let b:=if d<0 then -d else d
 if b=1 then ⟨a,b⟩ else ⟨a / gcd a b,b / gcd a b⟩
def whole (n:Int):Fr:=⟨n,1⟩
def neg (a:Fr):Fr:=⟨-a.n,a.d⟩
def add (a b:Fr):Fr:=if a.d=1∧b.d=1 then whole (a.n+b.n) else make (a.n*b.d+b.n*a.d) (a.d*b.d)
def sub (a b:Fr):Fr:=add a (neg b)
def mul (a b:Fr):Fr:=make (a.n*b.n) (a.d*b.d)
def inv (a:Fr):Fr:=make a.d a.n
def div (a b:Fr):Fr:=mul a (inv b)
def oG (a:Int):Int:=if a<0 then -1 else if 0<a then 1 else 0
def OI (a b:Int):Int:=if a<b then -1 else if b<a then 1 else 0
def cmp (a b:Fr):Int:=OI (a.n*b.d) (b.n*a.d)
def sm (a:Int):Bool:= -1000000000≤a∧a≤1000000000
def ok (a:Fr):Bool:=sm a.n∧sm a.d∧1≤a.d
theorem yT {a:Int}:sm a=true↔ -1000000000≤a∧a≤1000000000:=by unfold sm;rw [decide_eq_true_eq]
theorem Ir {a b m n:Int} (ha: -m≤a∧a≤m) (hb: -n≤b∧b≤n): -(m*n)≤a*b∧a*b≤m*n:=by
 have hm:0≤m:=by omega
 have hn:0≤n:=by omega
 have h1:(a*b).natAbs≤(m*n).natAbs:=by
  rw [Int.natAbs_mul,Int.natAbs_mul];exact Nat.mul_le_mul (by omega) (by omega)
 have h2:0≤m*n:=Int.mul_nonneg hm hn
 omega
theorem YZ {a b:Int} (ha:sm a=true) (hb:sm b=true): -1000000000000000000≤a*b∧a*b≤1000000000000000000:=by
 have:=Ir (yT.1 ha) (yT.1 hb)
 omega
theorem down {a b:Int} (hb:0<b):(if Int.tmod a b<0 then Int.tdiv a b - 1 else Int.tdiv a b)=a / b∧(if Int.tmod a b<0 then Int.tmod a b+b else Int.tmod a b)=a % b:=by
 have h1:=Int.mul_tdiv_add_tmod a b;have h2:=Int.mul_ediv_add_emod a b;have h3:=Int.emod_nonneg a (by omega:b≠0);have h4:=Int.emod_lt_of_pos a hb
 have h5: -b<Int.tmod a b:=by
  have:=Int.lt_tmod_of_pos a hb
  omega
 have h6:Int.tmod a b<b:=Int.tmod_lt_of_pos a hb
 have key:∀ q r:Int,b*q+r=a→0≤r→r<b→q=a / b∧r=a % b:=by
  intro q r hq hr hl
  have e:r=a % b:=by
   have:a % b=(r+b*q) % b:=by rw [← hq];congr 1;omega
   rw [this,Int.add_mul_emod_self_left,Int.emod_eq_of_lt hr hl]
  refine ⟨?_,e⟩
  have e2:b*q=b*(a / b):=by omega
  exact Int.eq_of_mul_eq_mul_left (by omega) e2
 split
 · refine key _ _ ?_ (by omega) (by omega)
   rw [Int.mul_sub];omega
 · exact key _ _ h1 (by omega) h6
end Nm
end Go.Proofs.YtjbbfmofpjflmaaGreatDoor
