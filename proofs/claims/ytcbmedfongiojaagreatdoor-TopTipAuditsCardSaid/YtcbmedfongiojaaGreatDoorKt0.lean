/- Parts of a proof. -/
import Derived.Lib.Hide
set_option maxHeartbeats 4000000
set_option linter.unusedVariables false
set_option linter.unusedSimpArgs false
namespace Go.Proofs.YtcbmedfongiojaaGreatDoor
namespace M
abbrev uD:ByteArray:=⟨#[98,114,101,97,107]⟩
abbrev Pn:ByteArray:=⟨#[112,108,97,121]⟩
abbrev Po:ByteArray:=⟨#[112,117,115,104]⟩
abbrev Pm:ByteArray:=⟨#[112,97,115,115]⟩
abbrev jg:ByteArray:=⟨#[99,111,110,99,101,100,101]⟩
abbrev lH:ByteArray:=⟨#[115,116,114,97,105,103,104,116]⟩
abbrev zH:ByteArray:=⟨#[101,105,103,104,116]⟩
abbrev xP:ByteArray:=⟨#[110,105,110,101]⟩
structure Dt where
 bC:Int
 kC:Int
 deriving DecidableEq
structure Rules where
 game:ByteArray
 target:Int
 Y8:Int
structure oH where
 jy:Int
 kind:ByteArray
 bC:Int
 kC:Int
 first:Int
 TD:Bool
 aV:List Dt
structure State where
 turn:Int
 brk:Bool
 hand:Bool
 push:Bool
 pushed:Bool
 group:Int
 dX:List Int
 s0:Int
 s1:Int
 f0:Int
 f1:Int
 run:Int
 C9:Int
 over:Bool
 ay:Int
def out (n a b:Int):Bool:=n<a∨b<n
def Yl (n:Nat):List Int:=(List.range n).map fun (i:Nat)=>(i:Int)+1
def afi (g:ByteArray):Nat:=if g=xP then 9 else 15
def Yk (r:Rules):List Int:=Yl (afi r.game)
def start (r:Rules):State:={turn:=0,brk:=true,hand:=false,push:=false,pushed:=false,group:=0,dX:=Yk r,s0:=0,s1:=0,f0:=0,f1:=0,run:=0,C9:=1,over:=false,ay:=0 }
def zero:State:={turn:=0,brk:=false,hand:=false,push:=false,pushed:=false,group:=0,dX:=[],s0:=0,s1:=0,f0:=0,f1:=0,run:=0,C9:=0,over:=false,ay:=0 }
def side (b:Int):Int:=if b<8 then 1 else if 8<b then 2 else 0
def own (s:State):Int:=if s.group=0∨s.turn=0 then s.group else 3 - s.group
def JQ (s:State):List Int:=s.dX.filter fun b=>b≠8∧(s.group=0∨side b=own s)
def targets (r:Rules) (s:State):List Int:=
 if r.game=lH∨(r.game=zH∧s.brk) then s.dX
 else if r.game=xP then s.dX.take 1
 else if JQ s=[]∧(8:Int)∈s.dX then [8] else JQ s
def calls (r:Rules) (x:oH):Bool:=x.kind=Pn∧r.game≠xP
def objects (x:oH):List Int:=(x.aV.map (·.bC)).filter (· ≠0)
def legal (r:Rules) (s:State) (x:oH):Int:=
 if s.over then 1
 else if x.jy≠s.turn∧x.kind≠jg then 2
 else if (s.brk∧x.kind≠uD∧x.kind≠jg)∨(s.brk=false∧x.kind=uD) then 3
 else if (x.kind=Po∧s.push=false)∨(x.kind=Pm∧s.pushed=false) then 4
 else if (calls r x∧x.bC ∉ s.dX)∨(calls r x=false∧x.bC≠0) then 5
 else if x.first≠0∧x.first ∉ s.dX then 6
 else if (objects x).any (fun b=>x.first=0∨b ∉ s.dX) then 7
 else 0
def iC (r:Rules) (s:State) (x:oH):Int:=
 if x.kind=Pm∨x.kind=jg then 0
 else if (objects x).length<x.aV.length then 1
 else if x.first=0 then 2
 else if x.kind=Po then 0
 else if x.first ∉ targets r s then 3
 else if x.TD=false∧x.aV=[] then 4
 else 0
def good (r:Rules) (s:State) (x:oH):Bool:=
 if iC r s x≠0∨x.aV=[] then false
 else if x.kind=uD then r.game≠lH
 else if x.kind≠Pn then false
 else x.aV.any fun p=>p=⟨x.bC,x.kC⟩∨r.game=xP
def stays (r:Rules) (s:State) (x:oH) (b:Int):Bool:=
 (b ∉ objects x)∨(r.game=lH∧good r s x=false)∨(r.game=zH∧b=8∧x.kind=uD)∨(r.game=xP∧b=9∧good r s x=false)
def left (r:Rules) (s:State) (x:oH):List Int:=s.dX.filter (stays r s x)
def sel (p a b:Int):Int:=if p=0 then a else b
def State.score (s:State) (p:Int):Int:=sel p s.s0 s.s1
def State.JX (s:State) (p:Int):Int:=sel p s.f0 s.f1
def State.Az (s:State) (p n:Int):State:=if p=0 then {s with s0:=n } else {s with s1:=n }
def State.Aw (s:State) (p n:Int):State:=if p=0 then {s with f0:=n } else {s with f1:=n }
def calm (r:Rules) (s:State) (x:oH):State:={s with brk:=false,hand:=false,push:=r.game=xP∧x.kind=uD,pushed:=x.kind=Po }
def won (r:Rules) (s:State) (x:oH):Bool:=good r s x∧x.bC=8∧targets r s=[8]
def ended (r:Rules) (s:State) (x:oH) (t:State):State:=
 if r.game=lH∧good r s x∧r.target≤t.score x.jy then {t with over:=true,ay:=x.jy }
 else if r.game=xP∧good r s x∧(9:Int)∈objects x then {t with over:=true,ay:=x.jy }
 else if r.game=zH∧x.kind≠uD∧(8:Int)∈objects x then {t with over:=true,ay:=if won r s x then x.jy else 1 - x.jy }
 else t
def limit (r:Rules) (t:State) (p:Int):State:=
 if r.game≠lH then {t with over:=true,ay:=1 - p }
 else {(t.Az p (t.score p - 15)).Aw p 0 with dX:=Yk r,brk:=true,C9:=t.C9+1 }
def counted (r:Rules) (s:State) (x:oH):State:=
 let t:={calm r s x with dX:=left r s x }
 let n:Int:=(objects x).length
 let t:=if good r s x then {t.Az x.jy (t.score x.jy+n) with run:=t.run+n } else t
 if iC r s x=0 then t.Aw x.jy 0
 else
  let t:={t.Aw x.jy (t.JX x.jy+1) with run:=0 }
  if r.game=lH then t.Az x.jy (t.score x.jy - 1) else t
def passed (r:Rules) (s:State) (x:oH) (t:State):State:={t with turn:=1 - x.jy,run:=0,hand:=iC r s x≠0∧(r.game≠lH∨iC r s x=1) }
def grouped (r:Rules) (s:State) (x:oH) (t:State):State:=
 if r.game=zH∧x.kind=Pn∧s.group=0 then {t with group:=if x.jy=1 then 3 - side x.bC else side x.bC } else t
def RJ (r:Rules) (t:State):State:=if r.game=lH∧t.dX.length≤1 then {t with dX:=Yk r,C9:=t.C9+1 } else t
def play (r:Rules) (s:State) (x:oH):State:=
 let t:=ended r s x (counted r s x)
 if t.over then t
 else if iC r s x≠0∧t.JX x.jy=r.Y8 then limit r t x.jy
 else if good r s x=false then passed r s x t
 else RJ r (grouped r s x t)
def next (r:Rules) (s:State) (x:oH):State:=
 if x.kind=jg then {s with over:=true,ay:=1 - x.jy }
 else if x.kind=Pm then {calm r s x with turn:=1 - x.jy,run:=0 }
 else play r s x
def step (r:Rules) (s:State) (x:oH):State:=if legal r s x=0 then next r s x else s
def final (r:Rules) (s:State) (l:List oH):State:=l.foldl (step r) s
end M
namespace Sk
abbrev aK:ByteArray:=⟨#[115,110,111,111,107,101,114]⟩
abbrev bF:ByteArray:=⟨#[98,105,108,108,105,97,114,100,115]⟩
abbrev fA:ByteArray:=⟨#[99,97,114,111,109]⟩
abbrev gu:ByteArray:=⟨#[114,101,100]⟩
abbrev bV:ByteArray:=⟨#[99,111,108,111,117,114]⟩
abbrev bJ:ByteArray:=⟨#[102,105,110,97,108]⟩
abbrev ru:ByteArray:=⟨#[112,108,97,121]⟩
abbrev dW:ByteArray:=⟨#[115,104,111,116]⟩
abbrev kK:ByteArray:=⟨#[97,103,97,105,110]⟩
abbrev mQ:ByteArray:=⟨#[102,114,101,101]⟩
abbrev jg:ByteArray:=⟨#[99,111,110,99,101,100,101]⟩
abbrev dB:ByteArray:=⟨#[119,104,105,116,101]⟩
abbrev aX:ByteArray:=⟨#[114,101,100]⟩
abbrev dH:ByteArray:=⟨#[121,101,108,108,111,119]⟩
abbrev wH:ByteArray:=⟨#[103,114,101,101,110]⟩
abbrev wG:ByteArray:=⟨#[98,114,111,119,110]⟩
abbrev BZ:ByteArray:=⟨#[98,108,117,101]⟩
abbrev iw:ByteArray:=⟨#[112,105,110,107]⟩
abbrev bf:ByteArray:=⟨#[98,108,97,99,107]⟩
abbrev bQ:ByteArray:=⟨#[]⟩
def dX:List ByteArray:=[dB,aX,dH,wH,wG,BZ,iw,bf]
structure Game where
 kind:ByteArray
 aW:Int
 target:Int
 turns:Int
structure Entry where
 kind:ByteArray
 called:ByteArray
 hits:List ByteArray
 aV:List ByteArray
 dM:Int
structure State where
 turn:Int
 s0:Int
 s1:Int
 brk:Int
 phase:ByteArray
 aW:Int
 colour:Int
 free:Bool
 aO:Bool
 aJ:Int
 t0:Int
 t1:Int
 ay:Int
structure fF where
 points:Int
 iC:Int
 penalty:Int
 stays:Bool
 deriving DecidableEq
def out (n a b:Int):Bool:=n<a∨b<n
def at_ (b:ByteArray):List ByteArray→Int→Int
 | [],_=> -1
 | x::l,n=>if x=b then n else at_ b l (n+1)
def value (b:ByteArray):Int:=at_ b dX 0
def has (l:List ByteArray) (b:ByteArray):Bool:=l.any fun x=>x=b
def score (s:State) (p:Int):Int:=if p=0 then s.s0 else s.s1
def count (l:List ByteArray) (b:ByteArray):Int:=(l.filter (· =b)).length
def bC (n:Int):ByteArray:=dX.getD n.toNat bQ
def fits (g:Game):Bool:=
 if g.kind=aK then out g.aW 1 15=false∧g.target=0∧g.turns=0
 else if g.kind=bF then g.aW=0∧out g.target 1 1000=false∧g.turns=0
 else g.aW=0∧out g.target 1 1000=false∧out g.turns 1 100=false
def jv (k:ByteArray):Bool:=k=aK∨k=bF∨k=fA
def eU (g:Game):Int:=if jv g.kind=false then 13 else if fits g then 0 else 3
def fH (g:Game) (p:ByteArray):Bool:=if g.kind=aK then p=gu∨p=bV∨p=bJ else p=ru
def far (g:Game) (s:State):Bool:=
 out s.turn 0 1∨out s.brk 0 99999∨out s.aW 0 g.aW∨out s.colour 0 7∨out s.aJ 0 5∨out s.ay (-1) 2∨out s.s0 0 99999∨out s.t0 0 g.turns∨out s.s1 0 99999∨out s.t1 0 g.turns
def cZ (s:State):Bool:=(s.free∧s.aO)∨((s.free∨s.aO)∧(s.phase=bV∨0≤s.ay))
def bH (s:State):Bool:=
 if s.aJ≠0∨s.ay=2 then false
 else if s.phase=bJ then s.aW=0∧2≤s.colour
 else s.colour=0∧(s.phase≠gu∨0<s.aW)
def jw (s:State):Bool:=s.colour=0∧s.free=false∧s.aO=false
def bZ (g:Game) (s:State):Bool:=jw s∧s.ay≠2∧(0≤s.ay∨max s.s0 s.s1<g.target)
def lu (g:Game) (s:State):Bool:=
 if jw s=false∨s.aJ≠0 then false
 else if 0≤s.ay then s.t0=s.t1∨(s.turn=1∧s.t0=s.t1+1)
 else if s.turn=1 then s.t0=s.t1+1
 else s.t0=s.t1∧s.t0<g.turns∧max s.s0 s.s1<g.target
def ji (g:Game) (s:State):Bool:=if g.kind=aK then bH s else if g.kind=bF then bZ g s else lu g s
def bW (g:Game) (s:State):Int:=
 if eU g≠0 then eU g
 else if far g s then 3
 else if fH g s.phase=false then 13
 else if score s s.turn<s.brk∨cZ s∨ji g s=false then 19
 else 0
def fM (g:Game) (b:ByteArray) (hit:Bool):Bool:=
 if g.kind=aK then 0<value b∨(b=dB∧hit=false) else b=dB∨b=dH∨b=aX
def isKind (k:ByteArray):Bool:=k=dW∨k=kK∨k=mQ∨k=jg
def jc (g:Game) (e:Entry):Int:=
 if isKind e.kind=false then 13
 else if e.kind≠dW then (if e.called≠bQ∨0<e.hits.length+e.aV.length∨e.dM≠0 then 1 else 0)
 else if 22<e.hits.length∨22<e.aV.length then 5
 else if (e.called≠bQ∧value e.called<2)∨e.hits.any (fun b=>fM g b true=false)∨e.aV.any (fun b=>fM g b false=false) then 10
 else if out e.dM 0 99 then 3
 else if (g.kind≠aK∧e.called≠bQ)∨(g.kind=fA∧0<e.aV.length)∨(g.kind≠fA∧e.dM≠0) then 1
 else 0
def start (g:Game):State:={turn:=0,s0:=0,s1:=0,brk:=0,phase:=if g.kind=aK then gu else ru,aW:=g.aW,colour:=0,free:=false,aO:=false,aJ:=0,t0:=0,t1:=0,ay:= -1 }
def zero:State:={turn:=0,s0:=0,s1:=0,brk:=0,phase:=bQ,aW:=0,colour:=0,free:=false,aO:=false,aJ:=0,t0:=0,t1:=0,ay:=0 }
def callable (s:State) (b:ByteArray):Bool:=
 if s.free=false then false else if s.phase=gu then 2≤value b else s.phase=bJ∧s.colour<value b
def on (s:State):List ByteArray:=
 if s.phase=gu then [aX] else if s.phase=bV then dX.drop 2 else [bC s.colour]
def theirs (s:State):ByteArray:=if s.turn=0 then dH else dB
def own (s:State):ByteArray:=if s.turn=0 then dB else dH
def wanted (s:State) (e:Entry) (b:ByteArray):Bool:=(b=e.called∧e.called≠bQ)∨(s.phase≠bV∧has (on s) b)
def worth (s:State) (e:Entry):Int:=if s.phase=gu then 1 else if s.phase=bV then value e.called else s.colour
def due (s:State) (e:Entry):ByteArray:=if e.called=bQ then (on s).headD bQ else e.called
def dw (s:State) (e:Entry):Int:=
 if e.hits=[] then 1
 else if e.hits.headD bQ≠due s e then 2
 else if has e.aV dB then 3
 else if e.aV.any (fun b=>wanted s e b=false) then 4
 else 0
def most (s:State) (e:Entry) (m:Int):List ByteArray→Int
 | []=>m
 | b::l=>most s e (if wanted s e b then m else max m (value b)) l
def called (e:Entry):Bool:=e.called≠bQ∧has e.aV e.called
def aF (s:State) (e:Entry):Int:=
 if s.phase=gu then count e.aV aX+(if called e then 1 else 0)
 else if called e∨(has e.aV ((on s).headD bQ)∧s.phase=bJ) then worth s e else 0
def dQ (s:State) (e:Entry):fF:=
 if 0<dw s e then
  ⟨0,dw s e,most s e (if dw s e=2 then max (max 4 (worth s e)) (value (e.hits.headD bQ)) else max 4 (worth s e)) e.aV,false⟩
 else ⟨aF s e,0,0,0<aF s e⟩
def jf (s:State) (e:Entry):Bool:=has e.hits (theirs s)∧has e.hits aX
def rD (s:State) (e:Entry) (m:Int):List ByteArray→Int
 | []=>m
 | b::l=>rD s e (m+(if b=aX∨(b=own s∧e.hits.headD bQ=aX) then 3 else 2)) l
def fP (s:State) (e:Entry):Int:=rD s e (if jf s e then 2 else 0) e.aV
def dZ (s:State) (e:Entry):fF:=
 if e.hits=[] then ⟨0,1,2,false⟩
 else if e.aV≠[]∧jf s e=false∧s.aJ=5 then ⟨0,5,2,false⟩
 else ⟨fP s e,0,0,0<fP s e⟩
def iG (s:State) (e:Entry):fF:=if jf s e∧3≤e.dM then ⟨1,0,0,true⟩ else ⟨0,0,0,false⟩
def judge (g:Game) (s:State) (e:Entry):fF:=if g.kind=aK then dQ s e else if g.kind=bF then dZ s e else iG s e
def pass (s:State):State:={s with turn:=1 - s.turn,brk:=0,aJ:=0 }
def leader (s:State):Int:=if s.s1<s.s0 then 0 else if s.s0<s.s1 then 1 else 2
def bg (s:State) (e:Entry) (v:fF):State:=
 if s.phase≠bJ then
  if s.phase=gu∧v.stays then {s with aW:=s.aW - count e.aV aX,phase:=bV }
  else if 0<s.aW - count e.aV aX then {s with aW:=s.aW - count e.aV aX,phase:=gu }
  else {s with aW:=s.aW - count e.aV aX,phase:=bJ,colour:=2 }
 else
  let r:=s.aW - count e.aV aX
  let aY:Bool:=v.iC=0∧has e.aV (bC s.colour)
  if s.colour<7 then (if aY then {s with aW:=r,colour:=s.colour+1 } else {s with aW:=r })
  else if v.iC=0∧aY=false then {s with aW:=r }
  else if leader s<2 then {s with aW:=r,ay:=leader s,aO:=false }
  else if aY then pass {s with aW:=r } else {s with aW:=r }
def dD (g:Game) (s:State) (e:Entry) (v:fF):State:=
 let jy:=if v.stays then s.turn else 1 - s.turn
 let k:=if v.stays∧jf {zero with turn:=jy } e then 0 else if v.stays then s.aJ+1 else s.aJ
 {s with aJ:=k,ay:=if g.target≤max s.s0 s.s1 then leader s else s.ay }
def lW (s:State) (p:Int):State:=if p=0 then {s with t0:=s.t0+1 } else {s with t1:=s.t1+1 }
def jC (g:Game) (s:State) (p:Int):State:=
 if p=1∧(g.target≤max (lW s p).s0 (lW s p).s1∨(lW s p).t1=g.turns) then {lW s p with ay:=leader (lW s p) } else lW s p
def dL (g:Game) (s:State) (v:fF):State:=
 if v.stays=false then jC g s (1 - s.turn)
 else if score s s.turn<g.target then s
 else jC g (pass s) s.turn
def after (g:Game) (s:State) (e:Entry) (v:fF):State:=if g.kind=aK then bg s e v else if g.kind=bF then dD g s e v else dL g s v
def jm (g:Game) (s:State) (v:fF):State:=
 {s with free:=false,aO:=g.kind=aK∧0<v.iC,s0:=s.s0+(if s.turn=0 then v.points else v.penalty),s1:=s.s1+(if s.turn=0 then v.penalty else v.points),brk:=s.brk+v.points }
def rE (g:Game) (s:State) (e:Entry):State:=
 after g (if (judge g s e).stays then jm g s (judge g s e) else pass (jm g s (judge g s e))) e (judge g s e)
def next (g:Game) (s:State) (e:Entry):State:=
 if e.kind=dW then rE g s e
 else if e.kind=kK then pass {s with aO:=false,free:=false }
 else if e.kind=mQ then {s with aO:=false,free:=true }
 else if e.kind=jg then {s with aO:=false,free:=false,ay:=1 - s.turn }
 else {s with aO:=false,free:=false }
def twice (l:List ByteArray):List ByteArray→Bool
 | []=>false
 | b::r=>1<count l b∨twice l r
def gone (s:State) (b:ByteArray):Bool:=s.phase=bJ∧2≤value b∧value b<s.colour
def eu (s:State) (e:Entry):Bool:=
 if s.aW<count e.aV aX∨(s.aW=0∧has e.hits aX) then false
 else if twice e.aV (dX.filter (· ≠aX)) then false
 else e.hits.any (gone s)=false∧e.aV.any (gone s)=false
def pW (s:State) (e:Entry):Bool:=if twice e.aV [dB,dH,aX] then false else has e.hits (own s)=false
def iY (g:Game) (s:State) (e:Entry):Bool:=if g.kind=aK then eu s e else pW s e
def eF (g:Game) (s:State) (e:Entry):Bool:=
 if e.kind≠dW∨g.kind≠aK then true
 else if s.phase=bV then e.called≠bQ
 else e.called=bQ∨callable s e.called
def legal (g:Game) (s:State) (e:Entry):Int:=
 if 0≤s.ay then 1
 else if s.aO=false∧(e.kind=kK∨e.kind=mQ) then 2
 else if eF g s e=false then 3
 else if e.kind=dW∧iY g s e=false then 4
 else if e.kind=dW∧99999<max (next g s e).s0 (next g s e).s1 then 5
 else 0
def jL (c:Int):Nat→Int
 | 0=>0
 | k+1=>c+jL (c+1) k
def left (s:State):Int:=
 if 0≤s.ay then 0
 else if s.phase=gu then 8*s.aW+27+(if s.free then 8 else 0)
 else if s.phase=bV then 8*s.aW+27+7
 else jL s.colour (8 - s.colour).toNat+(if s.free∧s.colour<7 then s.colour else 0)
def needed (s:State) (p:Int):Int:=max 0 ((score s (1 - p) - score s p - left s+4 - 1).tdiv 4)
end Sk
namespace Sk
theorem vU {n a b:Int}:out n a b=false↔a≤n∧n≤b:=by unfold out;simp
theorem Jg {n a b:Int} (h:out n a b=false):a≤n∧n≤b:=vU.1 h
structure WH (g:Game) (s:State):Prop where
 turn:s.turn=0∨s.turn=1
 brk:0≤s.brk∧s.brk≤99999
 aW:0≤s.aW∧s.aW≤g.aW
 colour:0≤s.colour∧s.colour≤7
 aJ:0≤s.aJ∧s.aJ≤5
 ay: -1≤s.ay∧s.ay≤2
 s0:0≤s.s0∧s.s0≤99999
 s1:0≤s.s1∧s.s1≤99999
 t0:0≤s.t0∧s.t0≤g.turns
 t1:0≤s.t1∧s.t1≤g.turns
theorem DL {g:Game} {s:State}:far g s=false↔WH g s:=by
 unfold far
 simp only [decide_eq_false_iff_not,not_or,Bool.not_eq_true,vU]
 constructor
 · rintro ⟨h1,h2,h3,h4,h5,h6,h7,h8,h9,h10⟩
   exact ⟨by omega,h2,h3,h4,h5,h6,h7,h9,h8,h10⟩
 · intro h
   exact ⟨by have:=h.turn;omega,h.brk,h.aW,h.colour,h.aJ,h.ay,h.s0,h.t0,h.s1,h.t1⟩
structure Ok (g:Game) (s:State):Prop where
 game:eU g=0
 inr:WH g s
 phase:fH g s.phase=true
 brk:s.brk≤score s s.turn
 iC:cZ s=false
 st:ji g s=true
theorem kL {g:Game} {s:State}:bW g s=0↔Ok g s:=by
 unfold bW
 constructor
 · intro h
   by_cases h1:eU g=0
   · rw [if_neg (by simp [h1])] at h
     by_cases h2:far g s=false
     · rw [if_neg (by simp [h2])] at h
       by_cases h3:fH g s.phase=true
       · rw [if_neg (by simp [h3])] at h
         by_cases h4:score s s.turn<s.brk∨cZ s=true∨ji g s=false
         · rw [if_pos h4] at h;cases h
         · simp only [not_or,Bool.not_eq_true,Bool.not_eq_false,Int.not_lt] at h4
           exact ⟨h1,DL.1 h2,h3,h4.1,h4.2.1,h4.2.2⟩
       · rw [if_pos (by simpa using h3)] at h;cases h
     · rw [if_pos (by simpa using h2)] at h;cases h
   · rw [if_pos h1] at h;exact absurd h h1
 · intro h
   rw [if_neg (by simp [h.game]),if_neg (by simp [DL.2 h.inr]),if_neg (by simp [h.phase]),if_neg (by simp only [h.iC,h.st];have:=h.brk;simp;omega)]
theorem TA {g:Game} (h:eU g=0):jv g.kind=true∧fits g=true:=by
 unfold eU at h
 cases h1:jv g.kind
 · rw [h1] at h;simp at h
 · rw [h1] at h;simp at h;exact ⟨rfl,h⟩
theorem gW {g:Game} (h:eU g=0):(g.kind=aK∧(1≤g.aW∧g.aW≤15)∧g.target=0∧g.turns=0)∨(g.kind=bF∧g.aW=0∧(1≤g.target∧g.target≤1000)∧g.turns=0)∨(g.kind=fA∧g.aW=0∧(1≤g.target∧g.target≤1000)∧1≤g.turns∧g.turns≤100):=by
 obtain ⟨h1,h2⟩:=TA h
 unfold fits at h2
 unfold jv at h1
 simp only [decide_eq_true_eq] at h1
 have n1:bF≠aK:=by decide
 have n2:fA≠aK:=by decide
 have n3:fA≠bF:=by decide
 rcases h1 with h1 | h1 | h1
 · rw [if_pos h1] at h2
   simp only [decide_eq_true_eq,vU] at h2
   exact .inl ⟨h1,h2.1,h2.2.1,h2.2.2⟩
 · rw [if_neg (by rw [h1];exact n1),if_pos h1] at h2
   simp only [decide_eq_true_eq,vU] at h2
   exact .inr (.inl ⟨h1,h2.1,h2.2.1,h2.2.2⟩)
 · rw [if_neg (by rw [h1];exact n2),if_neg (by rw [h1];exact n3)] at h2
   simp only [decide_eq_true_eq,vU] at h2
   exact .inr (.inr ⟨h1,h2.1,h2.2.1,h2.2.2⟩)
theorem pI:bF≠aK:=by decide
theorem nN:fA≠aK:=by decide
theorem qI:fA≠bF:=by decide
theorem fQ:bV≠gu:=by decide
theorem eG:bJ≠gu:=by decide
theorem fJ:bJ≠bV:=by decide
theorem Gm:ru≠bV:=by decide
theorem uV (l:List ByteArray) (b:ByteArray):0≤count l b:=by unfold count;omega
theorem nG:∀ b, -1≤value b∧value b≤7:=by
 intro b
 unfold value dX at_ at_ at_ at_ at_ at_ at_ at_ at_
 repeat' split
 all_goals omega
theorem Ky (s:State) (e:Entry):∀ (l:List ByteArray) (m:Int),m≤most s e m l
 | [],m=>Int.le_refl _
 | b::l,m=>by
   rw [most];refine Int.le_trans ?_ (Ky s e l _)
   split <;> omega
theorem Ed (s:State) (e:Entry):∀ (l:List ByteArray) (m:Int),m≤7→most s e m l≤7
 | [],m,h=>h
 | b::l,m,h=>by
   rw [most];refine Ed s e l _ ?_
   have:=(nG b).2
   split <;> omega
theorem G8 {s:State} {e:Entry} (h:s.colour≤7):worth s e≤7:=by
 unfold worth
 have:=(nG e.called).2
 repeat' split
 all_goals omega
structure Y6 (g:Game) (v:fF):Prop where
 points:0≤v.points
 penalty:0≤v.penalty
 iC:0≤v.iC
 both:0<v.iC↔0<v.penalty
 none_:0<v.iC→v.points=0∧v.stays=false
 stays:v.stays=decide (0<v.points)
 arx:g.kind=aK→0<v.iC→4≤v.penalty∧v.penalty≤7
 zero:v.iC=0→v.penalty=0
theorem AL (s:State) (e:Entry):0≤dw s e:=by unfold dw;repeat' split;all_goals omega
theorem SK {g:Game} {s:State} {e:Entry} (h:0≤s.colour) (hc:s.phase=bV→0≤value e.called):0≤worth s e:=by
 unfold worth
 repeat' split
 · omega
 · rename_i h1;exact hc h1
 · exact h
theorem Gq (s:State) (e:Entry):∀ (l:List ByteArray) (m:Int),m≤rD s e m l
 | [],m=>Int.le_refl _
 | b::l,m=>by
   rw [rD];refine Int.le_trans ?_ (Gq s e l _)
   split <;> omega
end Sk
namespace Sk
theorem vI (g:Game) (s:State) (e:Entry) (hc:0≤s.colour∧s.colour≤7) (hw:g.kind=aK→s.phase=bV→0≤value e.called):Y6 g (judge g s e):=by
 unfold judge
 split
 · rename_i hg
   unfold dQ
   have h0:=AL s e
   split
   · rename_i hf
     have h1:=Ky s e e.aV (if dw s e=2 then max (max 4 (worth s e)) (value (e.hits.headD bQ)) else max 4 (worth s e))
     have h2:=Ed s e e.aV (if dw s e=2 then max (max 4 (worth s e)) (value (e.hits.headD bQ)) else max 4 (worth s e)) (by
      have:=G8 (e:=e) hc.2
      have:=(nG (e.hits.headD bQ)).2
      split <;> omega)
     have h3:4≤(if dw s e=2 then max (max 4 (worth s e)) (value (e.hits.headD bQ)) else max 4 (worth s e)):=by split <;> omega
     obtain ⟨m0,hm0⟩:∃ m,(if dw s e=2 then max (max 4 (worth s e)) (value (e.hits.headD bQ)) else max 4 (worth s e))=m:=⟨_,rfl⟩;rw [hm0] at h1 h2 h3 ⊢;obtain ⟨m,hm⟩:∃ m,most s e m0 e.aV=m:=⟨_,rfl⟩;obtain ⟨f,YL⟩:∃ f,dw s e=f:=⟨_,rfl⟩;rw [hm] at h1 h2 ⊢;rw [YL] at hf h0 ⊢;exact ⟨Int.le_refl _,by show 0≤m;omega,h0,by show 0<f↔0<m;omega,fun _=>⟨rfl,rfl⟩,by simp,fun _ _=>⟨by show 4≤m;omega,h2⟩,fun h=>by have h:f=0:=h;omega⟩
   · have hp:0≤aF s e:=by
      unfold aF
      have:=uV e.aV aX
      have:=SK (g:=g) (e:=e) hc.1 (hw hg)
      repeat' split
      all_goals omega
     exact ⟨hp,by simp,by simp,by simp,fun h=>absurd h (by simp),by simp,fun _ h=>absurd h (by simp),fun _=>rfl⟩
 · rename_i hg
   split
   · rename_i hg2
     unfold dZ
     split
     · exact ⟨by simp,by simp,by simp,by simp,fun _=>⟨rfl,rfl⟩,by simp,fun h=>absurd h hg,fun h=>absurd h (by simp)⟩
     · split
       · exact ⟨by simp,by simp,by simp,by simp,fun _=>⟨rfl,rfl⟩,by simp,fun h=>absurd h hg,fun h=>absurd h (by simp)⟩
       · have hp:0≤fP s e:=by
          unfold fP
          refine Int.le_trans ?_ (Gq s e e.aV _)
          split <;> omega
         exact ⟨hp,by simp,by simp,by simp,fun h=>absurd h (by simp),by simp,fun h=>absurd h hg,fun _=>rfl⟩
   · unfold iG
     split
     · exact ⟨by simp,by simp,by simp,by simp,fun h=>absurd h (by simp),by simp,fun h=>absurd h hg,fun _=>rfl⟩
     · exact ⟨by simp,by simp,by simp,by simp,fun h=>absurd h (by simp),by simp,fun h=>absurd h hg,fun _=>rfl⟩
structure Lawful (g:Game) (s:State) (e:Entry):Prop where
 ay:s.ay<0
 aO:e.kind=kK∨e.kind=mQ→s.aO=true
 call:eF g s e=true
 dX:e.kind=dW→iY g s e=true
 most:e.kind=dW→max (next g s e).s0 (next g s e).s1≤99999
theorem oq {g:Game} {s:State} {e:Entry}:legal g s e=0↔Lawful g s e:=by
 unfold legal
 constructor
 · intro h
   by_cases h1:0≤s.ay
   · rw [if_pos h1] at h;cases h
   rw [if_neg h1] at h
   by_cases h2:s.aO=false∧(e.kind=kK∨e.kind=mQ)
   · rw [if_pos h2] at h;cases h
   rw [if_neg h2] at h
   by_cases h3:eF g s e=false
   · rw [if_pos h3] at h;cases h
   rw [if_neg h3] at h
   by_cases h4:e.kind=dW∧iY g s e=false
   · rw [if_pos h4] at h;cases h
   rw [if_neg h4] at h
   by_cases h5:e.kind=dW∧99999<max (next g s e).s0 (next g s e).s1
   · rw [if_pos h5] at h;cases h
   refine ⟨by omega,fun hk=>?_,by simpa using h3,fun hk=>?_,fun hk=>?_⟩
   · cases hf:s.aO
     · exact absurd ⟨hf,hk⟩ h2
     · rfl
   · cases hb:iY g s e
     · exact absurd ⟨hk,hb⟩ h4
     · rfl
   · exact Int.not_lt.1 (fun hx=>h5 ⟨hk,hx⟩)
 · intro h
   rw [if_neg (by have:=h.ay;omega),if_neg (fun hx=>by have:=h.aO hx.2;rw [hx.1] at this;cases this),if_neg (by rw [h.call];decide),if_neg (fun hx=>by rw [h.dX hx.1] at hx;exact absurd hx.2 (by decide)),
    if_neg (fun hx=>by have:=h.most hx.1;omega)]
theorem jV {s:State} (h1:s.free=false) (h2:s.aO=false):cZ s=false:=by unfold cZ;simp [h1,h2]
theorem wY {s:State}:jw s=true↔s.colour=0∧s.free=false∧s.aO=false:=by unfold jw;simp
theorem jq {s:State}:bH s=true↔s.aJ=0∧s.ay≠2∧(s.phase=bJ→s.aW=0∧2≤s.colour)∧(s.phase≠bJ→s.colour=0∧(s.phase≠gu∨0<s.aW)):=by
 unfold bH
 constructor
 · intro h
   by_cases h1:s.aJ≠0∨s.ay=2
   · rw [if_pos h1] at h;cases h
   · rw [if_neg h1] at h
     by_cases h2:s.phase=bJ
     · rw [if_pos h2] at h
       simp only [decide_eq_true_eq] at h
       exact ⟨by omega,by omega,fun _=>h,fun h3=>absurd h2 h3⟩
     · rw [if_neg h2] at h
       simp only [decide_eq_true_eq] at h
       exact ⟨by omega,by omega,fun h3=>absurd h3 h2,fun _=>h⟩
 · rintro ⟨h1,h2,h3,h4⟩
   rw [if_neg (by omega)]
   by_cases h5:s.phase=bJ
   · rw [if_pos h5];simpa using h3 h5
   · rw [if_neg h5];simpa using h4 h5
theorem mO {g:Game} {s:State}:bZ g s=true↔(s.colour=0∧s.free=false∧s.aO=false)∧s.ay≠2∧(0≤s.ay∨max s.s0 s.s1<g.target):=by
 unfold bZ
 simp only [decide_eq_true_eq,wY]
theorem jD {g:Game} {s:State}:lu g s=true↔(s.colour=0∧s.free=false∧s.aO=false)∧s.aJ=0∧(0≤s.ay→s.t0=s.t1∨(s.turn=1∧s.t0=s.t1+1))∧(s.ay<0→(s.turn=1→s.t0=s.t1+1)∧(s.turn≠1→s.t0=s.t1∧s.t0<g.turns∧max s.s0 s.s1<g.target)):=by
 unfold lu
 constructor
 · intro h
   by_cases h1:jw s=false∨s.aJ≠0
   · rw [if_pos h1] at h;cases h
   · rw [if_neg h1] at h
     simp only [not_or,Bool.not_eq_false,Decidable.not_not] at h1
     refine ⟨wY.1 h1.1,h1.2,fun h2=>?_,fun h2=>⟨fun h3=>?_,fun h3=>?_⟩⟩
     · rw [if_pos h2] at h;simpa using h
     · rw [if_neg (by omega),if_pos h3] at h;simpa using h
     · rw [if_neg (by omega),if_neg h3] at h;simpa using h
 · rintro ⟨h1,h2,h3,h4⟩
   rw [if_neg (by rw [wY.2 h1];simp [h2])]
   by_cases h5:0≤s.ay
   · rw [if_pos h5];simpa using h3 h5
   · rw [if_neg h5]
     by_cases h6:s.turn=1
     · rw [if_pos h6];simpa using (h4 (by omega)).1 h6
     · rw [if_neg h6];simpa using (h4 (by omega)).2 h6
theorem ny {g:Game} (h:g.kind=aK) {p:ByteArray}:fH g p=true↔p=gu∨p=bV∨p=bJ:=by unfold fH;rw [if_pos h];simp
theorem rQ {g:Game} (h:g.kind≠aK) {p:ByteArray}:fH g p=true↔p=ru:=by unfold fH;rw [if_neg h];simp
theorem lV {g:Game} (h:g.kind=aK) (s:State):ji g s=bH s:=by unfold ji;rw [if_pos h]
theorem qW {g:Game} (h:g.kind=bF) (s:State):ji g s=bZ g s:=by unfold ji;rw [if_neg (by rw [h];exact pI),if_pos h]
theorem kW {g:Game} (h:g.kind=fA) (s:State):ji g s=lu g s:=by unfold ji;rw [if_neg (by rw [h];exact nN),if_neg (by rw [h];exact qI)]
theorem vk {s:State}:cZ s=false↔¬ (s.free=true∧s.aO=true)∧(s.free=true∨s.aO=true→s.phase≠bV∧s.ay<0):=by
 unfold cZ
 simp only [decide_eq_false_iff_not,not_or]
 constructor
 · rintro ⟨h1,h2⟩
   exact ⟨h1,fun h3=>⟨fun h4=>h2 ⟨h3,.inl h4⟩,Int.not_le.1 (fun h4=>h2 ⟨h3,.inr h4⟩)⟩⟩
 · rintro ⟨h1,h2⟩
   exact ⟨h1,fun h3=>h3.2.elim (h2 h3.1).1 (by have:=(h2 h3.1).2;omega)⟩
theorem PS {g:Game} {s:State} {e:Entry} (h:Ok g s) (hl:Lawful g s e) (hk:e.kind≠dW):Ok g (next g s e):=by
 have hw:=hl.ay;obtain ⟨r1,r2,r3,r4,r5,r6,r7,r8,r9,r10⟩:=h.inr;have hf:=vk.1 h.iC;have hb:=h.brk
 have n1:mQ≠kK:=by decide
 have n2:jg≠kK:=by decide
 have n3:jg≠mQ:=by decide
 unfold next
 rw [if_neg hk]
 split
 · rename_i h1
   have hfo:=hl.aO (.inl h1);refine ⟨h.game,⟨by show 1 - s.turn=0∨1 - s.turn=1;omega,by show 0≤(0:Int)∧(0:Int)≤99999;omega,r3,r4,by show 0≤(0:Int)∧(0:Int)≤5;omega,r6,r7,r8,r9,r10⟩,h.phase,?_,jV rfl rfl,?_⟩
   · show (0:Int)≤score _ _
     unfold score pass
     split <;> simp <;> omega
   · rcases gW h.game with ⟨hg,_⟩ | ⟨hg,_⟩ | ⟨hg,_⟩
     · have hs:=h.st
       rw [lV hg] at hs ⊢;obtain ⟨a,b,c,d⟩:=jq.1 hs;exact jq.2 ⟨rfl,b,c,d⟩
     · have hs:=h.st
       rw [qW hg] at hs
       have:=(mO.1 hs).1.2.2
       rw [this] at hfo;cases hfo
     · have hs:=h.st
       rw [kW hg] at hs
       have:=(jD.1 hs).1.2.2
       rw [this] at hfo;cases hfo
 · split
   · rename_i h1
     have hfo:=hl.aO (.inr h1);have uz:=hf.2 (.inr hfo);refine ⟨h.game,⟨r1,r2,r3,r4,r5,r6,r7,r8,r9,r10⟩,h.phase,hb,vk.2 ⟨by simp,fun _=>⟨uz.1,hw⟩⟩,?_⟩
     rcases gW h.game with ⟨hg,_⟩ | ⟨hg,_⟩ | ⟨hg,_⟩
     · have hs:=h.st
       rw [lV hg] at hs ⊢;obtain ⟨a,b,c,d⟩:=jq.1 hs;exact jq.2 ⟨a,b,c,d⟩
     · have hs:=h.st
       rw [qW hg] at hs
       have:=(mO.1 hs).1.2.2
       rw [this] at hfo;cases hfo
     · have hs:=h.st
       rw [kW hg] at hs
       have:=(jD.1 hs).1.2.2
       rw [this] at hfo;cases hfo
   · have key:∀ w:Int,(w=s.ay∨w=1 - s.turn)→Ok g {s with aO:=false,free:=false,ay:=w }:=by
      intro w hw2
      have hw3: -1≤w∧w≤1:=by omega
      refine ⟨h.game,⟨r1,r2,r3,r4,r5,⟨hw3.1,by show w≤2;omega⟩,r7,r8,r9,r10⟩,h.phase,hb,jV rfl rfl,?_⟩
      rcases gW h.game with ⟨hg,_⟩ | ⟨hg,_⟩ | ⟨hg,_⟩
      · have hs:=h.st
        rw [lV hg] at hs ⊢;obtain ⟨a,b,c,d⟩:=jq.1 hs;exact jq.2 ⟨a,by show w≠2;omega,c,d⟩
      · have hs:=h.st
        rw [qW hg] at hs ⊢;obtain ⟨a,b,c⟩:=mO.1 hs;exact mO.2 ⟨⟨a.1,rfl,rfl⟩,by show w≠2;omega,by show 0≤w∨max s.s0 s.s1<g.target;omega⟩
      · have hs:=h.st
        rw [kW hg] at hs ⊢;obtain ⟨a,b,c,d⟩:=jD.1 hs;have d:=d hw;refine jD.2 ⟨⟨a.1,rfl,rfl⟩,b,fun _=>?_,fun hw4=>d⟩
        show s.t0=s.t1∨(s.turn=1∧s.t0=s.t1+1)
        by_cases h1:s.turn=1
        · exact .inr ⟨h1,d.1 h1⟩
        · exact .inl (d.2 h1).1
     split
     · exact key _ (.inr rfl)
     · exact key s.ay (.inl rfl)
end Sk
namespace Sk
theorem Ii {g:Game} {e:Entry} (h:jc g e=0) (hk:e.kind=dW) (hc:e.called≠bQ):2≤value e.called:=by
 unfold jc at h
 by_cases h1:isKind e.kind=false
 · rw [if_pos h1] at h;cases h
 rw [if_neg h1,if_neg (by simp [hk])] at h
 by_cases h2:22<e.hits.length∨22<e.aV.length
 · rw [if_pos h2] at h;cases h
 rw [if_neg h2] at h
 by_cases h3:(e.called≠bQ∧value e.called<2)∨e.hits.any (fun b=>fM g b true=false)=true∨e.aV.any (fun b=>fM g b false=false)=true
 · rw [if_pos h3] at h;cases h
 · simp only [not_or] at h3
   exact Int.not_lt.1 (fun hx=>h3.1 ⟨hc,hx⟩)
theorem qF {g:Game} {s:State} {e:Entry} (h:jc g e=0) (hk:e.kind=dW) (hl:eF g s e=true) (hg:g.kind=aK) (hp:s.phase=bV):2≤value e.called:=by
 refine Ii h hk ?_
 unfold eF at hl
 rw [if_neg (by simp [hk,hg]),if_pos hp] at hl
 simpa using hl
theorem uS (g:Game) (s:State) (e:Entry) (v:fF):(after g s e v).s0=s.s0∧(after g s e v).s1=s.s1:=by
 unfold after
 split
 · unfold bg
   dsimp only
   repeat' split
   all_goals exact ⟨rfl,rfl⟩
 · split
   · exact ⟨rfl,rfl⟩
   · unfold dL
     have hc:∀ (s:State) (p:Int),(jC g s p).s0=s.s0∧(jC g s p).s1=s.s1:=by
      intro s p
      unfold jC lW
      repeat' split
      all_goals exact ⟨rfl,rfl⟩
     repeat' split
     · exact hc _ _
     · exact ⟨rfl,rfl⟩
     · exact hc _ _
theorem rM {g:Game} {s:State} {e:Entry} (hk:e.kind=dW):(next g s e).s0=s.s0+(if s.turn=0 then (judge g s e).points else (judge g s e).penalty)∧(next g s e).s1=s.s1+(if s.turn=0 then (judge g s e).penalty else (judge g s e).points):=by
 unfold next
 rw [if_pos hk]
 unfold rE
 have h:=uS g (if (judge g s e).stays then jm g s (judge g s e) else pass (jm g s (judge g s e))) e (judge g s e);rw [h.1,h.2]
 split <;> exact ⟨rfl,rfl⟩
def mid (g:Game) (s:State) (v:fF):State:=if v.stays then jm g s v else pass (jm g s v)
theorem vS {g:Game} {s:State} {e:Entry} (hk:e.kind=dW):next g s e=after g (mid g s (judge g s e)) e (judge g s e):=by
 unfold next mid
 rw [if_pos hk]
 rfl
structure Mid (g:Game) (s m:State) (v:fF):Prop where
 turn:m.turn=if v.stays then s.turn else 1 - s.turn
 brk:0≤m.brk∧m.brk≤score m m.turn
 phase:m.phase=s.phase
 aW:m.aW=s.aW
 colour:m.colour=s.colour
 free:m.free=false
 aO:m.aO=decide (g.kind=aK∧0<v.iC)
 aJ:m.aJ=if v.stays then s.aJ else 0
 t0:m.t0=s.t0
 t1:m.t1=s.t1
 ay:m.ay=s.ay
 s0:m.s0=s.s0+(if s.turn=0 then v.points else v.penalty)
 s1:m.s1=s.s1+(if s.turn=0 then v.penalty else v.points)
theorem Ja {g:Game} {s:State} {v:fF} (h:Ok g s) (hv:Y6 g v):Mid g s (mid g s v) v:=by
 have hb:=h.brk;have h1:=hv.points;have h2:=hv.penalty;have h3:=h.inr.brk;have h4:=h.inr.s0;have h5:=h.inr.s1;have ht:=h.inr.turn
 unfold mid
 cases hs:v.stays
 · refine ⟨by rw [hs];rfl,⟨Int.le_refl _,?_⟩,rfl,rfl,rfl,rfl,rfl,by rw [hs];rfl,rfl,rfl,rfl,rfl,rfl⟩
   show (0:Int)≤score (pass (jm g s v)) (1 - s.turn)
   unfold score pass jm
   dsimp only
   repeat' split
   all_goals omega
 · refine ⟨by rw [hs];rfl,⟨?_,?_⟩,rfl,rfl,rfl,rfl,rfl,by rw [hs];rfl,rfl,rfl,rfl,rfl,rfl⟩
   · show 0≤s.brk+v.points
     omega
   · show s.brk+v.points≤score (jm g s v) s.turn
     unfold score jm
     unfold score at hb
     dsimp only
     by_cases h0:s.turn=0
     · rw [if_pos h0] at hb ⊢;rw [if_pos h0];omega
     · rw [if_neg h0] at hb ⊢;rw [if_neg h0];omega
theorem wX (s:State):0≤leader s∧leader s≤2:=by unfold leader;repeat' split;all_goals omega
theorem rY {s:State} {e:Entry} (h:eu s e=true):count e.aV aX≤s.aW∧(s.aW=0→has e.hits aX=false)∧twice e.aV (dX.filter (· ≠aX))=false∧e.hits.any (gone s)=false∧e.aV.any (gone s)=false:=by
 unfold eu at h
 by_cases h1:s.aW<count e.aV aX∨(s.aW=0∧has e.hits aX=true)
 · rw [if_pos h1] at h;cases h
 · rw [if_neg h1] at h
   simp only [not_or,Int.not_lt] at h1
   by_cases h2:twice e.aV (dX.filter (· ≠aX))=true
   · rw [if_pos h2] at h;cases h
   · rw [if_neg h2] at h
     simp only [decide_eq_true_eq] at h
     refine ⟨h1.1,fun h3=>?_,by simpa using h2,h.1,h.2⟩
     cases h4:has e.hits aX
     · rfl
     · exact absurd ⟨h3,h4⟩ h1.2
theorem nU {s:State} {e:Entry} (hp:s.phase=bJ) (hc:2≤s.colour):(0<aF s e↔called e=true∨has e.aV (bC s.colour)=true):=by
 have e1:on s=[bC s.colour]:=by unfold on;rw [if_neg (by rw [hp];exact eG),if_neg (by rw [hp];exact fJ)]
 unfold aF worth
 rw [if_neg (by rw [hp];exact eG),e1]
 simp only [List.headD_cons,hp,and_true]
 rw [if_neg eG,if_neg fJ]
 split
 · rename_i h;exact ⟨fun _=>h,fun _=>by omega⟩
 · rename_i h;exact ⟨fun hx=>by omega,fun hx=>absurd hx h⟩
theorem Sl {g:Game} {s m:State} {e:Entry} {v:fF} (h:Ok g s) (hv:Y6 g v) (hvj:v=dQ s e) (hw:s.ay<0) (hb:eu s e=true) (hg:g.kind=aK) (hm:Mid g s m v) (hsc:max m.s0 m.s1≤99999):Ok g (bg m e v):=by
 obtain ⟨r1,r2,r3,r4,r5,r6,r7,r8,r9,r10⟩:=h.inr;have hs:=h.st;rw [lV hg] at hs;obtain ⟨a,b,c,d⟩:=jq.1 hs;obtain ⟨m1,m2,m3,m4,m5,m6,m7,m8,m9,m10,m11,m12,m13⟩:=hm;obtain ⟨b1,b2,b3,b4,b5⟩:=rY hb;have hcnt:=uV e.aV aX;have p1:=hv.points;have p2:=hv.penalty
 have hst:v.stays=true→v.iC=0:=fun hx=>by
  have:=hv.none_
  rcases Int.lt_or_le 0 v.iC with h1 | h1
  · rw [(this h1).2] at hx;cases hx
  · have:=hv.iC;omega
 have htn:m.turn=0∨m.turn=1:=by rw [m1];split <;> omega
 have hmf:m.aO=decide (0<v.iC):=by rw [m7];simp [hg]
 have hmw:m.ay= -1:=by omega
 have hms:m.aJ=0:=by rw [m8];split <;> omega
 have g0:0≤m.s0:=by rw [m12];split <;> omega
 have g1:0≤m.s1:=by rw [m13];split <;> omega
 have hbk:m.brk≤99999:=by have:=m2.2;unfold score at this;split at this <;> omega
 have hR:WH g m:=⟨htn,⟨m2.1,hbk⟩,by rw [m4];exact r3,by rw [m5];exact r4,by omega,by omega,by omega,by omega,by rw [m9];exact r9,by rw [m10];exact r10⟩
 -- the same but for aW,phase,colour
 have key:∀ (rd cl:Int) (ph:ByteArray) (w:Int) (fo:Bool),0≤rd→rd≤g.aW→0≤cl→cl≤7→(ph=gu∨ph=bV∨ph=bJ)→(ph=bJ→rd=0∧2≤cl)→(ph≠bJ→cl=0∧(ph≠gu∨0<rd))→(fo=true→ph≠bV∧w<0)→ -1≤w→w≤1→
  Ok g {m with aW:=rd,colour:=cl,phase:=ph,ay:=w,aO:=fo }:=by
  intro rd cl ph w fo h1 h2 h3 h4 h5 h6 h7 h8 h9 h10;refine ⟨h.game,⟨htn,⟨m2.1,hbk⟩,⟨h1,h2⟩,⟨h3,h4⟩,hR.aJ,⟨h9,by show w≤2;omega⟩,hR.s0,hR.s1,hR.t0,hR.t1⟩,(ny hg).2 h5,m2.2,vk.2 ⟨by show ¬ (m.free=true∧fo=true);rw [m6];simp,?_⟩,?_⟩
  · show (m.free=true∨fo=true)→ph≠bV∧w<0
    rw [m6];intro hx;exact h8 (hx.elim (fun hy=>by cases hy) id)
  · rw [lV hg]
    exact jq.2 ⟨hms,by show w≠2;omega,h6,h7⟩
 have uz:=(ny hg).1 h.phase
 unfold bg
 by_cases hpf:m.phase≠bJ
 · rw [if_pos hpf]
   rw [m3] at hpf;obtain ⟨d1,d2⟩:=d hpf
   by_cases q1:m.phase=gu∧v.stays=true
   · rw [if_pos q1]
     have hf0:=hst q1.2
     have:=key (m.aW - count e.aV aX) m.colour bV m.ay m.aO (by omega) (by omega) (by omega) (by omega) (.inr (.inl rfl)) (fun hx=>absurd hx.symm fJ) (fun _=>⟨by omega,.inl fQ⟩) (fun hx=>by rw [hmf,hf0] at hx;cases hx) (by omega) (by omega)
     exact this
   · rw [if_neg q1]
     split
     · rename_i q2
       exact key (m.aW - count e.aV aX) m.colour gu m.ay m.aO (by omega) (by omega) (by omega) (by omega) (.inl rfl) (fun hx=>absurd hx.symm eG) (fun _=>⟨by omega,.inr q2⟩) (fun _=>⟨fun hx=>fQ hx.symm,by omega⟩) (by omega) (by omega)
     · rename_i q2
       exact key (m.aW - count e.aV aX) 2 bJ m.ay m.aO (by omega) (by omega) (by omega) (by omega) (.inr (.inr rfl)) (fun _=>⟨by omega,by omega⟩) (fun hx=>absurd rfl hx) (fun _=>⟨fJ,by omega⟩) (by omega) (by omega)
 · rw [if_neg hpf]
   have hpm:m.phase=bJ:=Decidable.not_not.1 hpf;have hps:s.phase=bJ:=m3 ▸ hpm;obtain ⟨c1,c2⟩:=c hps
   have zS:m.aW - count e.aV aX=0:=by omega
   dsimp only
   rw [zS]
   have fin:∀ (cl w:Int) (fo:Bool),2≤cl→cl≤7→(fo=true→w<0)→ -1≤w→w≤1→Ok g {m with aW:=0,colour:=cl,ay:=w,aO:=fo }:=by
    intro cl w fo h1 h2 h3 h4 h5
    have:=key 0 cl bJ w fo (by omega) (by omega) (by omega) h2 (.inr (.inr rfl)) (fun _=>⟨rfl,h1⟩) (fun hx=>absurd rfl hx) (fun hx=>⟨fJ,h3 hx⟩) h4 h5
    rw [← hpm] at this;exact this
   have same:Ok g {m with aW:=0 }:=fin m.colour m.ay m.aO (by omega) (by omega) (fun _=>by omega) (by omega) (by omega)
   split
   · split
     · exact fin (m.colour+1) m.ay m.aO (by omega) (by omega) (fun _=>by omega) (by omega) (by omega)
     · exact same
   · split
     · exact same
     · split
       · rename_i q3
         have:=wX m
         exact fin m.colour (leader m) false (by omega) (by omega) (fun hx=>by cases hx) (by omega) (by omega)
       · rename_i q2 q3
         split
         · rename_i q4
           simp only [decide_eq_true_eq] at q4
           have ajJ:m.aO=false:=by rw [hmf,q4.1];rfl
           refine ⟨h.game,⟨by show 1 - m.turn=0∨1 - m.turn=1;omega,by show (0:Int)≤0∧(0:Int)≤99999;omega,by show (0:Int)≤0∧0≤g.aW;omega,hR.colour,by show (0:Int)≤0∧(0:Int)≤5;omega,hR.ay,hR.s0,hR.s1,hR.t0,hR.t1⟩,same.phase,?_,jV m6 ajJ,?_⟩
           · show (0:Int)≤score m (1 - m.turn)
             unfold score
             split <;> omega
           · rw [lV hg]
             exact jq.2 ⟨rfl,by show m.ay≠2;omega,fun _=>⟨rfl,by show 2≤m.colour;omega⟩,fun hx=>absurd hpm hx⟩
         · exact same
end Sk
namespace Sk
theorem Fa {s t:State} {e:Entry} (h:s.turn=t.turn):jf s e=jf t e:=by unfold jf theirs;rw [h]
theorem U2 {g:Game} {s m:State} {v:fF} (hm:Mid g s m v) (ht:s.turn=0∨s.turn=1) (hz:v.points=0∨v.penalty=0):(m.s0=s.s0∧m.s1=s.s1+v.points+v.penalty)∨(m.s1=s.s1∧m.s0=s.s0+v.points+v.penalty):=by
 have a:=hm.s0;have b:=hm.s1
 rcases ht with ht | ht
 · rw [if_pos ht] at a b
   rcases hz with hz | hz
   · exact .inl ⟨by omega,by omega⟩
   · exact .inr ⟨by omega,by omega⟩
 · rw [if_neg (by omega)] at a b
   rcases hz with hz | hz
   · exact .inr ⟨by omega,by omega⟩
   · exact .inl ⟨by omega,by omega⟩
theorem Tz {g:Game} {s m:State} {e:Entry} {v:fF} (h:Ok g s) (hv:Y6 g v) (hvj:v=dZ s e) (hw:s.ay<0) (hg:g.kind=bF) (hm:Mid g s m v) (hsc:max m.s0 m.s1≤99999):Ok g (dD g m e v):=by
 obtain ⟨r1,r2,r3,r4,r5,r6,r7,r8,r9,r10⟩:=h.inr;have hs:=h.st;rw [qW hg] at hs;obtain ⟨a,b,c⟩:=mO.1 hs;have hos:=U2 hm r1 (by rcases Int.lt_or_le 0 v.iC with h1 | h1;exact .inl (hv.none_ h1).1;exact .inr (hv.zero (by have:=hv.iC;omega)));obtain ⟨m1,m2,m3,m4,m5,m6,m7,m8,m9,m10,m11,m12,m13⟩:=hm;have p1:=hv.points;have p2:=hv.penalty
 have htn:m.turn=0∨m.turn=1:=by rw [m1];split <;> omega
 have hmf:m.aO=false:=by rw [m7];simp [hg,pI]
 have g0:0≤m.s0:=by omega
 have g1:0≤m.s1:=by omega
 have hbk:m.brk≤99999:=by have:=m2.2;unfold score at this;split at this <;> omega
 have hgm:g.target=g.target:=rfl
 -- the aJ
 have hk:∀ k:Int,k=(if v.stays=true∧jf {zero with turn:=if v.stays=true then m.turn else 1 - m.turn } e=true then 0 else if v.stays=true then m.aJ+1 else m.aJ)→0≤k∧k≤5:=by
  intro k hk
  cases hst:v.stays
  · rw [hst] at hk m8
    simp at hk m8
    omega
  · rw [hst] at hk m8 m1
    simp only [if_true,true_and] at hk m8 m1
    have hcn:jf {zero with turn:=m.turn } e=jf s e:=Fa m1;rw [hcn] at hk
    cases hc:jf s e
    · rw [hc] at hk
      simp at hk
      -- aV,and no jf:the aJ is below 5
      have hlt:s.aJ<5:=by
       have hj:v=dZ s e:=hvj
       unfold dZ at hj
       split at hj
       · rw [hj] at hst;cases hst
       · split at hj
         · rw [hj] at hst;cases hst
         · rename_i q1 q2
           have hpp:e.aV≠[]:=by
            intro hx
            have:fP s e=0:=by unfold fP;rw [hx,hc];rfl
            rw [hj,this] at hst
            simp at hst
           rcases Int.lt_or_le s.aJ 5 with h5 | h5
           · exact h5
           · exact absurd ⟨hpp,hc,by omega⟩ q2
      omega
    · rw [hc] at hk
      simp at hk
      omega
 unfold dD
 dsimp only
 obtain ⟨k,hkk⟩:∃ k,(if v.stays=true∧jf {zero with turn:=if v.stays=true then m.turn else 1 - m.turn } e=true then (0:Int) else if v.stays=true then m.aJ+1 else m.aJ)=k:=⟨_,rfl⟩;have hk5:=hk k hkk.symm;rw [hkk]
 have hmx:max s.s0 s.s1<g.target:=by omega
 obtain ⟨w,V4⟩:∃ w,(if g.target≤max m.s0 m.s1 then leader m else m.ay)=w:=⟨_,rfl⟩
 have hw2:(g.target≤max m.s0 m.s1→w=0∨w=1)∧(¬ g.target≤max m.s0 m.s1→w= -1):=by
  refine ⟨fun hx=>?_,fun hx=>?_⟩
  · rw [if_pos hx] at V4
    unfold leader at V4
    split at V4
    · exact .inl V4.symm
    · split at V4
      · exact .inr V4.symm
      · omega
  · rw [if_neg hx] at V4
    omega
 rw [V4]
 have hwr: -1≤w∧w≤1:=by
  by_cases hx:g.target≤max m.s0 m.s1
  · have:=hw2.1 hx;omega
  · have:=hw2.2 hx;omega
 refine ⟨h.game,⟨htn,⟨m2.1,hbk⟩,by show 0≤m.aW∧m.aW≤g.aW;rw [m4];exact r3,by show 0≤m.colour∧m.colour≤7;rw [m5];exact r4,hk5,⟨hwr.1,by show w≤2;omega⟩,by show 0≤m.s0∧m.s0≤99999;omega,by show 0≤m.s1∧m.s1≤99999;omega,by show 0≤m.t0∧m.t0≤g.turns;rw [m9];exact r9,by show 0≤m.t1∧m.t1≤g.turns;rw [m10];exact r10⟩,by show fH g m.phase=true;rw [m3];exact h.phase,m2.2,jV m6 hmf,?_⟩;rw [qW hg];refine mO.2 ⟨⟨by show m.colour=0;omega,m6,hmf⟩,by show w≠2;omega,?_⟩
 show 0≤w∨max m.s0 m.s1<g.target
 by_cases hx:g.target≤max m.s0 m.s1
 · have:=hw2.1 hx;exact .inl (by omega)
 · exact .inr (by omega)
theorem NY {g:Game} {s m:State} {e:Entry} {v:fF} (h:Ok g s) (hv:Y6 g v) (hvj:v=iG s e) (hw:s.ay<0) (hg:g.kind=fA) (hm:Mid g s m v) (hsc:max m.s0 m.s1≤99999):Ok g (dL g m v):=by
 obtain ⟨r1,r2,r3,r4,r5,r6,r7,r8,r9,r10⟩:=h.inr;have hs:=h.st;rw [kW hg] at hs;obtain ⟨a,b,_,d⟩:=jD.1 hs;obtain ⟨d1,d2⟩:=d hw;obtain ⟨m1,m2,m3,m4,m5,m6,m7,m8,m9,m10,m11,m12,m13⟩:=hm;have p1:=hv.points;have p2:=hv.penalty
 have at1:v.penalty=0:=by rw [hvj];unfold iG;split <;> rfl
 have htn:m.turn=0∨m.turn=1:=by rw [m1];split <;> omega
 have hmf:m.aO=false:=by rw [m7];simp [hg,nN]
 have hms:m.aJ=0:=by rw [m8];split <;> omega
 have g0:0≤m.s0:=by rw [m12];split <;> omega
 have g1:0≤m.s1:=by rw [m13];split <;> omega
 have hbk:m.brk≤99999:=by have:=m2.2;unfold score at this;split at this <;> omega
 -- after a aaZ turn has ended
 have fin:∀ (t:State) (p:Int),p=s.turn→t.turn=1 - p→0≤t.brk∧t.brk≤score t t.turn→t.s0=m.s0→t.s1=m.s1→t.phase=s.phase→t.aW=s.aW→t.colour=s.colour→t.free=false→t.aO=false→t.aJ=0→t.t0=s.t0→t.t1=s.t1→t.ay=s.ay→(p=0→s.t0+1≤g.turns)→Ok g (jC g t p):=by
  intro t p hp q1 q2 q3 q4 q5 q6 q7 q8 q9 q10 q11 q12 q13 q14
  have hbk2:t.brk≤99999:=by have:=q2.2;unfold score at this;split at this <;> omega
  unfold jC
  rcases r1 with ht | ht
  · have hp0:p=0:=by omega
    have e1:lW t p= {t with t0:=t.t0+1 }:=by unfold lW;rw [if_pos hp0]
    rw [if_neg (by omega),e1];have hh:=d2 (by omega);refine ⟨h.game,⟨by show t.turn=0∨t.turn=1;omega,⟨q2.1,hbk2⟩,by show 0≤t.aW∧t.aW≤g.aW;rw [q6];exact r3,by show 0≤t.colour∧t.colour≤7;rw [q7];exact r4,by show 0≤t.aJ∧t.aJ≤5;omega,by show -1≤t.ay∧t.ay≤2;omega,by show 0≤t.s0∧t.s0≤99999;omega,by show 0≤t.s1∧t.s1≤99999;omega,by show 0≤t.t0+1∧t.t0+1≤g.turns;have:=q14 hp0;omega,by show 0≤t.t1∧t.t1≤g.turns;omega⟩,by show fH g t.phase=true;rw [q5];exact h.phase,q2.2,jV q8 q9,?_⟩;rw [kW hg];refine jD.2 ⟨⟨by show t.colour=0;omega,q8,q9⟩,q10,fun hx=>?_,fun _=>⟨fun _=>?_,fun hx=>?_⟩⟩
    · have hx:0≤t.ay:=hx
      omega
    · show t.t0+1=t.t1+1
      omega
    · have hx:t.turn≠1:=hx
      omega
  · have hp1:p=1:=by omega
    have e1:lW t p= {t with t1:=t.t1+1 }:=by unfold lW;rw [if_neg (by omega)]
    rw [e1];have hh:=d1 ht;have hle:=wX {t with t1:=t.t1+1 }
    have ZT:∀ w:Int, -1≤w→w≤2→WH g {t with t1:=t.t1+1,ay:=w }:=fun w h1 h2=>
     ⟨by show t.turn=0∨t.turn=1;omega,⟨q2.1,hbk2⟩,by show 0≤t.aW∧t.aW≤g.aW;rw [q6];exact r3,by show 0≤t.colour∧t.colour≤7;rw [q7];exact r4,by show 0≤t.aJ∧t.aJ≤5;omega,⟨h1,h2⟩,by show 0≤t.s0∧t.s0≤99999;omega,by show 0≤t.s1∧t.s1≤99999;omega,by show 0≤t.t0∧t.t0≤g.turns;omega,by show 0≤t.t1+1∧t.t1+1≤g.turns;omega⟩
    split
    · refine ⟨h.game,ZT _ (by omega) (by omega),by show fH g t.phase=true;rw [q5];exact h.phase,q2.2,jV q8 q9,?_⟩
      rw [kW hg];refine jD.2 ⟨⟨by show t.colour=0;omega,q8,q9⟩,q10,fun _=> .inl (by show t.t0=t.t1+1;omega),fun hx=>?_⟩;have hx:leader {t with t1:=t.t1+1 }<0:=hx
      omega
    · rename_i hno
      refine ⟨h.game,ZT t.ay (by omega) (by omega),by show fH g t.phase=true;rw [q5];exact h.phase,q2.2,jV q8 q9,?_⟩;rw [kW hg];refine jD.2 ⟨⟨by show t.colour=0;omega,q8,q9⟩,q10,fun hx=>?_,fun _=>⟨fun hx=>?_,fun hx=>?_⟩⟩
      · have hx:0≤t.ay:=hx
        omega
      · have hx:t.turn=1:=hx
        omega
      · show t.t0=t.t1+1∧t.t0<g.turns∧max t.s0 t.s1<g.target
        have hno:¬ (p=1∧(g.target≤max t.s0 t.s1∨t.t1+1=g.turns)):=hno
        omega
 unfold dL
 have hup:s.turn=0→s.t0+1≤g.turns:=fun hx=>by have:=d2 (by omega);omega
 cases hst:v.stays
 · rw [hst] at m1
   simp only [Bool.false_eq_true,if_false] at m1
   rw [if_pos rfl]
   have e1:1 - m.turn=s.turn:=by omega
   rw [e1];exact fin m s.turn rfl m1 m2 rfl rfl m3 m4 m5 m6 hmf hms m9 m10 m11 hup
 · rw [hst] at m1
   simp only [if_true] at m1
   rw [if_neg (by simp)]
   split
   · rename_i hsc2
     have hsc2:score m m.turn<g.target:=hsc2;refine ⟨h.game,⟨htn,⟨m2.1,hbk⟩,by rw [m4];exact r3,by rw [m5];exact r4,by omega,by omega,by omega,by omega,by omega,by omega⟩,by rw [m3];exact h.phase,m2.2,jV m6 hmf,?_⟩;rw [kW hg];refine jD.2 ⟨⟨by omega,m6,hmf⟩,hms,fun hx=>by omega,fun _=>⟨fun hx=>?_,fun hx=>?_⟩⟩
     · have:=d1 (by omega);omega
     · have hh:=d2 (by omega)
       unfold score at hsc2
       rw [if_pos (by omega)] at hsc2;rw [if_pos (by omega)] at m13
       omega
   · refine fin (pass m) m.turn m1 rfl ⟨Int.le_refl _,?_⟩ rfl rfl m3 m4 m5 m6 hmf rfl m9 m10 m11 (by rw [m1];exact hup)
     show (0:Int)≤score m (1 - m.turn)
     unfold score
     split <;> omega
theorem Ee {g:Game} {s:State} {e:Entry} (h:Ok g s) (he:jc g e=0) (hl:Lawful g s e):Ok g (next g s e):=by
 by_cases hk:e.kind=dW
 · have hv:=vI g s e h.inr.colour (fun hg hp=>by have:=qF he hk hl.call hg hp;omega)
   have hm:=Ja h hv;have FK:=hl.most hk;have hb:=hl.dX hk;rw [vS hk] at FK ⊢;have hs:=uS g (mid g s (judge g s e)) e (judge g s e);rw [hs.1,hs.2] at FK
   rcases gW h.game with ⟨hg,_⟩ | ⟨hg,_⟩ | ⟨hg,_⟩
   · have e1:judge g s e=dQ s e:=by unfold judge;rw [if_pos hg]
     have e2:∀ m v,after g m e v=bg m e v:=fun m v=>by unfold after;rw [if_pos hg]
     have e3:iY g s e=eu s e:=by unfold iY;rw [if_pos hg]
     rw [e2];exact Sl h hv e1 hl.ay (by rw [← e3];exact hb) hg hm FK
   · have hn:g.kind≠aK:=by rw [hg];exact pI
     have e1:judge g s e=dZ s e:=by unfold judge;rw [if_neg hn,if_pos hg]
     have e2:∀ m v,after g m e v=dD g m e v:=fun m v=>by unfold after;rw [if_neg hn,if_pos hg]
     rw [e2];exact Tz h hv e1 hl.ay hg hm FK
   · have hn:g.kind≠aK:=by rw [hg];exact nN
     have hn2:g.kind≠bF:=by rw [hg];exact qI
     have e1:judge g s e=iG s e:=by unfold judge;rw [if_neg hn,if_neg hn2]
     have e2:∀ m v,after g m e v=dL g m v:=fun m v=>by unfold after;rw [if_neg hn,if_neg hn2]
     rw [e2];exact NY h hv e1 hl.ay hg hm FK
 · exact PS h hl hk
theorem Sr {g:Game} (h:eU g=0):Ok g (start g):=by
 rcases gW h with ⟨hg,h1,h2,h3⟩ | ⟨hg,h1,h2,h3⟩ | ⟨hg,h1,h2,h3⟩
 · refine ⟨h,⟨.inl rfl,⟨Int.le_refl 0,by show (0:Int)≤99999;decide⟩,⟨by show 0≤g.aW;omega,Int.le_refl _⟩,⟨Int.le_refl 0,by show (0:Int)≤7;decide⟩,⟨Int.le_refl 0,by show (0:Int)≤5;decide⟩,⟨Int.le_refl (-1),by show (-1:Int)≤2;decide⟩,⟨Int.le_refl 0,by show (0:Int)≤99999;decide⟩,⟨Int.le_refl 0,by show (0:Int)≤99999;decide⟩,by show (0:Int)≤0∧0≤g.turns;omega,by show (0:Int)≤0∧0≤g.turns;omega⟩,?_,Int.le_refl 0,jV rfl rfl,?_⟩
   · rw [ny hg];left;show (if g.kind=aK then gu else ru)=gu;rw [if_pos hg]
   · rw [lV hg]
     have e1:(start g).phase=gu:=by show (if g.kind=aK then gu else ru)=gu;rw [if_pos hg]
     refine jq.2 ⟨rfl,by show (-1:Int)≠2;decide,fun hx=>?_,fun _=>⟨rfl,.inr (by show 0<g.aW;omega)⟩⟩;rw [e1] at hx;exact absurd hx.symm eG
 all_goals
  have hn:g.kind≠aK:=by rw [hg];first | exact pI | exact nN
  refine ⟨h,⟨.inl rfl,⟨Int.le_refl 0,by show (0:Int)≤99999;decide⟩,⟨by show 0≤g.aW;omega,Int.le_refl _⟩,⟨Int.le_refl 0,by show (0:Int)≤7;decide⟩,⟨Int.le_refl 0,by show (0:Int)≤5;decide⟩,⟨Int.le_refl (-1),by show (-1:Int)≤2;decide⟩,⟨Int.le_refl 0,by show (0:Int)≤99999;decide⟩,⟨Int.le_refl 0,by show (0:Int)≤99999;decide⟩,by show (0:Int)≤0∧0≤g.turns;omega,by show (0:Int)≤0∧0≤g.turns;omega⟩,?_,Int.le_refl 0,jV rfl rfl,?_⟩
  · rw [rQ hn];show (if g.kind=aK then gu else ru)=ru;rw [if_neg hn]
  · first
     | (rw [qW hg];exact mO.2 ⟨⟨rfl,rfl,rfl⟩,by show (-1:Int)≠2;decide,.inr (by show max (0:Int) 0<g.target;omega)⟩)
     | (rw [kW hg];exact jD.2 ⟨⟨rfl,rfl,rfl⟩,rfl,fun hx=>absurd (show (0:Int)≤ -1 from hx) (by decide),fun _=>⟨fun hx=>absurd (show (0:Int)=1 from hx) (by decide),fun _=>⟨rfl,by show (0:Int)<g.turns;omega,by show max (0:Int) 0<g.target;omega⟩⟩⟩)
end Sk
namespace Sk
theorem iH {s:State} (hw:s.ay<0) (hp:s.phase=bJ) (hc:2≤s.colour∧s.colour≤7):left s=(s.colour+7)*(8 - s.colour) / 2+(if s.free=true∧s.colour<7 then s.colour else 0):=by
 unfold left
 rw [if_neg (by omega),if_neg (by rw [hp];exact eG),if_neg (by rw [hp];exact fJ)]
 congr 1
 obtain ⟨c,hcc⟩:∃ c,s.colour=c:=⟨_,rfl⟩;rw [hcc] at hc ⊢
 have:c=2∨c=3∨c=4∨c=5∨c=6∨c=7:=by omega
 rcases this with rfl | rfl | rfl | rfl | rfl | rfl <;> decide
theorem ng {s:State} (hw:s.ay<0) (hp:s.phase=gu):left s=8*s.aW+27+(if s.free=true then 8 else 0):=by
 unfold left
 rw [if_neg (by omega),if_pos hp]
theorem jI {s:State} (hw:s.ay<0) (hp:s.phase=bV):left s=8*s.aW+34:=by
 unfold left
 rw [if_neg (by omega),if_neg (by rw [hp];exact fQ),if_pos hp]
 omega
theorem F6 {s:State} (hw:0≤s.ay):left s=0:=by unfold left;rw [if_pos hw]
def tri (c:Int):Int:=(c+7)*(8 - c) / 2
theorem AY {c:Int} (h:2≤c∧c<7):tri c=c+tri (c+1):=by
 have:c=2∨c=3∨c=4∨c=5∨c=6:=by omega
 rcases this with rfl | rfl | rfl | rfl | rfl <;> decide
theorem EJ {c:Int} (h:2≤c∧c≤7):7≤tri c∧tri c≤27:=by
 have:c=2∨c=3∨c=4∨c=5∨c=6∨c=7:=by omega
 rcases this with rfl | rfl | rfl | rfl | rfl | rfl <;> decide
theorem lT {g:Game} {s:State} (h:Ok g s) (hg:g.kind=aK):(s.phase=gu∧s.colour=0∧0<s.aW)∨(s.phase=bV∧s.colour=0∧s.free=false∧s.aO=false)∨(s.phase=bJ∧s.aW=0∧2≤s.colour∧s.colour≤7):=by
 have hs:=h.st;rw [lV hg] at hs;obtain ⟨a,b,c,d⟩:=jq.1 hs;have hf:=vk.1 h.iC
 rcases (ny hg).1 h.phase with hp | hp | hp
 · have:=d (by rw [hp];exact fun hx=>eG hx.symm)
   exact .inl ⟨hp,this.1,this.2.resolve_left (fun hx=>hx hp)⟩
 · have:=d (by rw [hp];exact fun hx=>fJ hx.symm)
   refine .inr (.inl ⟨hp,this.1,?_,?_⟩)
   · cases hx:s.free
     · rfl
     · exact absurd hp (hf.2 (.inl hx)).1
   · cases hx:s.aO
     · rfl
     · exact absurd hp (hf.2 (.inr hx)).1
 · have:=c hp
   exact .inr (.inr ⟨hp,this.1,this.2,h.inr.colour.2⟩)
theorem oO {g:Game} {s:State} (h:Ok g s) (hg:g.kind=aK):0≤left s∧left s≤200:=by
 by_cases hw:s.ay<0
 · have hr:=h.inr.aW
   have hgr:g.aW≤15:=by rcases gW h.game with ⟨_,a,_⟩ | ⟨a,_⟩ | ⟨a,_⟩;exact a.2;rw [hg] at a;exact absurd a.symm pI;rw [hg] at a;exact absurd a.symm nN
   rcases lT h hg with ⟨hp,_⟩ | ⟨hp,_⟩ | ⟨hp,_,hc⟩
   · rw [ng hw hp];split <;> omega
   · rw [jI hw hp];omega
   · rw [iH hw hp hc]
     have:=EJ hc
     unfold tri at this
     split <;> omega
 · rw [F6 (by omega)];omega
theorem sN {g:Game} {s:State} {e:Entry} (hc:eF g s e=true) (hk:e.kind=dW) (hg:g.kind=aK) (hp:s.phase≠bV) (hn:e.called≠bQ):s.free=true∧(s.phase=gu∨s.colour<value e.called):=by
 unfold eF at hc
 rw [if_neg (by simp [hk,hg]),if_neg hp] at hc
 simp only [decide_eq_true_eq] at hc
 have hc:=hc.resolve_left hn
 unfold callable at hc
 split at hc
 · cases hc
 · rename_i h1
   split at hc
   · rename_i h2;exact ⟨by simpa using h1,.inl h2⟩
   · simp only [decide_eq_true_eq] at hc
     exact ⟨by simpa using h1,.inr hc.2⟩
theorem rU {g:Game} {s:State} {e:Entry} (hg:g.kind=aK) (hf:(judge g s e).iC=0):judge g s e=⟨aF s e,0,0,decide (0<aF s e)⟩:=by
 unfold judge at hf ⊢
 rw [if_pos hg] at hf ⊢
 unfold dQ at hf ⊢
 split at hf
 · rename_i h1;have hf:dw s e=0:=hf;omega
 · rename_i h1;rw [if_neg h1]
theorem qG {e:Entry}:called e=true→e.called≠bQ:=by
 unfold called
 simp only [decide_eq_true_eq]
 exact fun h=>h.1
theorem Lu {g:Game} {s:State} {e:Entry} (h:Ok g s) (hg:g.kind=aK) (he:jc g e=0) (hk:e.kind=dW) (hl:Lawful g s e) (hf:(judge g s e).iC=0):
 left (next g s e)≤left s∧((next g s e).turn=s.turn→left (next g s e)+(judge g s e).points≤left s):=by
 have hw:=hl.ay;have hv:=vI g s e h.inr.colour (fun hg hp=>by have:=qF he hk hl.call hg hp;omega);have hm:=Ja h hv;have hpo:=rU hg hf;have hbl:=hl.dX hk
 have e3:iY g s e=eu s e:=by unfold iY;rw [if_pos hg]
 rw [e3] at hbl;obtain ⟨b1,_⟩:=rY hbl;have hcnt:=uV e.aV aX
 have e2:∀ m v,after g m e v=bg m e v:=fun m v=>by unfold after;rw [if_pos hg]
 rw [vS hk,e2];obtain ⟨m,hmm⟩:∃ m,mid g s (judge g s e)=m:=⟨_,rfl⟩;rw [hmm] at hm ⊢;rw [hpo] at hm ⊢;obtain ⟨P,hP⟩:∃ P,aF s e=P:=⟨_,rfl⟩
 have hP0:0≤P:=by have:=hv.points;rw [hpo] at this;exact hP ▸ this
 rw [hP] at hm ⊢;obtain ⟨m1,m2,m3,m4,m5,m6,m7,m8,m9,m10,m11,m12,m13⟩:=hm
 have hmw:m.ay<0:=by omega
 dsimp only at m1 ⊢
 have hcall:=hl.call
 unfold bg
 rcases lT h hg with ⟨hp,hc0,hr0⟩ | ⟨hp,hc0,hfr,hfo⟩ | ⟨hp,hr0,hc⟩
 · -- red
   have hpm:m.phase=gu:=m3.trans hp
   have WY:P=count e.aV aX+(if called e=true then 1 else 0):=by rw [← hP];unfold aF;rw [if_pos hp]
   rw [if_pos (by rw [hpm];exact fun hx=>eG hx.symm),ng hw hp];have hcf:called e=true→s.free=true:=fun hx=>(sN hcall hk hg (by rw [hp];exact fun hy=>fQ hy.symm) (qG hx)).1
   by_cases hst:0<P
   · rw [if_pos ⟨hpm,by simpa using hst⟩,jI (by exact hmw) rfl]
     show 8*(m.aW - count e.aV aX)+34≤_∧(_→8*(m.aW - count e.aV aX)+34+P≤_)
     have key:8*(m.aW - count e.aV aX)+34+P≤8*s.aW+27+(if s.free=true then 8 else 0):=by
      by_cases hcl:called e=true
      · rw [if_pos hcl] at WY;rw [if_pos (hcf hcl)];omega
      · rw [if_neg hcl] at WY;split <;> omega
     exact ⟨by omega,fun _=>key⟩
   · have hc1:¬ called e=true:=fun hx=>by rw [if_pos hx] at WY;omega
     rw [if_neg hc1] at WY;rw [if_neg (by simp [hst]),if_pos (by omega),ng (by exact hmw) rfl]
     show 8*(m.aW - count e.aV aX)+27+(if m.free=true then 8 else 0)≤_∧(_→_+P≤_)
     rw [m6];refine ⟨?_,fun _=>?_⟩ <;> (show (_:Int)≤_) <;> simp <;> split <;> omega
 · -- a colour
   have hpm:m.phase=bV:=m3.trans hp
   have hP7:P≤7:=by
    have hwv:worth s e=value e.called:=by unfold worth;rw [if_neg (by rw [hp];exact fQ),if_pos hp]
    rw [← hP]
    unfold aF
    rw [if_neg (by rw [hp];exact fQ),hwv]
    have:=(nG e.called).2
    split <;> omega
   rw [if_pos (by rw [hpm];exact fun hx=>fJ hx.symm),jI hw hp,if_neg (by rw [hpm];exact fun hx=>fQ hx.1)]
   split
   · rw [ng (by exact hmw) rfl]
     show 8*(m.aW - count e.aV aX)+27+(if m.free=true then 8 else 0)≤_∧(_→_+P≤_)
     rw [m6];refine ⟨?_,fun _=>?_⟩ <;> (show (_:Int)≤_) <;> simp <;> omega
   · rw [iH (by exact hmw) rfl ⟨Int.le_refl 2,by show (2:Int)≤7;decide⟩]
     show (2+7)*(8 - 2) / 2+(if m.free=true∧(2:Int)<7 then 2 else 0)≤_∧(_→_+P≤_)
     rw [m6]
     have:=h.inr.aW.1
     refine ⟨?_,fun _=>?_⟩ <;> (show (_:Int)≤_) <;> simp <;> omega
 · -- the end
   have hpm:m.phase=bJ:=m3.trans hp;have hpf:=nU (e:=e) hp hc.1
   have hPc:P=0∨P=s.colour:=by
    have hwv:worth s e=s.colour:=by unfold worth;rw [if_neg (by rw [hp];exact eG),if_neg (by rw [hp];exact fJ)]
    rw [← hP]
    unfold aF
    rw [if_neg (by rw [hp];exact eG),hwv]
    split
    · exact .inr rfl
    · exact .inl rfl
   rw [hP] at hpf
   have hcf:called e=true→s.free=true∧s.colour<7:=fun hx=>by
    have h1:=sN hcall hk hg (by rw [hp];exact fJ) (qG hx);have h2:=h1.2.resolve_left (by rw [hp];exact eG);exact ⟨h1.1,by have:=(nG e.called).2;omega⟩
   rw [if_neg (by rw [hpm];simp),iH hw hp hc]
   dsimp only
   have ht:=AY (c:=s.colour);have ht2:=EJ hc
   unfold tri at ht ht2
   have lf:∀ t:State,t.ay<0→t.phase=bJ→t.free=false→2≤t.colour∧t.colour≤7→left t=(t.colour+7)*(8 - t.colour) / 2:=fun t h1 h2 h3 h4=>by rw [iH h1 h2 h4,if_neg (by rw [h3];simp)];omega
   have ajC:0≤(if s.free=true∧s.colour<7 then s.colour else 0):=by split <;> omega
   have J6:has e.aV (bC s.colour)=false→0<P→(if s.free=true∧s.colour<7 then s.colour else 0)=s.colour:=fun hx hy=>by
    rcases hpf.1 hy with h1 | h1
    · rw [if_pos (hcf h1)]
    · rw [h1] at hx;cases hx
   rw [m5];obtain ⟨f,YL⟩:∃ f,(if s.free=true∧s.colour<7 then s.colour else 0)=f:=⟨_,rfl⟩;rw [YL] at ajC J6 ⊢;obtain ⟨T,hT⟩:∃ T,(s.colour+7)*(8 - s.colour) / 2=T:=⟨_,rfl⟩;obtain ⟨T',hT'⟩:∃ T,(s.colour+1+7)*(8 - (s.colour+1)) / 2=T:=⟨_,rfl⟩;rw [hT,hT'] at ht;rw [hT] at ht2 ⊢
   cases hpt:has e.aV (bC s.colour)
   · -- it is not aa6
     have same:∀ t:State,t.ay<0→t.phase=bJ→t.free=false→t.colour=s.colour→left t≤T+f∧(t.turn=s.turn→left t+P≤T+f):=by
      intro t h1 h2 h3 h4;rw [lf t h1 h2 h3 (by omega),h4,hT];refine ⟨by omega,fun _=>?_⟩
      rcases Int.lt_or_le 0 P with h5 | h5
      · have:=J6 hpt h5
        rcases hPc with h6 | h6 <;> omega
      · omega
     simp only [Bool.false_eq_true,and_false,decide_false,if_false,and_true,true_and,if_true]
     split
     · exact same _ hmw hpm m6 rfl
     · exact same _ hmw hpm m6 rfl
   · simp only [and_true,decide_true,Bool.true_eq_false,and_false,if_false,if_true]
     split
     · rename_i h7
       have h7:=ht ⟨hc.1,h7⟩;rw [lf _ (by exact hmw) (by exact hpm) (by exact m6) (by show 2≤s.colour+1∧s.colour+1≤7;omega)]
       show (s.colour+1+7)*(8 - (s.colour+1)) / 2≤T+f∧(_→(s.colour+1+7)*(8 - (s.colour+1)) / 2+P≤T+f)
       rw [hT'];refine ⟨by omega,fun _=>?_⟩
       rcases hPc with h6 | h6 <;> omega
     · rename_i h7
       split
       · have hlw:=(wX m).1
         rw [F6 (by exact hlw)];refine ⟨by omega,fun _=>?_⟩
         rcases hPc with h6 | h6 <;> omega
       · have hst:0<P:=hpf.2 (.inr hpt)
         have hmt:m.turn=s.turn:=by rw [m1,if_pos (by simpa using hst)]
         rw [lf _ (by exact hmw) (by exact hpm) (by exact m6) (by show 2≤s.colour∧s.colour≤7;omega)]
         show (s.colour+7)*(8 - s.colour) / 2≤T+f∧(1 - m.turn=s.turn→(s.colour+7)*(8 - s.colour) / 2+P≤T+f)
         rw [hT];exact ⟨by omega,fun hx=>by have:=h.inr.turn;omega⟩
end Sk
namespace Sk
def aY (c b:ByteArray):Entry:=⟨dW,c,[b],[b],0⟩
def dY (s:State):Entry:=
 if s.free=true∧(s.phase=gu∨s.colour<7) then aY bf bf
 else if s.phase=bV then aY bf bf
 else if s.phase=bJ then aY bQ (bC s.colour)
 else aY bQ aX
def iD (s:State):Int:=
 if s.phase=gu then 2*s.aW+6+(if s.free then 2 else 0)
 else if s.phase=bV then 2*s.aW+7
 else 8 - s.colour+(if s.free=true∧s.colour<7 then 1 else 0)
theorem iU:value bf=7:=by decide+kernel
theorem mP (b:ByteArray):has [b] b=true:=by unfold has;simp
theorem ql {b c:ByteArray} (h:b≠c):has [b] c=false:=by unfold has;simp [h]
theorem oK (b:ByteArray):count [b] b=1:=by unfold count;simp
theorem jH {b c:ByteArray} (h:b≠c):count [b] c=0:=by unfold count;simp [h]
theorem count_one (b c:ByteArray):count [b] c≤1:=by
 by_cases h:b=c
 · subst h;rw [oK];omega
 · rw [jH h];omega
theorem qx (b:ByteArray):∀ l,twice [b] l=false
 | []=>rfl
 | c::l=>by unfold twice;have:=count_one b c;rw [qx b l];simp;omega
theorem pU {c:Int} (h:2≤c∧c≤7):value (bC c)=c∧bC c≠bQ∧bC c≠dB∧bC c≠aX∧(c<7→bC c≠bf):=by
 have:c=2∨c=3∨c=4∨c=5∨c=6∨c=7:=by omega
 rcases this with rfl | rfl | rfl | rfl | rfl | rfl <;> decide+kernel
theorem H6:bC 7=bf:=by decide+kernel
theorem Jf {s:State} (h:s.phase=gu):on s=[aX]:=by unfold on;rw [if_pos h]
theorem rP {s:State} (h:s.phase=bJ):on s=[bC s.colour]:=by unfold on;rw [if_neg (by rw [h];exact eG),if_neg (by rw [h];exact fJ)]
theorem D9 {g:Game} (hg:g.kind=aK) {b:ByteArray} (h:0<value b) (f:Bool):fM g b f=true:=by unfold fM;rw [if_pos hg];simp [h]
theorem WJ {g:Game} (hg:g.kind=aK) {c b:ByteArray} (hc:c≠bQ→2≤value c) (hb:0<value b):jc g (aY c b)=0:=by
 unfold jc aY
 have h1:isKind dW=true:=by decide
 have hn:g.kind≠fA:=by rw [hg];exact fun hx=>nN hx.symm
 rw [if_neg (by simp [h1]),if_neg (by simp),if_neg (by simp),if_neg (by
  simp only [List.any_cons,List.any_nil,Bool.or_false,D9 hg hb]
  simp only [not_or]
  exact ⟨fun hx=>by have:=hc hx.1;omega,by simp,by simp⟩),if_neg (by show ¬ out 0 0 99=true;decide),if_neg (by simp [hg])]
theorem UY {s:State} {c b:ByteArray} (hd:due s (aY c b)=b) (hw:b≠dB) (hwt:wanted s (aY c b) b=true):dw s (aY c b)=0:=by
 unfold dw
 rw [if_neg (by simp [aY]),if_neg (by rw [hd];simp [aY]),if_neg (by show ¬ has [b] dB=true;rw [ql hw];simp),if_neg (by
  show ¬ ([b].any fun x=>wanted s (aY c b) x=false)=true
  simp [hwt])]
theorem wV {g:Game} (hg:g.kind=aK) {s:State} {c b:ByteArray} (hd:due s (aY c b)=b) (hw:b≠dB) (hwt:wanted s (aY c b) b=true):judge g s (aY c b)=⟨aF s (aY c b),0,0,decide (0<aF s (aY c b))⟩:=by
 unfold judge
 rw [if_pos hg]
 unfold dQ
 rw [UY hd hw hwt,if_neg (by decide)]
theorem LV {g:Game} (hg:g.kind=aK) {s:State} {c b:ByteArray} (h:Ok g s) (hw:s.ay<0) (hs:s.s0≤95000∧s.s1≤95000) (hcall:eF g s (aY c b)=true) (zS:b=aX→0<s.aW) (hgo:s.phase=bJ→s.colour≤value b∨value b<2)
 (hd:due s (aY c b)=b) (hwh:b≠dB) (hwt:wanted s (aY c b) b=true) (hp:aF s (aY c b)≤7):legal g s (aY c b)=0:=by
 have hk:(aY c b).kind=dW:=rfl;refine oq.2 ⟨hw,fun hx=>?_,hcall,fun _=>?_,fun _=>?_⟩
 · rcases hx with hx | hx
   · exact absurd (show dW=kK from hx) (by decide)
   · exact absurd (show dW=mQ from hx) (by decide)
 · have e3:iY g s (aY c b)=eu s (aY c b):=by unfold iY;rw [if_pos hg]
   rw [e3]
   unfold eu
   have hr0:=h.inr.aW.1
   have hg0:gone s b=false:=by
    unfold gone
    simp only [decide_eq_false_iff_not]
    rintro ⟨h1,h2,h3⟩
    have:=hgo h1
    omega
   rw [if_neg (by
    show ¬ (s.aW<count [b] aX∨(s.aW=0∧has [b] aX=true))
    by_cases hb:b=aX
    · have:=zS hb
      subst hb;rw [oK]
      omega
    · rw [jH hb,ql hb]
      simp
      omega),if_neg (by show ¬ twice [b] _=true;rw [qx];simp)]
   show decide (([b].any (gone s)=false)∧([b].any (gone s)=false))=true
   simp [hg0]
 · have hn:=rM (g:=g) (s:=s) hk
   have hj:=wV hg hd hwh hwt;rw [hn.1,hn.2,hj]
   dsimp only
   have:=h.inr.turn
   repeat' split
   all_goals omega
structure JO (g:Game) (s:State):Prop where
 ent:jc g (dY s)=0
 legal:legal g s (dY s)=0
 iC:(judge g s (dY s)).iC=0
 points:0<(judge g s (dY s)).points∧(judge g s (dY s)).points≤7
 next:(judge g s (dY s)).points=left s∨((next g s (dY s)).turn=s.turn∧(next g s (dY s)).ay<0∧left (next g s (dY s))+(judge g s (dY s)).points=left s∧iD (next g s (dY s))+1=iD s)
theorem Gh {g:Game} (hg:g.kind=aK) {s:State} {c b:ByteArray}:next g s (aY c b)=bg (mid g s (judge g s (aY c b))) (aY c b) (judge g s (aY c b)):=by
 rw [vS rfl]
 unfold after
 rw [if_pos hg]
theorem CW {g:Game} {s:State} {P:Int} (hP:0<P):mid g s ⟨P,0,0,decide (0<P)⟩=jm g s ⟨P,0,0,decide (0<P)⟩:=by unfold mid;rw [if_pos (by simpa using hP)]
theorem Ba {g:Game} (hg:g.kind=aK) {s:State} (h:Ok g s) (hw:s.ay<0) (hs:s.s0≤95000∧s.s1≤95000) (c b:ByteArray) (he:dY s=aY c b) (hc:c≠bQ→2≤value c) (hb:0<value b) (hcall:eF g s (aY c b)=true) (zS:b=aX→0<s.aW)
 (hgo:s.phase=bJ→s.colour≤value b∨value b<2) (hd:due s (aY c b)=b) (hwh:b≠dB) (hwt:wanted s (aY c b) b=true) (hp:0<aF s (aY c b)∧aF s (aY c b)≤7)
 (hn:aF s (aY c b)=left s∨∀ n,n=bg (jm g s ⟨aF s (aY c b),0,0,true⟩) (aY c b) ⟨aF s (aY c b),0,0,true⟩→n.turn=s.turn∧n.ay<0∧left n+aF s (aY c b)=left s∧iD n+1=iD s):JO g s:=by
 have hj:=wV hg hd hwh hwt
 have ht:decide (0<aF s (aY c b))=true:=by simpa using hp.1
 refine ⟨by rw [he];exact WJ hg hc hb,by rw [he];exact LV hg h hw hs hcall zS hgo hd hwh hwt hp.2,by rw [he,hj],by rw [he,hj];exact hp,?_⟩;rw [he,hj]
 rcases hn with hn | hn
 · exact .inl hn
 · refine .inr ?_
   have e1:=Gh hg (s:=s) (c:=c) (b:=b);rw [hj,CW hp.1,ht] at e1;exact hn _ e1
theorem wM {g:Game} {s:State} {b:ByteArray} (hp:s.phase≠bV):eF g s (aY bQ b)=true:=by
 unfold eF
 split
 · rfl
 · simp [aY]
theorem jJ:bf≠bQ:=by decide
theorem lF {b:ByteArray} (h:b≠bQ):called (aY b b)=true:=by unfold called aY;simp [h,mP]
theorem E8 {b:ByteArray}:called (aY bQ b)=false:=by unfold called aY;simp
theorem pX {s:State} {b:ByteArray} (h:b≠bQ):due s (aY b b)=b:=by unfold due;rw [if_neg (by exact h)];rfl
theorem Ih {s:State} {b:ByteArray} (h:on s=[b]):due s (aY bQ b)=b:=by unfold due;rw [if_pos (show (aY bQ b).called=bQ from rfl),h];rfl
theorem ou {s:State} {b:ByteArray} (h:b≠bQ):wanted s (aY b b) b=true:=by unfold wanted aY;simp [h]
theorem EK {s:State} {b:ByteArray} (hp:s.phase≠bV) (h:on s=[b]):wanted s (aY bQ b) b=true:=by unfold wanted;simp [hp,h,mP]
theorem G7 {g:Game} (hg:g.kind=aK) {s:State} (h:Ok g s) (hw:s.ay<0) (hs:s.s0≤95000∧s.s1≤95000):JO g s:=by
 have hrr:=h.inr.aW.1;have cbr:count [bf] aX=0:=jH (by decide)
 rcases lT h hg with ⟨hp,hc0,hr0⟩ | ⟨hp,hc0,hfr,hfo⟩ | ⟨hp,hr0,hc⟩
 · have hnc:s.phase≠bV:=by rw [hp];exact fun hx=>fQ hx.symm
   have hnf:s.phase≠bJ:=by rw [hp];exact fun hx=>eG hx.symm
   cases hf:s.free
   · have hpt:aF s (aY bQ aX)=1:=by unfold aF;rw [if_pos hp,E8];show count [aX] aX+_=1;rw [oK];rfl
     refine Ba hg h hw hs bQ aX (by unfold dY;rw [if_neg (by simp [hf]),if_neg hnc,if_neg hnf]) (fun hx=>absurd rfl hx) (by decide+kernel) (wM hnc) (fun _=>hr0) (fun hx=>absurd hx hnf) (Ih (Jf hp)) (by decide) (EK hnc (Jf hp)) (by rw [hpt];omega) (.inr fun n hn=>?_);rw [hpt] at hn ⊢
     unfold bg at hn
     rw [if_pos (by show s.phase≠bJ;exact hnf),if_pos ⟨by exact hp,rfl⟩] at hn;subst hn;refine ⟨rfl,hw,?_,?_⟩
     · rw [jI (by exact hw) rfl,ng hw hp,hf]
       show 8*(s.aW - count [aX] aX)+34+1=8*s.aW+27+0
       rw [oK];omega
     · unfold iD
       rw [if_neg (by exact fQ),if_pos rfl,if_pos hp,hf]
       show 2*(s.aW - count [aX] aX)+7+1=2*s.aW+6+0
       rw [oK];omega
   · have hpt:aF s (aY bf bf)=1:=by unfold aF;rw [if_pos hp,lF jJ];show count [bf] aX+_=1;rw [cbr];rfl
     refine Ba hg h hw hs bf bf (by unfold dY;rw [if_pos ⟨hf,.inl hp⟩]) (fun _=>by rw [iU];omega) (by rw [iU];omega) ?_ (fun hx=>absurd hx (by decide)) (fun hx=>absurd hx hnf) (pX jJ) (by decide) (ou jJ) (by rw [hpt];omega) (.inr fun n hn=>?_)
     · unfold eF
       rw [if_neg (by simp [aY,hg]),if_neg hnc]
       simp only [decide_eq_true_eq]
       right
       unfold callable
       rw [if_neg (by simp [hf]),if_pos hp]
       show decide (2≤value bf)=true
       rw [iU];rfl
     · rw [hpt] at hn ⊢
       unfold bg at hn
       rw [if_pos (by show s.phase≠bJ;exact hnf),if_pos ⟨by exact hp,rfl⟩] at hn;subst hn;refine ⟨rfl,hw,?_,?_⟩
       · rw [jI (by exact hw) rfl,ng hw hp,hf]
         show 8*(s.aW - count [bf] aX)+34+1=8*s.aW+27+8
         rw [cbr];omega
       · unfold iD
         rw [if_neg (by exact fQ),if_pos rfl,if_pos hp,hf]
         show 2*(s.aW - count [bf] aX)+7+1=2*s.aW+6+2
         rw [cbr];omega
 · have hnr:s.phase≠gu:=by rw [hp];exact fQ
   have hnf:s.phase≠bJ:=by rw [hp];exact fun hx=>fJ hx.symm
   have hwv:worth s (aY bf bf)=7:=by unfold worth;rw [if_neg hnr,if_pos hp];exact iU
   have hpt:aF s (aY bf bf)=7:=by unfold aF;rw [if_neg hnr,if_pos (.inl (lF jJ)),hwv]
   refine Ba hg h hw hs bf bf (by unfold dY;rw [if_neg (by simp [hfr]),if_pos hp]) (fun _=>by rw [iU];omega) (by rw [iU];omega) ?_ (fun hx=>absurd hx (by decide)) (fun hx=>absurd hx hnf) (pX jJ) (by decide) (ou jJ) (by rw [hpt];omega) (.inr fun n hn=>?_)
   · unfold eF
     rw [if_neg (by simp [aY,hg]),if_pos hp]
     simp [aY]
   · rw [hpt] at hn ⊢
     unfold bg at hn
     rw [if_pos (by show s.phase≠bJ;exact hnf),if_neg (fun hx=>hnr hx.1)] at hn
     have e1:(jm g s ⟨7,0,0,true⟩).aW - count (aY bf bf).aV aX=s.aW:=by show s.aW - count [bf] aX=s.aW;rw [cbr];omega
     rw [e1] at hn
     by_cases hr:0<s.aW
     · rw [if_pos hr] at hn
       subst hn;refine ⟨rfl,hw,?_,?_⟩
       · rw [ng (by exact hw) rfl,jI hw hp]
         show 8*s.aW+27+0+7=_
         omega
       · unfold iD
         rw [if_pos rfl,if_neg hnr,if_pos hp]
         show 2*s.aW+6+0+1=_
         omega
     · rw [if_neg hr] at hn
       subst hn;refine ⟨rfl,hw,?_,?_⟩
       · rw [iH (by exact hw) rfl ⟨Int.le_refl 2,by show (2:Int)≤7;decide⟩,jI hw hp]
         show (2+7)*(8 - 2) / 2+(if false=true∧(2:Int)<7 then 2 else 0)+7=_
         simp;omega
       · unfold iD
         rw [if_neg (by exact eG),if_neg (by exact fJ),if_neg hnr,if_pos hp]
         show 8 - 2+(if false=true∧(2:Int)<7 then 1 else 0)+1=_
         simp;omega
 · have hnr:s.phase≠gu:=by rw [hp];exact eG
   have hnc:s.phase≠bV:=by rw [hp];exact fJ
   have hwv:∀ e,worth s e=s.colour:=fun e=>by unfold worth;rw [if_neg hnr,if_neg hnc]
   obtain ⟨v1,v2,v3,v4,v5⟩:=pU hc
   by_cases hf:s.free=true∧s.colour<7
   · have hpt:aF s (aY bf bf)=s.colour:=by unfold aF;rw [if_neg hnr,if_pos (.inl (lF jJ)),hwv]
     refine Ba hg h hw hs bf bf (by unfold dY;rw [if_pos ⟨hf.1,.inr hf.2⟩]) (fun _=>by rw [iU];omega) (by rw [iU];omega) ?_ (fun hx=>absurd hx (by decide)) (fun _=> .inl (by rw [iU];omega)) (pX jJ) (by decide) (ou jJ) (by rw [hpt];omega) (.inr fun n hn=>?_)
     · unfold eF
       rw [if_neg (by simp [aY,hg]),if_neg hnc]
       simp only [decide_eq_true_eq]
       right
       unfold callable
       rw [if_neg (by simp [hf.1]),if_neg hnr]
       show decide (s.phase=bJ∧s.colour<value bf)=true
       rw [iU];simp [hp,hf.2]
     · rw [hpt] at hn ⊢
       have hnp:has [bf] (bC s.colour)=false:=ql (fun hx=>v5 hf.2 hx.symm)
       unfold bg at hn
       rw [if_neg (by show ¬ s.phase≠bJ;simp [hp])] at hn
       dsimp only at hn
       have e1:has (aY bf bf).aV (bC (jm g s ⟨s.colour,0,0,true⟩).colour)=false:=hnp;rw [e1,if_pos (by exact hf.2)] at hn
       simp only [Bool.false_eq_true,and_false,decide_false,if_false] at hn
       subst hn;refine ⟨rfl,hw,?_,?_⟩
       · rw [iH (by exact hw) (by exact hp) (by exact hc),iH hw hp hc,if_pos hf]
         show (s.colour+7)*(8 - s.colour) / 2+(if false=true∧s.colour<7 then s.colour else 0)+s.colour=_
         simp
       · unfold iD
         rw [if_neg (by exact hnr),if_neg (by exact hnc),if_neg hnr,if_neg hnc,if_pos hf]
         show 8 - s.colour+(if false=true∧s.colour<7 then 1 else 0)+1=_
         simp
   · have hpt:aF s (aY bQ (bC s.colour))=s.colour:=by
      unfold aF
      rw [if_neg hnr,if_pos (.inr ⟨by rw [rP hp];exact mP _,hp⟩),hwv]
     refine Ba hg h hw hs bQ (bC s.colour) (by unfold dY;rw [if_neg (fun hx=>hx.2.elim hnr (fun hy=>hf ⟨hx.1,hy⟩)),if_neg hnc,if_pos hp]) (fun hx=>absurd rfl hx) (by rw [v1];omega) (wM hnc) (fun hx=>absurd hx v4) (fun _=> .inl (by rw [v1];omega)) (Ih (rP hp)) v3 (EK hnc (rP hp)) (by rw [hpt];omega) ?_;rw [hpt]
     by_cases h7:s.colour<7
     · refine .inr fun n hn=>?_
       unfold bg at hn
       rw [if_neg (by show ¬ s.phase≠bJ;simp [hp])] at hn
       dsimp only at hn
       have e1:has (aY bQ (bC s.colour)).aV (bC (jm g s ⟨s.colour,0,0,true⟩).colour)=true:=mP _;rw [e1,if_pos (by exact h7)] at hn
       simp only [and_true,decide_true,if_true] at hn
       subst hn;have hts:=AY ⟨hc.1,h7⟩
       unfold tri at hts
       refine ⟨rfl,hw,?_,?_⟩
       · rw [iH (by exact hw) (by exact hp) (by show 2≤s.colour+1∧s.colour+1≤7;omega),iH hw hp hc,if_neg hf]
         show (s.colour+1+7)*(8 - (s.colour+1)) / 2+(if false=true∧s.colour+1<7 then s.colour+1 else 0)+s.colour=_
         simp;omega
       · unfold iD
         rw [if_neg (by exact hnr),if_neg (by exact hnc),if_neg hnr,if_neg hnc,if_neg hf]
         show 8 - (s.colour+1)+(if false=true∧s.colour+1<7 then 1 else 0)+1=_
         simp;omega
     · refine .inl ?_
       have:s.colour=7:=by omega
       rw [iH hw hp hc,if_neg hf,this]
       decide
theorem BX {g:Game} (hg:g.kind=aK) {s:State} (h:Ok g s):1≤iD s∧iD s≤38:=by
 have hr:=h.inr.aW
 have hgr:g.aW≤15:=by rcases gW h.game with ⟨_,a,_⟩ | ⟨a,_⟩ | ⟨a,_⟩;exact a.2;rw [hg] at a;exact absurd a.symm pI;rw [hg] at a;exact absurd a.symm nN
 unfold iD
 rcases lT h hg with ⟨hp,_⟩ | ⟨hp,_⟩ | ⟨hp,_,hc⟩
 · rw [if_pos hp];split <;> omega
 · rw [if_neg (by rw [hp];exact fQ),if_pos hp];omega
 · rw [if_neg (by rw [hp];exact eG),if_neg (by rw [hp];exact fJ)];split <;> omega
end Sk
namespace Sk
def qo (holds:Bool) (n most:Int):Bool:=if holds=true then !out n 1 most else n=0
def Em (g:Game):Int:=
 if g.kind≠aK∧g.kind≠bF∧g.kind≠fA then 13
 else if qo (g.kind=aK) g.aW 15=false∨qo (g.kind=bF∨g.kind=fA) g.target 1000=false∨qo (g.kind=fA) g.turns 100=false then 3
 else 0
theorem RH (g:Game):Em g=eU g:=by
 unfold Em eU jv fits qo
 by_cases h1:g.kind=aK
 · have n1:aK≠bF:=fun h=>pI h.symm
   have n2:aK≠fA:=fun h=>nN h.symm
   simp only [h1,n1,n2]
   cases out g.aW 1 15 <;> by_cases h2:g.target=0 <;> by_cases h3:g.turns=0 <;> simp [h2,h3]
 · by_cases h2:g.kind=bF
   · have n2:bF≠fA:=fun h=>qI h.symm
     simp only [h2,pI,n2]
     cases out g.target 1 1000 <;> by_cases h3:g.aW=0 <;> by_cases h4:g.turns=0 <;> simp [h3,h4]
   · by_cases h3:g.kind=fA
     · simp only [h3,nN,qI]
       cases out g.target 1 1000 <;> cases out g.turns 1 100 <;> by_cases h4:g.aW=0 <;> simp [h4]
     · simp [h1,h2,h3]
def jS (g:Game) (s:State):Bool:=0<g.target∧g.target≤max s.s0 s.s1
def ig (s:State):Bool:=
 if s.phase=gu then s.colour≠0∨s.aW=0
 else if s.phase=bV then s.colour≠0
 else if s.phase=bJ then s.colour<2∨0<s.aW
 else s.colour≠0∨s.free∨s.aO
def kE (g:Game) (s:State):Bool:=
 if score s s.turn<s.brk∨(s.ay=2∧g.kind≠fA)∨(0<s.aJ∧g.kind≠bF) then false
 else if ig s then false
 else if cZ s then false
 else if g.kind=bF∧jS g s∧s.ay<0 then false
 else if g.kind≠fA then true
 else if 0≤s.ay then s.t0=s.t1∨(s.turn=1∧s.t0=s.t1+1)
 else if s.turn=1 then s.t0=s.t1+1
 else s.t0=s.t1∧jS g s=false∧s.t0<g.turns
def Ai (g:Game) (s:State):Int:=
 if eU g≠0 then eU g else if far g s then 3 else if fH g s.phase=false then 13 else if kE g s=false then 19 else 0
theorem yD {g:Game} (h:1≤g.target) (s:State):jS g s=true↔g.target≤max s.s0 s.s1:=by unfold jS;simp;omega
theorem Vl:gu≠bJ:=fun h=>eG h.symm
theorem TB:bV≠bJ:=fun h=>fJ h.symm
theorem Gp:ru≠gu:=by decide
theorem Gn:ru≠bJ:=by decide
theorem Io {g:Game} {s:State} (hg:g.kind=aK) (hr:WH g s) (hp:fH g s.phase=true):kE g s=true↔s.brk≤score s s.turn∧cZ s=false∧bH s=true:=by
 have n1:aK≠bF:=fun h=>pI h.symm;have n2:aK≠fA:=fun h=>nN h.symm;have hs:=hr.aJ;have hrd:=hr.aW.1
 have key:ig s=false↔(s.phase=bJ→s.aW=0∧2≤s.colour)∧(s.phase≠bJ→s.colour=0∧(s.phase≠gu∨0<s.aW)):=by
  unfold ig
  rcases (ny hg).1 hp with h | h | h
  · rw [if_pos h,h];simp [Vl];omega
  · rw [if_neg (by rw [h];exact fQ),if_pos h,h];simp [TB,fQ]
  · rw [if_neg (by rw [h];exact eG),if_neg (by rw [h];exact fJ),if_pos h,h];simp;omega
 rw [jq, ← key]
 unfold kE
 by_cases c1:score s s.turn<s.brk∨(s.ay=2∧g.kind≠fA)∨(0<s.aJ∧g.kind≠bF)
 · rw [if_pos c1,hg] at*
   simp only [Bool.false_eq_true,false_iff]
   rintro ⟨h1,_,h2,h3,_⟩
   rcases c1 with c | c | c
   · omega
   · exact h3 c.1
   · omega
 · rw [if_neg c1]
   simp only [hg,not_or,not_and,n1,n2,ne_eq,not_false_iff,not_true] at c1
   have q1:s.ay≠2:=fun h=>(c1.2.1 h).elim
   have q2:s.aJ=0:=by have:=c1.2.2;rcases Int.lt_or_le 0 s.aJ with h | h;exact (this h).elim;omega
   cases h1:ig s <;> cases h2:cZ s <;> simp [hg,n1,n2,q1,q2]
   all_goals omega
theorem KT {g:Game} {s:State} (hg:g.kind=bF) (ht:1≤g.target) (hr:WH g s) (hp:fH g s.phase=true):kE g s=true↔s.brk≤score s s.turn∧cZ s=false∧bZ g s=true:=by
 have n2:bF≠fA:=fun h=>qI h.symm;have uz:=(rQ (by rw [hg];exact pI)).1 hp
 have key:ig s=false↔s.colour=0∧s.free=false∧s.aO=false:=by
  unfold ig
  rw [if_neg (by rw [uz];exact Gp),if_neg (by rw [uz];exact Gm),if_neg (by rw [uz];exact Gn)]
  simp
 rw [mO, ← key]
 unfold kE
 by_cases c1:score s s.turn<s.brk∨(s.ay=2∧g.kind≠fA)∨(0<s.aJ∧g.kind≠bF)
 · rw [if_pos c1]
   simp only [Bool.false_eq_true,false_iff]
   rintro ⟨h1,_,_,h3,_⟩
   rcases c1 with c | c | c
   · omega
   · exact h3 c.1
   · exact c.2 hg
 · rw [if_neg c1]
   simp only [not_or,not_and,hg] at c1
   have q1:s.ay≠2:=fun h=>c1.2.1 h n2;have hre:=yD ht s
   cases h1:ig s <;> cases h2:cZ s <;> cases h3:jS g s <;> rw [h3] at hre <;> simp [hg,n2,q1]
   all_goals (simp at hre;omega)
theorem Il {g:Game} {s:State} (hg:g.kind=fA) (ht:1≤g.target) (hr:WH g s) (hp:fH g s.phase=true):kE g s=true↔s.brk≤score s s.turn∧cZ s=false∧lu g s=true:=by
 have uz:=(rQ (by rw [hg];exact nN)).1 hp;have hs:=hr.aJ
 have key:ig s=false↔s.colour=0∧s.free=false∧s.aO=false:=by
  unfold ig
  rw [if_neg (by rw [uz];exact Gp),if_neg (by rw [uz];exact Gm),if_neg (by rw [uz];exact Gn)]
  simp
 rw [jD, ← key]
 unfold kE
 by_cases c1:score s s.turn<s.brk∨(s.ay=2∧g.kind≠fA)∨(0<s.aJ∧g.kind≠bF)
 · rw [if_pos c1]
   simp only [Bool.false_eq_true,false_iff]
   rintro ⟨h1,_,_,h3,_⟩
   rcases c1 with c | c | c
   · omega
   · exact c.2 hg
   · omega
 · rw [if_neg c1]
   simp only [not_or,not_and,hg] at c1
   have q2:s.aJ=0:=by rcases Int.lt_or_le 0 s.aJ with h | h;exact absurd qI (c1.2.2 h);omega
   have q3:s.brk≤score s s.turn:=by have:=c1.1;omega
   have hre:=yD ht s
   cases h1:ig s
   · cases h2:cZ s
     · have c3:¬ (g.kind=bF∧jS g s=true∧s.ay<0):=fun h=>by rw [hg] at h;exact qI h.1
       rw [if_neg (by simp),if_neg (by simp),if_neg c3,if_neg (by simp [hg])]
       by_cases hw:0≤s.ay
       · rw [if_pos hw]
         simp only [decide_eq_true_eq]
         exact ⟨fun h=>⟨q3,trivial,trivial,q2,fun _=>h,fun h2=>by omega⟩,fun h=>h.2.2.2.2.1 hw⟩
       · rw [if_neg hw]
         by_cases htn:s.turn=1
         · rw [if_pos htn]
           simp only [decide_eq_true_eq]
           exact ⟨fun h=>⟨q3,trivial,trivial,q2,fun h2=>absurd h2 hw,fun _=>⟨fun _=>h,fun h3=>absurd htn h3⟩⟩,fun h=>(h.2.2.2.2.2 (by omega)).1 htn⟩
         · rw [if_neg htn]
           have akl:jS g s=false↔max s.s0 s.s1<g.target:=by cases h3:jS g s <;> rw [h3] at hre <;> simp at hre ⊢ <;> omega
           simp only [decide_eq_true_eq,akl]
           exact ⟨fun h=>⟨q3,trivial,trivial,q2,fun h2=>absurd h2 hw,fun _=>⟨fun h3=>absurd h3 htn,fun _=>⟨h.1,h.2.2,h.2.1⟩⟩⟩,fun h=>by have:=(h.2.2.2.2.2 (by omega)).2 htn;exact ⟨this.1,this.2.2,this.2.1⟩⟩
     · simp
   · simp
theorem MG (g:Game) (s:State):Ai g s=bW g s:=by
 unfold Ai bW
 by_cases h0:eU g≠0
 · simp only [if_pos h0]
 simp only [if_neg h0]
 have h0:eU g=0:=Decidable.not_not.1 h0
 cases hf:far g s
 · simp only [Bool.false_eq_true,if_false]
   cases hp:fH g s.phase
   · simp only [if_true]
   · simp only [Bool.true_eq_false,if_false]
     have hr:=DL.1 hf
     have key:kE g s=true↔s.brk≤score s s.turn∧cZ s=false∧ji g s=true:=by
      rcases gW h0 with ⟨hg,_⟩ | ⟨hg,_,ht,_⟩ | ⟨hg,_,ht,_⟩
      · rw [lV hg];exact Io hg hr hp
      · rw [qW hg];exact KT hg ht.1 hr hp
      · rw [kW hg];exact Il hg ht.1 hr hp
     by_cases hk:kE g s=true
     · have h1:=key.1 hk
       rw [if_neg (by rw [hk];simp),if_neg (by rw [h1.2.1,h1.2.2];simp;omega)]
     · rw [if_pos (by simpa using hk),if_pos]
       cases h1:cZ s
       · cases h2:ji g s
         · simp
         · rw [h1,h2] at key
           left
           rcases Int.lt_or_le (score s s.turn) s.brk with h | h
           · exact h
           · exact absurd (key.2 ⟨h,rfl,rfl⟩) hk
       · simp
 · simp only [if_true]
end Sk
namespace Sk
theorem vals:value dB=0∧value aX=1∧value dH=2∧value wH=3∧value wG=4∧value BZ=5∧value iw=6∧value bf=7:=by decide+kernel
end Sk
namespace Nm
structure Fr where
 n:Int
 d:Int
 deriving DecidableEq
def gcd (a b:Int):Int:=(Int.gcd a b:Int)
def make (n d:Int):Fr:=
 let a:=if d<0 then -n else n
 let b:=if d<0 then -d else d
 if b=1 then ⟨a,b⟩ else ⟨a / gcd a b,b / gcd a b⟩
def whole (n:Int):Fr:=⟨n,1⟩
def neg (a:Fr):Fr:=⟨-a.n,a.d⟩
def add (a b:Fr):Fr:=if a.d=1∧b.d=1 then whole (a.n+b.n) else make (a.n*b.d+b.n*a.d) (a.d*b.d)
def sub (a b:Fr):Fr:=add a (neg b)
def mul (a b:Fr):Fr:=make (a.n*b.n) (a.d*b.d)
def inv (a:Fr):Fr:=make a.d a.n
def div (a b:Fr):Fr:=mul a (inv b)
def nC (a:Int):Int:=if a<0 then -1 else if 0<a then 1 else 0
def N9 (a b:Int):Int:=if a<b then -1 else if b<a then 1 else 0
def cmp (a b:Fr):Int:=N9 (a.n*b.d) (b.n*a.d)
def sm (a:Int):Bool:= -1000000000≤a∧a≤1000000000
def ok (a:Fr):Bool:=sm a.n∧sm a.d∧1≤a.d
theorem xq {a:Int}:sm a=true↔ -1000000000≤a∧a≤1000000000:=by unfold sm;rw [decide_eq_true_eq]
theorem Hy {a b m n:Int} (ha: -m≤a∧a≤m) (hb: -n≤b∧b≤n): -(m*n)≤a*b∧a*b≤m*n:=by
 have hm:0≤m:=by omega
 have hn:0≤n:=by omega
 have h1:(a*b).natAbs≤(m*n).natAbs:=by
  rw [Int.natAbs_mul,Int.natAbs_mul];exact Nat.mul_le_mul (by omega) (by omega)
 have h2:0≤m*n:=Int.mul_nonneg hm hn
 omega
theorem Yp {a b:Int} (ha:sm a=true) (hb:sm b=true): -1000000000000000000≤a*b∧a*b≤1000000000000000000:=by
 have:=Hy (xq.1 ha) (xq.1 hb)
 omega
theorem down {a b:Int} (hb:0<b):(if Int.tmod a b<0 then Int.tdiv a b - 1 else Int.tdiv a b)=a / b∧(if Int.tmod a b<0 then Int.tmod a b+b else Int.tmod a b)=a % b:=by
 have h1:=Int.mul_tdiv_add_tmod a b;have h2:=Int.mul_ediv_add_emod a b;have h3:=Int.emod_nonneg a (by omega:b≠0);have h4:=Int.emod_lt_of_pos a hb
 have h5: -b<Int.tmod a b:=by
  have:=Int.lt_tmod_of_pos a hb
  omega
 have h6:Int.tmod a b<b:=Int.tmod_lt_of_pos a hb
 have key:∀ q r:Int,b*q+r=a→0≤r→r<b→q=a / b∧r=a % b:=by
  intro q r hq hr hl
  have e:r=a % b:=by
   have:a % b=(r+b*q) % b:=by rw [← hq];congr 1;omega
   rw [this,Int.add_mul_emod_self_left,Int.emod_eq_of_lt hr hl]
  refine ⟨?_,e⟩
  have e2:b*q=b*(a / b):=by omega
  exact Int.eq_of_mul_eq_mul_left (by omega) e2
 split
 · refine key _ _ ?_ (by omega) (by omega)
   rw [Int.mul_sub];omega
 · exact key _ _ h1 (by omega) h6
end Nm
namespace Sk
def dG (c b:ByteArray) (r:List ByteArray):Entry:=⟨dW,c,[b],b::r,0⟩
structure pR (g:Game) (s:State) (e:Entry):Prop where
 ent:jc g e=0
 law:Lawful g s e
 shot:e.kind=dW
 iC:(judge g s e).iC=0
 points:0<(judge g s e).points∧(judge g s e).points≤16
theorem OI {l:List ByteArray} {b:ByteArray} (h:∀ y∈l,y≠b):has l b=false:=by
 unfold has
 rw [List.any_eq_false];intro y hy
 simpa using h y hy
theorem any_none {l:List ByteArray} {p:ByteArray→Bool} (h:∀ y∈l,p y=false):l.any p=false:=by
 rw [List.any_eq_false];intro y hy
 simp [h y hy]
theorem sW {g:Game} (hg:g.kind=aK) {s:State} {c b:ByteArray} {r:List ByteArray} (h:Ok g s) (hw:s.ay<0) (hs:s.s0≤95000∧s.s1≤95000)
 (hlen:r.length≤20) (hc:c≠bQ→2≤value c) (hcall:eF g s (dG c b r)=true) (hd:due s (dG c b r)=b)
 (hy:∀ y∈b::r,wanted s (dG c b r) y=true∧y≠dB∧0<value y∧gone s y=false)
 (zS:count (b::r) aX≤s.aW) (hhit:b=aX→0<s.aW) (htw:twice (b::r) (dX.filter (· ≠aX))=false)
 (hP:0<aF s (dG c b r)∧aF s (dG c b r)≤16):pR g s (dG c b r):=by
 have hb:=hy b (List.mem_cons_self ..)
 have hf:dw s (dG c b r)=0:=by
  unfold dw
  rw [if_neg (by simp [dG]),if_neg (by rw [hd];simp [dG]),if_neg (by show ¬ has (b::r) dB=true;rw [OI (fun y h=>(hy y h).2.1)];simp),if_neg (by
   show ¬ ((b::r).any fun x=>decide (wanted s (dG c b r) x=false))=true
   rw [any_none (fun y h=>by simp [(hy y h).1])];simp)]
 have hj:judge g s (dG c b r)=⟨aF s (dG c b r),0,0,decide (0<aF s (dG c b r))⟩:=by
  unfold judge
  rw [if_pos hg]
  unfold dQ
  rw [hf,if_neg (by decide)]
 have hk:(dG c b r).kind=dW:=rfl
 have h1:isKind dW=true:=by decide
 have hn:g.kind≠fA:=by rw [hg];exact fun hx=>nN hx.symm
 refine ⟨?_,⟨hw,fun hx=>?_,hcall,fun _=>?_,fun _=>?_⟩,hk,by rw [hj],by rw [hj];exact hP⟩
 · unfold jc
   rw [hk,if_neg (by simp [h1]),if_neg (by simp),if_neg (by simp [dG];omega),if_neg (by
    show ¬ ((c≠bQ∧value c<2)∨([b].any fun y=>decide (fM g y true=false))=true∨((b::r).any fun y=>decide (fM g y false=false))=true)
    rw [any_none (l:=b::r) (fun y h=>by simp [D9 hg (hy y h).2.2.1]),any_none (l:=[b]) (fun y h=>by
     obtain rfl:y=b:=by simpa using h
     simp [D9 hg hb.2.2.1])]
    simp only [not_or]
    exact ⟨fun hx=>by have:=hc hx.1;omega,by simp,by simp⟩),if_neg (by show ¬ out 0 0 99=true;decide),if_neg (by simp [hg,dG,hg ▸ hn])]
 · rcases hx with hx | hx
   · exact absurd (show dW=kK from hx) (by decide)
   · exact absurd (show dW=mQ from hx) (by decide)
 · have e3:iY g s (dG c b r)=eu s (dG c b r):=by unfold iY;rw [if_pos hg]
   rw [e3]
   unfold eu
   rw [if_neg (by
    show ¬ (s.aW<count (b::r) aX∨(s.aW=0∧has [b] aX=true))
    rintro (hx | ⟨hx,hz⟩)
    · omega
    · by_cases hbr:b=aX
      · have:=hhit hbr;omega
      · rw [ql hbr] at hz;cases hz),if_neg (by show ¬ twice (b::r) _=true;rw [htw];simp)]
   show decide (([b].any (gone s)=false)∧((b::r).any (gone s)=false))=true
   rw [any_none (l:=b::r) (fun y h=>(hy y h).2.2.2)]
   simp [hb.2.2.2]
 · have hn:=rM (g:=g) (s:=s) hk
   rw [hn.1,hn.2,hj]
   dsimp only
   have:=h.inr.turn
   repeat' split
   all_goals omega
theorem EL {s:State} (hp:s.phase=gu):iD s=2*s.aW+6+(if s.free=true then 2 else 0):=by unfold iD;rw [if_pos hp]
theorem uO {s:State} (hp:s.phase=bV):iD s=2*s.aW+7:=by unfold iD;rw [if_neg (by rw [hp];exact fQ),if_pos hp]
theorem qy {s:State} (hp:s.phase=bJ):iD s=8 - s.colour+(if s.free=true∧s.colour<7 then 1 else 0):=by unfold iD;rw [if_neg (by rw [hp];exact eG),if_neg (by rw [hp];exact fJ)]
theorem G6 {g:Game} {s:State} {e:Entry} (h:Ok g s) (hg:g.kind=aK) (ht:pR g s e):
 ((next g s e).turn=s.turn→(next g s e).ay<0→iD (next g s e)+1≤iD s)∧(judge g s e).points≤left s:=by
 obtain ⟨he,hl,hk,hf,hp0,atT⟩:=ht;have hw:=hl.ay;have hv:=vI g s e h.inr.colour (fun hg hp=>by have:=qF he hk hl.call hg hp;omega);have hm:=Ja h hv;have hpo:=rU hg hf;have hbl:=hl.dX hk
 have e3:iY g s e=eu s e:=by unfold iY;rw [if_pos hg]
 rw [e3] at hbl;obtain ⟨b1,_⟩:=rY hbl;have hcnt:=uV e.aV aX
 have e2:∀ m v,after g m e v=bg m e v:=fun m v=>by unfold after;rw [if_pos hg]
 rw [vS hk,e2];obtain ⟨m,hmm⟩:∃ m,mid g s (judge g s e)=m:=⟨_,rfl⟩;rw [hmm] at hm ⊢;rw [hpo] at hm hp0 ⊢;obtain ⟨P,hP⟩:∃ P,aF s e=P:=⟨_,rfl⟩;rw [hP] at hm hp0 ⊢;obtain ⟨m1,m2,m3,m4,m5,m6,m7,m8,m9,m10,m11,m12,m13⟩:=hm
 dsimp only at m1 hp0 ⊢
 rw [if_pos (by simpa using hp0)] at m1;have hcall:=hl.call
 unfold bg
 rcases lT h hg with ⟨hp,hc0,hr0⟩ | ⟨hp,hc0,hfr,hfo⟩ | ⟨hp,hr0,hc⟩
 · have hpm:m.phase=gu:=m3.trans hp
   have WY:P=count e.aV aX+(if called e=true then 1 else 0):=by rw [← hP];unfold aF;rw [if_pos hp]
   rw [if_pos (by rw [hpm];exact fun hx=>eG hx.symm),if_pos ⟨hpm,by simpa using hp0⟩,ng hw hp,EL hp];have hcf:called e=true→s.free=true:=fun hx=>(sN hcall hk hg (by rw [hp];exact fun hy=>fQ hy.symm) (qG hx)).1;refine ⟨fun _ _=>?_,?_⟩
   · rw [uO rfl]
     show 2*(m.aW - count e.aV aX)+7+1≤_
     by_cases hcl:called e=true
     · rw [if_pos (hcf hcl)];omega
     · rw [if_neg hcl] at WY;split <;> omega
   · split at WY <;> split <;> omega
 · have hpm:m.phase=bV:=m3.trans hp
   have hP7:P≤7:=by
    have hwv:worth s e=value e.called:=by unfold worth;rw [if_neg (by rw [hp];exact fQ),if_pos hp]
    rw [← hP]
    unfold aF
    rw [if_neg (by rw [hp];exact fQ),hwv]
    have:=(nG e.called).2
    split <;> omega
   have hrr:=h.inr.aW.1;rw [if_pos (by rw [hpm];exact fun hx=>fJ hx.symm),jI hw hp,uO hp,if_neg (by rw [hpm];exact fun hx=>fQ hx.1)];refine ⟨fun _ _=>?_,by omega⟩
   split
   · rw [EL rfl]
     show 2*(m.aW - count e.aV aX)+6+(if m.free=true then 2 else 0)+1≤_
     rw [m6];simp;omega
   · rw [qy rfl]
     show 8 - (2:Int)+(if m.free=true∧(2:Int)<7 then 1 else 0)+1≤_
     rw [m6];simp;omega
 · have hpm:m.phase=bJ:=m3.trans hp
   have hpf:=nU (e:=e) hp hc.1;rw [hP] at hpf
   have hPc:P=s.colour:=by
    have hwv:worth s e=s.colour:=by unfold worth;rw [if_neg (by rw [hp];exact eG),if_neg (by rw [hp];exact fJ)]
    rw [← hP] at hp0 ⊢
    unfold aF at hp0 ⊢
    rw [if_neg (by rw [hp];exact eG),hwv] at hp0 ⊢
    split at hp0
    · rename_i hh;rw [if_pos hh]
    · omega
   have hcf:called e=true→s.free=true∧s.colour<7:=fun hx=>by
    have h1:=sN hcall hk hg (by rw [hp];exact fJ) (qG hx);have h2:=h1.2.resolve_left (by rw [hp];exact eG);exact ⟨h1.1,by have:=(nG e.called).2;omega⟩
   have hor:=hpf.1 hp0;have htl:=EJ hc;have hts:s.colour<7→tri s.colour=s.colour+tri (s.colour+1):=fun h7=>AY ⟨hc.1,h7⟩;have auA:s.colour<7→7≤tri (s.colour+1):=fun h7=>(EJ (by omega)).1;refine ⟨?_,?_⟩
   · rw [if_neg (by rw [hpm];simp),qy hp]
     dsimp only
     rw [m5]
     cases hpt:has e.aV (bC s.colour)
     · have hca:called e=true:=by rcases hor with hx | hx;exact hx;rw [hpt] at hx;cases hx
       obtain ⟨hfr,h7⟩:=hcf hca;rw [if_pos h7,if_neg (by simp)];intro _ _;rw [qy (by exact hpm)]
       show 8 - s.colour+(if m.free=true∧s.colour<7 then 1 else 0)+1≤_
       rw [m6,if_neg (by simp),if_pos ⟨hfr,h7⟩]
       omega
     · by_cases h7:s.colour<7
       · rw [if_pos h7,if_pos (by simp)]
         intro _ _;rw [qy (by exact hpm)]
         show 8 - (s.colour+1)+(if m.free=true∧s.colour+1<7 then 1 else 0)+1≤_
         rw [m6,if_neg (by simp)]
         split <;> omega
       · rw [if_neg h7,if_neg (by simp)]
         split
         · intro _ hx
           have hx:leader m<0:=hx
           unfold leader at hx
           repeat' split at hx
           all_goals omega
         · rw [if_pos (by simp)]
           intro hx;have hx:1 - m.turn=s.turn:=hx
           have:=h.inr.turn
           omega
   · rw [iH hw hp hc]
     have h0:0≤(if s.free=true∧s.colour<7 then s.colour else 0):=by split <;> omega
     unfold tri at htl
     omega
def mM (s:State) (n:Nat):List Entry:=[dG bQ aX (List.replicate n aX)]++if s.free=true then [dG iw iw (List.replicate (n+1) aX)] else []
def dU (s:State):List Entry:=
 if s.phase=gu then (List.range s.aW.toNat).flatMap (mM s)++(if s.free=true then [aY bf bf] else [])
 else if s.phase=bV then ([2,3,4,5,6,7]:List Int).map fun n=>aY (bC n) (bC n)
 else if s.phase=bJ∧2≤s.colour∧s.colour≤7 then [aY bQ (bC s.colour)]++(if s.free=true∧s.colour<7 then [aY (bC (s.colour+1)) (bC (s.colour+1)),dG bf bf [bC s.colour]] else [])
 else []
theorem Cj (n:Nat) (b:ByteArray):count (List.replicate n b) b=n:=by unfold count;simp
theorem count_cons (b x:ByteArray) (l:List ByteArray):count (b::l) x=(if b=x then 1 else 0)+count l x:=by
 unfold count
 by_cases h:b=x <;> simp [h] <;> omega
theorem uX {n:Nat} {b x:ByteArray} (h:b≠x):count (List.replicate n b) x=0:=by
 unfold count
 have:(List.replicate n b).filter (fun y=>decide (y=x))=[]:=by rw [List.filter_eq_nil_iff];intro y hy;rw [List.eq_of_mem_replicate hy];simpa using h
 rw [this];rfl
theorem qY {l:List ByteArray}:∀ r:List ByteArray,(∀ y∈r,count l y≤1)→twice l r=false
 | [],_=>rfl
 | y::r,h=>by
   unfold twice
   rw [qY r (fun z hz=>h z (List.mem_cons_of_mem _ hz))]
   have:=h y (List.mem_cons_self ..)
   simp;omega
theorem KA {y:ByteArray} (h:y∈dX.filter (· ≠aX)):aX≠y:=by
 rw [List.mem_filter] at h;intro e;subst e
 simp at h
theorem vF {s:State} (hp:s.phase≠bJ) (y:ByteArray):gone s y=false:=by unfold gone;simp [hp]
theorem SB {g:Game} (hg:g.kind=aK) {s:State} (h:Ok g s) (hw:s.ay<0) (hs:s.s0≤95000∧s.s1≤95000) (hp:s.phase=gu) {n:Nat} (hn:(n:Int)<s.aW) (h15:s.aW≤15):∀ e∈mM s n,pR g s e:=by
 have hnc:s.phase≠bV:=by rw [hp];exact fun hx=>fQ hx.symm
 have hnf:s.phase≠bJ:=by rw [hp];exact fun hx=>eG hx.symm
 have hon:=Jf hp
 have hv:value aX=1:=by decide+kernel
 have hvp:value iw=6:=by decide+kernel
 intro e he
 unfold mM at he
 rw [List.mem_append] at he
 rcases he with he | he
 · obtain rfl:e=_:=List.mem_singleton.1 he
   have hall:∀ y∈aX::List.replicate n aX,y=aX:=fun y hy=>by
    rcases List.mem_cons.1 hy with rfl | hy
    · rfl
    · exact List.eq_of_mem_replicate hy
   have hcn:count (aX::List.replicate n aX) aX=n+1:=by rw [count_cons,Cj,if_pos rfl];omega
   have hpt:aF s (dG bQ aX (List.replicate n aX))=n+1:=by
    unfold aF
    rw [if_pos hp]
    show count (aX::List.replicate n aX) aX+(if called (dG bQ aX (List.replicate n aX))=true then 1 else 0)=_
    rw [hcn,if_neg (by unfold called dG;simp)];omega
   refine sW hg h hw hs (by rw [List.length_replicate];omega) (fun hx=>absurd rfl hx) ?_ ?_ (fun y hy=>?_) (by rw [hcn];omega) (fun _=>by omega) ?_ (by rw [hpt];omega)
   · unfold eF;split;rfl;simp [dG]
   · unfold due;rw [if_pos (by rfl),hon];rfl
   · rw [hall y hy];exact ⟨by unfold wanted;simp [hnc,hon,mP],by decide,by rw [hv];decide,vF hnf _⟩
   · refine qY _ fun y hy=>?_
     have hne:=KA hy;rw [count_cons,uX hne,if_neg hne];decide
 · split at he
   rotate_left
   · cases he
   rename_i hfr;obtain rfl:e=_:=List.mem_singleton.1 he
   have hpr:iw≠aX:=by decide
   have hcn:count (iw::List.replicate (n+1) aX) aX=n+1:=by rw [count_cons,Cj,if_neg hpr];omega
   have hcd:called (dG iw iw (List.replicate (n+1) aX))=true:=by
    unfold called
    have:has (iw::List.replicate (n+1) aX) iw=true:=by unfold has;simp
    show decide (iw≠bQ∧has (iw::List.replicate (n+1) aX) iw=true)=true
    rw [this];decide
   have hpt:aF s (dG iw iw (List.replicate (n+1) aX))=n+2:=by
    unfold aF
    rw [if_pos hp,if_pos hcd]
    show count (iw::List.replicate (n+1) aX) aX+1=_
    rw [hcn];omega
   refine sW hg h hw hs (by rw [List.length_replicate];omega) (fun _=>by rw [hvp];decide) ?_ ?_ (fun y hy=>?_) (by rw [hcn];omega) (fun hx=>absurd hx hpr) ?_ (by rw [hpt];omega)
   · unfold eF;split;rfl
     have:callable s iw=true:=by unfold callable;rw [if_neg (by simp [hfr]),if_pos hp,hvp];decide
     simp [dG,this]
   · unfold due;rw [if_neg (by show ¬ iw=bQ;decide)];rfl
   · rcases List.mem_cons.1 hy with rfl | hy
     · exact ⟨by simp [wanted,dG,iw,bf,bQ],by decide,by rw [hvp];decide,vF hnf _⟩
     · rw [List.eq_of_mem_replicate hy];exact ⟨by unfold wanted;simp [hnc,hon,mP],by decide,by rw [hv];decide,vF hnf _⟩
   · refine qY _ fun y hy=>?_
     have hne:=KA hy;rw [count_cons,uX hne];split <;> decide
theorem JE {g:Game} (hg:g.kind=aK) {s:State} (h:Ok g s) (hw:s.ay<0) (hs:s.s0≤95000∧s.s1≤95000) (hp:s.phase=bV) {n:Int} (hn:2≤n∧n≤7):pR g s (aY (bC n) (bC n)):=by
 obtain ⟨v1,v2,v3,v4,_⟩:=pU hn
 have hnf:s.phase≠bJ:=by rw [hp];exact fun hx=>fJ hx.symm
 have hpt:aF s (aY (bC n) (bC n))=n:=by
  unfold aF worth
  rw [if_neg (by rw [hp];exact fQ),if_pos (.inl (lF v2)),if_neg (by rw [hp];exact fQ),if_pos hp];exact v1
 refine sW hg h hw hs (by simp) (fun _=>by omega) ?_ (pX v2) (fun y hy=>?_) (by rw [jH v4];exact h.inr.aW.1) (fun hx=>absurd hx v4) (qx _ _) (by rw [show dG (bC n) (bC n) []=aY (bC n) (bC n) from rfl,hpt];omega)
 · unfold eF;split;rfl
   simp [hp,dG,v2]
 · obtain rfl:y=bC n:=by simpa using hy
   exact ⟨ou v2,v3,by omega,vF hnf _⟩
theorem nY {s:State} {e:Entry} (hp:s.phase=bJ) (hc:2≤s.colour) (h:called e=true∨has e.aV (bC s.colour)=true):aF s e=s.colour:=by
 unfold aF worth
 rw [if_neg (by rw [hp];exact eG),if_pos (by
  rcases h with h | h
  · exact .inl h
  · exact .inr ⟨by rw [rP hp];exact h,hp⟩),if_neg (by rw [hp];exact eG),if_neg (by rw [hp];exact fJ)]
theorem zh {s:State} {y:ByteArray} (h:s.colour≤value y):gone s y=false:=by unfold gone;simp;intro _ _;omega
theorem MX {g:Game} (hg:g.kind=aK) {s:State} (h:Ok g s) (hw:s.ay<0) (hs:s.s0≤95000∧s.s1≤95000) (hp:s.phase=bJ) (hc:2≤s.colour∧s.colour≤7):
 pR g s (aY bQ (bC s.colour))∧(s.free=true→s.colour<7→pR g s (aY (bC (s.colour+1)) (bC (s.colour+1)))∧pR g s (dG bf bf [bC s.colour])):=by
 obtain ⟨v1,v2,v3,v4,v5⟩:=pU hc
 have hnc:s.phase≠bV:=by rw [hp];exact fJ
 have hon:=rP hp;have hr0:=h.inr.aW.1;refine ⟨?_,fun hfr h7=>⟨?_,?_⟩⟩
 · refine sW hg h hw hs (by simp) (fun hx=>absurd rfl hx) (wM hnc) (Ih hon) (fun y hy=>?_) (by rw [jH v4];exact hr0) (fun hx=>absurd hx v4) (qx _ _) (by rw [nY hp hc.1 (.inr (mP _))];omega)
   obtain rfl:y=bC s.colour:=by simpa using hy
   exact ⟨EK hnc hon,v3,by omega,zh (by omega)⟩
 · obtain ⟨u1,u2,u3,u4,_⟩:=pU (c:=s.colour+1) (by omega)
   refine sW hg h hw hs (by simp) (fun _=>by omega) ?_ (pX u2) (fun y hy=>?_) (by rw [jH u4];exact hr0) (fun hx=>absurd hx u4) (qx _ _) (by rw [nY (e:=dG (bC (s.colour+1)) (bC (s.colour+1)) []) hp hc.1 (.inl (lF u2))];omega)
   · unfold eF;split;rfl
     have:callable s (bC (s.colour+1))=true:=by unfold callable;rw [if_neg (by simp [hfr]),if_neg (by rw [hp];exact eG)];simp [hp];omega
     simp [dG,this,hnc]
   · obtain rfl:y=bC (s.colour+1):=by simpa using hy
     exact ⟨ou u2,u3,by omega,zh (by omega)⟩
 · have hbk:bC s.colour≠bf:=v5 h7
   have hcd:called (dG bf bf [bC s.colour])=true:=by
    have:has [bf,bC s.colour] bf=true:=by unfold has;simp
    show decide (bf≠bQ∧has [bf,bC s.colour] bf=true)=true
    rw [this];decide
   have hcn:count [bf,bC s.colour] aX=0:=by rw [count_cons,jH v4,if_neg (by decide)];rfl
   refine sW hg h hw hs (by simp) (fun _=>by rw [iU];decide) ?_ ?_ (fun y hy=>?_) (by rw [hcn];exact hr0) (fun hx=>absurd hx (by decide)) ?_ (by rw [nY hp hc.1 (.inl hcd)];omega)
   · unfold eF;split;rfl
     have:callable s bf=true:=by unfold callable;rw [if_neg (by simp [hfr]),if_neg (by rw [hp];exact eG)];simp [hp,iU];omega
     simp [dG,this,hnc]
   · unfold due;rw [if_neg (by show ¬ bf=bQ;decide)];rfl
   · rcases List.mem_cons.1 hy with rfl | hy
     · exact ⟨by simp [wanted,dG,iw,bf,bQ],by decide,by rw [iU];decide,zh (by rw [iU];omega)⟩
     · obtain rfl:y=bC s.colour:=by simpa using hy
       exact ⟨by unfold wanted;simp [hnc,hon,mP],v3,by omega,zh (by omega)⟩
   · refine qY _ fun y hy=>?_
     rw [count_cons]
     by_cases hb:bf=y
     · rw [if_pos hb,jH (by rw [← hb];exact hbk)];decide
     · rw [if_neg hb];have:=count_one (bC s.colour) y;omega
theorem EH {g:Game} (hg:g.kind=aK) {s:State} (h:Ok g s) (hw:s.ay<0) (hs:s.s0≤95000∧s.s1≤95000) (h15:s.aW≤15):∀ e∈dU s,pR g s e:=by
 intro e he
 unfold dU at he
 rcases lT h hg with ⟨hp,hc0,hr0⟩ | ⟨hp,hc0,hfr,hfo⟩ | ⟨hp,hr0,hc⟩
 · rw [if_pos hp,List.mem_append] at he
   rcases he with he | he
   · obtain ⟨n,hn,he⟩:=List.mem_flatMap.1 he
     have:=List.mem_range.1 hn
     exact SB hg h hw hs hp (by omega) h15 e he
   · split at he
     rotate_left
     · cases he
     rename_i hfr;obtain rfl:e=_:=List.mem_singleton.1 he;have hws:=G7 hg h hw hs
     have hb:dY s=aY bf bf:=by unfold dY;rw [if_pos ⟨hfr,.inl hp⟩]
     rw [← hb];exact ⟨hws.ent,oq.1 hws.legal,by rw [hb];rfl,hws.iC,hws.points.1,by have:=hws.points.2;omega⟩
 · rw [if_neg (by rw [hp];exact fQ),if_pos hp] at he
   obtain ⟨n,hn,rfl⟩:=List.mem_map.1 he;exact JE hg h hw hs hp (by simp at hn;omega)
 · rw [if_neg (by rw [hp];exact eG),if_neg (by rw [hp];exact fJ),if_pos ⟨hp,hc⟩,List.mem_append] at he
   obtain ⟨t1,t2⟩:=MX hg h hw hs hp hc
   rcases he with he | he
   · obtain rfl:e=_:=List.mem_singleton.1 he
     exact t1
   · split at he
     rotate_left
     · cases he
     rename_i hh;obtain ⟨t3,t4⟩:=t2 hh.1 hh.2
     rcases List.mem_cons.1 he with rfl | he
     · exact t3
     · obtain rfl:e=_:=List.mem_singleton.1 he
       exact t4
def kR (g:Game) (s:State) (e:Entry):Int:=(judge g s e).points+(if (next g s e).turn=s.turn then left (next g s e) else 0)
theorem JF {g:Game} (hg:g.kind=aK) {s:State} (h:Ok g s) {e:Entry} (ht:pR g s e):kR g s e≤left s∧(judge g s e).points≤kR g s e:=by
 have h1:=(Lu h hg ht.ent ht.shot ht.law ht.iC).2;have h2:=(G6 h hg ht).2;have h3:=(oO (Ee h ht.ent ht.law) hg).1
 unfold kR
 split
 · rename_i hh;have:=h1 hh;omega
 · omega
theorem Vu {g:Game} (hg:g.kind=aK) {s:State} (h:Ok g s) (hw:s.ay<0) (hs:s.s0≤95000∧s.s1≤95000) (ht:pR g s (dY s)):kR g s (dY s)=left s:=by
 obtain ⟨h1,h2⟩:=JF hg h ht
 rcases (G7 hg h hw hs).next with hn | ⟨hn,_,hl,_⟩
 · omega
 · unfold kR
   rw [if_pos hn]
   omega
theorem Vt {g:Game} (hg:g.kind=aK) {s:State} (h:Ok g s) (hw:s.ay<0) (hp:s.phase=bJ) (hc:2≤s.colour∧s.colour<7) (hf:s.free=true):kR g s (aY (bC (s.colour+1)) (bC (s.colour+1)))=left s:=by
 obtain ⟨u1,u2,u3,u4,_⟩:=pU (c:=s.colour+1) (by omega);have hP:=nY hp hc.1 (e:=aY (bC (s.colour+1)) (bC (s.colour+1))) (.inl (lF u2));have hj:=wV hg (s:=s) (pX u2) u3 (ou u2)
 have hne:bC (s.colour+1)≠bC s.colour:=fun hx=>by
  have h1:=(pU (c:=s.colour) (by omega)).1;rw [← hx,u1] at h1
  omega
 have e1:=Gh hg (s:=s) (c:=bC (s.colour+1)) (b:=bC (s.colour+1));rw [hP] at hj;rw [hj,CW (by omega)] at e1
 unfold bg at e1
 rw [if_neg (by show ¬ s.phase≠bJ;simp [hp])] at e1
 dsimp only at e1
 rw [if_pos (by show s.colour<7;exact hc.2),if_neg (by
  show ¬ decide ((0:Int)=0∧has [bC (s.colour+1)] (bC (jm g s _).colour)=true)=true
  show ¬ decide ((0:Int)=0∧has [bC (s.colour+1)] (bC s.colour)=true)=true
  rw [ql hne];simp)] at e1
 have lf:∀ t:State,t.ay<0→t.phase=bJ→t.free=false→t.colour=s.colour→left t=(s.colour+7)*(8 - s.colour) / 2:=fun t h1 h2 h3 h4=>by
  rw [iH h1 h2 (by omega),h4,if_neg (by rw [h3];simp)]
  omega
 have hl:=lf (next g s (aY (bC (s.colour+1)) (bC (s.colour+1)))) (by rw [e1];exact hw) (by rw [e1];exact hp) (by rw [e1];rfl) (by rw [e1];rfl)
 have ht:(next g s (aY (bC (s.colour+1)) (bC (s.colour+1)))).turn=s.turn:=by rw [e1];rfl
 unfold kR
 rw [if_pos ht,hl,hj,iH hw hp (by omega),if_pos ⟨hf,hc.2⟩]
 show s.colour+(s.colour+7)*(8 - s.colour) / 2=_
 omega
theorem SA {g:Game} (hg:g.kind=aK) {s:State} (h:Ok g s) (hw:s.ay<0) (hs:s.s0≤95000∧s.s1≤95000) (h15:s.aW≤15):∃ e∈dU s,kR g s e=left s:=by
 have hall:=EH hg h hw hs h15;have hb:dY s∈dU s→∃ e∈dU s,kR g s e=left s:=fun hx=>⟨_,hx,Vu hg h hw hs (hall _ hx)⟩
 rcases lT h hg with ⟨hp,hc0,hr0⟩ | ⟨hp,hc0,hfr,hfo⟩ | ⟨hp,hr0,hc⟩
 · have hnc:s.phase≠bV:=by rw [hp];exact fun hx=>fQ hx.symm
   have hnf:s.phase≠bJ:=by rw [hp];exact fun hx=>eG hx.symm
   refine hb ?_
   unfold dU
   rw [if_pos hp]
   cases hf:s.free
   · refine List.mem_append.2 (.inl (List.mem_flatMap.2 ⟨0,List.mem_range.2 (by omega),?_⟩))
     have hbs:dY s=aY bQ aX:=by unfold dY;rw [if_neg (by simp [hf]),if_neg hnc,if_neg hnf]
     rw [hbs]
     unfold mM
     exact List.mem_append.2 (.inl (List.mem_singleton.2 rfl))
   · refine List.mem_append.2 (.inr ?_)
     rw [if_pos rfl]
     unfold dY
     rw [if_pos ⟨hf,.inl hp⟩];exact List.mem_singleton.2 rfl
 · refine hb ?_
   have hbs:dY s=aY bf bf:=by unfold dY;rw [if_neg (by simp [hfr]),if_pos hp]
   rw [hbs]
   unfold dU
   rw [if_neg (by rw [hp];exact fQ),if_pos hp];exact List.mem_map.2 ⟨7,by simp,by rw [H6]⟩
 · have ht:dU s=[aY bQ (bC s.colour)]++(if s.free=true∧s.colour<7 then [aY (bC (s.colour+1)) (bC (s.colour+1)),dG bf bf [bC s.colour]] else []):=by
    unfold dU
    rw [if_neg (by rw [hp];exact eG),if_neg (by rw [hp];exact fJ),if_pos ⟨hp,hc⟩]
   by_cases hf:s.free=true∧s.colour<7
   · rw [if_pos hf] at ht
     exact ⟨_,by rw [ht];exact List.mem_append.2 (.inr (List.mem_cons_self ..)),Vt hg h hw hp ⟨hc.1,hf.2⟩ hf.1⟩
   · refine hb ?_
     have hbs:dY s=aY bQ (bC s.colour):=by unfold dY;rw [if_neg (fun hx=>hx.2.elim (fun h2=>eG (hp.symm.trans h2)) (fun h2=>hf ⟨hx.1,h2⟩)),if_neg (by rw [hp];exact fJ),if_pos hp]
     rw [ht,hbs];exact List.mem_append.2 (.inl (List.mem_singleton.2 rfl))
theorem Fp {α:Type} (f:α→Int) (M:Int):∀ (l:List α) (m:Int),m≤M→(∀ x∈l,f x≤M)→(m=M∨∃ x∈l,f x=M)→l.foldl (fun a x=>max a (f x)) m=M
 | [],m,_,_,h=>by
   rcases h with h | ⟨x,hx,_⟩
   · exact h
   · cases hx
 | x::l,m,hm,ha,h=>by
   have hx:=ha x (List.mem_cons_self ..);refine Fp f M l _ (by show max m (f x)≤M;omega) (fun y hy=>ha y (List.mem_cons_of_mem _ hy)) ?_
   rcases h with h | ⟨y,hy,he⟩
   · exact .inl (by show max m (f x)=M;omega)
   · rcases List.mem_cons.1 hy with rfl | hy
     · exact .inl (by show max m (f y)=M;omega)
     · exact .inr ⟨y,hy,he⟩
theorem Vs {g:Game} (hg:g.kind=aK) {s:State} (h:Ok g s) (hw:s.ay<0) (hs:s.s0≤95000∧s.s1≤95000) (h15:s.aW≤15):(dU s).foldl (fun a x=>max a (kR g s x)) 0=left s:=by
 have hall:=EH hg h hw hs h15;exact Fp _ _ _ _ (oO h hg).1 (fun x hx=>(JF hg h (hall x hx)).1) (.inr (SA hg h hw hs h15))
structure lK (g:Game) (s:State) (d:Int):Prop where
 ok:Ok g s
 kind:g.kind=aK
 depth:0≤d∧d≤20
 way:s.ay<0→d+iD s≤20
 s0:s.s0+16*(21 - d)≤95000
 s1:s.s1+16*(21 - d)≤95000
theorem lK.aW {g:Game} {s:State} {d:Int} (h:lK g s d):s.aW≤15:=by
 have h1:=h.ok.inr.aW
 rcases gW h.ok.game with ⟨_,a,_⟩ | ⟨_,a,_⟩ | ⟨_,a,_⟩ <;> omega
theorem lK.all {g:Game} {s:State} {d:Int} (h:lK g s d) (hw:s.ay<0):∀ e∈dU s,pR g s e:=by
 have:=h.s0
 have:=h.s1
 have:=h.depth
 exact EH h.kind h.ok hw (by omega) h.aW
theorem lK.max {g:Game} {s:State} {d:Int} (h:lK g s d) (hw:s.ay<0):(dU s).foldl (fun a x=>Max.max a (kR g s x)) 0=left s:=by
 have:=h.s0
 have:=h.s1
 have:=h.depth
 exact Vs h.kind h.ok hw (by omega) h.aW
theorem lK.next {g:Game} {s:State} {d:Int} (h:lK g s d) (hw:s.ay<0) {e:Entry} (he:e∈dU s) (ht:(next g s e).turn=s.turn):lK g (next g s e) (d+1):=by
 have ho:=h.all hw e he;have h1:=(G6 h.ok h.kind ho).1 ht;have h2:=h.way hw;have h3:=(BX h.kind h.ok).1;have h4:=rM (g:=g) (s:=s) ho.shot;have h5:=rU h.kind ho.iC
 have h6:(judge g s e).penalty=0:=by rw [h5]
 have h7:=ho.points;have h8:=h.depth;have h9:=h.s0;have h10:=h.s1;refine ⟨Ee h.ok ho.ent ho.law,h.kind,by omega,fun hw'=>by have:=h1 hw';omega,?_,?_⟩
 · rw [h4.1,h6];split <;> omega
 · rw [h4.2,h6];split <;> omega
theorem lK.start {g:Game} {s:State} (h:Ok g s) (hg:g.kind=aK) (hr:s.aW≤2) (h0:s.s0≤500) (h1:s.s1≤500):lK g s 0:=by
 refine ⟨h,hg,by omega,fun hw=>?_,by omega,by omega⟩
 rcases lT h hg with ⟨hp,hc0,hr0⟩ | ⟨hp,hc0,hfr,hfo⟩ | ⟨hp,hr0,hc⟩
 · rw [EL hp];split <;> omega
 · rw [uO hp];omega
 · rw [qy hp];split <;> omega
end Sk
end Go.Proofs.YtcbmedfongiojaaGreatDoor
