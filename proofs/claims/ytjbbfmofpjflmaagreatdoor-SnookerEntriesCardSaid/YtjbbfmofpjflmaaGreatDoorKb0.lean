/- Parts of a proof. -/
import Derived.Lib.Hide
set_option maxHeartbeats 4000000
set_option linter.unusedVariables false
set_option linter.unusedSimpArgs false
namespace Go.Proofs.YtjbbfmofpjflmaaGreatDoor
namespace M
abbrev jJ:ByteArray:=⟨#[98,114,101,97,107]⟩
abbrev Aq:ByteArray:=⟨#[112,108,97,121]⟩
abbrev Ur:ByteArray:=⟨#[115,97,102,101,116,121]⟩
abbrev xg:ByteArray:=⟨#[112,117,115,104]⟩
abbrev yX:ByteArray:=⟨#[112,97,115,115]⟩
abbrev eU:ByteArray:=⟨#[99,111,110,99,101,100,101]⟩
abbrev iE:ByteArray:=⟨#[115,116,114,97,105,103,104,116]⟩
abbrev ku:ByteArray:=⟨#[101,105,103,104,116]⟩
abbrev jH:ByteArray:=⟨#[110,105,110,101]⟩
structure Wp where
 gQ:Int
 lW:Int
 deriving DecidableEq
structure Rules where
 game:ByteArray
 target:Int
 jL:Int
structure gy where
 dK:Int
 kind:ByteArray
 gQ:Int
 lW:Int
 first:Int
 DW:Bool
 aV:List Wp
structure State where
 turn:Int
 brk:Bool
 hand:Bool
 push:Bool
 pushed:Bool
 group:Int
 cO:List Int
 s0:Int
 s1:Int
 f0:Int
 f1:Int
 run:Int
 iV:Int
 over:Bool
 aB:Int
def isKind (k:ByteArray):Bool:=k=jJ∨k=Aq∨k=Ur∨k=xg∨k=yX∨k=eU
def iH (g:ByteArray):Bool:=g=iE∨g=ku∨g=jH
def out (n a b:Int):Bool:=n<a∨b<n
def oq (r:Rules):Int:=
 if iH r.game=false then 13
 else if (r.game=iE∧out r.target 1 200)∨(r.game≠iE∧r.target≠0)∨(r.jL≠0∧out r.jL 2 9) then 3
 else 0
def Ib (seen:List Wp):List Wp→Int
 | []=>0
 | p::l=>
   if out p.gQ 0 15∨out p.lW 1 6 then 3
   else if p.gQ∈seen.map (·.gQ) then 9
   else Ib (seen++[p]) l
def NQ (x:gy):Int:=
 if out x.dK 0 1 then 3
 else if isKind x.kind=false then 13
 else if out x.gQ 0 15∨out x.lW 0 6∨out x.first 0 15 then 3
 else if decide (x.gQ=0)≠decide (x.lW=0) then 2
 else if 16<x.aV.length then 5
 else 0
def WB (x:gy):Int:=
 if (x.kind=yX∨x.kind=eU)∧(x.gQ≠0∨x.first≠0∨x.DW∨x.aV≠[]) then 1 else 0
def NR (x:gy):Int:=
 if NQ x≠0 then NQ x
 else if Ib [] x.aV≠0 then Ib [] x.aV
 else WB x
def JZ:List gy→Int
 | []=>0
 | x::l=>if NR x≠0 then NR x else JZ l
def iq (l:List gy):Int:=if 1000<l.length then 5 else JZ l
def AO (n:Nat):List Int:=(List.range n).map fun (i:Nat)=>(i:Int)+1
def AL (g:ByteArray):Nat:=if g=jH then 9 else 15
def Ci (r:Rules):List Int:=AO (AL r.game)
def DV (n:Int) (last:Option Int):List Int→Int
 | []=>0
 | b::l=>if out b 1 n then 3 else if (last.map (fun a=>decide (b≤a))).getD false then 11 else DV n (some b) l
def JY (r:Rules) (over:Bool) (n:Int):Bool:=out n 0 99999∨(0<r.jL∧(r.jL<n∨(n=r.jL∧over=false)))
def KR (r:Rules) (s:State):Int:=
 if out s.s0 (-99999) 99999∨out s.s1 (-99999) 99999∨JY r s.over s.f0∨JY r s.over s.f1∨out s.run 0 99999∨out s.iV 1 1000 then 3 else 0
def WA (r:Rules) (s:State):Bool:=((s.push∨s.pushed)∧(r.game≠jH∨s.brk))∨(s.push∧s.pushed)
def missing (r:Rules) (s:State):Bool:=s.cO=[]∨(r.game=ku∧(8:Int) ∉ s.cO)∨(r.game=jH∧(9:Int) ∉ s.cO)
def yP (r:Rules) (s:State):Int:=
 if oq r≠0 then oq r
 else if out s.turn 0 1∨out s.aB 0 1∨out s.group 0 2∨(s.group≠0∧r.game≠ku) then 3 else 0
def Fg (r:Rules) (s:State):Int:=if WA r s∨(s.over=false∧(s.aB≠0∨missing r s)) then 19 else 0
def bP (r:Rules) (s:State):Int:=
 if yP r s≠0 then yP r s
 else if DV (AL r.game) none s.cO≠0 then DV (AL r.game) none s.cO
 else if KR r s≠0 then 3
 else Fg r s
def start (r:Rules):State:={turn:=0,brk:=true,hand:=false,push:=false,pushed:=false,group:=0,cO:=Ci r,s0:=0,s1:=0,f0:=0,f1:=0,run:=0,iV:=1,over:=false,aB:=0 }
def zero:State:={turn:=0,brk:=false,hand:=false,push:=false,pushed:=false,group:=0,cO:=[],s0:=0,s1:=0,f0:=0,f1:=0,run:=0,iV:=0,over:=false,aB:=0 }
def side (b:Int):Int:=if b<8 then 1 else if 8<b then 2 else 0
def own (s:State):Int:=if s.group=0∨s.turn=0 then s.group else 3 - s.group
def J3 (s:State):List Int:=s.cO.filter fun b=>b≠8∧(s.group=0∨side b=own s)
def targets (r:Rules) (s:State):List Int:=
 if r.game=iE∨(r.game=ku∧s.brk) then s.cO
 else if r.game=jH then s.cO.take 1
 else if J3 s=[]∧(8:Int)∈s.cO then [8] else J3 s
def calls (r:Rules) (x:gy):Bool:=x.kind=Aq∧r.game≠jH
def objects (x:gy):List Int:=(x.aV.map (·.gQ)).filter (· ≠0)
def legal (r:Rules) (s:State) (x:gy):Int:=
 if s.over then 1
 else if x.dK≠s.turn∧x.kind≠eU then 2
 else if (s.brk∧x.kind≠jJ∧x.kind≠eU)∨(s.brk=false∧x.kind=jJ) then 3
 else if (x.kind=xg∧s.push=false)∨(x.kind=yX∧s.pushed=false) then 4
 else if (calls r x∧x.gQ ∉ s.cO)∨(calls r x=false∧x.gQ≠0) then 5
 else if x.first≠0∧x.first ∉ s.cO then 6
 else if (objects x).any (fun b=>x.first=0∨b ∉ s.cO) then 7
 else 0
def gB (r:Rules) (s:State) (x:gy):Int:=
 if x.kind=yX∨x.kind=eU then 0
 else if (objects x).length<x.aV.length then 1
 else if x.first=0 then 2
 else if x.kind=xg then 0
 else if x.first ∉ targets r s then 3
 else if x.DW=false∧x.aV=[] then 4
 else 0
def good (r:Rules) (s:State) (x:gy):Bool:=
 if gB r s x≠0∨x.aV=[] then false
 else if x.kind=jJ then r.game≠iE
 else if x.kind≠Aq then false
 else x.aV.any fun p=>p=⟨x.gQ,x.lW⟩∨r.game=jH
def stays (r:Rules) (s:State) (x:gy) (b:Int):Bool:=
 (b ∉ objects x)∨(r.game=iE∧good r s x=false)∨(r.game=ku∧b=8∧x.kind=jJ)∨(r.game=jH∧b=9∧good r s x=false)
def left (r:Rules) (s:State) (x:gy):List Int:=s.cO.filter (stays r s x)
def sel (p a b:Int):Int:=if p=0 then a else b
def State.score (s:State) (p:Int):Int:=sel p s.s0 s.s1
def State.pO (s:State) (p:Int):Int:=sel p s.f0 s.f1
def State.ug (s:State) (p n:Int):State:=if p=0 then {s with s0:=n } else {s with s1:=n }
def State.uf (s:State) (p n:Int):State:=if p=0 then {s with f0:=n } else {s with f1:=n }
def calm (r:Rules) (s:State) (x:gy):State:={s with brk:=false,hand:=false,push:=r.game=jH∧x.kind=jJ,pushed:=x.kind=xg }
def won (r:Rules) (s:State) (x:gy):Bool:=good r s x∧x.gQ=8∧targets r s=[8]
def ended (r:Rules) (s:State) (x:gy) (t:State):State:=
 if r.game=iE∧good r s x∧r.target≤t.score x.dK then {t with over:=true,aB:=x.dK }
 else if r.game=jH∧good r s x∧(9:Int)∈objects x then {t with over:=true,aB:=x.dK }
 else if r.game=ku∧x.kind≠jJ∧(8:Int)∈objects x then {t with over:=true,aB:=if won r s x then x.dK else 1 - x.dK }
 else t
def limit (r:Rules) (t:State) (p:Int):State:=
 if r.game≠iE then {t with over:=true,aB:=1 - p }
 else {(t.ug p (t.score p - 15)).uf p 0 with cO:=Ci r,brk:=true,iV:=t.iV+1 }
def counted (r:Rules) (s:State) (x:gy):State:=
 let t:={calm r s x with cO:=left r s x }
 let n:Int:=(objects x).length
 let t:=if good r s x then {t.ug x.dK (t.score x.dK+n) with run:=t.run+n } else t
 if gB r s x=0 then t.uf x.dK 0
 else
  let t:={t.uf x.dK (t.pO x.dK+1) with run:=0 }
  if r.game=iE then t.ug x.dK (t.score x.dK - 1) else t
def passed (r:Rules) (s:State) (x:gy) (t:State):State:={t with turn:=1 - x.dK,run:=0,hand:=gB r s x≠0∧(r.game≠iE∨gB r s x=1) }
def grouped (r:Rules) (s:State) (x:gy) (t:State):State:=
 if r.game=ku∧x.kind=Aq∧s.group=0 then {t with group:=if x.dK=1 then 3 - side x.gQ else side x.gQ } else t
def Gz (r:Rules) (t:State):State:=if r.game=iE∧t.cO.length≤1 then {t with cO:=Ci r,iV:=t.iV+1 } else t
def play (r:Rules) (s:State) (x:gy):State:=
 let t:=ended r s x (counted r s x)
 if t.over then t
 else if gB r s x≠0∧t.pO x.dK=r.jL then limit r t x.dK
 else if good r s x=false then passed r s x t
 else Gz r (grouped r s x t)
def next (r:Rules) (s:State) (x:gy):State:=
 if x.kind=eU then {s with over:=true,aB:=1 - x.dK }
 else if x.kind=yX then {calm r s x with turn:=1 - x.dK,run:=0 }
 else play r s x
def step (r:Rules) (s:State) (x:gy):State:=if legal r s x=0 then next r s x else s
def final (r:Rules) (s:State) (l:List gy):State:=l.foldl (step r) s
structure qZ where
 number:Int
 rule:Int
 deriving DecidableEq
def gu (r:Rules) (s:State) (n:Int):List gy→List qZ
 | []=>[]
 | x::l=>(if legal r s x≠0 then [⟨n,legal r s x⟩] else [])++gu r (step r s x) (n+1) l
end M
namespace M
def q2 (s:State) (x:gy):Bool:=x.kind=eU∨x.dK=s.turn
def q3 (s:State) (x:gy):Bool:=x.kind=eU∨s.brk=decide (x.kind=jJ)
def q5 (r:Rules) (s:State) (x:gy):Bool:=(calls r x∧x.gQ∈s.cO)∨(calls r x=false∧x.gQ=0)
def q6 (s:State) (x:gy):Bool:=x.first=0∨x.first∈s.cO
def q7 (s:State) (x:gy):Bool:=((objects x).any (fun b=>decide (b ∉ s.cO)))=false∧(0<x.first∨objects x=[])
def uT (x:gy):Bool:=x.aV.any fun p=>decide (p.gQ=0)
theorem xB (x:gy):decide ((objects x).length<x.aV.length)=uT x:=by
 unfold objects uT
 induction x.aV with
 | nil=>rfl
 | cons p l ih=>
   have hl:=List.length_filter_le (fun b:Int=>decide (b≠0)) (l.map (·.gQ));rw [List.length_map] at hl
   simp only [List.map_cons,List.any_cons,List.length_cons]
   by_cases h:p.gQ=0
   · rw [List.filter_cons_of_neg (by simp [h])]
     simp only [h,decide_true,Bool.true_or,decide_eq_true_eq]
     omega
   · rw [List.filter_cons_of_pos (by simp [h]), ← ih]
     simp [h]
theorem Gl (x:gy) (h:uT x=false):(objects x).length=x.aV.length:=by
 have h1:=xB x;rw [h,decide_eq_false_iff_not] at h1;have h2:=List.length_filter_le (fun b:Int=>decide (b≠0)) (x.aV.map (·.gQ));rw [List.length_map] at h2
 unfold objects at h1 ⊢
 omega
theorem Ld (r:Rules) (s:State) (x:gy):good r s x=
 if x.kind=jJ then decide (gB r s x=0∧0<(objects x).length∧r.game≠iE)
 else if x.kind≠Aq then false
 else if r.game=jH then decide (gB r s x=0∧0<(objects x).length)
 else decide (gB r s x=0∧0<(objects x).length∧(⟨x.gQ,x.lW⟩:Wp)∈x.aV):=by
 have key:∀ (h1:x.kind≠yX) (h2:x.kind≠eU),gB r s x=0→((0<(objects x).length)↔x.aV≠[]):=by
  intro h1 h2 hf
  have hs:uT x=false:=by
   rw [← xB,decide_eq_false_iff_not];intro hl
   unfold gB at hf
   simp [h1,h2,hl] at hf
  rw [Gl x hs];exact List.length_pos_iff
 unfold good
 by_cases hb:x.kind=jJ
 · have k1:=key (by rw [hb];decide) (by rw [hb];decide)
   simp only [hb,if_true]
   by_cases hf:gB r s x=0
   · have:=k1 hf
     by_cases hp:x.aV=[]
     · simp [hp] at this
       simp [hf,hp,this]
     · simp [hp] at this
       simp [hf,hp,this]
   · simp [hf]
 · by_cases hpl:x.kind=Aq
   · have k1:=key (by rw [hpl];decide) (by rw [hpl];decide)
     have hpb:¬ Aq=jJ:=by decide
     simp only [hpl,hpb,if_false,ne_eq,not_true]
     by_cases hf:gB r s x=0
     · have:=k1 hf
       by_cases hp:x.aV=[]
       · simp [hp] at this
         simp [hf,hp,this]
       · obtain ⟨q,l,hq⟩:=List.exists_cons_of_ne_nil hp
         simp [hp] at this
         by_cases hg:r.game=jH
         · simp [hf,hp,this,hg,hq]
         · rw [Bool.eq_iff_iff]
           simp only [hf,hp,hg,this,if_false,or_false,ne_eq,not_true,List.any_eq_true,decide_eq_true_eq,true_and]
           constructor
           · rintro ⟨p,h1,h2⟩;rw [← h2];exact h1
           · intro h;exact ⟨_,h,rfl⟩
     · simp [hf]
   · simp [hb,hpl]
end M
namespace M
structure Ok (r:Rules) (n:Int) (s:State):Prop where
 turn:s.turn=0∨s.turn=1
 aB:s.aB=0∨s.aB=1
 group:0≤s.group∧s.group≤2
 game:s.group≠0→r.game=ku
 cO:∀ b∈s.cO,1≤b∧b≤(AL r.game:Int)
 order:s.cO.Pairwise (· < ·)
 s0: -n≤s.s0∧s.s0≤n
 s1: -n≤s.s1∧s.s1≤n
 f0:0≤s.f0∧s.f0≤n
 f1:0≤s.f1∧s.f1≤n
 l0:0<r.jL→s.f0≤r.jL∧(s.over=false→s.f0<r.jL)
 l1:0<r.jL→s.f1≤r.jL∧(s.over=false→s.f1<r.jL)
 run:0≤s.run∧s.run≤n
 iV:1≤s.iV∧s.iV≤n
 push:s.push=true→r.game=jH∧s.brk=false
 pushed:s.pushed=true→r.game=jH∧s.brk=false
 both:s.push=true→s.pushed=true→False
 live:s.over=false→s.aB=0∧s.cO≠[]∧(r.game=ku→(8:Int)∈s.cO)∧(r.game=jH→(9:Int)∈s.cO)
theorem Ok.more {r:Rules} {n m:Int} {s:State} (h:Ok r n s) (hm:n≤m):Ok r m s:=
 {h with
  s0:=by have:=h.s0;omega
  s1:=by have:=h.s1;omega
  f0:=by have:=h.f0;omega
  f1:=by have:=h.f1;omega
  run:=by have:=h.run;omega
  iV:=by have:=h.iV;omega }
theorem rX {n a b:Int}:out n a b=false↔a≤n∧n≤b:=by
 unfold out;rw [decide_eq_false_iff_not];omega
structure sU (x:gy):Prop where
 dK:x.dK=0∨x.dK=1
 kind:isKind x.kind=true
 gQ:0≤x.gQ∧x.gQ≤15
 lW:0≤x.lW∧x.lW≤6
 first:0≤x.first∧x.first≤15
 called:x.gQ=0↔x.lW=0
 few:x.aV.length≤16
 aV:∀ p∈x.aV,(0≤p.gQ∧p.gQ≤15)∧(1≤p.lW∧p.lW≤6)
theorem Jr (x:gy):(objects x).length≤x.aV.length:=by
 have:=List.length_filter_le (fun b:Int=>decide (b≠0)) (x.aV.map (·.gQ))
 rw [List.length_map] at this;exact this
theorem sU.objs {x:gy} (h:sU x):((objects x).length:Int)≤16:=by
 have:=Jr x;have:=h.few;omega
theorem Fb {x:gy} (hp:(⟨x.gQ,x.lW⟩:Wp)∈x.aV) (h0:x.gQ≠0):x.gQ∈objects x:=by
 unfold objects
 rw [List.mem_filter];exact ⟨List.mem_map.2 ⟨_,hp,rfl⟩,by simpa using h0⟩
theorem Ar {n:Nat} {b:Int}:b∈AO n↔1≤b∧b≤n:=by
 unfold AO
 rw [List.mem_map]
 constructor
 · rintro ⟨i,hi,rfl⟩;rw [List.mem_range] at hi;omega
 · intro h;exact ⟨(b - 1).toNat,List.mem_range.2 (by omega),by omega⟩
theorem JG (n:Nat):(AO n).Pairwise (· < ·):=by
 unfold AO
 rw [List.pairwise_map];exact List.pairwise_lt_range.imp (by intro a b h;omega)
theorem Q8 (g:ByteArray):9≤AL g:=by unfold AL;split <;> omega
theorem mem_left {r:Rules} {s:State} {x:gy} {b:Int}:b∈left r s x↔b∈s.cO∧stays r s x b=true:=List.mem_filter
structure Lawful (r:Rules) (s:State) (x:gy):Prop where
 over:s.over=false
 turn:x.kind≠eU→x.dK=s.turn
 brk:x.kind≠eU→(s.brk=true↔x.kind=jJ)
 push:x.kind=xg→s.push=true
 pass:x.kind=yX→s.pushed=true
 called:calls r x=true→x.gQ∈s.cO
 aeT:calls r x=false→x.gQ=0
 first:x.first≠0→x.first∈s.cO
 objs:∀ b∈objects x,x.first≠0∧b∈s.cO
theorem lawful {r:Rules} {s:State} {x:gy} (h:legal r s x=0):Lawful r s x:=by
 unfold legal at h
 by_cases h1:s.over=true
 · rw [if_pos h1] at h;cases h
 rw [if_neg h1] at h
 by_cases h2:x.dK≠s.turn∧x.kind≠eU
 · rw [if_pos h2] at h;cases h
 rw [if_neg h2] at h
 by_cases h3:(s.brk=true∧x.kind≠jJ∧x.kind≠eU)∨(s.brk=false∧x.kind=jJ)
 · rw [if_pos h3] at h;cases h
 rw [if_neg h3] at h
 by_cases h4:(x.kind=xg∧s.push=false)∨(x.kind=yX∧s.pushed=false)
 · rw [if_pos h4] at h;cases h
 rw [if_neg h4] at h
 by_cases h5:(calls r x=true∧x.gQ ∉ s.cO)∨(calls r x=false∧x.gQ≠0)
 · rw [if_pos h5] at h;cases h
 rw [if_neg h5] at h
 by_cases h6:x.first≠0∧x.first ∉ s.cO
 · rw [if_pos h6] at h;cases h
 rw [if_neg h6] at h
 by_cases h7:((objects x).any fun b=>decide (x.first=0∨b ∉ s.cO))=true
 · rw [if_pos h7] at h;cases h
 refine ⟨by simpa using h1,fun hk=>Classical.byContradiction fun hn=>h2 ⟨hn,hk⟩,fun hk=>⟨fun hb=>Classical.byContradiction fun hn=>h3 (.inl ⟨hb,hn,hk⟩),fun hb=>?_⟩,fun hk=>?_,fun hk=>?_,
  fun hc=>Classical.byContradiction fun hn=>h5 (.inl ⟨hc,hn⟩),fun hc=>Classical.byContradiction fun hn=>h5 (.inr ⟨hc,hn⟩),fun hf=>Classical.byContradiction fun hn=>h6 ⟨hf,hn⟩,fun b hb=>?_⟩
 · rcases hs:s.brk with _ | _
   · exact absurd (.inr ⟨hs,hb⟩) h3
   · rfl
 · rcases hs:s.push with _ | _
   · exact absurd (.inl ⟨hk,hs⟩) h4
   · rfl
 · rcases hs:s.pushed with _ | _
   · exact absurd (.inr ⟨hk,hs⟩) h4
   · rfl
 · rw [Bool.not_eq_true,List.any_eq_false] at h7
   have:=h7 b hb
   simpa using this
def sc (r:Rules) (s:State) (x:gy) (a:Int):Int:=
 let b:=if good r s x=true then a+(objects x).length else a
 if gB r s x=0 then b else if r.game=iE then b - 1 else b
def fc (r:Rules) (s:State) (x:gy) (a:Int):Int:=if gB r s x=0 then 0 else a+1
def rc (r:Rules) (s:State) (x:gy) (a:Int):Int:=if gB r s x=0 then (if good r s x=true then a+(objects x).length else a) else 0
theorem kR (r:Rules) (s:State) (x:gy):counted r s x= {calm r s x with cO:=left r s x,s0:=if x.dK=0 then sc r s x s.s0 else s.s0,s1:=if x.dK=0 then s.s1 else sc r s x s.s1,f0:=if x.dK=0 then fc r s x s.f0 else s.f0,f1:=if x.dK=0 then s.f1 else fc r s x s.f1,run:=rc r s x s.run }:=by
 unfold counted sc fc rc
 by_cases hp:x.dK=0 <;> by_cases hg:good r s x=true <;> by_cases hf:gB r s x=0 <;> by_cases hs:r.game=iE <;> simp [hp,hg,hf,hs,State.ug,State.uf,State.score,State.pO,sel,calm]
theorem Fj (r:Rules) (s:State) (x:gy) (t:State) (hx:sU x):
 ended r s x t=t∧¬ (r.game=jH∧good r s x=true∧(9:Int)∈objects x)∧¬ (r.game=ku∧x.kind≠jJ∧(8:Int)∈objects x)∨
 ∃ v,(v=0∨v=1)∧ended r s x t= {t with over:=true,aB:=v }:=by
 have hp:=hx.dK
 unfold ended
 split
 · exact .inr ⟨_,hp,rfl⟩
 · split
   · exact .inr ⟨_,hp,rfl⟩
   · next h2=>
     split
     · refine .inr ⟨_,?_,rfl⟩;split <;> omega
     · next h3=>exact .inl ⟨rfl,h2,h3⟩
theorem Lc {r:Rules} {s:State} {x:gy} (h:good r s x=true):gB r s x=0:=by
 unfold good at h
 split at h
 · cases h
 · next h1=>rw [not_or] at h1;exact Classical.not_not.1 h1.1
theorem VQ {r:Rules} {s:State} {x:gy} (hx:sU x) (a:Int):a - 1≤sc r s x a∧sc r s x a≤a+16:=by
 have:=hx.objs
 unfold sc
 simp only
 split <;> split <;> first | omega | (split <;> omega)
theorem adO {r:Rules} {s:State} {x:gy} (hx:sU x) {a:Int} (h:0≤a):0≤rc r s x a∧rc r s x a≤a+16:=by
 have:=hx.objs
 unfold rc
 split
 · split <;> omega
 · omega
theorem J8 {r:Rules} {s:State} {x:gy} {a:Int} (h:0≤a):0≤fc r s x a∧fc r s x a≤a+1:=by
 unfold fc;split <;> omega
theorem UQ (b:Int):0≤side b∧side b≤2:=by unfold side;split <;> first | omega | (split <;> omega)
theorem MN {b:Int} (h:side b=0):b=8:=by unfold side at h;split at h <;> first | omega | (split at h <;> omega)
section
variable {r:Rules} {n:Int} {s:State} {x:gy}
theorem Ig (h:Ok r n s) (hx:sU x) (hl:Lawful r s x) (v:Int) (hv:v=0∨v=1):Ok r (n+16) {counted r s x with over:=true,aB:=v }:=by
 have h1:=h.iV;have k0:=VQ (r:=r) (s:=s) hx s.s0;have k1:=VQ (r:=r) (s:=s) hx s.s1;have k2:=J8 (r:=r) (s:=s) (x:=x) h.f0.1;have k3:=J8 (r:=r) (s:=s) (x:=x) h.f1.1;have k4:=adO (r:=r) (s:=s) hx h.run.1;have a0:=h.s0;have a1:=h.s1;have a2:=h.f0;have a3:=h.f1;have a4:=h.run;rw [kR];refine ⟨h.turn,hv,h.group,h.game,fun b hb=>h.cO b (mem_left.1 hb).1,h.order.filter _,?_,?_,?_,?_,?_,?_,?_,?_,?_,?_,?_,?_⟩
 · show -(n+16)≤(if x.dK=0 then sc r s x s.s0 else s.s0)∧(if x.dK=0 then sc r s x s.s0 else s.s0)≤n+16
   split <;> omega
 · show -(n+16)≤(if x.dK=0 then s.s1 else sc r s x s.s1)∧(if x.dK=0 then s.s1 else sc r s x s.s1)≤n+16
   split <;> omega
 · show 0≤(if x.dK=0 then fc r s x s.f0 else s.f0)∧(if x.dK=0 then fc r s x s.f0 else s.f0)≤n+16
   split <;> omega
 · show 0≤(if x.dK=0 then s.f1 else fc r s x s.f1)∧(if x.dK=0 then s.f1 else fc r s x s.f1)≤n+16
   split <;> omega
 · intro h0
   have:=h.l0 h0
   have:=this.2 hl.over
   refine ⟨?_,fun e=>by cases e⟩
   show (if x.dK=0 then fc r s x s.f0 else s.f0)≤r.jL
   split <;> omega
 · intro h0
   have:=h.l1 h0
   have:=this.2 hl.over
   refine ⟨?_,fun e=>by cases e⟩
   show (if x.dK=0 then s.f1 else fc r s x s.f1)≤r.jL
   split <;> omega
 · show 0≤rc r s x s.run∧rc r s x s.run≤n+16
   omega
 · show 1≤s.iV∧s.iV≤n+16
   omega
 · intro hp
   have hp:decide (r.game=jH∧x.kind=jJ)=true:=hp;exact ⟨(of_decide_eq_true hp).1,rfl⟩
 · intro hp
   have hp:decide (x.kind=xg)=true:=hp;exact ⟨(h.push (hl.push (of_decide_eq_true hp))).1,rfl⟩
 · intro h1 h2
   have h1:decide (r.game=jH∧x.kind=jJ)=true:=h1;have h2:decide (x.kind=xg)=true:=h2;have e1:=(of_decide_eq_true h1).2;have e2:=of_decide_eq_true h2;rw [e1] at e2;exact absurd e2 (by decide)
 · intro e;cases e
theorem Ok.fin {t:State} (h:Ok r n {t with over:=true,aB:=(0:Int) }) (v:Int) (hv:v=0∨v=1):Ok r n {t with over:=true,aB:=v }:=
 ⟨h.turn,hv,h.group,h.game,h.cO,h.order,h.s0,h.s1,h.f0,h.f1,h.l0,h.l1,h.run,h.iV,h.push,h.pushed,h.both,fun e=>by cases e⟩
theorem Ok.goes {t:State} (h:Ok r n {t with over:=true,aB:=(0:Int) }) (hw:t.aB=0) (hf0:0<r.jL→t.f0<r.jL) (hf1:0<r.jL→t.f1<r.jL) (hb:t.cO≠[]) (h8:r.game=ku→(8:Int)∈t.cO) (h9:r.game=jH→(9:Int)∈t.cO):Ok r n t:=
 ⟨h.turn,.inl hw,h.group,h.game,h.cO,h.order,h.s0,h.s1,h.f0,h.f1,fun h0=>⟨(h.l0 h0).1,fun _=>hf0 h0⟩,fun h0=>⟨(h.l1 h0).1,fun _=>hf1 h0⟩,h.run,h.iV,h.push,h.pushed,h.both,fun _=>⟨hw,hb,h8,h9⟩⟩
theorem AQ (h:oq r=0):r.game=iE∨r.game=ku∨r.game=jH:=by
 unfold oq at h
 split at h
 · cases h
 · next h1=>
   have h2:iH r.game=true:=by cases h:iH r.game <;> simp_all
   unfold iH at h2
   exact of_decide_eq_true h2
theorem GK (h:oq r=0):r.jL=0∨(2≤r.jL∧r.jL≤9):=by
 unfold oq at h
 split at h
 · cases h
 · split at h
   · cases h
   · next h1=>
     rw [not_or,not_or] at h1
     by_cases h0:r.jL=0
     · exact .inl h0
     · right
       have:=h1.2.2
       rw [not_and,Bool.not_eq_true,rX] at this;exact this h0
theorem LW (hr:oq r=0) (h:Ok r n s) (hl:Lawful r s x) (h9:¬ (r.game=jH∧good r s x=true∧(9:Int)∈objects x)) (h8:¬ (r.game=ku∧x.kind≠jJ∧(8:Int)∈objects x)):
 (r.game=ku→(8:Int)∈left r s x)∧(r.game=jH→(9:Int)∈left r s x)∧(good r s x=false→left r s x≠[]):=by
 obtain ⟨_,hb,k8,k9⟩:=h.live hl.over
 have e8:r.game=ku→(8:Int)∈left r s x:=by
  intro hg;refine mem_left.2 ⟨k8 hg,?_⟩
  unfold stays
  rw [decide_eq_true_eq]
  by_cases ho:(8:Int)∈objects x
  · right;right;left
    exact ⟨hg,rfl,Classical.byContradiction fun hk=>h8 ⟨hg,hk,ho⟩⟩
  · exact .inl ho
 have e9:r.game=jH→(9:Int)∈left r s x:=by
  intro hg;refine mem_left.2 ⟨k9 hg,?_⟩
  unfold stays
  rw [decide_eq_true_eq]
  by_cases ho:(9:Int)∈objects x
  · right;right;right
    refine ⟨hg,rfl,?_⟩
    rcases hgd:good r s x with _ | _
    · rfl
    · exact absurd ⟨hg,hgd,ho⟩ h9
  · exact .inl ho
 refine ⟨e8,e9,fun hgd=>?_⟩
 rcases AQ hr with hg | hg | hg
 · obtain ⟨b,l,e⟩:=List.exists_cons_of_ne_nil hb
   intro he
   have:b∈left r s x:=mem_left.2 ⟨by rw [e];exact List.mem_cons_self,by unfold stays;rw [decide_eq_true_eq];exact .inr (.inl ⟨hg,hgd⟩)⟩
   rw [he] at this
   cases this
 · exact fun he=>by have:=e8 hg;rw [he] at this;cases this
 · exact fun he=>by have:=e9 hg;rw [he] at this;cases this
theorem wP (r:Rules) (s:State) (x:gy):(counted r s x).over=s.over:=by rw [kR];rfl
theorem jG (r:Rules) (s:State) (x:gy):(counted r s x).aB=s.aB:=by rw [kR];rfl
theorem mZ (r:Rules) (s:State) (x:gy):(counted r s x).cO=left r s x:=by rw [kR]
theorem vF (r:Rules) (s:State) (x:gy):(counted r s x).iV=s.iV:=by rw [kR];rfl
theorem vO (r:Rules) (s:State) (x:gy):(counted r s x).f0=if x.dK=0 then fc r s x s.f0 else s.f0:=by rw [kR]
theorem vP (r:Rules) (s:State) (x:gy):(counted r s x).f1=if x.dK=0 then s.f1 else fc r s x s.f1:=by rw [kR]
theorem BN (r:Rules) (s:State) (x:gy):(counted r s x).pO x.dK=fc r s x (s.pO x.dK):=by
 unfold State.pO sel
 rw [vO,vP]
 split <;> rfl
theorem KF:(∀ b∈Ci r,1≤b∧b≤(AL r.game:Int))∧(Ci r).Pairwise (· < ·)∧Ci r≠[]∧(8:Int)∈Ci r∧(9:Int)∈Ci r:=by
 have hn:=Q8 r.game;have h8:(8:Int)∈Ci r:=Ar.2 (by omega);have h9:(9:Int)∈Ci r:=Ar.2 (by omega);exact ⟨fun b hb=>Ar.1 hb,JG _,fun e=>(by rw [e] at h8;cases h8),h8,h9⟩
theorem Ew (hr:oq r=0) (h:Ok r n s) (hx:sU x) (hl:Lawful r s x) (hn:0≤n):Ok r (n+16) (next r s x):=by
 have hp:=hx.dK
 have hn16:(0:Int)≤n+16:=by omega
 unfold next
 split
 · exact (Ok.fin (t:=s) ⟨h.turn,.inl rfl,h.group,h.game,h.cO,h.order,h.s0,h.s1,h.f0,h.f1,fun h0=>⟨(h.l0 h0).1,fun e=>by cases e⟩,fun h0=>⟨(h.l1 h0).1,fun e=>by cases e⟩,h.run,h.iV,h.push,h.pushed,h.both,fun e=>by cases e⟩ _ (by omega)).more (by omega)
 · next hc=>
   split
   · next hpa=>
     have hb:r.game=jH∧x.kind=jJ→False:=fun e=>by rw [hpa] at e;exact absurd e.2 (by decide)
     have hpu:x.kind=xg→False:=fun e=>by rw [hpa] at e;exact absurd e (by decide)
     refine Ok.more (n:=n) ⟨?_,h.aB,h.group,h.game,h.cO,h.order,h.s0,h.s1,h.f0,h.f1,h.l0,h.l1,⟨Int.le_refl 0,hn⟩,h.iV,fun e=>(hb (of_decide_eq_true e)).elim,fun e=>(hpu (of_decide_eq_true e)).elim,fun e=>(hb (of_decide_eq_true e)).elim,h.live⟩ (by omega)
     show 1 - x.dK=0∨1 - x.dK=1
     omega
   · have hk:=Ig h hx hl 0 (.inl rfl)
     unfold play
     simp only
     rcases Fj r s x (counted r s x) hx with ⟨he,h9,h8⟩ | ⟨v,hv,he⟩
     · rw [he,if_neg (by rw [wP,hl.over];decide)]
       obtain ⟨w1,w2,w3,w4⟩:=h.live hl.over;obtain ⟨e8,e9,en⟩:=LW hr h hl h9 h8;obtain ⟨r1,r2,r3,r4,r5⟩:=KF (r:=r);have hf:=J8 (r:=r) (s:=s) (x:=x) h.f0.1;have hf':=J8 (r:=r) (s:=s) (x:=x) h.f1.1;have hfr:=GK hr
       split
       · next hfo=>
         obtain ⟨hfo,hlim⟩:=hfo
         unfold limit
         split
         · exact hk.fin _ (by omega)
         · next hg=>
           have hg:=Classical.not_not.1 hg
           have hsc: -(n+16)≤(counted r s x).score x.dK - 15∧(counted r s x).score x.dK - 15≤n+16:=by
            have hb0:=h.s0;have hb1:=h.s1
            have hgd:good r s x=false:=by
             rcases hgd:good r s x with _ | _
             · rfl
             · exact absurd (Lc hgd) hfo
            have hv:∀ a,sc r s x a=a - 1:=fun a=>by unfold sc;simp [hgd,hfo,hg]
            unfold State.score sel
            rw [kR]
            split
            · next h0=>simp only [hv];omega
            · next h0=>simp only [hv];omega
           have Vz:r.game≠jH:=by rw [hg];decide
           have hne:r.game≠ku:=by rw [hg];decide
           have hpu:=hk.push;have hpd:=hk.pushed
           have hrk:1≤(counted r s x).iV+1∧(counted r s x).iV+1≤n+16:=by rw [vF];have:=h.iV;omega
           unfold State.ug State.uf
           rcases hp with hp | hp
           · rw [hp] at hsc ⊢
             simp only [if_true]
             exact ⟨hk.turn,.inl (by rw [jG];exact w1),hk.group,hk.game,r1,r2,hsc,hk.s1,⟨Int.le_refl 0,hn16⟩,hk.f1,fun h0=>⟨by show (0:Int)≤_;omega,fun _=>h0⟩,
              fun h0=>⟨(hk.l1 h0).1,fun _=>by show (counted r s x).f1<_;rw [vP,hp,if_pos rfl];exact (h.l1 h0).2 hl.over⟩,hk.run,hrk,fun e=>absurd (hpu e).1 Vz,fun e=>absurd (hpd e).1 Vz,hk.both,
              fun _=>⟨by rw [jG];exact w1,r3,fun e=>absurd e hne,fun e=>absurd e Vz⟩⟩
           · rw [hp] at hsc ⊢
             simp only [show ¬ (1:Int)=0 by decide,if_false]
             exact ⟨hk.turn,.inl (by rw [jG];exact w1),hk.group,hk.game,r1,r2,hk.s0,hsc,hk.f0,⟨Int.le_refl 0,hn16⟩,
              fun h0=>⟨(hk.l0 h0).1,fun _=>by show (counted r s x).f0<_;rw [vO,hp,if_neg (by decide)];exact (h.l0 h0).2 hl.over⟩,fun h0=>⟨by show (0:Int)≤_;omega,fun _=>h0⟩,hk.run,hrk,fun e=>absurd (hpu e).1 Vz,fun e=>absurd (hpd e).1 Vz,hk.both,
              fun _=>⟨by rw [jG];exact w1,r3,fun e=>absurd e hne,fun e=>absurd e Vz⟩⟩
       · next hnl=>
         have hq:∀ h0:0<r.jL,(counted r s x).f0<r.jL∧(counted r s x).f1<r.jL:=by
          intro h0;have g0:=(h.l0 h0).2 hl.over;have g1:=(h.l1 h0).2 hl.over
          have hfz:gB r s x=0∨(counted r s x).pO x.dK≠r.jL:=by
           by_cases hz:gB r s x=0
           · exact .inl hz
           · exact .inr fun e=>hnl ⟨hz,e⟩
          rw [BN] at hfz;rw [vO,vP]
          unfold State.pO sel at hfz
          unfold fc at hfz ⊢
          rcases hp with hp | hp
          · simp only [hp,if_true] at hfz ⊢
            refine ⟨?_,g1⟩
            by_cases hz:gB r s x=0
            · rw [if_pos hz];exact h0
            · rw [if_neg hz] at hfz ⊢;omega
          · simp only [hp,show ¬ (1:Int)=0 by decide,if_false] at hfz ⊢
            refine ⟨g0,?_⟩
            by_cases hz:gB r s x=0
            · rw [if_pos hz];exact h0
            · rw [if_neg hz] at hfz ⊢;omega
         split
         · next hgd=>
           have hgo:=hk.goes (by rw [jG];exact w1) (fun h0=>(hq h0).1) (fun h0=>(hq h0).2) (by rw [mZ];exact en hgd) (by rw [mZ];exact e8) (by rw [mZ];exact e9);refine ⟨?_,hgo.aB,hgo.group,hgo.game,hgo.cO,hgo.order,hgo.s0,hgo.s1,hgo.f0,hgo.f1,hgo.l0,hgo.l1,⟨Int.le_refl 0,hn16⟩,hgo.iV,hgo.push,hgo.pushed,hgo.both,hgo.live⟩
           show 1 - x.dK=0∨1 - x.dK=1
           omega
         · next hgd=>
           have hgd:good r s x=true:=by simpa using hgd
           have hgr:Ok r (n+16) {grouped r s x (counted r s x) with over:=true,aB:=(0:Int) }:=by
            unfold grouped
            split
            · next hg=>
              have ajy:0≤(if x.dK=1 then 3 - side x.gQ else side x.gQ)∧(if x.dK=1 then 3 - side x.gQ else side x.gQ)≤2:=by
               have hs:=UQ x.gQ
               split
               · have:side x.gQ≠0:=by
                  intro h0;have hb8:=MN h0;refine h8 ⟨hg.1,by rw [hg.2.1];decide,?_⟩;have hgs:=Ld r s x;rw [hgd,if_neg (by rw [hg.2.1];decide),if_neg (by rw [hg.2.1];decide),if_neg (by rw [hg.1];decide)] at hgs
                  have:=(of_decide_eq_true hgs.symm).2.2
                  rw [← hb8];exact Fb this (by omega)
                 omega
               · exact hs
              exact ⟨hk.turn,hk.aB,ajy,fun _=>hg.1,hk.cO,hk.order,hk.s0,hk.s1,hk.f0,hk.f1,hk.l0,hk.l1,hk.run,hk.iV,hk.push,hk.pushed,hk.both,hk.live⟩
            · exact hk
           have gb:(grouped r s x (counted r s x)).cO=left r s x:=by unfold grouped;split <;> exact mZ r s x
           have go:(grouped r s x (counted r s x)).over=false:=by unfold grouped;split <;> exact (wP r s x).trans hl.over
           have gw:(grouped r s x (counted r s x)).aB=0:=by unfold grouped;split <;> exact (jG r s x).trans w1
           have gr:(grouped r s x (counted r s x)).iV=s.iV:=by unfold grouped;split <;> exact vF r s x
           have g0:(grouped r s x (counted r s x)).f0=(counted r s x).f0:=by unfold grouped;split <;> rfl
           have g1:(grouped r s x (counted r s x)).f1=(counted r s x).f1:=by unfold grouped;split <;> rfl
           unfold Gz
           split
           · next hg=>
             have Vz:r.game≠jH:=by rw [hg.1];decide
             have hne:r.game≠ku:=by rw [hg.1];decide
             have hrk:1≤(grouped r s x (counted r s x)).iV+1∧(grouped r s x (counted r s x)).iV+1≤n+16:=by rw [gr];have:=h.iV;omega
             exact ⟨hgr.turn,.inl gw,hgr.group,hgr.game,r1,r2,hgr.s0,hgr.s1,hgr.f0,hgr.f1,fun h0=>⟨(hgr.l0 h0).1,fun _=>by show (grouped r s x (counted r s x)).f0<_;rw [g0];exact (hq h0).1⟩,fun h0=>⟨(hgr.l1 h0).1,fun _=>by show (grouped r s x (counted r s x)).f1<_;rw [g1];exact (hq h0).2⟩,
              hgr.run,hrk,hgr.push,hgr.pushed,hgr.both,fun _=>⟨gw,r3,fun e=>absurd e hne,fun e=>absurd e Vz⟩⟩
           · next hg=>
             refine hgr.goes gw (fun h0=>by rw [g0];exact (hq h0).1) (fun h0=>by rw [g1];exact (hq h0).2) ?_ (by rw [gb];exact e8) (by rw [gb];exact e9);rw [gb] at hg ⊢;intro hnil
             rcases AQ hr with h1 | h1 | h1
             · exact hg ⟨h1,by rw [hnil];decide⟩
             · have:=e8 h1;rw [hnil] at this;cases this
             · have:=e9 h1;rw [hnil] at this;cases this
     · rw [he,if_pos rfl]
       exact hk.fin v hv
theorem GZ (r:Rules):Ok r 1 (start r):=by
 obtain ⟨r1,r2,r3,r4,r5⟩:=KF (r:=r)
 have z0:(0:Int)≤0∧(0:Int)≤1:=by omega
 have z1:(-1:Int)≤0∧(0:Int)≤1:=by omega
 have z2:(1:Int)≤1∧(1:Int)≤1:=by omega
 have z3:(0:Int)≤0∧(0:Int)≤2:=by omega
 exact {turn:= .inl rfl,aB:= .inl rfl,group:=z3,game:=fun h=>absurd rfl h,cO:=r1,order:=r2,s0:=z1,s1:=z1,f0:=z0,f1:=z0,l0:=fun h=>⟨Int.le_of_lt h,fun _=>h⟩,l1:=(fun h=>⟨Int.le_of_lt h,fun _=>h⟩),run:=z0,iV:=z2,push:=fun e=>(by cases e),pushed:=fun e=>(by cases e),both:=fun e=>(by cases e),live:=fun _=>⟨rfl,r3,fun _=>r4,fun _=>r5⟩ }
theorem step_ok (hr:oq r=0) (h:Ok r n s) (hx:sU x) (hn:0≤n):Ok r (n+16) (step r s x):=by
 unfold step
 split
 · next hl=>exact Ew hr h hx (lawful hl) hn
 · exact h.more (by omega)
end
end M
namespace M
def join:List (List UInt8)→List UInt8
 | []=>[]
 | a::l=>a++l.flatMap fun b=>32::b
def OZ (c:UInt8):Bool:=48≤c∧c≤57
def num:List UInt8→Option Int
 | [a]=>if OZ a then some ((a.toNat:Int) - 48) else none
 | [a,b]=>if OZ a=true∧OZ b=true∧a≠48 then some (10*((a.toNat:Int) - 48)+((b.toNat:Int) - 48)) else none
 | _=>none
def dig (n:Nat):UInt8:=UInt8.ofNat (48+n)
def dec (n:Int):List UInt8:=if n<10 then [dig n.toNat] else [dig (n.toNat / 10),dig (n.toNat % 10)]
def Gq (letter:UInt8) (a b:Int):List UInt8:=letter::(dec a++47::dec b)
def letter (p:Int):List UInt8:=if p=1 then [98] else [97]
def tail (x:gy):List (List UInt8):=
 (if x.gQ≠0 then [Gq 99 x.gQ x.lW] else [])++(if x.first≠0 then [102::dec x.first] else [])++(if x.DW=true then [[43]] else [])++x.aV.map fun p=>Gq 112 p.gQ p.lW
end M
namespace Sk
abbrev aW:ByteArray:=⟨#[115,110,111,111,107,101,114]⟩
abbrev bM:ByteArray:=⟨#[98,105,108,108,105,97,114,100,115]⟩
abbrev dZ:ByteArray:=⟨#[99,97,114,111,109]⟩
abbrev iI:ByteArray:=⟨#[114,101,100]⟩
abbrev dW:ByteArray:=⟨#[99,111,108,111,117,114]⟩
abbrev dG:ByteArray:=⟨#[102,105,110,97,108]⟩
abbrev pU:ByteArray:=⟨#[112,108,97,121]⟩
abbrev dJ:ByteArray:=⟨#[115,104,111,116]⟩
abbrev jI:ByteArray:=⟨#[97,103,97,105,110]⟩
abbrev kL:ByteArray:=⟨#[102,114,101,101]⟩
abbrev eU:ByteArray:=⟨#[99,111,110,99,101,100,101]⟩
abbrev bQ:ByteArray:=⟨#[119,104,105,116,101]⟩
abbrev dw:ByteArray:=⟨#[114,101,100]⟩
abbrev cu:ByteArray:=⟨#[121,101,108,108,111,119]⟩
abbrev jZ:ByteArray:=⟨#[103,114,101,101,110]⟩
abbrev ql:ByteArray:=⟨#[98,114,111,119,110]⟩
abbrev CO:ByteArray:=⟨#[98,108,117,101]⟩
abbrev CP:ByteArray:=⟨#[112,105,110,107]⟩
abbrev qj:ByteArray:=⟨#[98,108,97,99,107]⟩
abbrev dH:ByteArray:=⟨#[]⟩
def cO:List ByteArray:=[bQ,dw,cu,jZ,ql,CO,CP,qj]
structure Game where
 kind:ByteArray
 bI:Int
 target:Int
 turns:Int
structure Entry where
 kind:ByteArray
 called:ByteArray
 hits:List ByteArray
 aV:List ByteArray
 bD:Int
structure State where
 turn:Int
 s0:Int
 s1:Int
 brk:Int
 phase:ByteArray
 bI:Int
 colour:Int
 free:Bool
 aT:Bool
 aP:Int
 t0:Int
 t1:Int
 aB:Int
structure fF where
 points:Int
 gB:Int
 penalty:Int
 stays:Bool
 deriving DecidableEq
structure qZ where
 number:Int
 rule:Int
 deriving DecidableEq
def out (n a b:Int):Bool:=n<a∨b<n
def at_ (b:ByteArray):List ByteArray→Int→Int
 | [],_=> -1
 | x::l,n=>if x=b then n else at_ b l (n+1)
def value (b:ByteArray):Int:=at_ b cO 0
def has (l:List ByteArray) (b:ByteArray):Bool:=l.any fun x=>x=b
def score (s:State) (p:Int):Int:=if p=0 then s.s0 else s.s1
def count (l:List ByteArray) (b:ByteArray):Int:=(l.filter (· =b)).length
def gQ (n:Int):ByteArray:=cO.getD n.toNat dH
def fits (g:Game):Bool:=
 if g.kind=aW then out g.bI 1 15=false∧g.target=0∧g.turns=0
 else if g.kind=bM then g.bI=0∧out g.target 1 1000=false∧g.turns=0
 else g.bI=0∧out g.target 1 1000=false∧out g.turns 1 100=false
def iH (k:ByteArray):Bool:=k=aW∨k=bM∨k=dZ
def dn (g:Game):Int:=if iH g.kind=false then 13 else if fits g then 0 else 3
def fH (g:Game) (p:ByteArray):Bool:=if g.kind=aW then p=iI∨p=dW∨p=dG else p=pU
def far (g:Game) (s:State):Bool:=
 out s.turn 0 1∨out s.brk 0 99999∨out s.bI 0 g.bI∨out s.colour 0 7∨out s.aP 0 5∨out s.aB (-1) 2∨out s.s0 0 99999∨out s.t0 0 g.turns∨out s.s1 0 99999∨out s.t1 0 g.turns
def dD (s:State):Bool:=(s.free∧s.aT)∨((s.free∨s.aT)∧(s.phase=dW∨0≤s.aB))
def bU (s:State):Bool:=
 if s.aP≠0∨s.aB=2 then false
 else if s.phase=dG then s.bI=0∧2≤s.colour
 else s.colour=0∧(s.phase≠iI∨0<s.bI)
def jA (s:State):Bool:=s.colour=0∧s.free=false∧s.aT=false
def dA (g:Game) (s:State):Bool:=jA s∧s.aB≠2∧(0≤s.aB∨max s.s0 s.s1<g.target)
def lU (g:Game) (s:State):Bool:=
 if jA s=false∨s.aP≠0 then false
 else if 0≤s.aB then s.t0=s.t1∨(s.turn=1∧s.t0=s.t1+1)
 else if s.turn=1 then s.t0=s.t1+1
 else s.t0=s.t1∧s.t0<g.turns∧max s.s0 s.s1<g.target
def jf (g:Game) (s:State):Bool:=if g.kind=aW then bU s else if g.kind=bM then dA g s else lU g s
def bP (g:Game) (s:State):Int:=
 if dn g≠0 then dn g
 else if far g s then 3
 else if fH g s.phase=false then 13
 else if score s s.turn<s.brk∨dD s∨jf g s=false then 19
 else 0
def fB (g:Game) (b:ByteArray) (hit:Bool):Bool:=
 if g.kind=aW then 0<value b∨(b=bQ∧hit=false) else b=bQ∨b=cu∨b=dw
def isKind (k:ByteArray):Bool:=k=dJ∨k=jI∨k=kL∨k=eU
def dV (g:Game) (e:Entry):Int:=
 if isKind e.kind=false then 13
 else if e.kind≠dJ then (if e.called≠dH∨0<e.hits.length+e.aV.length∨e.bD≠0 then 1 else 0)
 else if 22<e.hits.length∨22<e.aV.length then 5
 else if (e.called≠dH∧value e.called<2)∨e.hits.any (fun b=>fB g b true=false)∨e.aV.any (fun b=>fB g b false=false) then 10
 else if out e.bD 0 99 then 3
 else if (g.kind≠aW∧e.called≠dH)∨(g.kind=dZ∧0<e.aV.length)∨(g.kind≠dZ∧e.bD≠0) then 1
 else 0
def wL (g:Game) (e:Entry):Int:=if dn g≠0 then dn g else dV g e
def lu (g:Game):List Entry→Int
 | []=>0
 | x::l=>if dV g x≠0 then dV g x else lu g l
def iq (g:Game) (l:List Entry):Int:=if dn g≠0 then dn g else if 1000<l.length then 5 else lu g l
def start (g:Game):State:={turn:=0,s0:=0,s1:=0,brk:=0,phase:=if g.kind=aW then iI else pU,bI:=g.bI,colour:=0,free:=false,aT:=false,aP:=0,t0:=0,t1:=0,aB:= -1 }
def zero:State:={turn:=0,s0:=0,s1:=0,brk:=0,phase:=dH,bI:=0,colour:=0,free:=false,aT:=false,aP:=0,t0:=0,t1:=0,aB:=0 }
def callable (s:State) (b:ByteArray):Bool:=
 if s.free=false then false else if s.phase=iI then 2≤value b else s.phase=dG∧s.colour<value b
def on (s:State):List ByteArray:=
 if s.phase=iI then [dw] else if s.phase=dW then cO.drop 2 else [gQ s.colour]
def theirs (s:State):ByteArray:=if s.turn=0 then cu else bQ
def own (s:State):ByteArray:=if s.turn=0 then bQ else cu
def wanted (s:State) (e:Entry) (b:ByteArray):Bool:=(b=e.called∧e.called≠dH)∨(s.phase≠dW∧has (on s) b)
def worth (s:State) (e:Entry):Int:=if s.phase=iI then 1 else if s.phase=dW then value e.called else s.colour
def due (s:State) (e:Entry):ByteArray:=if e.called=dH then (on s).headD dH else e.called
def dY (s:State) (e:Entry):Int:=
 if e.hits=[] then 1
 else if e.hits.headD dH≠due s e then 2
 else if has e.aV bQ then 3
 else if e.aV.any (fun b=>wanted s e b=false) then 4
 else 0
def most (s:State) (e:Entry) (m:Int):List ByteArray→Int
 | []=>m
 | b::l=>most s e (if wanted s e b then m else max m (value b)) l
def called (e:Entry):Bool:=e.called≠dH∧has e.aV e.called
def dL (s:State) (e:Entry):Int:=
 if s.phase=iI then count e.aV dw+(if called e then 1 else 0)
 else if called e∨(has e.aV ((on s).headD dH)∧s.phase=dG) then worth s e else 0
def fD (s:State) (e:Entry):fF:=
 if 0<dY s e then
  ⟨0,dY s e,most s e (if dY s e=2 then max (max 4 (worth s e)) (value (e.hits.headD dH)) else max 4 (worth s e)) e.aV,false⟩
 else ⟨dL s e,0,0,0<dL s e⟩
def jc (s:State) (e:Entry):Bool:=has e.hits (theirs s)∧has e.hits dw
def sK (s:State) (e:Entry) (m:Int):List ByteArray→Int
 | []=>m
 | b::l=>sK s e (m+(if b=dw∨(b=own s∧e.hits.headD dH=dw) then 3 else 2)) l
def fO (s:State) (e:Entry):Int:=sK s e (if jc s e then 2 else 0) e.aV
def eP (s:State) (e:Entry):fF:=
 if e.hits=[] then ⟨0,1,2,false⟩
 else if e.aV≠[]∧jc s e=false∧s.aP=5 then ⟨0,5,2,false⟩
 else ⟨fO s e,0,0,0<fO s e⟩
def iD (s:State) (e:Entry):fF:=if jc s e∧3≤e.bD then ⟨1,0,0,true⟩ else ⟨0,0,0,false⟩
def judge (g:Game) (s:State) (e:Entry):fF:=if g.kind=aW then fD s e else if g.kind=bM then eP s e else iD s e
def pass (s:State):State:={s with turn:=1 - s.turn,brk:=0,aP:=0 }
def leader (s:State):Int:=if s.s1<s.s0 then 0 else if s.s0<s.s1 then 1 else 2
def dB (s:State) (e:Entry) (v:fF):State:=
 if s.phase≠dG then
  if s.phase=iI∧v.stays then {s with bI:=s.bI - count e.aV dw,phase:=dW }
  else if 0<s.bI - count e.aV dw then {s with bI:=s.bI - count e.aV dw,phase:=iI }
  else {s with bI:=s.bI - count e.aV dw,phase:=dG,colour:=2 }
 else
  let r:=s.bI - count e.aV dw
  let EF:Bool:=v.gB=0∧has e.aV (gQ s.colour)
  if s.colour<7 then (if EF then {s with bI:=r,colour:=s.colour+1 } else {s with bI:=r })
  else if v.gB=0∧EF=false then {s with bI:=r }
  else if leader s<2 then {s with bI:=r,aB:=leader s,aT:=false }
  else if EF then pass {s with bI:=r } else {s with bI:=r }
def dM (g:Game) (s:State) (e:Entry) (v:fF):State:=
 let dK:=if v.stays then s.turn else 1 - s.turn
 let k:=if v.stays∧jc {zero with turn:=dK } e then 0 else if v.stays then s.aP+1 else s.aP
 {s with aP:=k,aB:=if g.target≤max s.s0 s.s1 then leader s else s.aB }
def mQ (s:State) (p:Int):State:=if p=0 then {s with t0:=s.t0+1 } else {s with t1:=s.t1+1 }
def jE (g:Game) (s:State) (p:Int):State:=
 if p=1∧(g.target≤max (mQ s p).s0 (mQ s p).s1∨(mQ s p).t1=g.turns) then {mQ s p with aB:=leader (mQ s p) } else mQ s p
def dR (g:Game) (s:State) (v:fF):State:=
 if v.stays=false then jE g s (1 - s.turn)
 else if score s s.turn<g.target then s
 else jE g (pass s) s.turn
def after (g:Game) (s:State) (e:Entry) (v:fF):State:=if g.kind=aW then dB s e v else if g.kind=bM then dM g s e v else dR g s v
def mO (g:Game) (s:State) (v:fF):State:=
 {s with free:=false,aT:=g.kind=aW∧0<v.gB,s0:=s.s0+(if s.turn=0 then v.points else v.penalty),s1:=s.s1+(if s.turn=0 then v.penalty else v.points),brk:=s.brk+v.points }
def uj (g:Game) (s:State) (e:Entry):State:=
 after g (if (judge g s e).stays then mO g s (judge g s e) else pass (mO g s (judge g s e))) e (judge g s e)
def next (g:Game) (s:State) (e:Entry):State:=
 if e.kind=dJ then uj g s e
 else if e.kind=jI then pass {s with aT:=false,free:=false }
 else if e.kind=kL then {s with aT:=false,free:=true }
 else if e.kind=eU then {s with aT:=false,free:=false,aB:=1 - s.turn }
 else {s with aT:=false,free:=false }
def twice (l:List ByteArray):List ByteArray→Bool
 | []=>false
 | b::r=>1<count l b∨twice l r
def gone (s:State) (b:ByteArray):Bool:=s.phase=dG∧2≤value b∧value b<s.colour
def gW (s:State) (e:Entry):Bool:=
 if s.bI<count e.aV dw∨(s.bI=0∧has e.hits dw) then false
 else if twice e.aV (cO.filter (· ≠dw)) then false
 else e.hits.any (gone s)=false∧e.aV.any (gone s)=false
def qJ (s:State) (e:Entry):Bool:=if twice e.aV [bQ,cu,dw] then false else has e.hits (own s)=false
def l9 (g:Game) (s:State) (e:Entry):Bool:=if g.kind=aW then gW s e else qJ s e
def iy (g:Game) (s:State) (e:Entry):Bool:=
 if e.kind≠dJ∨g.kind≠aW then true
 else if s.phase=dW then e.called≠dH
 else e.called=dH∨callable s e.called
def legal (g:Game) (s:State) (e:Entry):Int:=
 if 0≤s.aB then 1
 else if s.aT=false∧(e.kind=jI∨e.kind=kL) then 2
 else if iy g s e=false then 3
 else if e.kind=dJ∧l9 g s e=false then 4
 else if e.kind=dJ∧99999<max (next g s e).s0 (next g s e).s1 then 5
 else 0
def step (g:Game) (s:State) (e:Entry):State:=if legal g s e=0 then next g s e else s
def final (g:Game) (s:State) (l:List Entry):State:=l.foldl (step g) s
def gu (g:Game) (s:State) (n:Int):List Entry→List qZ
 | []=>[]
 | x::l=>(if legal g s x=0 then [] else [⟨n,legal g s x⟩])++gu g (step g s x) (n+1) l
def qG (g:Game) (p:Int) (s:State) (sum:Int):List Entry→List Int
 | []=>[]
 | x::l=>
   let sum':=if legal g s x=0∧x.kind=dJ∧s.turn=p then sum+(judge g s x).points else sum
   let t:=step g s x
   if t.turn=s.turn∧t.aB<0∧l≠[] then qG g p t sum' l
   else (if 0<sum' then [sum'] else [])++qG g p t 0 l
def breaks (g:Game) (p:Int) (l:List Entry):List Int:=qG g p (start g) 0 l
def qF (g:Game) (s:State) (n:Int):List Entry→List (Int × Int)→Int
 | x::l,c::cs=>if ((step g s x).s0,(step g s x).s1)=c then qF g (step g s x) (n+1) l cs else n
 | _,_=>0
def qE (g:Game) (l:List Entry) (c:List (Int × Int)):Int:=qF g (start g) 1 l c
def jP (c:Int):Nat→Int
 | 0=>0
 | k+1=>c+jP (c+1) k
def left (s:State):Int:=
 if 0≤s.aB then 0
 else if s.phase=iI then 8*s.bI+27+(if s.free then 8 else 0)
 else if s.phase=dW then 8*s.bI+27+7
 else jP s.colour (8 - s.colour).toNat+(if s.free∧s.colour<7 then s.colour else 0)
def needed (s:State) (p:Int):Int:=max 0 ((score s (1 - p) - score s p - left s+4 - 1).tdiv 4)
end Sk
namespace Sk
theorem rX {n a b:Int}:out n a b=false↔a≤n∧n≤b:=by unfold out;simp
theorem EC {n a b:Int} (h:out n a b=false):a≤n∧n≤b:=rX.1 h
structure Wn (g:Game) (s:State):Prop where
 turn:s.turn=0∨s.turn=1
 brk:0≤s.brk∧s.brk≤99999
 bI:0≤s.bI∧s.bI≤g.bI
 colour:0≤s.colour∧s.colour≤7
 aP:0≤s.aP∧s.aP≤5
 aB: -1≤s.aB∧s.aB≤2
 s0:0≤s.s0∧s.s0≤99999
 s1:0≤s.s1∧s.s1≤99999
 t0:0≤s.t0∧s.t0≤g.turns
 t1:0≤s.t1∧s.t1≤g.turns
theorem DZ {g:Game} {s:State}:far g s=false↔Wn g s:=by
 unfold far
 simp only [decide_eq_false_iff_not,not_or,Bool.not_eq_true,rX]
 constructor
 · rintro ⟨h1,h2,h3,h4,h5,h6,h7,h8,h9,h10⟩
   exact ⟨by omega,h2,h3,h4,h5,h6,h7,h9,h8,h10⟩
 · intro h
   exact ⟨by have:=h.turn;omega,h.brk,h.bI,h.colour,h.aP,h.aB,h.s0,h.t0,h.s1,h.t1⟩
structure Ok (g:Game) (s:State):Prop where
 game:dn g=0
 inr:Wn g s
 phase:fH g s.phase=true
 brk:s.brk≤score s s.turn
 gB:dD s=false
 st:jf g s=true
theorem kG {g:Game} {s:State}:bP g s=0↔Ok g s:=by
 unfold bP
 constructor
 · intro h
   by_cases h1:dn g=0
   · rw [if_neg (by simp [h1])] at h
     by_cases h2:far g s=false
     · rw [if_neg (by simp [h2])] at h
       by_cases h3:fH g s.phase=true
       · rw [if_neg (by simp [h3])] at h
         by_cases h4:score s s.turn<s.brk∨dD s=true∨jf g s=false
         · rw [if_pos h4] at h;cases h
         · simp only [not_or,Bool.not_eq_true,Bool.not_eq_false,Int.not_lt] at h4
           exact ⟨h1,DZ.1 h2,h3,h4.1,h4.2.1,h4.2.2⟩
       · rw [if_pos (by simpa using h3)] at h;cases h
     · rw [if_pos (by simpa using h2)] at h;cases h
   · rw [if_pos h1] at h;exact absurd h h1
 · intro h
   rw [if_neg (by simp [h.game]),if_neg (by simp [DZ.2 h.inr]),if_neg (by simp [h.phase]),if_neg (by simp only [h.gB,h.st];have:=h.brk;simp;omega)]
theorem SN {g:Game} (h:dn g=0):iH g.kind=true∧fits g=true:=by
 unfold dn at h
 cases h1:iH g.kind
 · rw [h1] at h;simp at h
 · rw [h1] at h;simp at h;exact ⟨rfl,h⟩
theorem iM {g:Game} (h:dn g=0):(g.kind=aW∧(1≤g.bI∧g.bI≤15)∧g.target=0∧g.turns=0)∨(g.kind=bM∧g.bI=0∧(1≤g.target∧g.target≤1000)∧g.turns=0)∨(g.kind=dZ∧g.bI=0∧(1≤g.target∧g.target≤1000)∧1≤g.turns∧g.turns≤100):=by
 obtain ⟨h1,h2⟩:=SN h
 unfold fits at h2
 unfold iH at h1
 simp only [decide_eq_true_eq] at h1
 have n1:bM≠aW:=by decide
 have n2:dZ≠aW:=by decide
 have n3:dZ≠bM:=by decide
 rcases h1 with h1 | h1 | h1
 · rw [if_pos h1] at h2
   simp only [decide_eq_true_eq,rX] at h2
   exact .inl ⟨h1,h2.1,h2.2.1,h2.2.2⟩
 · rw [if_neg (by rw [h1];exact n1),if_pos h1] at h2
   simp only [decide_eq_true_eq,rX] at h2
   exact .inr (.inl ⟨h1,h2.1,h2.2.1,h2.2.2⟩)
 · rw [if_neg (by rw [h1];exact n2),if_neg (by rw [h1];exact n3)] at h2
   simp only [decide_eq_true_eq,rX] at h2
   exact .inr (.inr ⟨h1,h2.1,h2.2.1,h2.2.2⟩)
theorem rD:bM≠aW:=by decide
theorem rF:dZ≠aW:=by decide
theorem rG:dZ≠bM:=by decide
theorem wO:dW≠iI:=by decide
theorem uO:dG≠iI:=by decide
theorem rO:dG≠dW:=by decide
theorem Gs:pU≠dW:=by decide
theorem Fh (l:List ByteArray) (b:ByteArray):0≤count l b:=by unfold count;omega
theorem uG:∀ b, -1≤value b∧value b≤7:=by
 intro b
 unfold value cO at_ at_ at_ at_ at_ at_ at_ at_ at_
 repeat' split
 all_goals omega
theorem KC (s:State) (e:Entry):∀ (l:List ByteArray) (m:Int),m≤most s e m l
 | [],m=>Int.le_refl _
 | b::l,m=>by
   rw [most];refine Int.le_trans ?_ (KC s e l _)
   split <;> omega
theorem Eu (s:State) (e:Entry):∀ (l:List ByteArray) (m:Int),m≤7→most s e m l≤7
 | [],m,h=>h
 | b::l,m,h=>by
   rw [most];refine Eu s e l _ ?_
   have:=(uG b).2
   split <;> omega
theorem He {s:State} {e:Entry} (h:s.colour≤7):worth s e≤7:=by
 unfold worth
 have:=(uG e.called).2
 repeat' split
 all_goals omega
structure YQ (g:Game) (v:fF):Prop where
 points:0≤v.points
 penalty:0≤v.penalty
 gB:0≤v.gB
 both:0<v.gB↔0<v.penalty
 none_:0<v.gB→v.points=0∧v.stays=false
 stays:v.stays=decide (0<v.points)
 ar4:g.kind=aW→0<v.gB→4≤v.penalty∧v.penalty≤7
 zero:v.gB=0→v.penalty=0
theorem BA (s:State) (e:Entry):0≤dY s e:=by unfold dY;repeat' split;all_goals omega
theorem RN {g:Game} {s:State} {e:Entry} (h:0≤s.colour) (hc:s.phase=dW→0≤value e.called):0≤worth s e:=by
 unfold worth
 repeat' split
 · omega
 · rename_i h1;exact hc h1
 · exact h
theorem Gv (s:State) (e:Entry):∀ (l:List ByteArray) (m:Int),m≤sK s e m l
 | [],m=>Int.le_refl _
 | b::l,m=>by
   rw [sK];refine Int.le_trans ?_ (Gv s e l _)
   split <;> omega
end Sk
namespace Sk
theorem Ap (g:Game) (s:State) (e:Entry) (hc:0≤s.colour∧s.colour≤7) (hw:g.kind=aW→s.phase=dW→0≤value e.called):YQ g (judge g s e):=by
 unfold judge
 split
 · rename_i hg
   unfold fD
   have h0:=BA s e
   split
   · rename_i hf
     have h1:=KC s e e.aV (if dY s e=2 then max (max 4 (worth s e)) (value (e.hits.headD dH)) else max 4 (worth s e))
     have h2:=Eu s e e.aV (if dY s e=2 then max (max 4 (worth s e)) (value (e.hits.headD dH)) else max 4 (worth s e)) (by
      have:=He (e:=e) hc.2
      have:=(uG (e.hits.headD dH)).2
      split <;> omega)
     have h3:4≤(if dY s e=2 then max (max 4 (worth s e)) (value (e.hits.headD dH)) else max 4 (worth s e)):=by split <;> omega
     obtain ⟨m0,hm0⟩:∃ m,(if dY s e=2 then max (max 4 (worth s e)) (value (e.hits.headD dH)) else max 4 (worth s e))=m:=⟨_,rfl⟩;rw [hm0] at h1 h2 h3 ⊢;obtain ⟨m,hm⟩:∃ m,most s e m0 e.aV=m:=⟨_,rfl⟩;obtain ⟨f,hff⟩:∃ f,dY s e=f:=⟨_,rfl⟩;rw [hm] at h1 h2 ⊢;rw [hff] at hf h0 ⊢;exact ⟨Int.le_refl _,by show 0≤m;omega,h0,by show 0<f↔0<m;omega,fun _=>⟨rfl,rfl⟩,by simp,fun _ _=>⟨by show 4≤m;omega,h2⟩,fun h=>by have h:f=0:=h;omega⟩
   · have hp:0≤dL s e:=by
      unfold dL
      have:=Fh e.aV dw
      have:=RN (g:=g) (e:=e) hc.1 (hw hg)
      repeat' split
      all_goals omega
     exact ⟨hp,by simp,by simp,by simp,fun h=>absurd h (by simp),by simp,fun _ h=>absurd h (by simp),fun _=>rfl⟩
 · rename_i hg
   split
   · rename_i hg2
     unfold eP
     split
     · exact ⟨by simp,by simp,by simp,by simp,fun _=>⟨rfl,rfl⟩,by simp,fun h=>absurd h hg,fun h=>absurd h (by simp)⟩
     · split
       · exact ⟨by simp,by simp,by simp,by simp,fun _=>⟨rfl,rfl⟩,by simp,fun h=>absurd h hg,fun h=>absurd h (by simp)⟩
       · have hp:0≤fO s e:=by
          unfold fO
          refine Int.le_trans ?_ (Gv s e e.aV _)
          split <;> omega
         exact ⟨hp,by simp,by simp,by simp,fun h=>absurd h (by simp),by simp,fun h=>absurd h hg,fun _=>rfl⟩
   · unfold iD
     split
     · exact ⟨by simp,by simp,by simp,by simp,fun h=>absurd h (by simp),by simp,fun h=>absurd h hg,fun _=>rfl⟩
     · exact ⟨by simp,by simp,by simp,by simp,fun h=>absurd h (by simp),by simp,fun h=>absurd h hg,fun _=>rfl⟩
structure Lawful (g:Game) (s:State) (e:Entry):Prop where
 aB:s.aB<0
 aT:e.kind=jI∨e.kind=kL→s.aT=true
 call:iy g s e=true
 cO:e.kind=dJ→l9 g s e=true
 most:e.kind=dJ→max (next g s e).s0 (next g s e).s1≤99999
theorem uP {g:Game} {s:State} {e:Entry}:legal g s e=0↔Lawful g s e:=by
 unfold legal
 constructor
 · intro h
   by_cases h1:0≤s.aB
   · rw [if_pos h1] at h;cases h
   rw [if_neg h1] at h
   by_cases h2:s.aT=false∧(e.kind=jI∨e.kind=kL)
   · rw [if_pos h2] at h;cases h
   rw [if_neg h2] at h
   by_cases h3:iy g s e=false
   · rw [if_pos h3] at h;cases h
   rw [if_neg h3] at h
   by_cases h4:e.kind=dJ∧l9 g s e=false
   · rw [if_pos h4] at h;cases h
   rw [if_neg h4] at h
   by_cases h5:e.kind=dJ∧99999<max (next g s e).s0 (next g s e).s1
   · rw [if_pos h5] at h;cases h
   refine ⟨by omega,fun hk=>?_,by simpa using h3,fun hk=>?_,fun hk=>?_⟩
   · cases hf:s.aT
     · exact absurd ⟨hf,hk⟩ h2
     · rfl
   · cases hb:l9 g s e
     · exact absurd ⟨hk,hb⟩ h4
     · rfl
   · exact Int.not_lt.1 (fun hx=>h5 ⟨hk,hx⟩)
 · intro h
   rw [if_neg (by have:=h.aB;omega),if_neg (fun hx=>by have:=h.aT hx.2;rw [hx.1] at this;cases this),if_neg (by rw [h.call];decide),if_neg (fun hx=>by rw [h.cO hx.1] at hx;exact absurd hx.2 (by decide)),
    if_neg (fun hx=>by have:=h.most hx.1;omega)]
theorem jX {s:State} (h1:s.free=false) (h2:s.aT=false):dD s=false:=by unfold dD;simp [h1,h2]
theorem yA {s:State}:jA s=true↔s.colour=0∧s.free=false∧s.aT=false:=by unfold jA;simp
theorem jk {s:State}:bU s=true↔s.aP=0∧s.aB≠2∧(s.phase=dG→s.bI=0∧2≤s.colour)∧(s.phase≠dG→s.colour=0∧(s.phase≠iI∨0<s.bI)):=by
 unfold bU
 constructor
 · intro h
   by_cases h1:s.aP≠0∨s.aB=2
   · rw [if_pos h1] at h;cases h
   · rw [if_neg h1] at h
     by_cases h2:s.phase=dG
     · rw [if_pos h2] at h
       simp only [decide_eq_true_eq] at h
       exact ⟨by omega,by omega,fun _=>h,fun h3=>absurd h2 h3⟩
     · rw [if_neg h2] at h
       simp only [decide_eq_true_eq] at h
       exact ⟨by omega,by omega,fun h3=>absurd h3 h2,fun _=>h⟩
 · rintro ⟨h1,h2,h3,h4⟩
   rw [if_neg (by omega)]
   by_cases h5:s.phase=dG
   · rw [if_pos h5];simpa using h3 h5
   · rw [if_neg h5];simpa using h4 h5
theorem nG {g:Game} {s:State}:dA g s=true↔(s.colour=0∧s.free=false∧s.aT=false)∧s.aB≠2∧(0≤s.aB∨max s.s0 s.s1<g.target):=by
 unfold dA
 simp only [decide_eq_true_eq,yA]
theorem jF {g:Game} {s:State}:lU g s=true↔(s.colour=0∧s.free=false∧s.aT=false)∧s.aP=0∧(0≤s.aB→s.t0=s.t1∨(s.turn=1∧s.t0=s.t1+1))∧(s.aB<0→(s.turn=1→s.t0=s.t1+1)∧(s.turn≠1→s.t0=s.t1∧s.t0<g.turns∧max s.s0 s.s1<g.target)):=by
 unfold lU
 constructor
 · intro h
   by_cases h1:jA s=false∨s.aP≠0
   · rw [if_pos h1] at h;cases h
   · rw [if_neg h1] at h
     simp only [not_or,Bool.not_eq_false,Decidable.not_not] at h1
     refine ⟨yA.1 h1.1,h1.2,fun h2=>?_,fun h2=>⟨fun h3=>?_,fun h3=>?_⟩⟩
     · rw [if_pos h2] at h;simpa using h
     · rw [if_neg (by omega),if_pos h3] at h;simpa using h
     · rw [if_neg (by omega),if_neg h3] at h;simpa using h
 · rintro ⟨h1,h2,h3,h4⟩
   rw [if_neg (by rw [yA.2 h1];simp [h2])]
   by_cases h5:0≤s.aB
   · rw [if_pos h5];simpa using h3 h5
   · rw [if_neg h5]
     by_cases h6:s.turn=1
     · rw [if_pos h6];simpa using (h4 (by omega)).1 h6
     · rw [if_neg h6];simpa using (h4 (by omega)).2 h6
theorem nM {g:Game} (h:g.kind=aW) {p:ByteArray}:fH g p=true↔p=iI∨p=dW∨p=dG:=by unfold fH;rw [if_pos h];simp
theorem tY {g:Game} (h:g.kind≠aW) {p:ByteArray}:fH g p=true↔p=pU:=by unfold fH;rw [if_neg h];simp
theorem mP {g:Game} (h:g.kind=aW) (s:State):jf g s=bU s:=by unfold jf;rw [if_pos h]
theorem sH {g:Game} (h:g.kind=bM) (s:State):jf g s=dA g s:=by unfold jf;rw [if_neg (by rw [h];exact rD),if_pos h]
theorem lM {g:Game} (h:g.kind=dZ) (s:State):jf g s=lU g s:=by unfold jf;rw [if_neg (by rw [h];exact rF),if_neg (by rw [h];exact rG)]
theorem wV {s:State}:dD s=false↔¬ (s.free=true∧s.aT=true)∧(s.free=true∨s.aT=true→s.phase≠dW∧s.aB<0):=by
 unfold dD
 simp only [decide_eq_false_iff_not,not_or]
 constructor
 · rintro ⟨h1,h2⟩
   exact ⟨h1,fun h3=>⟨fun h4=>h2 ⟨h3,.inl h4⟩,Int.not_le.1 (fun h4=>h2 ⟨h3,.inr h4⟩)⟩⟩
 · rintro ⟨h1,h2⟩
   exact ⟨h1,fun h3=>h3.2.elim (h2 h3.1).1 (by have:=(h2 h3.1).2;omega)⟩
theorem Pz {g:Game} {s:State} {e:Entry} (h:Ok g s) (hl:Lawful g s e) (hk:e.kind≠dJ):Ok g (next g s e):=by
 have hw:=hl.aB;obtain ⟨r1,r2,r3,r4,r5,r6,r7,r8,r9,r10⟩:=h.inr;have hf:=wV.1 h.gB;have hb:=h.brk
 have n1:kL≠jI:=by decide
 have n2:eU≠jI:=by decide
 have n3:eU≠kL:=by decide
 unfold next
 rw [if_neg hk]
 split
 · rename_i h1
   have hfo:=hl.aT (.inl h1);refine ⟨h.game,⟨by show 1 - s.turn=0∨1 - s.turn=1;omega,by show 0≤(0:Int)∧(0:Int)≤99999;omega,r3,r4,by show 0≤(0:Int)∧(0:Int)≤5;omega,r6,r7,r8,r9,r10⟩,h.phase,?_,jX rfl rfl,?_⟩
   · show (0:Int)≤score _ _
     unfold score pass
     split <;> simp <;> omega
   · rcases iM h.game with ⟨hg,_⟩ | ⟨hg,_⟩ | ⟨hg,_⟩
     · have hs:=h.st
       rw [mP hg] at hs ⊢;obtain ⟨a,b,c,d⟩:=jk.1 hs;exact jk.2 ⟨rfl,b,c,d⟩
     · have hs:=h.st
       rw [sH hg] at hs
       have:=(nG.1 hs).1.2.2
       rw [this] at hfo;cases hfo
     · have hs:=h.st
       rw [lM hg] at hs
       have:=(jF.1 hs).1.2.2
       rw [this] at hfo;cases hfo
 · split
   · rename_i h1
     have hfo:=hl.aT (.inr h1);have xJ:=hf.2 (.inr hfo);refine ⟨h.game,⟨r1,r2,r3,r4,r5,r6,r7,r8,r9,r10⟩,h.phase,hb,wV.2 ⟨by simp,fun _=>⟨xJ.1,hw⟩⟩,?_⟩
     rcases iM h.game with ⟨hg,_⟩ | ⟨hg,_⟩ | ⟨hg,_⟩
     · have hs:=h.st
       rw [mP hg] at hs ⊢;obtain ⟨a,b,c,d⟩:=jk.1 hs;exact jk.2 ⟨a,b,c,d⟩
     · have hs:=h.st
       rw [sH hg] at hs
       have:=(nG.1 hs).1.2.2
       rw [this] at hfo;cases hfo
     · have hs:=h.st
       rw [lM hg] at hs
       have:=(jF.1 hs).1.2.2
       rw [this] at hfo;cases hfo
   · have key:∀ w:Int,(w=s.aB∨w=1 - s.turn)→Ok g {s with aT:=false,free:=false,aB:=w }:=by
      intro w hw2
      have hw3: -1≤w∧w≤1:=by omega
      refine ⟨h.game,⟨r1,r2,r3,r4,r5,⟨hw3.1,by show w≤2;omega⟩,r7,r8,r9,r10⟩,h.phase,hb,jX rfl rfl,?_⟩
      rcases iM h.game with ⟨hg,_⟩ | ⟨hg,_⟩ | ⟨hg,_⟩
      · have hs:=h.st
        rw [mP hg] at hs ⊢;obtain ⟨a,b,c,d⟩:=jk.1 hs;exact jk.2 ⟨a,by show w≠2;omega,c,d⟩
      · have hs:=h.st
        rw [sH hg] at hs ⊢;obtain ⟨a,b,c⟩:=nG.1 hs;exact nG.2 ⟨⟨a.1,rfl,rfl⟩,by show w≠2;omega,by show 0≤w∨max s.s0 s.s1<g.target;omega⟩
      · have hs:=h.st
        rw [lM hg] at hs ⊢;obtain ⟨a,b,c,d⟩:=jF.1 hs;have d:=d hw;refine jF.2 ⟨⟨a.1,rfl,rfl⟩,b,fun _=>?_,fun hw4=>d⟩
        show s.t0=s.t1∨(s.turn=1∧s.t0=s.t1+1)
        by_cases h1:s.turn=1
        · exact .inr ⟨h1,d.1 h1⟩
        · exact .inl (d.2 h1).1
     split
     · exact key _ (.inr rfl)
     · exact key s.aB (.inl rfl)
end Sk
namespace Sk
theorem Ii {g:Game} {e:Entry} (h:dV g e=0) (hk:e.kind=dJ) (hc:e.called≠dH):2≤value e.called:=by
 unfold dV at h
 by_cases h1:isKind e.kind=false
 · rw [if_pos h1] at h;cases h
 rw [if_neg h1,if_neg (by simp [hk])] at h
 by_cases h2:22<e.hits.length∨22<e.aV.length
 · rw [if_pos h2] at h;cases h
 rw [if_neg h2] at h
 by_cases h3:(e.called≠dH∧value e.called<2)∨e.hits.any (fun b=>fB g b true=false)=true∨e.aV.any (fun b=>fB g b false=false)=true
 · rw [if_pos h3] at h;cases h
 · simp only [not_or] at h3
   exact Int.not_lt.1 (fun hx=>h3.1 ⟨hc,hx⟩)
theorem vM {g:Game} {s:State} {e:Entry} (h:dV g e=0) (hk:e.kind=dJ) (hl:iy g s e=true) (hg:g.kind=aW) (hp:s.phase=dW):2≤value e.called:=by
 refine Ii h hk ?_
 unfold iy at hl
 rw [if_neg (by simp [hk,hg]),if_pos hp] at hl
 simpa using hl
theorem DL (g:Game) (s:State) (e:Entry) (v:fF):(after g s e v).s0=s.s0∧(after g s e v).s1=s.s1:=by
 unfold after
 split
 · unfold dB
   dsimp only
   repeat' split
   all_goals exact ⟨rfl,rfl⟩
 · split
   · exact ⟨rfl,rfl⟩
   · unfold dR
     have hc:∀ (s:State) (p:Int),(jE g s p).s0=s.s0∧(jE g s p).s1=s.s1:=by
      intro s p
      unfold jE mQ
      repeat' split
      all_goals exact ⟨rfl,rfl⟩
     repeat' split
     · exact hc _ _
     · exact ⟨rfl,rfl⟩
     · exact hc _ _
def mid (g:Game) (s:State) (v:fF):State:=if v.stays then mO g s v else pass (mO g s v)
theorem Px {g:Game} {s:State} {e:Entry} (hk:e.kind=dJ):next g s e=after g (mid g s (judge g s e)) e (judge g s e):=by
 unfold next mid
 rw [if_pos hk]
 rfl
structure Mid (g:Game) (s m:State) (v:fF):Prop where
 turn:m.turn=if v.stays then s.turn else 1 - s.turn
 brk:0≤m.brk∧m.brk≤score m m.turn
 phase:m.phase=s.phase
 bI:m.bI=s.bI
 colour:m.colour=s.colour
 free:m.free=false
 aT:m.aT=decide (g.kind=aW∧0<v.gB)
 aP:m.aP=if v.stays then s.aP else 0
 t0:m.t0=s.t0
 t1:m.t1=s.t1
 aB:m.aB=s.aB
 s0:m.s0=s.s0+(if s.turn=0 then v.points else v.penalty)
 s1:m.s1=s.s1+(if s.turn=0 then v.penalty else v.points)
theorem XC {g:Game} {s:State} {v:fF} (h:Ok g s) (hv:YQ g v):Mid g s (mid g s v) v:=by
 have hb:=h.brk;have h1:=hv.points;have h2:=hv.penalty;have h3:=h.inr.brk;have h4:=h.inr.s0;have h5:=h.inr.s1;have ht:=h.inr.turn
 unfold mid
 cases hs:v.stays
 · refine ⟨by rw [hs];rfl,⟨Int.le_refl _,?_⟩,rfl,rfl,rfl,rfl,rfl,by rw [hs];rfl,rfl,rfl,rfl,rfl,rfl⟩
   show (0:Int)≤score (pass (mO g s v)) (1 - s.turn)
   unfold score pass mO
   dsimp only
   repeat' split
   all_goals omega
 · refine ⟨by rw [hs];rfl,⟨?_,?_⟩,rfl,rfl,rfl,rfl,rfl,by rw [hs];rfl,rfl,rfl,rfl,rfl,rfl⟩
   · show 0≤s.brk+v.points
     omega
   · show s.brk+v.points≤score (mO g s v) s.turn
     unfold score mO
     unfold score at hb
     dsimp only
     by_cases h0:s.turn=0
     · rw [if_pos h0] at hb ⊢;rw [if_pos h0];omega
     · rw [if_neg h0] at hb ⊢;rw [if_neg h0];omega
theorem Dl (s:State):0≤leader s∧leader s≤2:=by unfold leader;repeat' split;all_goals omega
theorem GY {s:State} {e:Entry} (h:gW s e=true):count e.aV dw≤s.bI∧(s.bI=0→has e.hits dw=false)∧twice e.aV (cO.filter (· ≠dw))=false∧e.hits.any (gone s)=false∧e.aV.any (gone s)=false:=by
 unfold gW at h
 by_cases h1:s.bI<count e.aV dw∨(s.bI=0∧has e.hits dw=true)
 · rw [if_pos h1] at h;cases h
 · rw [if_neg h1] at h
   simp only [not_or,Int.not_lt] at h1
   by_cases h2:twice e.aV (cO.filter (· ≠dw))=true
   · rw [if_pos h2] at h;cases h
   · rw [if_neg h2] at h
     simp only [decide_eq_true_eq] at h
     refine ⟨h1.1,fun h3=>?_,by simpa using h2,h.1,h.2⟩
     cases h4:has e.hits dw
     · rfl
     · exact absurd ⟨h3,h4⟩ h1.2
theorem Ry {g:Game} {s m:State} {e:Entry} {v:fF} (h:Ok g s) (hv:YQ g v) (hvj:v=fD s e) (hw:s.aB<0) (hb:gW s e=true) (hg:g.kind=aW) (hm:Mid g s m v) (hsc:max m.s0 m.s1≤99999):Ok g (dB m e v):=by
 obtain ⟨r1,r2,r3,r4,r5,r6,r7,r8,r9,r10⟩:=h.inr;have hs:=h.st;rw [mP hg] at hs;obtain ⟨a,b,c,d⟩:=jk.1 hs;obtain ⟨m1,m2,m3,m4,m5,m6,m7,m8,m9,m10,m11,m12,m13⟩:=hm;obtain ⟨b1,b2,b3,b4,b5⟩:=GY hb;have hcnt:=Fh e.aV dw;have p1:=hv.points;have p2:=hv.penalty
 have hst:v.stays=true→v.gB=0:=fun hx=>by
  have:=hv.none_
  rcases Int.lt_or_le 0 v.gB with h1 | h1
  · rw [(this h1).2] at hx;cases hx
  · have:=hv.gB;omega
 have htn:m.turn=0∨m.turn=1:=by rw [m1];split <;> omega
 have hmf:m.aT=decide (0<v.gB):=by rw [m7];simp [hg]
 have hmw:m.aB= -1:=by omega
 have hms:m.aP=0:=by rw [m8];split <;> omega
 have g0:0≤m.s0:=by rw [m12];split <;> omega
 have g1:0≤m.s1:=by rw [m13];split <;> omega
 have hbk:m.brk≤99999:=by have:=m2.2;unfold score at this;split at this <;> omega
 have hR:Wn g m:=⟨htn,⟨m2.1,hbk⟩,by rw [m4];exact r3,by rw [m5];exact r4,by omega,by omega,by omega,by omega,by rw [m9];exact r9,by rw [m10];exact r10⟩
 -- the same but for bI,phase,colour
 have key:∀ (rd cl:Int) (ph:ByteArray) (w:Int) (fo:Bool),0≤rd→rd≤g.bI→0≤cl→cl≤7→(ph=iI∨ph=dW∨ph=dG)→(ph=dG→rd=0∧2≤cl)→(ph≠dG→cl=0∧(ph≠iI∨0<rd))→(fo=true→ph≠dW∧w<0)→ -1≤w→w≤1→
  Ok g {m with bI:=rd,colour:=cl,phase:=ph,aB:=w,aT:=fo }:=by
  intro rd cl ph w fo h1 h2 h3 h4 h5 h6 h7 h8 h9 h10;refine ⟨h.game,⟨htn,⟨m2.1,hbk⟩,⟨h1,h2⟩,⟨h3,h4⟩,hR.aP,⟨h9,by show w≤2;omega⟩,hR.s0,hR.s1,hR.t0,hR.t1⟩,(nM hg).2 h5,m2.2,wV.2 ⟨by show ¬ (m.free=true∧fo=true);rw [m6];simp,?_⟩,?_⟩
  · show (m.free=true∨fo=true)→ph≠dW∧w<0
    rw [m6];intro hx;exact h8 (hx.elim (fun hy=>by cases hy) id)
  · rw [mP hg]
    exact jk.2 ⟨hms,by show w≠2;omega,h6,h7⟩
 have xJ:=(nM hg).1 h.phase
 unfold dB
 by_cases hpf:m.phase≠dG
 · rw [if_pos hpf]
   rw [m3] at hpf;obtain ⟨d1,d2⟩:=d hpf
   by_cases q1:m.phase=iI∧v.stays=true
   · rw [if_pos q1]
     have hf0:=hst q1.2
     have:=key (m.bI - count e.aV dw) m.colour dW m.aB m.aT (by omega) (by omega) (by omega) (by omega) (.inr (.inl rfl)) (fun hx=>absurd hx.symm rO) (fun _=>⟨by omega,.inl wO⟩) (fun hx=>by rw [hmf,hf0] at hx;cases hx) (by omega) (by omega)
     exact this
   · rw [if_neg q1]
     split
     · rename_i q2
       exact key (m.bI - count e.aV dw) m.colour iI m.aB m.aT (by omega) (by omega) (by omega) (by omega) (.inl rfl) (fun hx=>absurd hx.symm uO) (fun _=>⟨by omega,.inr q2⟩) (fun _=>⟨fun hx=>wO hx.symm,by omega⟩) (by omega) (by omega)
     · rename_i q2
       exact key (m.bI - count e.aV dw) 2 dG m.aB m.aT (by omega) (by omega) (by omega) (by omega) (.inr (.inr rfl)) (fun _=>⟨by omega,by omega⟩) (fun hx=>absurd rfl hx) (fun _=>⟨rO,by omega⟩) (by omega) (by omega)
 · rw [if_neg hpf]
   have hpm:m.phase=dG:=Decidable.not_not.1 hpf;have hps:s.phase=dG:=m3 ▸ hpm;obtain ⟨c1,c2⟩:=c hps
   have I9:m.bI - count e.aV dw=0:=by omega
   dsimp only
   rw [I9]
   have fin:∀ (cl w:Int) (fo:Bool),2≤cl→cl≤7→(fo=true→w<0)→ -1≤w→w≤1→Ok g {m with bI:=0,colour:=cl,aB:=w,aT:=fo }:=by
    intro cl w fo h1 h2 h3 h4 h5
    have:=key 0 cl dG w fo (by omega) (by omega) (by omega) h2 (.inr (.inr rfl)) (fun _=>⟨rfl,h1⟩) (fun hx=>absurd rfl hx) (fun hx=>⟨rO,h3 hx⟩) h4 h5
    rw [← hpm] at this;exact this
   have same:Ok g {m with bI:=0 }:=fin m.colour m.aB m.aT (by omega) (by omega) (fun _=>by omega) (by omega) (by omega)
   split
   · split
     · exact fin (m.colour+1) m.aB m.aT (by omega) (by omega) (fun _=>by omega) (by omega) (by omega)
     · exact same
   · split
     · exact same
     · split
       · rename_i q3
         have:=Dl m
         exact fin m.colour (leader m) false (by omega) (by omega) (fun hx=>by cases hx) (by omega) (by omega)
       · rename_i q2 q3
         split
         · rename_i q4
           simp only [decide_eq_true_eq] at q4
           have ajF:m.aT=false:=by rw [hmf,q4.1];rfl
           refine ⟨h.game,⟨by show 1 - m.turn=0∨1 - m.turn=1;omega,by show (0:Int)≤0∧(0:Int)≤99999;omega,by show (0:Int)≤0∧0≤g.bI;omega,hR.colour,by show (0:Int)≤0∧(0:Int)≤5;omega,hR.aB,hR.s0,hR.s1,hR.t0,hR.t1⟩,same.phase,?_,jX m6 ajF,?_⟩
           · show (0:Int)≤score m (1 - m.turn)
             unfold score
             split <;> omega
           · rw [mP hg]
             exact jk.2 ⟨rfl,by show m.aB≠2;omega,fun _=>⟨rfl,by show 2≤m.colour;omega⟩,fun hx=>absurd hpm hx⟩
         · exact same
end Sk
namespace Sk
theorem Fe {s t:State} {e:Entry} (h:s.turn=t.turn):jc s e=jc t e:=by unfold jc theirs;rw [h]
theorem Uz {g:Game} {s m:State} {v:fF} (hm:Mid g s m v) (ht:s.turn=0∨s.turn=1) (hz:v.points=0∨v.penalty=0):(m.s0=s.s0∧m.s1=s.s1+v.points+v.penalty)∨(m.s1=s.s1∧m.s0=s.s0+v.points+v.penalty):=by
 have a:=hm.s0;have b:=hm.s1
 rcases ht with ht | ht
 · rw [if_pos ht] at a b
   rcases hz with hz | hz
   · exact .inl ⟨by omega,by omega⟩
   · exact .inr ⟨by omega,by omega⟩
 · rw [if_neg (by omega)] at a b
   rcases hz with hz | hz
   · exact .inr ⟨by omega,by omega⟩
   · exact .inl ⟨by omega,by omega⟩
theorem SL {g:Game} {s m:State} {e:Entry} {v:fF} (h:Ok g s) (hv:YQ g v) (hvj:v=eP s e) (hw:s.aB<0) (hg:g.kind=bM) (hm:Mid g s m v) (hsc:max m.s0 m.s1≤99999):Ok g (dM g m e v):=by
 obtain ⟨r1,r2,r3,r4,r5,r6,r7,r8,r9,r10⟩:=h.inr;have hs:=h.st;rw [sH hg] at hs;obtain ⟨a,b,c⟩:=nG.1 hs;have hos:=Uz hm r1 (by rcases Int.lt_or_le 0 v.gB with h1 | h1;exact .inl (hv.none_ h1).1;exact .inr (hv.zero (by have:=hv.gB;omega)));obtain ⟨m1,m2,m3,m4,m5,m6,m7,m8,m9,m10,m11,m12,m13⟩:=hm;have p1:=hv.points;have p2:=hv.penalty
 have htn:m.turn=0∨m.turn=1:=by rw [m1];split <;> omega
 have hmf:m.aT=false:=by rw [m7];simp [hg,rD]
 have g0:0≤m.s0:=by omega
 have g1:0≤m.s1:=by omega
 have hbk:m.brk≤99999:=by have:=m2.2;unfold score at this;split at this <;> omega
 have hgm:g.target=g.target:=rfl
 -- the aP
 have hk:∀ k:Int,k=(if v.stays=true∧jc {zero with turn:=if v.stays=true then m.turn else 1 - m.turn } e=true then 0 else if v.stays=true then m.aP+1 else m.aP)→0≤k∧k≤5:=by
  intro k hk
  cases hst:v.stays
  · rw [hst] at hk m8
    simp at hk m8
    omega
  · rw [hst] at hk m8 m1
    simp only [if_true,true_and] at hk m8 m1
    have hcn:jc {zero with turn:=m.turn } e=jc s e:=Fe m1;rw [hcn] at hk
    cases hc:jc s e
    · rw [hc] at hk
      simp at hk
      -- aV,and no jc:the aP is below 5
      have hlt:s.aP<5:=by
       have hj:v=eP s e:=hvj
       unfold eP at hj
       split at hj
       · rw [hj] at hst;cases hst
       · split at hj
         · rw [hj] at hst;cases hst
         · rename_i q1 q2
           have hpp:e.aV≠[]:=by
            intro hx
            have:fO s e=0:=by unfold fO;rw [hx,hc];rfl
            rw [hj,this] at hst
            simp at hst
           rcases Int.lt_or_le s.aP 5 with h5 | h5
           · exact h5
           · exact absurd ⟨hpp,hc,by omega⟩ q2
      omega
    · rw [hc] at hk
      simp at hk
      omega
 unfold dM
 dsimp only
 obtain ⟨k,hkk⟩:∃ k,(if v.stays=true∧jc {zero with turn:=if v.stays=true then m.turn else 1 - m.turn } e=true then (0:Int) else if v.stays=true then m.aP+1 else m.aP)=k:=⟨_,rfl⟩;have hk5:=hk k hkk.symm;rw [hkk]
 have hmx:max s.s0 s.s1<g.target:=by omega
 obtain ⟨w,VD⟩:∃ w,(if g.target≤max m.s0 m.s1 then leader m else m.aB)=w:=⟨_,rfl⟩
 have hw2:(g.target≤max m.s0 m.s1→w=0∨w=1)∧(¬ g.target≤max m.s0 m.s1→w= -1):=by
  refine ⟨fun hx=>?_,fun hx=>?_⟩
  · rw [if_pos hx] at VD
    unfold leader at VD
    split at VD
    · exact .inl VD.symm
    · split at VD
      · exact .inr VD.symm
      · omega
  · rw [if_neg hx] at VD
    omega
 rw [VD]
 have hwr: -1≤w∧w≤1:=by
  by_cases hx:g.target≤max m.s0 m.s1
  · have:=hw2.1 hx;omega
  · have:=hw2.2 hx;omega
 refine ⟨h.game,⟨htn,⟨m2.1,hbk⟩,by show 0≤m.bI∧m.bI≤g.bI;rw [m4];exact r3,by show 0≤m.colour∧m.colour≤7;rw [m5];exact r4,hk5,⟨hwr.1,by show w≤2;omega⟩,by show 0≤m.s0∧m.s0≤99999;omega,by show 0≤m.s1∧m.s1≤99999;omega,by show 0≤m.t0∧m.t0≤g.turns;rw [m9];exact r9,by show 0≤m.t1∧m.t1≤g.turns;rw [m10];exact r10⟩,by show fH g m.phase=true;rw [m3];exact h.phase,m2.2,jX m6 hmf,?_⟩;rw [sH hg];refine nG.2 ⟨⟨by show m.colour=0;omega,m6,hmf⟩,by show w≠2;omega,?_⟩
 show 0≤w∨max m.s0 m.s1<g.target
 by_cases hx:g.target≤max m.s0 m.s1
 · have:=hw2.1 hx;exact .inl (by omega)
 · exact .inr (by omega)
theorem NM {g:Game} {s m:State} {e:Entry} {v:fF} (h:Ok g s) (hv:YQ g v) (hvj:v=iD s e) (hw:s.aB<0) (hg:g.kind=dZ) (hm:Mid g s m v) (hsc:max m.s0 m.s1≤99999):Ok g (dR g m v):=by
 obtain ⟨r1,r2,r3,r4,r5,r6,r7,r8,r9,r10⟩:=h.inr;have hs:=h.st;rw [lM hg] at hs;obtain ⟨a,b,_,d⟩:=jF.1 hs;obtain ⟨d1,d2⟩:=d hw;obtain ⟨m1,m2,m3,m4,m5,m6,m7,m8,m9,m10,m11,m12,m13⟩:=hm;have p1:=hv.points;have p2:=hv.penalty
 have auv:v.penalty=0:=by rw [hvj];unfold iD;split <;> rfl
 have htn:m.turn=0∨m.turn=1:=by rw [m1];split <;> omega
 have hmf:m.aT=false:=by rw [m7];simp [hg,rF]
 have hms:m.aP=0:=by rw [m8];split <;> omega
 have g0:0≤m.s0:=by rw [m12];split <;> omega
 have g1:0≤m.s1:=by rw [m13];split <;> omega
 have hbk:m.brk≤99999:=by have:=m2.2;unfold score at this;split at this <;> omega
 -- after a aac turn has ended
 have fin:∀ (t:State) (p:Int),p=s.turn→t.turn=1 - p→0≤t.brk∧t.brk≤score t t.turn→t.s0=m.s0→t.s1=m.s1→t.phase=s.phase→t.bI=s.bI→t.colour=s.colour→t.free=false→t.aT=false→t.aP=0→t.t0=s.t0→t.t1=s.t1→t.aB=s.aB→(p=0→s.t0+1≤g.turns)→Ok g (jE g t p):=by
  intro t p hp q1 q2 q3 q4 q5 q6 q7 q8 q9 q10 q11 q12 q13 q14
  have hbk2:t.brk≤99999:=by have:=q2.2;unfold score at this;split at this <;> omega
  unfold jE
  rcases r1 with ht | ht
  · have hp0:p=0:=by omega
    have e1:mQ t p= {t with t0:=t.t0+1 }:=by unfold mQ;rw [if_pos hp0]
    rw [if_neg (by omega),e1];have hh:=d2 (by omega);refine ⟨h.game,⟨by show t.turn=0∨t.turn=1;omega,⟨q2.1,hbk2⟩,by show 0≤t.bI∧t.bI≤g.bI;rw [q6];exact r3,by show 0≤t.colour∧t.colour≤7;rw [q7];exact r4,by show 0≤t.aP∧t.aP≤5;omega,by show -1≤t.aB∧t.aB≤2;omega,by show 0≤t.s0∧t.s0≤99999;omega,by show 0≤t.s1∧t.s1≤99999;omega,by show 0≤t.t0+1∧t.t0+1≤g.turns;have:=q14 hp0;omega,by show 0≤t.t1∧t.t1≤g.turns;omega⟩,by show fH g t.phase=true;rw [q5];exact h.phase,q2.2,jX q8 q9,?_⟩;rw [lM hg];refine jF.2 ⟨⟨by show t.colour=0;omega,q8,q9⟩,q10,fun hx=>?_,fun _=>⟨fun _=>?_,fun hx=>?_⟩⟩
    · have hx:0≤t.aB:=hx
      omega
    · show t.t0+1=t.t1+1
      omega
    · have hx:t.turn≠1:=hx
      omega
  · have hp1:p=1:=by omega
    have e1:mQ t p= {t with t1:=t.t1+1 }:=by unfold mQ;rw [if_neg (by omega)]
    rw [e1];have hh:=d1 ht;have hle:=Dl {t with t1:=t.t1+1 }
    have Uk:∀ w:Int, -1≤w→w≤2→Wn g {t with t1:=t.t1+1,aB:=w }:=fun w h1 h2=>
     ⟨by show t.turn=0∨t.turn=1;omega,⟨q2.1,hbk2⟩,by show 0≤t.bI∧t.bI≤g.bI;rw [q6];exact r3,by show 0≤t.colour∧t.colour≤7;rw [q7];exact r4,by show 0≤t.aP∧t.aP≤5;omega,⟨h1,h2⟩,by show 0≤t.s0∧t.s0≤99999;omega,by show 0≤t.s1∧t.s1≤99999;omega,by show 0≤t.t0∧t.t0≤g.turns;omega,by show 0≤t.t1+1∧t.t1+1≤g.turns;omega⟩
    split
    · refine ⟨h.game,Uk _ (by omega) (by omega),by show fH g t.phase=true;rw [q5];exact h.phase,q2.2,jX q8 q9,?_⟩
      rw [lM hg];refine jF.2 ⟨⟨by show t.colour=0;omega,q8,q9⟩,q10,fun _=> .inl (by show t.t0=t.t1+1;omega),fun hx=>?_⟩;have hx:leader {t with t1:=t.t1+1 }<0:=hx
      omega
    · rename_i hno
      refine ⟨h.game,Uk t.aB (by omega) (by omega),by show fH g t.phase=true;rw [q5];exact h.phase,q2.2,jX q8 q9,?_⟩;rw [lM hg];refine jF.2 ⟨⟨by show t.colour=0;omega,q8,q9⟩,q10,fun hx=>?_,fun _=>⟨fun hx=>?_,fun hx=>?_⟩⟩
      · have hx:0≤t.aB:=hx
        omega
      · have hx:t.turn=1:=hx
        omega
      · show t.t0=t.t1+1∧t.t0<g.turns∧max t.s0 t.s1<g.target
        have hno:¬ (p=1∧(g.target≤max t.s0 t.s1∨t.t1+1=g.turns)):=hno
        omega
 unfold dR
 have hup:s.turn=0→s.t0+1≤g.turns:=fun hx=>by have:=d2 (by omega);omega
 cases hst:v.stays
 · rw [hst] at m1
   simp only [Bool.false_eq_true,if_false] at m1
   rw [if_pos rfl]
   have e1:1 - m.turn=s.turn:=by omega
   rw [e1];exact fin m s.turn rfl m1 m2 rfl rfl m3 m4 m5 m6 hmf hms m9 m10 m11 hup
 · rw [hst] at m1
   simp only [if_true] at m1
   rw [if_neg (by simp)]
   split
   · rename_i hsc2
     have hsc2:score m m.turn<g.target:=hsc2;refine ⟨h.game,⟨htn,⟨m2.1,hbk⟩,by rw [m4];exact r3,by rw [m5];exact r4,by omega,by omega,by omega,by omega,by omega,by omega⟩,by rw [m3];exact h.phase,m2.2,jX m6 hmf,?_⟩;rw [lM hg];refine jF.2 ⟨⟨by omega,m6,hmf⟩,hms,fun hx=>by omega,fun _=>⟨fun hx=>?_,fun hx=>?_⟩⟩
     · have:=d1 (by omega);omega
     · have hh:=d2 (by omega)
       unfold score at hsc2
       rw [if_pos (by omega)] at hsc2;rw [if_pos (by omega)] at m13
       omega
   · refine fin (pass m) m.turn m1 rfl ⟨Int.le_refl _,?_⟩ rfl rfl m3 m4 m5 m6 hmf rfl m9 m10 m11 (by rw [m1];exact hup)
     show (0:Int)≤score m (1 - m.turn)
     unfold score
     split <;> omega
theorem Ew {g:Game} {s:State} {e:Entry} (h:Ok g s) (he:dV g e=0) (hl:Lawful g s e):Ok g (next g s e):=by
 by_cases hk:e.kind=dJ
 · have hv:=Ap g s e h.inr.colour (fun hg hp=>by have:=vM he hk hl.call hg hp;omega)
   have hm:=XC h hv;have FP:=hl.most hk;have hb:=hl.cO hk;rw [Px hk] at FP ⊢;have hs:=DL g (mid g s (judge g s e)) e (judge g s e);rw [hs.1,hs.2] at FP
   rcases iM h.game with ⟨hg,_⟩ | ⟨hg,_⟩ | ⟨hg,_⟩
   · have e1:judge g s e=fD s e:=by unfold judge;rw [if_pos hg]
     have e2:∀ m v,after g m e v=dB m e v:=fun m v=>by unfold after;rw [if_pos hg]
     have e3:l9 g s e=gW s e:=by unfold l9;rw [if_pos hg]
     rw [e2];exact Ry h hv e1 hl.aB (by rw [← e3];exact hb) hg hm FP
   · have hn:g.kind≠aW:=by rw [hg];exact rD
     have e1:judge g s e=eP s e:=by unfold judge;rw [if_neg hn,if_pos hg]
     have e2:∀ m v,after g m e v=dM g m e v:=fun m v=>by unfold after;rw [if_neg hn,if_pos hg]
     rw [e2];exact SL h hv e1 hl.aB hg hm FP
   · have hn:g.kind≠aW:=by rw [hg];exact rF
     have hn2:g.kind≠bM:=by rw [hg];exact rG
     have e1:judge g s e=iD s e:=by unfold judge;rw [if_neg hn,if_neg hn2]
     have e2:∀ m v,after g m e v=dR g m v:=fun m v=>by unfold after;rw [if_neg hn,if_neg hn2]
     rw [e2];exact NM h hv e1 hl.aB hg hm FP
 · exact Pz h hl hk
theorem step_ok {g:Game} {s:State} {e:Entry} (h:Ok g s) (he:dV g e=0):Ok g (step g s e):=by
 unfold step
 split
 · rename_i hl;exact Ew h he (uP.1 hl)
 · exact h
theorem GZ {g:Game} (h:dn g=0):Ok g (start g):=by
 rcases iM h with ⟨hg,h1,h2,h3⟩ | ⟨hg,h1,h2,h3⟩ | ⟨hg,h1,h2,h3⟩
 · refine ⟨h,⟨.inl rfl,⟨Int.le_refl 0,by show (0:Int)≤99999;decide⟩,⟨by show 0≤g.bI;omega,Int.le_refl _⟩,⟨Int.le_refl 0,by show (0:Int)≤7;decide⟩,⟨Int.le_refl 0,by show (0:Int)≤5;decide⟩,⟨Int.le_refl (-1),by show (-1:Int)≤2;decide⟩,⟨Int.le_refl 0,by show (0:Int)≤99999;decide⟩,⟨Int.le_refl 0,by show (0:Int)≤99999;decide⟩,by show (0:Int)≤0∧0≤g.turns;omega,by show (0:Int)≤0∧0≤g.turns;omega⟩,?_,Int.le_refl 0,jX rfl rfl,?_⟩
   · rw [nM hg];left;show (if g.kind=aW then iI else pU)=iI;rw [if_pos hg]
   · rw [mP hg]
     have e1:(start g).phase=iI:=by show (if g.kind=aW then iI else pU)=iI;rw [if_pos hg]
     refine jk.2 ⟨rfl,by show (-1:Int)≠2;decide,fun hx=>?_,fun _=>⟨rfl,.inr (by show 0<g.bI;omega)⟩⟩;rw [e1] at hx;exact absurd hx.symm uO
 all_goals
  have hn:g.kind≠aW:=by rw [hg];first | exact rD | exact rF
  refine ⟨h,⟨.inl rfl,⟨Int.le_refl 0,by show (0:Int)≤99999;decide⟩,⟨by show 0≤g.bI;omega,Int.le_refl _⟩,⟨Int.le_refl 0,by show (0:Int)≤7;decide⟩,⟨Int.le_refl 0,by show (0:Int)≤5;decide⟩,⟨Int.le_refl (-1),by show (-1:Int)≤2;decide⟩,⟨Int.le_refl 0,by show (0:Int)≤99999;decide⟩,⟨Int.le_refl 0,by show (0:Int)≤99999;decide⟩,by show (0:Int)≤0∧0≤g.turns;omega,by show (0:Int)≤0∧0≤g.turns;omega⟩,?_,Int.le_refl 0,jX rfl rfl,?_⟩
  · rw [tY hn];show (if g.kind=aW then iI else pU)=pU;rw [if_neg hn]
  · first
     | (rw [sH hg];exact nG.2 ⟨⟨rfl,rfl,rfl⟩,by show (-1:Int)≠2;decide,.inr (by show max (0:Int) 0<g.target;omega)⟩)
     | (rw [lM hg];exact jF.2 ⟨⟨rfl,rfl,rfl⟩,rfl,fun hx=>absurd (show (0:Int)≤ -1 from hx) (by decide),fun _=>⟨fun hx=>absurd (show (0:Int)=1 from hx) (by decide),fun _=>⟨rfl,by show (0:Int)<g.turns;omega,by show max (0:Int) 0<g.target;omega⟩⟩⟩)
end Sk
namespace Sk
theorem Jg {s:State} (hw:s.aB<0) (hp:s.phase=dG) (hc:2≤s.colour∧s.colour≤7):left s=(s.colour+7)*(8 - s.colour) / 2+(if s.free=true∧s.colour<7 then s.colour else 0):=by
 unfold left
 rw [if_neg (by omega),if_neg (by rw [hp];exact uO),if_neg (by rw [hp];exact rO)]
 congr 1
 obtain ⟨c,hcc⟩:∃ c,s.colour=c:=⟨_,rfl⟩;rw [hcc] at hc ⊢
 have:c=2∨c=3∨c=4∨c=5∨c=6∨c=7:=by omega
 rcases this with rfl | rfl | rfl | rfl | rfl | rfl <;> decide
theorem Pg {s:State} (hw:s.aB<0) (hp:s.phase=iI):left s=8*s.bI+27+(if s.free=true then 8 else 0):=by
 unfold left
 rw [if_neg (by omega),if_pos hp]
theorem F9 {s:State} (hw:s.aB<0) (hp:s.phase=dW):left s=8*s.bI+34:=by
 unfold left
 rw [if_neg (by omega),if_neg (by rw [hp];exact wO),if_pos hp]
 omega
theorem Ph {s:State} (hw:0≤s.aB):left s=0:=by unfold left;rw [if_pos hw]
def tri (c:Int):Int:=(c+7)*(8 - c) / 2
theorem Yf {c:Int} (h:2≤c∧c≤7):7≤tri c∧tri c≤27:=by
 have:c=2∨c=3∨c=4∨c=5∨c=6∨c=7:=by omega
 rcases this with rfl | rfl | rfl | rfl | rfl | rfl <;> decide
theorem Gm {g:Game} {s:State} (h:Ok g s) (hg:g.kind=aW):(s.phase=iI∧s.colour=0∧0<s.bI)∨(s.phase=dW∧s.colour=0∧s.free=false∧s.aT=false)∨(s.phase=dG∧s.bI=0∧2≤s.colour∧s.colour≤7):=by
 have hs:=h.st;rw [mP hg] at hs;obtain ⟨a,b,c,d⟩:=jk.1 hs;have hf:=wV.1 h.gB
 rcases (nM hg).1 h.phase with hp | hp | hp
 · have:=d (by rw [hp];exact fun hx=>uO hx.symm)
   exact .inl ⟨hp,this.1,this.2.resolve_left (fun hx=>hx hp)⟩
 · have:=d (by rw [hp];exact fun hx=>rO hx.symm)
   refine .inr (.inl ⟨hp,this.1,?_,?_⟩)
   · cases hx:s.free
     · rfl
     · exact absurd hp (hf.2 (.inl hx)).1
   · cases hx:s.aT
     · rfl
     · exact absurd hp (hf.2 (.inr hx)).1
 · have:=c hp
   exact .inr (.inr ⟨hp,this.1,this.2,h.inr.colour.2⟩)
theorem Jh {g:Game} {s:State} (h:Ok g s) (hg:g.kind=aW):0≤left s∧left s≤200:=by
 by_cases hw:s.aB<0
 · have hr:=h.inr.bI
   have hgr:g.bI≤15:=by rcases iM h.game with ⟨_,a,_⟩ | ⟨a,_⟩ | ⟨a,_⟩;exact a.2;rw [hg] at a;exact absurd a.symm rD;rw [hg] at a;exact absurd a.symm rF
   rcases Gm h hg with ⟨hp,_⟩ | ⟨hp,_⟩ | ⟨hp,_,hc⟩
   · rw [Pg hw hp];split <;> omega
   · rw [F9 hw hp];omega
   · rw [Jg hw hp hc]
     have:=Yf hc
     unfold tri at this
     split <;> omega
 · rw [Ph (by omega)];omega
end Sk
namespace Sk
def EF (c b:ByteArray):Entry:=⟨dJ,c,[b],[b],0⟩
end Sk
namespace Sk
def qR (holds:Bool) (n most:Int):Bool:=if holds=true then !out n 1 most else n=0
def EI (g:Game):Int:=
 if g.kind≠aW∧g.kind≠bM∧g.kind≠dZ then 13
 else if qR (g.kind=aW) g.bI 15=false∨qR (g.kind=bM∨g.kind=dZ) g.target 1000=false∨qR (g.kind=dZ) g.turns 100=false then 3
 else 0
theorem Q5 (g:Game):EI g=dn g:=by
 unfold EI dn iH fits qR
 by_cases h1:g.kind=aW
 · have n1:aW≠bM:=fun h=>rD h.symm
   have n2:aW≠dZ:=fun h=>rF h.symm
   simp only [h1,n1,n2]
   cases out g.bI 1 15 <;> by_cases h2:g.target=0 <;> by_cases h3:g.turns=0 <;> simp [h2,h3]
 · by_cases h2:g.kind=bM
   · have n2:bM≠dZ:=fun h=>rG h.symm
     simp only [h2,rD,n2]
     cases out g.target 1 1000 <;> by_cases h3:g.bI=0 <;> by_cases h4:g.turns=0 <;> simp [h3,h4]
   · by_cases h3:g.kind=dZ
     · simp only [h3,rF,rG]
       cases out g.target 1 1000 <;> cases out g.turns 1 100 <;> by_cases h4:g.bI=0 <;> simp [h4]
     · simp [h1,h2,h3]
def jT (g:Game) (s:State):Bool:=0<g.target∧g.target≤max s.s0 s.s1
def gY (s:State):Bool:=
 if s.phase=iI then s.colour≠0∨s.bI=0
 else if s.phase=dW then s.colour≠0
 else if s.phase=dG then s.colour<2∨0<s.bI
 else s.colour≠0∨s.free∨s.aT
def kM (g:Game) (s:State):Bool:=
 if score s s.turn<s.brk∨(s.aB=2∧g.kind≠dZ)∨(0<s.aP∧g.kind≠bM) then false
 else if gY s then false
 else if dD s then false
 else if g.kind=bM∧jT g s∧s.aB<0 then false
 else if g.kind≠dZ then true
 else if 0≤s.aB then s.t0=s.t1∨(s.turn=1∧s.t0=s.t1+1)
 else if s.turn=1 then s.t0=s.t1+1
 else s.t0=s.t1∧jT g s=false∧s.t0<g.turns
def Az (g:Game) (s:State):Int:=
 if dn g≠0 then dn g else if far g s then 3 else if fH g s.phase=false then 13 else if kM g s=false then 19 else 0
theorem yZ {g:Game} (h:1≤g.target) (s:State):jT g s=true↔g.target≤max s.s0 s.s1:=by unfold jT;simp;omega
theorem UJ:iI≠dG:=fun h=>uO h.symm
theorem SQ:dW≠dG:=fun h=>rO h.symm
theorem Gu:pU≠iI:=by decide
theorem Gt:pU≠dG:=by decide
theorem Io {g:Game} {s:State} (hg:g.kind=aW) (hr:Wn g s) (hp:fH g s.phase=true):kM g s=true↔s.brk≤score s s.turn∧dD s=false∧bU s=true:=by
 have n1:aW≠bM:=fun h=>rD h.symm;have n2:aW≠dZ:=fun h=>rF h.symm;have hs:=hr.aP;have hrd:=hr.bI.1
 have key:gY s=false↔(s.phase=dG→s.bI=0∧2≤s.colour)∧(s.phase≠dG→s.colour=0∧(s.phase≠iI∨0<s.bI)):=by
  unfold gY
  rcases (nM hg).1 hp with h | h | h
  · rw [if_pos h,h];simp [UJ];omega
  · rw [if_neg (by rw [h];exact wO),if_pos h,h];simp [SQ,wO]
  · rw [if_neg (by rw [h];exact uO),if_neg (by rw [h];exact rO),if_pos h,h];simp;omega
 rw [jk, ← key]
 unfold kM
 by_cases c1:score s s.turn<s.brk∨(s.aB=2∧g.kind≠dZ)∨(0<s.aP∧g.kind≠bM)
 · rw [if_pos c1,hg] at*
   simp only [Bool.false_eq_true,false_iff]
   rintro ⟨h1,_,h2,h3,_⟩
   rcases c1 with c | c | c
   · omega
   · exact h3 c.1
   · omega
 · rw [if_neg c1]
   simp only [hg,not_or,not_and,n1,n2,ne_eq,not_false_iff,not_true] at c1
   have q1:s.aB≠2:=fun h=>(c1.2.1 h).elim
   have q2:s.aP=0:=by have:=c1.2.2;rcases Int.lt_or_le 0 s.aP with h | h;exact (this h).elim;omega
   cases h1:gY s <;> cases h2:dD s <;> simp [hg,n1,n2,q1,q2]
   all_goals omega
theorem KX {g:Game} {s:State} (hg:g.kind=bM) (ht:1≤g.target) (hr:Wn g s) (hp:fH g s.phase=true):kM g s=true↔s.brk≤score s s.turn∧dD s=false∧dA g s=true:=by
 have n2:bM≠dZ:=fun h=>rG h.symm;have xJ:=(tY (by rw [hg];exact rD)).1 hp
 have key:gY s=false↔s.colour=0∧s.free=false∧s.aT=false:=by
  unfold gY
  rw [if_neg (by rw [xJ];exact Gu),if_neg (by rw [xJ];exact Gs),if_neg (by rw [xJ];exact Gt)]
  simp
 rw [nG, ← key]
 unfold kM
 by_cases c1:score s s.turn<s.brk∨(s.aB=2∧g.kind≠dZ)∨(0<s.aP∧g.kind≠bM)
 · rw [if_pos c1]
   simp only [Bool.false_eq_true,false_iff]
   rintro ⟨h1,_,_,h3,_⟩
   rcases c1 with c | c | c
   · omega
   · exact h3 c.1
   · exact c.2 hg
 · rw [if_neg c1]
   simp only [not_or,not_and,hg] at c1
   have q1:s.aB≠2:=fun h=>c1.2.1 h n2;have hre:=yZ ht s
   cases h1:gY s <;> cases h2:dD s <;> cases h3:jT g s <;> rw [h3] at hre <;> simp [hg,n2,q1]
   all_goals (simp at hre;omega)
theorem Il {g:Game} {s:State} (hg:g.kind=dZ) (ht:1≤g.target) (hr:Wn g s) (hp:fH g s.phase=true):kM g s=true↔s.brk≤score s s.turn∧dD s=false∧lU g s=true:=by
 have xJ:=(tY (by rw [hg];exact rF)).1 hp;have hs:=hr.aP
 have key:gY s=false↔s.colour=0∧s.free=false∧s.aT=false:=by
  unfold gY
  rw [if_neg (by rw [xJ];exact Gu),if_neg (by rw [xJ];exact Gs),if_neg (by rw [xJ];exact Gt)]
  simp
 rw [jF, ← key]
 unfold kM
 by_cases c1:score s s.turn<s.brk∨(s.aB=2∧g.kind≠dZ)∨(0<s.aP∧g.kind≠bM)
 · rw [if_pos c1]
   simp only [Bool.false_eq_true,false_iff]
   rintro ⟨h1,_,_,h3,_⟩
   rcases c1 with c | c | c
   · omega
   · exact c.2 hg
   · omega
 · rw [if_neg c1]
   simp only [not_or,not_and,hg] at c1
   have q2:s.aP=0:=by rcases Int.lt_or_le 0 s.aP with h | h;exact absurd rG (c1.2.2 h);omega
   have q3:s.brk≤score s s.turn:=by have:=c1.1;omega
   have hre:=yZ ht s
   cases h1:gY s
   · cases h2:dD s
     · have c3:¬ (g.kind=bM∧jT g s=true∧s.aB<0):=fun h=>by rw [hg] at h;exact rG h.1
       rw [if_neg (by simp),if_neg (by simp),if_neg c3,if_neg (by simp [hg])]
       by_cases hw:0≤s.aB
       · rw [if_pos hw]
         simp only [decide_eq_true_eq]
         exact ⟨fun h=>⟨q3,trivial,trivial,q2,fun _=>h,fun h2=>by omega⟩,fun h=>h.2.2.2.2.1 hw⟩
       · rw [if_neg hw]
         by_cases htn:s.turn=1
         · rw [if_pos htn]
           simp only [decide_eq_true_eq]
           exact ⟨fun h=>⟨q3,trivial,trivial,q2,fun h2=>absurd h2 hw,fun _=>⟨fun _=>h,fun h3=>absurd htn h3⟩⟩,fun h=>(h.2.2.2.2.2 (by omega)).1 htn⟩
         · rw [if_neg htn]
           have aj9:jT g s=false↔max s.s0 s.s1<g.target:=by cases h3:jT g s <;> rw [h3] at hre <;> simp at hre ⊢ <;> omega
           simp only [decide_eq_true_eq,aj9]
           exact ⟨fun h=>⟨q3,trivial,trivial,q2,fun h2=>absurd h2 hw,fun _=>⟨fun h3=>absurd h3 htn,fun _=>⟨h.1,h.2.2,h.2.1⟩⟩⟩,fun h=>by have:=(h.2.2.2.2.2 (by omega)).2 htn;exact ⟨this.1,this.2.2,this.2.1⟩⟩
     · simp
   · simp
theorem MF (g:Game) (s:State):Az g s=bP g s:=by
 unfold Az bP
 by_cases h0:dn g≠0
 · simp only [if_pos h0]
 simp only [if_neg h0]
 have h0:dn g=0:=Decidable.not_not.1 h0
 cases hf:far g s
 · simp only [Bool.false_eq_true,if_false]
   cases hp:fH g s.phase
   · simp only [if_true]
   · simp only [Bool.true_eq_false,if_false]
     have hr:=DZ.1 hf
     have key:kM g s=true↔s.brk≤score s s.turn∧dD s=false∧jf g s=true:=by
      rcases iM h0 with ⟨hg,_⟩ | ⟨hg,_,ht,_⟩ | ⟨hg,_,ht,_⟩
      · rw [mP hg];exact Io hg hr hp
      · rw [sH hg];exact KX hg ht.1 hr hp
      · rw [lM hg];exact Il hg ht.1 hr hp
     by_cases hk:kM g s=true
     · have h1:=key.1 hk
       rw [if_neg (by rw [hk];simp),if_neg (by rw [h1.2.1,h1.2.2];simp;omega)]
     · rw [if_pos (by simpa using hk),if_pos]
       cases h1:dD s
       · cases h2:jf g s
         · simp
         · rw [h1,h2] at key
           left
           rcases Int.lt_or_le (score s s.turn) s.brk with h | h
           · exact h
           · exact absurd (key.2 ⟨h,rfl,rfl⟩) hk
       · simp
 · simp only [if_true]
end Sk
namespace Sk
def fC (g:Game) (l:List ByteArray):Bool:=l.all fun b=>¬ (value b<0∨(g.kind≠aW∧2<value b))
def JC (g:Game) (e:Entry):Int:=
 if e.kind=jI∨e.kind=kL∨e.kind=eU then (if e.called≠dH∨0<e.hits.length+e.aV.length∨e.bD≠0 then 1 else 0)
 else if e.kind≠dJ then 13
 else if 22<e.hits.length∨22<e.aV.length then 5
 else if (e.called≠dH∧value e.called<2)∨fC g e.hits=false∨fC g e.aV=false∨(g.kind=aW∧has e.hits bQ) then 10
 else if out e.bD 0 99 then 3
 else if (e.called≠dH∧g.kind≠aW)∨(0<e.aV.length∧g.kind=dZ)∨(0<e.bD∧g.kind≠dZ) then 1
 else 0
theorem JO (b:ByteArray):(value b=0↔b=bQ)∧((value b=0∨value b=1∨value b=2)↔(b=bQ∨b=cu∨b=dw)):=by
 unfold value cO at_ at_ at_ at_ at_ at_ at_ at_ at_
 by_cases h1:bQ=b
 · subst h1;simp
 by_cases h2:dw=b
 · subst h2;rw [if_neg h1,if_pos rfl];refine ⟨?_,?_⟩
   · constructor
     · intro h;omega
     · intro h;exact absurd h.symm h1
   · simp
 by_cases h3:cu=b
 · subst h3;rw [if_neg h1,if_neg h2,if_pos rfl];refine ⟨?_,?_⟩
   · constructor
     · intro h;omega
     · intro h;exact absurd h.symm h1
   · simp
 rw [if_neg h1,if_neg h2,if_neg h3];have a:¬ b=bQ:=fun h=>h1 h.symm;have c:¬ b=dw:=fun h=>h2 h.symm;have d:¬ b=cu:=fun h=>h3 h.symm;refine ⟨?_,?_⟩
 · simp only [a,iff_false]
   repeat' split
   all_goals omega
 · simp only [a,c,d,or_self,iff_false]
   repeat' split
   all_goals omega
theorem rU (g:Game) (b:ByteArray):(fB g b false=true↔¬ (value b<0∨(g.kind≠aW∧2<value b)))∧(fB g b true=true↔¬ (value b<0∨(g.kind≠aW∧2<value b))∧¬ (g.kind=aW∧b=bQ)):=by
 unfold fB
 obtain ⟨z1,z2⟩:=JO b;have hv:=uG b
 by_cases hg:g.kind=aW
 · simp only [hg,if_true,decide_eq_true_eq]
   have hz:b=bQ↔value b=0:=z1.symm
   simp [hz]
   omega
 · rw [if_neg hg,if_neg hg]
   simp only [decide_eq_true_eq, ← z2]
   simp [hg]
   omega
theorem Jf (g:Game) (l:List ByteArray):fC g l=true↔l.any (fun b=>fB g b false=false)=false:=by
 unfold fC
 rw [List.all_eq_true,List.any_eq_false];refine forall_congr' fun b=>forall_congr' fun _=>?_
 have:=(rU g b).1
 by_cases hg:g.kind=aW
 · cases h:fB g b false <;> rw [h] at this <;> simp [hg] at this ⊢ <;> omega
 · cases h:fB g b false <;> rw [h] at this <;> simp [hg] at this ⊢ <;> omega
theorem Je (g:Game) (l:List ByteArray):(fC g l=true∧¬ (g.kind=aW∧has l bQ=true))↔l.any (fun b=>fB g b true=false)=false:=by
 unfold fC has
 rw [List.all_eq_true,List.any_eq_false,List.any_eq_true]
 constructor
 · rintro ⟨h1,h2⟩ b hb
   have h3:=(rU g b).2.2 ⟨of_decide_eq_true (h1 b hb),fun h4=>h2 ⟨h4.1,b,hb,by simpa using h4.2⟩⟩
   simp [h3]
 · intro h
   have h1:∀ b∈l,fB g b true=true:=fun b hb=>by have:=h b hb;simpa using this
   refine ⟨fun b hb=>?_,fun ⟨hg,b,hb,hw⟩=>?_⟩
   · exact decide_eq_true ((rU g b).2.1 (h1 b hb)).1
   · exact ((rU g b).2.1 (h1 b hb)).2 ⟨hg,by simpa using hw⟩
theorem UO:dJ≠jI∧dJ≠kL∧dJ≠eU:=by decide
theorem UE (g:Game) (h0:dn g=0) (e:Entry):JC g e=dV g e:=by
 unfold JC dV isKind
 by_cases h1:e.kind=jI∨e.kind=kL∨e.kind=eU
 · have h2:e.kind≠dJ:=fun h=>by rw [h] at h1;have:=UO;rcases h1 with h1 | h1 | h1;exact this.1 h1;exact this.2.1 h1;exact this.2.2 h1
   have h3:decide (e.kind=dJ∨e.kind=jI∨e.kind=kL∨e.kind=eU)=true:=decide_eq_true (.inr h1);rw [h3]
   simp only [if_pos h1,Bool.true_eq_false,if_false,if_pos h2]
 · rw [if_neg h1]
   by_cases h2:e.kind=dJ
   · have e1:((e.called≠dH∧value e.called<2)∨fC g e.hits=false∨fC g e.aV=false∨(g.kind=aW∧has e.hits bQ=true))↔((e.called≠dH∧value e.called<2)∨e.hits.any (fun b=>fB g b true=false)=true∨e.aV.any (fun b=>fB g b false=false)=true):=by
      have a:=Jf g e.aV;have b:=Je g e.hits
      have a':e.aV.any (fun b=>fB g b false=false)=true↔¬ fC g e.aV=true:=by rw [a];simp
      have b':e.hits.any (fun b=>fB g b true=false)=true↔¬ (fC g e.hits=true∧¬ (g.kind=aW∧has e.hits bQ=true)):=by rw [b];simp
      rw [a',b']
      by_cases q1:fC g e.hits=true <;> by_cases q2:fC g e.aV=true <;> by_cases q3:g.kind=aW∧has e.hits bQ=true <;> simp [q1,q2,q3]
     have e2:((e.called≠dH∧g.kind≠aW)∨(0<e.aV.length∧g.kind=dZ)∨(0<e.bD∧g.kind≠dZ))∨out e.bD 0 99=true↔((g.kind≠aW∧e.called≠dH)∨(g.kind=dZ∧0<e.aV.length)∨(g.kind≠dZ∧e.bD≠0))∨out e.bD 0 99=true:=by
      cases hc:out e.bD 0 99
      · have:=EC hc
        have e3:e.bD≠0↔0<e.bD:=by omega
        simp only [e3,Bool.false_eq_true,or_false]
        constructor
        · rintro (h | h | h)
          · exact .inl h.symm
          · exact .inr (.inl h.symm)
          · exact .inr (.inr h.symm)
        · rintro (h | h | h)
          · exact .inl h.symm
          · exact .inr (.inl h.symm)
          · exact .inr (.inr h.symm)
      · simp
     have h9:decide (e.kind=dJ∨e.kind=jI∨e.kind=kL∨e.kind=eU)=true:=decide_eq_true (.inl h2);rw [h9]
     simp only [h2,ne_eq,not_true,if_false,Bool.true_eq_false]
     by_cases h3:22<e.hits.length∨22<e.aV.length
     · rw [if_pos h3,if_pos h3]
     rw [if_neg h3,if_neg h3]
     by_cases h4:(e.called≠dH∧value e.called<2)∨fC g e.hits=false∨fC g e.aV=false∨(g.kind=aW∧has e.hits bQ=true)
     · rw [if_pos h4,if_pos (e1.1 h4)]
     rw [if_neg h4,if_neg (fun h=>h4 (e1.2 h))]
     cases hc:out e.bD 0 99
     · rw [hc] at e2
       simp only [Bool.false_eq_true,or_false] at e2
       simp only [Bool.false_eq_true,if_false]
       exact ite_congr (propext e2) (fun _=>rfl) (fun _=>rfl)
     · rw [if_pos rfl,if_pos rfl]
   · simp only [not_or] at h1
     simp [h1,h2]
theorem vals:value bQ=0∧value dw=1∧value cu=2∧value jZ=3∧value ql=4∧value CO=5∧value CP=6∧value qj=7:=by decide+kernel
end Sk
namespace Nm
structure Fr where
 n:Int
 d:Int
 deriving DecidableEq
def gcd (a b:Int):Int:=(Int.gcd a b:Int)
def make (n d:Int):Fr:=
 let a:=if d<0 then -n else n
 let b:=if d<0 then -d else d
 if b=1 then ⟨a,b⟩ else ⟨a / gcd a b,b / gcd a b⟩
def whole (n:Int):Fr:=⟨n,1⟩
def neg (a:Fr):Fr:=⟨-a.n,a.d⟩
def add (a b:Fr):Fr:=if a.d=1∧b.d=1 then whole (a.n+b.n) else make (a.n*b.d+b.n*a.d) (a.d*b.d)
def sub (a b:Fr):Fr:=add a (neg b)
def mul (a b:Fr):Fr:=make (a.n*b.n) (a.d*b.d)
def inv (a:Fr):Fr:=make a.d a.n
def div (a b:Fr):Fr:=mul a (inv b)
def og (a:Int):Int:=if a<0 then -1 else if 0<a then 1 else 0
def NS (a b:Int):Int:=if a<b then -1 else if b<a then 1 else 0
def cmp (a b:Fr):Int:=NS (a.n*b.d) (b.n*a.d)
def sm (a:Int):Bool:= -1000000000≤a∧a≤1000000000
def fits (a:Int):Bool:= -9223372036854775807≤a∧a≤9223372036854775807
def ok (a:Fr):Bool:=sm a.n∧sm a.d∧1≤a.d
theorem yD {a:Int}:sm a=true↔ -1000000000≤a∧a≤1000000000:=by unfold sm;rw [decide_eq_true_eq]
theorem H6 {a b m n:Int} (ha: -m≤a∧a≤m) (hb: -n≤b∧b≤n): -(m*n)≤a*b∧a*b≤m*n:=by
 have hm:0≤m:=by omega
 have hn:0≤n:=by omega
 have h1:(a*b).natAbs≤(m*n).natAbs:=by
  rw [Int.natAbs_mul,Int.natAbs_mul];exact Nat.mul_le_mul (by omega) (by omega)
 have h2:0≤m*n:=Int.mul_nonneg hm hn
 omega
theorem Ya {a b:Int} (ha:sm a=true) (hb:sm b=true): -1000000000000000000≤a*b∧a*b≤1000000000000000000:=by
 have:=H6 (yD.1 ha) (yD.1 hb)
 omega
theorem down {a b:Int} (hb:0<b):(if Int.tmod a b<0 then Int.tdiv a b - 1 else Int.tdiv a b)=a / b∧(if Int.tmod a b<0 then Int.tmod a b+b else Int.tmod a b)=a % b:=by
 have h1:=Int.mul_tdiv_add_tmod a b;have h2:=Int.mul_ediv_add_emod a b;have h3:=Int.emod_nonneg a (by omega:b≠0);have h4:=Int.emod_lt_of_pos a hb
 have h5: -b<Int.tmod a b:=by
  have:=Int.lt_tmod_of_pos a hb
  omega
 have h6:Int.tmod a b<b:=Int.tmod_lt_of_pos a hb
 have key:∀ q r:Int,b*q+r=a→0≤r→r<b→q=a / b∧r=a % b:=by
  intro q r hq hr hl
  have e:r=a % b:=by
   have:a % b=(r+b*q) % b:=by rw [← hq];congr 1;omega
   rw [this,Int.add_mul_emod_self_left,Int.emod_eq_of_lt hr hl]
  refine ⟨?_,e⟩
  have e2:b*q=b*(a / b):=by omega
  exact Int.eq_of_mul_eq_mul_left (by omega) e2
 split
 · refine key _ _ ?_ (by omega) (by omega)
   rw [Int.mul_sub];omega
 · exact key _ _ h1 (by omega) h6
end Nm
end Go.Proofs.YtjbbfmofpjflmaaGreatDoor
