/- Parts of the proofs about chapter 5 (pool), joined by program. -/
import Derived.Test.YtelpepbpdojikaaGreatDoorKg8
set_option maxHeartbeats 4000000
set_option maxRecDepth 100000
set_option linter.unusedVariables false
set_option linter.unusedSimpArgs false
namespace Go.Proofs.YtelpepbpdojikaaGreatDoor
open Go.RowKit
theorem tk {P:Program} {md:Region.Mode} {ops:Array Oper} {Q:Exit→Act→World→Prop} {S:World→Prop} {oi:Oper} {v:Value} {fuel:Nat} {listed l':Array Bool} {a a':Act} {w:World} (i:Nat) (h:wpAnyH P md ops Q S fuel l' a' w) (hi:ops[i]? =some oi:=by exact ga rfl) (h3:(Region.noSelect ops && (Region.free md ops listed i && (Region.ready md ops listed).contains i))=true:=by kernel_rfl) (hw:Region.wanted oi (yielded ops a.tmps)=true:=by rfl) (hS:S w:=by assumption) (hQ:∀ c a w,Q (.panic c) (a.put oi.dst v) w→Q (.panic c) a w:=by exact fun _ _ _ h=>h) (hy:∀ w,S w→(execOp a.eval oi).run P w= .ok (.value v) w:=by (intro w hSw;(try dsimp only at hSw);go_simp;try with_reducible rfl)) (hl:listed.setIfInBounds i true=l':=by (try simp only [la,lz,ls]);exact rfl) (ha:a.put oi.dst v=a':=by (try simp only [Act.put,la,lz,ls]);exact rfl):wpAnyH P md ops Q S (fuel+1) listed a w:=by
 subst hl ha
 rw [Bool.and_eq_true,Bool.and_eq_true] at h3
 exact wpAnyH_take hi h3.1 h3.2.1 h3.2.2 hQ (Or.inl ⟨hw,hy⟩) hS h
theorem rX {r:M.Rules} {s:M.State} {b:Bool} (hb:b=decide (s.group≠0∧r.game≠M.aQ)):aU [M.aH r,wi s.turn 0 1,wi s.bC 0 1,wi s.group 0 2,wh b 3]=M.dw r s:=by
 subst hb
 unfold M.dw
 simp only [aU,wi,wh]
 by_cases h0:M.aH r=0
 · by_cases h1:M.out s.turn 0 1=true
   · simp [h0,h1]
   by_cases h2:M.out s.bC 0 1=true
   · simp [h0,h1,h2]
   by_cases h3:M.out s.group 0 2=true
   · simp [h0,h1,h2,h3]
   by_cases h4:s.group≠0∧r.game≠M.aQ
   · simp [h0,h1,h2,h3,h4]
   · simp only [h0,h1,h2,h3,h4];simp
 · simp [h0]
theorem vH {l:List Int} {k:Nat} (n:Int) (hk:k<l.length):M.jq n (lastOf l k) (l.drop k)=
 if aU [wi l[k] 1 n,wh (rZ l k) 11]≠0 then aU [wi l[k] 1 n,wh (rZ l k) 11] else M.jq n (lastOf l (k+1)) (l.drop (k+1)):=by
 rw [BQ n hk]
 by_cases h1:M.out l[k] 1 n=true
 · simp [aU,wi,wh,h1]
 by_cases h2:rZ l k=true
 · simp [aU,wi,wh,h1,h2]
 · simp [aU,wi,wh,h1,h2]
theorem KA {l:List Int} {k:Nat} (hk:k+1<l.length):rZ l (k+1)=decide (l[k+1]≤l[k]):=by
 unfold rZ lastOf
 have h:k<l.length:=by omega
 simp [hk,h,List.getD_eq_getElem?_getD]
def miss (g:ByteArray) (bl:List Int):Bool:=decide (bl=[]) || (decide (0<need g) && !decide (need g∈bl))
theorem CX (r:M.Rules) (s:M.State):M.missing r s=miss r.game s.ay:=by
 unfold M.missing miss need
 by_cases h0:s.ay=[]
 · simp [h0]
 by_cases h1:r.game=M.aQ
 · have:M.aQ≠M.bM:=by decide
   simp [h0,h1,this]
 by_cases h2:r.game=M.bM
 · simp [h0,h1,h2]
 · simp [h0,h1,h2]
def pushB (g:ByteArray) (brk push pushed:Bool):Bool:=(push || pushed) && (!decide (g=M.bM) || (push && pushed) || brk)
theorem BU (r:M.Rules) (s:M.State):M.ET r s=pushB r.game s.brk s.push s.pushed:=by
 unfold M.ET pushB
 by_cases h:r.game=M.bM <;> cases s.push <;> cases s.pushed <;> cases s.brk <;> simp [h]
theorem BZ {r:M.Rules} {s:M.State} (h1:M.dw r s=0) (h2:M.jq (M.dS r.game) none s.ay=0) (h3:M.iP r s=0) (b:Bool)
 (hb:b=(pushB r.game s.brk s.push s.pushed || (!s.over && (!decide (s.bC=0) || miss r.game s.ay)))):M.jf r s=wh b 19:=by
 subst hb
 unfold M.jf
 rw [if_neg (by simp [h1]),if_neg (by simp [h2]),if_neg (by simp [h3])]
 unfold M.xU
 rw [BU,CX]
 unfold wh
 congr 1
 rw [eq_iff_iff]
 cases pushB r.game s.brk s.push s.pushed <;> cases s.over <;> cases miss r.game s.ay <;> by_cases h:s.bC=0 <;> simp [h]
theorem BX {r:M.Rules} {s:M.State} (h1:M.dw r s=0) (h2:M.jq (M.dS r.game) none s.ay=0) (h3:M.iP r s≠0):M.jf r s=M.iP r s:=by
 unfold M.jf
 rw [if_neg (by simp [h1]),if_neg (by simp [h2]),if_pos h3]
 unfold M.iP at h3 ⊢;split at h3 <;> simp_all
theorem sJ {r:M.Rules} {s:M.State} (h1:M.dw r s=0) (h2:M.jq (M.dS r.game) none s.ay≠0):M.jf r s=M.jq (M.dS r.game) none s.ay:=by
 unfold M.jf
 rw [if_neg (by simp [h1]),if_pos h2]
theorem Am {r:M.Rules} {s:M.State} (h1:M.dw r s≠0):M.jf r s=M.dw r s:=by
 unfold M.jf
 rw [if_pos h1]
theorem headB {gr:Int} {g:ByteArray} {x y:Bool} (h0:(gr != 0)=x) (h1:(g.toList == [101,105,103,104,116])=y):(x && !y)=decide (gr≠0∧g≠M.aQ):=by
 have e1:(g.toList == [101,105,103,104,116])=decide (g=M.aQ):=by rw [Bool.eq_iff_iff,beq_iff_eq,decide_eq_true_eq];exact ⟨fun e=>lg (by rw [e,ByteArray.toList_eq]),fun e=>by subst e;rw [ByteArray.toList_eq]⟩
 subst h0 h1
 rw [e1]
 by_cases a:gr=0 <;> by_cases b:g=M.aQ <;> simp [a,b]
theorem Nq (r:M.Rules):(M.jA r).length=M.dS r.game:=kQ _
theorem xq (k:ByteArray):(k.toList == [110,105,110,101])=decide (k=M.bM):=by
 rw [Bool.eq_iff_iff,beq_iff_eq,decide_eq_true_eq];exact ⟨fun e=>lg (by rw [e,ByteArray.toList_eq]),fun e=>by subst e;rw [ByteArray.toList_eq]⟩
theorem xW (S:Nat→Prop) (r:M.Rules) (s:M.State) (A:Option Addr) (c:Nat) (w:World) (hp:bD w S A c s.ay):
 Calls Tryz.prog 42 #[jM r,wF s A c] w fun e w'=>e= .returned (.int .i64 (M.jf r s))∧Below w.heap.size w w':=by
 obtain ⟨e4,e5,e6⟩:=hp.bd
 obtain ⟨g,tg,fo⟩:=r
 obtain ⟨a0,a1,a2,a3,a4,gr,bl,b0,b1,b2,b3,b4,b5,b6,b7⟩:=s
 simp only at hp e4 e6
 have K0:Keeps w ((w.alloc (.cells #[.string g,.int .i64 tg,.int .i64 fo] 23)).alloc (.cells #[.int .i64 a0,.bool a1,.bool a2,.bool a3,.bool a4,.int .i64 gr,.slice A bl.length c,.int .i64 b0,.int .i64 b1,.int .i64 b2,.int .i64 b3,.int .i64 b4,.int .i64 b5,.bool b6,.int .i64 b7] 33)) 2 ((w.alloc (.cells #[.string g,.int .i64 tg,.int .i64 fo] 23)).alloc (.cells #[.int .i64 a0,.bool a1,.bool a2,.bool a3,.bool a4,.int .i64 gr,.slice A bl.length c,.int .i64 b0,.int .i64 b1,.int .i64 b2,.int .i64 b3,.int .i64 b4,.int .i64 b5,.bool b6,.int .i64 b7] 33)):=Keeps.SQ w _ _
 have Ph:=fun W=>zW ⟨g,tg,fo⟩ W
 rw [Nq] at Ph
 go_enter Tryz.func42,Tryz.ntmps42
 go_upto_region 1 with fail
 go_cut [0,1,5] (fun _ _ v wx=>v= .int .i64 (M.dw ⟨g,tg,fo⟩ ⟨a0,a1,a2,a3,a4,gr,bl,b0,b1,b2,b3,b4,b5,b6,b7⟩)∧Keeps w ((w.alloc (.cells #[.string g,.int .i64 tg,.int .i64 fo] 23)).alloc (.cells #[.int .i64 a0,.bool a1,.bool a2,.bool a3,.bool a4,.int .i64 gr,.slice A bl.length c,.int .i64 b0,.int .i64 b1,.int .i64 b2,.int .i64 b3,.int .i64 b4,.int .i64 b5,.bool b6,.int .i64 b7] 33)) 2 wx)
 case first=>
  obtain ⟨y,y1⟩:∃ y,(g.toList == [101,105,103,104,116])=y:=⟨_,rfl⟩
  rcases Bool.eq_false_or_eq_true (gr != 0) with y0 | y0
  · refine wp_region_held_drew (S:=(fun w'=>∀ p q,p<w.heap.size+2→w'.cell? ⟨p,q,none⟩=((w.alloc (.cells #[.string g,.int .i64 tg,.int .i64 fo] 23)).alloc (.cells #[.int .i64 a0,.bool a1,.bool a2,.bool a3,.bool a4,.int .i64 gr,.slice A bl.length c,.int .i64 b0,.int .i64 b1,.int .i64 b2,.int .i64 b3,.int .i64 b4,.int .i64 b5,.bool b6,.int .i64 b7] 33)).cell? ⟨p,q,none⟩)) (by kernel_rfl) ?lJ (fun hHeld=>?_)
    case lJ=>first | exact K0.cell | exact K1.cell | exact (K1.alloc _).cell
    refine tk 0 ?_
    refine tk 2 ?_
    refine tk 3 ?_
    refine tk 5 ?_
    refine tk 6 ?_
    refine tk 8 ?_
    refine tk 9 ?_
    refine tk 11 ?_
    refine tk 12 ?_
    refine tk 13 ?_
    refine tr 1 fun K hK=>?_
    go_simp
    (first | (go_at_call 86;refine (bn _ _ _ _).mono ?_;rintro e dO ⟨rfl,rfl⟩) | (go_at_call 87;refine (bY _ _ _).mono ?_;rintro e dO ⟨rfl,rfl⟩) | (go_at_call 39;refine (dP ⟨g,tg,fo⟩ _).mono ?_;rintro e w1 ⟨rfl,hb1⟩;have K1:=K0.drew.call hb1) | (go_at_call 85;refine (first_any (fun _=>True) _ _ [M.aH ⟨g,tg,fo⟩,wi a0 0 1,wi b7 0 1,wi gr 0 2,wh _ 3] _ (bD.lit _ _ [M.aH ⟨g,tg,fo⟩,wi a0 0 1,wi b7 0 1,wi gr 0 2,wh _ 3] (by simp) _ trivial)).mono ?_;rintro e dO ⟨rfl,rfl⟩) | (go_at_call 85;refine (first_any (fun _=>True) _ _ [M.aH ⟨g,tg,fo⟩,wi a0 0 1,wi b7 0 1,wi gr 0 2,wh _ 3] _ (bD.drewN (bD.lit _ _ [M.aH ⟨g,tg,fo⟩,wi a0 0 1,wi b7 0 1,wi gr 0 2,wh _ 3] (by simp) _ trivial) 1)).mono ?_;rintro e dO ⟨rfl,rfl⟩))
    refine hK.out _ _ ?Tt (fun hHeld=>?_)
    case Tt=>(first | (first | exact K0.cell | exact K1.cell | exact (K1.alloc _).cell) | (dsimp only;first | exact K0.cell | exact K1.cell | exact (K1.alloc _).cell))
    clear hK K
    try simp only [Act.put,la,lz,ls]
    refine tr 4 fun K hK=>?_
    go_simp
    (first | (go_at_call 86;refine (bn _ _ _ _).mono ?_;rintro e dO ⟨rfl,rfl⟩) | (go_at_call 87;refine (bY _ _ _).mono ?_;rintro e dO ⟨rfl,rfl⟩) | (go_at_call 39;refine (dP ⟨g,tg,fo⟩ _).mono ?_;rintro e w1 ⟨rfl,hb1⟩;have K1:=K0.drew.call hb1) | (go_at_call 85;refine (first_any (fun _=>True) _ _ [M.aH ⟨g,tg,fo⟩,wi a0 0 1,wi b7 0 1,wi gr 0 2,wh _ 3] _ (bD.lit _ _ [M.aH ⟨g,tg,fo⟩,wi a0 0 1,wi b7 0 1,wi gr 0 2,wh _ 3] (by simp) _ trivial)).mono ?_;rintro e dO ⟨rfl,rfl⟩) | (go_at_call 85;refine (first_any (fun _=>True) _ _ [M.aH ⟨g,tg,fo⟩,wi a0 0 1,wi b7 0 1,wi gr 0 2,wh _ 3] _ (bD.drewN (bD.lit _ _ [M.aH ⟨g,tg,fo⟩,wi a0 0 1,wi b7 0 1,wi gr 0 2,wh _ 3] (by simp) _ trivial) 1)).mono ?_;rintro e dO ⟨rfl,rfl⟩))
    refine hK.out _ _ ?Tv (fun hHeld=>?_)
    case Tv=>(first | (first | exact K0.cell | exact K1.cell | exact (K1.alloc _).cell) | (dsimp only;first | exact K0.cell | exact K1.cell | exact (K1.alloc _).cell))
    clear hK K
    try simp only [Act.put,la,lz,ls]
    refine tr 7 fun K hK=>?_
    go_simp
    (first | (go_at_call 86;refine (bn _ _ _ _).mono ?_;rintro e dO ⟨rfl,rfl⟩) | (go_at_call 87;refine (bY _ _ _).mono ?_;rintro e dO ⟨rfl,rfl⟩) | (go_at_call 39;refine (dP ⟨g,tg,fo⟩ _).mono ?_;rintro e w1 ⟨rfl,hb1⟩;have K1:=K0.drew.call hb1) | (go_at_call 85;refine (first_any (fun _=>True) _ _ [M.aH ⟨g,tg,fo⟩,wi a0 0 1,wi b7 0 1,wi gr 0 2,wh _ 3] _ (bD.lit _ _ [M.aH ⟨g,tg,fo⟩,wi a0 0 1,wi b7 0 1,wi gr 0 2,wh _ 3] (by simp) _ trivial)).mono ?_;rintro e dO ⟨rfl,rfl⟩) | (go_at_call 85;refine (first_any (fun _=>True) _ _ [M.aH ⟨g,tg,fo⟩,wi a0 0 1,wi b7 0 1,wi gr 0 2,wh _ 3] _ (bD.drewN (bD.lit _ _ [M.aH ⟨g,tg,fo⟩,wi a0 0 1,wi b7 0 1,wi gr 0 2,wh _ 3] (by simp) _ trivial) 1)).mono ?_;rintro e dO ⟨rfl,rfl⟩))
    refine hK.out _ _ ?Tz (fun hHeld=>?_)
    case Tz=>(first | (first | exact K0.cell | exact K1.cell | exact (K1.alloc _).cell) | (dsimp only;first | exact K0.cell | exact K1.cell | exact (K1.alloc _).cell))
    clear hK K
    try simp only [Act.put,la,lz,ls]
    refine tr 10 fun K hK=>?_
    go_simp
    (first | (go_at_call 86;refine (bn _ _ _ _).mono ?_;rintro e dO ⟨rfl,rfl⟩) | (go_at_call 87;refine (bY _ _ _).mono ?_;rintro e dO ⟨rfl,rfl⟩) | (go_at_call 39;refine (dP ⟨g,tg,fo⟩ _).mono ?_;rintro e w1 ⟨rfl,hb1⟩;have K1:=K0.drew.call hb1) | (go_at_call 85;refine (first_any (fun _=>True) _ _ [M.aH ⟨g,tg,fo⟩,wi a0 0 1,wi b7 0 1,wi gr 0 2,wh _ 3] _ (bD.lit _ _ [M.aH ⟨g,tg,fo⟩,wi a0 0 1,wi b7 0 1,wi gr 0 2,wh _ 3] (by simp) _ trivial)).mono ?_;rintro e dO ⟨rfl,rfl⟩) | (go_at_call 85;refine (first_any (fun _=>True) _ _ [M.aH ⟨g,tg,fo⟩,wi a0 0 1,wi b7 0 1,wi gr 0 2,wh _ 3] _ (bD.drewN (bD.lit _ _ [M.aH ⟨g,tg,fo⟩,wi a0 0 1,wi b7 0 1,wi gr 0 2,wh _ 3] (by simp) _ trivial) 1)).mono ?_;rintro e dO ⟨rfl,rfl⟩))
    refine hK.out _ _ ?Qr (fun hHeld=>?_)
    case Qr=>(first | (first | exact K0.cell | exact K1.cell | exact (K1.alloc _).cell) | (dsimp only;first | exact K0.cell | exact K1.cell | exact (K1.alloc _).cell))
    clear hK K
    try simp only [Act.put,la,lz,ls]
    refine tk 14 ?_
    refine tk 15 ?_
    refine tk 16 ?_
    refine tk 17 ?_
    refine tk 18 ?_
    refine tr 19 fun K hK=>?_
    go_simp
    (first | (go_at_call 86;refine (bn _ _ _ _).mono ?_;rintro e dO ⟨rfl,rfl⟩) | (go_at_call 87;refine (bY _ _ _).mono ?_;rintro e dO ⟨rfl,rfl⟩) | (go_at_call 39;refine (dP ⟨g,tg,fo⟩ _).mono ?_;rintro e w1 ⟨rfl,hb1⟩;have K1:=K0.drew.call hb1) | (go_at_call 85;refine (first_any (fun _=>True) _ _ [M.aH ⟨g,tg,fo⟩,wi a0 0 1,wi b7 0 1,wi gr 0 2,wh _ 3] _ (bD.lit _ _ [M.aH ⟨g,tg,fo⟩,wi a0 0 1,wi b7 0 1,wi gr 0 2,wh _ 3] (by simp) _ trivial)).mono ?_;rintro e dO ⟨rfl,rfl⟩) | (go_at_call 85;refine (first_any (fun _=>True) _ _ [M.aH ⟨g,tg,fo⟩,wi a0 0 1,wi b7 0 1,wi gr 0 2,wh _ 3] _ (bD.drewN (bD.lit _ _ [M.aH ⟨g,tg,fo⟩,wi a0 0 1,wi b7 0 1,wi gr 0 2,wh _ 3] (by simp) _ trivial) 1)).mono ?_;rintro e dO ⟨rfl,rfl⟩))
    refine hK.out _ _ ?Qu (fun hHeld=>?_)
    case Qu=>(first | (first | exact K0.cell | exact K1.cell | exact (K1.alloc _).cell) | (dsimp only;first | exact K0.cell | exact K1.cell | exact (K1.alloc _).cell))
    clear hK K
    try simp only [Act.put,la,lz,ls]
    refine tr 20 fun K hK=>?_
    go_simp
    refine hK.out _ _ ?Qv (fun hHeld=>?_)
    case Qv=>(first | (first | exact K0.cell | exact K1.cell | exact (K1.alloc _).cell) | (dsimp only;first | exact K0.cell | exact K1.cell | exact (K1.alloc _).cell))
    clear hK K
    try simp only [Act.put,la,lz,ls]
    refine tr 21 fun K hK=>?_
    go_simp
    (first | (go_at_call 86;refine (bn _ _ _ _).mono ?_;rintro e dO ⟨rfl,rfl⟩) | (go_at_call 87;refine (bY _ _ _).mono ?_;rintro e dO ⟨rfl,rfl⟩) | (go_at_call 39;refine (dP ⟨g,tg,fo⟩ _).mono ?_;rintro e w1 ⟨rfl,hb1⟩;have K1:=K0.drew.call hb1) | (go_at_call 85;refine (first_any (fun _=>True) _ _ [M.aH ⟨g,tg,fo⟩,wi a0 0 1,wi b7 0 1,wi gr 0 2,wh _ 3] _ (bD.lit _ _ [M.aH ⟨g,tg,fo⟩,wi a0 0 1,wi b7 0 1,wi gr 0 2,wh _ 3] (by simp) _ trivial)).mono ?_;rintro e dO ⟨rfl,rfl⟩) | (go_at_call 85;refine (first_any (fun _=>True) _ _ [M.aH ⟨g,tg,fo⟩,wi a0 0 1,wi b7 0 1,wi gr 0 2,wh _ 3] _ (bD.drewN (bD.lit _ _ [M.aH ⟨g,tg,fo⟩,wi a0 0 1,wi b7 0 1,wi gr 0 2,wh _ 3] (by simp) _ trivial) 1)).mono ?_;rintro e dO ⟨rfl,rfl⟩))
    refine hK.out _ _ ?Qw (fun hHeld=>?_)
    case Qw=>(first | (first | exact K0.cell | exact K1.cell | exact (K1.alloc _).cell) | (dsimp only;first | exact K0.cell | exact K1.cell | exact (K1.alloc _).cell))
    clear hK K
    try simp only [Act.put,la,lz,ls]
    refine tk 22 ?_
    refine wpAnyH_done (by kernel_rfl) ?_ _
    go_wp2
    go_meet
    exact ⟨congrArg _ (rX (r:=⟨g,tg,fo⟩) (s:=⟨a0,a1,a2,a3,a4,gr,bl,b0,b1,b2,b3,b4,b5,b6,b7⟩) (by have:=headB y0 y1;exact this)),by first | exact K1.alloc _ | exact (K1.alloc _).drew⟩
  · refine wp_region_held_drew (S:=(fun w'=>∀ p q,p<w.heap.size+2→w'.cell? ⟨p,q,none⟩=((w.alloc (.cells #[.string g,.int .i64 tg,.int .i64 fo] 23)).alloc (.cells #[.int .i64 a0,.bool a1,.bool a2,.bool a3,.bool a4,.int .i64 gr,.slice A bl.length c,.int .i64 b0,.int .i64 b1,.int .i64 b2,.int .i64 b3,.int .i64 b4,.int .i64 b5,.bool b6,.int .i64 b7] 33)).cell? ⟨p,q,none⟩)) (by kernel_rfl) ?rQ (fun hHeld=>?_)
    case rQ=>first | exact K0.cell | exact K1.cell | exact (K1.alloc _).cell
    refine tk 0 ?_
    refine tk 2 ?_
    refine tk 3 ?_
    refine tk 5 ?_
    refine tk 6 ?_
    refine tk 8 ?_
    refine tk 9 ?_
    refine tk 11 ?_
    refine tk 12 ?_
    refine tk 13 ?_
    refine tr 1 fun K hK=>?_
    go_simp
    (first | (go_at_call 86;refine (bn _ _ _ _).mono ?_;rintro e dO ⟨rfl,rfl⟩) | (go_at_call 87;refine (bY _ _ _).mono ?_;rintro e dO ⟨rfl,rfl⟩) | (go_at_call 39;refine (dP ⟨g,tg,fo⟩ _).mono ?_;rintro e w1 ⟨rfl,hb1⟩;have K1:=K0.drew.call hb1) | (go_at_call 85;refine (first_any (fun _=>True) _ _ [M.aH ⟨g,tg,fo⟩,wi a0 0 1,wi b7 0 1,wi gr 0 2,wh _ 3] _ (bD.lit _ _ [M.aH ⟨g,tg,fo⟩,wi a0 0 1,wi b7 0 1,wi gr 0 2,wh _ 3] (by simp) _ trivial)).mono ?_;rintro e dO ⟨rfl,rfl⟩) | (go_at_call 85;refine (first_any (fun _=>True) _ _ [M.aH ⟨g,tg,fo⟩,wi a0 0 1,wi b7 0 1,wi gr 0 2,wh _ 3] _ (bD.drewN (bD.lit _ _ [M.aH ⟨g,tg,fo⟩,wi a0 0 1,wi b7 0 1,wi gr 0 2,wh _ 3] (by simp) _ trivial) 1)).mono ?_;rintro e dO ⟨rfl,rfl⟩))
    refine hK.out _ _ ?TB (fun hHeld=>?_)
    case TB=>(first | (first | exact K0.cell | exact K1.cell | exact (K1.alloc _).cell) | (dsimp only;first | exact K0.cell | exact K1.cell | exact (K1.alloc _).cell))
    clear hK K
    try simp only [Act.put,la,lz,ls]
    refine tr 4 fun K hK=>?_
    go_simp
    (first | (go_at_call 86;refine (bn _ _ _ _).mono ?_;rintro e dO ⟨rfl,rfl⟩) | (go_at_call 87;refine (bY _ _ _).mono ?_;rintro e dO ⟨rfl,rfl⟩) | (go_at_call 39;refine (dP ⟨g,tg,fo⟩ _).mono ?_;rintro e w1 ⟨rfl,hb1⟩;have K1:=K0.drew.call hb1) | (go_at_call 85;refine (first_any (fun _=>True) _ _ [M.aH ⟨g,tg,fo⟩,wi a0 0 1,wi b7 0 1,wi gr 0 2,wh _ 3] _ (bD.lit _ _ [M.aH ⟨g,tg,fo⟩,wi a0 0 1,wi b7 0 1,wi gr 0 2,wh _ 3] (by simp) _ trivial)).mono ?_;rintro e dO ⟨rfl,rfl⟩) | (go_at_call 85;refine (first_any (fun _=>True) _ _ [M.aH ⟨g,tg,fo⟩,wi a0 0 1,wi b7 0 1,wi gr 0 2,wh _ 3] _ (bD.drewN (bD.lit _ _ [M.aH ⟨g,tg,fo⟩,wi a0 0 1,wi b7 0 1,wi gr 0 2,wh _ 3] (by simp) _ trivial) 1)).mono ?_;rintro e dO ⟨rfl,rfl⟩))
    refine hK.out _ _ ?TF (fun hHeld=>?_)
    case TF=>(first | (first | exact K0.cell | exact K1.cell | exact (K1.alloc _).cell) | (dsimp only;first | exact K0.cell | exact K1.cell | exact (K1.alloc _).cell))
    clear hK K
    try simp only [Act.put,la,lz,ls]
    refine tr 7 fun K hK=>?_
    go_simp
    (first | (go_at_call 86;refine (bn _ _ _ _).mono ?_;rintro e dO ⟨rfl,rfl⟩) | (go_at_call 87;refine (bY _ _ _).mono ?_;rintro e dO ⟨rfl,rfl⟩) | (go_at_call 39;refine (dP ⟨g,tg,fo⟩ _).mono ?_;rintro e w1 ⟨rfl,hb1⟩;have K1:=K0.drew.call hb1) | (go_at_call 85;refine (first_any (fun _=>True) _ _ [M.aH ⟨g,tg,fo⟩,wi a0 0 1,wi b7 0 1,wi gr 0 2,wh _ 3] _ (bD.lit _ _ [M.aH ⟨g,tg,fo⟩,wi a0 0 1,wi b7 0 1,wi gr 0 2,wh _ 3] (by simp) _ trivial)).mono ?_;rintro e dO ⟨rfl,rfl⟩) | (go_at_call 85;refine (first_any (fun _=>True) _ _ [M.aH ⟨g,tg,fo⟩,wi a0 0 1,wi b7 0 1,wi gr 0 2,wh _ 3] _ (bD.drewN (bD.lit _ _ [M.aH ⟨g,tg,fo⟩,wi a0 0 1,wi b7 0 1,wi gr 0 2,wh _ 3] (by simp) _ trivial) 1)).mono ?_;rintro e dO ⟨rfl,rfl⟩))
    refine hK.out _ _ ?TI (fun hHeld=>?_)
    case TI=>(first | (first | exact K0.cell | exact K1.cell | exact (K1.alloc _).cell) | (dsimp only;first | exact K0.cell | exact K1.cell | exact (K1.alloc _).cell))
    clear hK K
    try simp only [Act.put,la,lz,ls]
    refine tr 10 fun K hK=>?_
    go_simp
    (first | (go_at_call 86;refine (bn _ _ _ _).mono ?_;rintro e dO ⟨rfl,rfl⟩) | (go_at_call 87;refine (bY _ _ _).mono ?_;rintro e dO ⟨rfl,rfl⟩) | (go_at_call 39;refine (dP ⟨g,tg,fo⟩ _).mono ?_;rintro e w1 ⟨rfl,hb1⟩;have K1:=K0.drew.call hb1) | (go_at_call 85;refine (first_any (fun _=>True) _ _ [M.aH ⟨g,tg,fo⟩,wi a0 0 1,wi b7 0 1,wi gr 0 2,wh _ 3] _ (bD.lit _ _ [M.aH ⟨g,tg,fo⟩,wi a0 0 1,wi b7 0 1,wi gr 0 2,wh _ 3] (by simp) _ trivial)).mono ?_;rintro e dO ⟨rfl,rfl⟩) | (go_at_call 85;refine (first_any (fun _=>True) _ _ [M.aH ⟨g,tg,fo⟩,wi a0 0 1,wi b7 0 1,wi gr 0 2,wh _ 3] _ (bD.drewN (bD.lit _ _ [M.aH ⟨g,tg,fo⟩,wi a0 0 1,wi b7 0 1,wi gr 0 2,wh _ 3] (by simp) _ trivial) 1)).mono ?_;rintro e dO ⟨rfl,rfl⟩))
    refine hK.out _ _ ?Qx (fun hHeld=>?_)
    case Qx=>(first | (first | exact K0.cell | exact K1.cell | exact (K1.alloc _).cell) | (dsimp only;first | exact K0.cell | exact K1.cell | exact (K1.alloc _).cell))
    clear hK K
    try simp only [Act.put,la,lz,ls]
    refine tk 14 ?_
    refine tu 15 ?_
    refine tu 16 ?_
    refine tu 17 ?_
    refine tk 18 ?_
    refine tr 19 fun K hK=>?_
    go_simp
    (first | (go_at_call 86;refine (bn _ _ _ _).mono ?_;rintro e dO ⟨rfl,rfl⟩) | (go_at_call 87;refine (bY _ _ _).mono ?_;rintro e dO ⟨rfl,rfl⟩) | (go_at_call 39;refine (dP ⟨g,tg,fo⟩ _).mono ?_;rintro e w1 ⟨rfl,hb1⟩;have K1:=K0.drew.call hb1) | (go_at_call 85;refine (first_any (fun _=>True) _ _ [M.aH ⟨g,tg,fo⟩,wi a0 0 1,wi b7 0 1,wi gr 0 2,wh _ 3] _ (bD.lit _ _ [M.aH ⟨g,tg,fo⟩,wi a0 0 1,wi b7 0 1,wi gr 0 2,wh _ 3] (by simp) _ trivial)).mono ?_;rintro e dO ⟨rfl,rfl⟩) | (go_at_call 85;refine (first_any (fun _=>True) _ _ [M.aH ⟨g,tg,fo⟩,wi a0 0 1,wi b7 0 1,wi gr 0 2,wh _ 3] _ (bD.drewN (bD.lit _ _ [M.aH ⟨g,tg,fo⟩,wi a0 0 1,wi b7 0 1,wi gr 0 2,wh _ 3] (by simp) _ trivial) 1)).mono ?_;rintro e dO ⟨rfl,rfl⟩))
    refine hK.out _ _ ?Qz (fun hHeld=>?_)
    case Qz=>(first | (first | exact K0.cell | exact K1.cell | exact (K1.alloc _).cell) | (dsimp only;first | exact K0.cell | exact K1.cell | exact (K1.alloc _).cell))
    clear hK K
    try simp only [Act.put,la,lz,ls]
    refine tr 20 fun K hK=>?_
    go_simp
    refine hK.out _ _ ?QA (fun hHeld=>?_)
    case QA=>(first | (first | exact K0.cell | exact K1.cell | exact (K1.alloc _).cell) | (dsimp only;first | exact K0.cell | exact K1.cell | exact (K1.alloc _).cell))
    clear hK K
    try simp only [Act.put,la,lz,ls]
    refine tr 21 fun K hK=>?_
    go_simp
    (first | (go_at_call 86;refine (bn _ _ _ _).mono ?_;rintro e dO ⟨rfl,rfl⟩) | (go_at_call 87;refine (bY _ _ _).mono ?_;rintro e dO ⟨rfl,rfl⟩) | (go_at_call 39;refine (dP ⟨g,tg,fo⟩ _).mono ?_;rintro e w1 ⟨rfl,hb1⟩;have K1:=K0.drew.call hb1) | (go_at_call 85;refine (first_any (fun _=>True) _ _ [M.aH ⟨g,tg,fo⟩,wi a0 0 1,wi b7 0 1,wi gr 0 2,wh _ 3] _ (bD.lit _ _ [M.aH ⟨g,tg,fo⟩,wi a0 0 1,wi b7 0 1,wi gr 0 2,wh _ 3] (by simp) _ trivial)).mono ?_;rintro e dO ⟨rfl,rfl⟩) | (go_at_call 85;refine (first_any (fun _=>True) _ _ [M.aH ⟨g,tg,fo⟩,wi a0 0 1,wi b7 0 1,wi gr 0 2,wh _ 3] _ (bD.drewN (bD.lit _ _ [M.aH ⟨g,tg,fo⟩,wi a0 0 1,wi b7 0 1,wi gr 0 2,wh _ 3] (by simp) _ trivial) 1)).mono ?_;rintro e dO ⟨rfl,rfl⟩))
    refine hK.out _ _ ?QB (fun hHeld=>?_)
    case QB=>(first | (first | exact K0.cell | exact K1.cell | exact (K1.alloc _).cell) | (dsimp only;first | exact K0.cell | exact K1.cell | exact (K1.alloc _).cell))
    clear hK K
    try simp only [Act.put,la,lz,ls]
    refine tk 22 ?_
    refine wpAnyH_done (by kernel_rfl) ?_ _
    go_wp2
    go_meet
    exact ⟨congrArg _ (rX (r:=⟨g,tg,fo⟩) (s:=⟨a0,a1,a2,a3,a4,gr,bl,b0,b1,b2,b3,b4,b5,b6,b7⟩) (by have:=headB y0 y1;exact this)),by first | exact K1.alloc _ | exact (K1.alloc _).drew⟩
 case rest=>
  obtain ⟨rfl,K4⟩:=hcut
  have hc4:=K4.cell
  by_cases hz:M.dw ⟨g,tg,fo⟩ ⟨a0,a1,a2,a3,a4,gr,bl,b0,b1,b2,b3,b4,b5,b6,b7⟩=0
  · have hz':(M.dw ⟨g,tg,fo⟩ ⟨a0,a1,a2,a3,a4,gr,bl,b0,b1,b2,b3,b4,b5,b6,b7⟩ != 0)=false:=by simp [hz]
    have H1:=hide hz
    clear hz
    go_wp2_with (go_at_call 92;refine (Ph _).mono ?_;rintro e w5 ⟨A2,c2',rfl,hr2,hb5⟩;have K5:=K4.call hb5;have hc5:=K5.cell)
    go_outline
    go_loopw [44] (fun i wr=>∃ k:Nat,k≤bl.length∧i= .int .i64 k∧M.jq (M.dS g) none bl=M.jq (M.dS g) (lastOf bl k) (bl.drop k)∧Keeps w ((w.alloc (.cells #[.string g,.int .i64 tg,.int .i64 fo] 23)).alloc (.cells #[.int .i64 a0,.bool a1,.bool a2,.bool a3,.bool a4,.int .i64 gr,.slice A bl.length c,.int .i64 b0,.int .i64 b1,.int .i64 b2,.int .i64 b3,.int .i64 b4,.int .i64 b5,.bool b6,.int .i64 b7] 33)) 2 wr) (fun i _=>bl.length - (intOf i).toNat)
    case atStart=>exact ⟨0,Nat.zero_le _,rfl,by simp [lastOf],K5⟩
    case round=>
     obtain ⟨k,hkl,rfl,hx1,KR⟩:=hrel
     have hcR:=KR.cell
     by_cases hlt:k<bl.length
     · obtain ⟨b,o,rfl,_,hbl,hc⟩:=hp.at_ k hlt
       have hck:=hc k hlt
       have P9:b<w.heap.size+1:=by omega
       have XM:b<w.heap.size+2:=by omega
       by_cases hk0:k=0
       · have hst:=hx1.trans (vH (↑(M.dS g)) hlt)
         rw [show rZ bl k=false by rw [hk0];rfl] at hst
         have hkb:decide (0<k)=false:=by simp [hk0]
         have hkc:¬ 0<k:=by omega
         have YE:=hide hk0
         clear hx1 hc hk0
         by_cases hz:aU [wi bl[k] 1 ↑(M.dS g),wh false 11]=0
         · have hz':(aU [wi bl[k] 1 ↑(M.dS g),wh false 11] != 0)=false:=by simp [hz]
           rw [if_neg (by simp [hz])] at hst
           have HX:=hide hst
           clear hst hz
           go_wp2_with (first | (go_at_call 86;refine (bn _ _ _ _).mono ?_;rintro e dO ⟨rfl,rfl⟩) | (go_at_call 87;refine (bY _ _ _).mono ?_;rintro e dO ⟨rfl,rfl⟩) | (go_at_call 85;refine (first_any (fun _=>True) _ _ [wi bl[k] 1 ↑(M.dS g),wh false 11] _ (bD.lit _ _ [wi bl[k] 1 ↑(M.dS g),wh false 11] (by simp) _ trivial)).mono ?_;rintro e dO ⟨rfl,rfl⟩))
           go_roundw
           case rel=>exact ⟨k+1,by omega,by go_num,HX.out,KR.alloc _⟩
           case measure=>simp [intOf];omega
         · have hz':(aU [wi bl[k] 1 ↑(M.dS g),wh false 11] != 0)=true:=by simp [hz]
           rw [if_pos hz] at hst
           have HX:=hide hst
           have HZ:=hide hz
           clear hst hz
           go_wp2_with (first | (go_at_call 86;refine (bn _ _ _ _).mono ?_;rintro e dO ⟨rfl,rfl⟩) | (go_at_call 87;refine (bY _ _ _).mono ?_;rintro e dO ⟨rfl,rfl⟩) | (go_at_call 85;refine (first_any (fun _=>True) _ _ [wi bl[k] 1 ↑(M.dS g),wh false 11] _ (bD.lit _ _ [wi bl[k] 1 ↑(M.dS g),wh false 11] (by simp) _ trivial)).mono ?_;rintro e dO ⟨rfl,rfl⟩))
           go_ret
           exact ⟨dG (by rw [sJ (r:=⟨g,tg,fo⟩) (s:=⟨a0,a1,a2,a3,a4,gr,bl,b0,b1,b2,b3,b4,b5,b6,b7⟩) H1.out (by rw [HX.out];exact HZ.out)];exact HX.out.symm),(KR.alloc _).bw⟩
       · obtain ⟨j,rfl⟩:∃ j,k=j+1:=⟨k - 1,by omega⟩
         clear hk0
         have hst:=hx1.trans (vH (↑(M.dS g)) hlt)
         rw [KA hlt] at hst
         have hcj:=hc j (by omega)
         clear hx1 hc
         obtain ⟨x1,hx1⟩:∃ x,bl[j+1]=x:=⟨_,rfl⟩
         obtain ⟨x0,hx0⟩:∃ x,bl[j]=x:=⟨_,rfl⟩
         rw [hx1] at hck
         rw [hx0] at hcj
         rw [hx1,hx0] at hst
         clear hx1 hx0
         rcases Nat.eq_zero_or_pos j with hj | hj
         · have XP:w.cell? ⟨b,o,none⟩=some (.int .i64 x0):=by rw [hj] at hcj;exact hcj
           have hjb:¬ 0<j:=by omega
           clear hj
           by_cases hz:aU [wi x1 1 ↑(M.dS g),wh (decide (x1≤x0)) 11]=0
           · have hz':(aU [wi x1 1 ↑(M.dS g),wh (decide (x1≤x0)) 11] != 0)=false:=by simp [hz]
             rw [if_neg (by simp [hz])] at hst
             have HX:=hide hst
             clear hst hz
             go_wp2_with (first | (go_at_call 86;refine (bn _ _ _ _).mono ?_;rintro e dO ⟨rfl,rfl⟩) | (go_at_call 87;refine (bY _ _ _).mono ?_;rintro e dO ⟨rfl,rfl⟩) | (go_at_call 85;refine (first_any (fun _=>True) _ _ [wi x1 1 ↑(M.dS g),wh (decide (x1≤x0)) 11] _ (bD.lit _ _ [wi x1 1 ↑(M.dS g),wh (decide (x1≤x0)) 11] (by simp) _ trivial)).mono ?_;rintro e dO ⟨rfl,rfl⟩))
             go_roundw
             case rel=>exact ⟨j+1+1,by omega,by go_num,HX.out,KR.alloc _⟩
             case measure=>simp [intOf];omega
           · have hz':(aU [wi x1 1 ↑(M.dS g),wh (decide (x1≤x0)) 11] != 0)=true:=by simp [hz]
             rw [if_pos hz] at hst
             have HX:=hide hst
             have HZ:=hide hz
             clear hst hz
             go_wp2_with (first | (go_at_call 86;refine (bn _ _ _ _).mono ?_;rintro e dO ⟨rfl,rfl⟩) | (go_at_call 87;refine (bY _ _ _).mono ?_;rintro e dO ⟨rfl,rfl⟩) | (go_at_call 85;refine (first_any (fun _=>True) _ _ [wi x1 1 ↑(M.dS g),wh (decide (x1≤x0)) 11] _ (bD.lit _ _ [wi x1 1 ↑(M.dS g),wh (decide (x1≤x0)) 11] (by simp) _ trivial)).mono ?_;rintro e dO ⟨rfl,rfl⟩))
             go_ret
             exact ⟨dG (by rw [sJ (r:=⟨g,tg,fo⟩) (s:=⟨a0,a1,a2,a3,a4,gr,bl,b0,b1,b2,b3,b4,b5,b6,b7⟩) H1.out (by rw [HX.out];exact HZ.out)];exact HX.out.symm),(KR.alloc _).bw⟩
         · skip
           by_cases hz:aU [wi x1 1 ↑(M.dS g),wh (decide (x1≤x0)) 11]=0
           · have hz':(aU [wi x1 1 ↑(M.dS g),wh (decide (x1≤x0)) 11] != 0)=false:=by simp [hz]
             rw [if_neg (by simp [hz])] at hst
             have HX:=hide hst
             clear hst hz
             go_wp2_with (first | (go_at_call 86;refine (bn _ _ _ _).mono ?_;rintro e dO ⟨rfl,rfl⟩) | (go_at_call 87;refine (bY _ _ _).mono ?_;rintro e dO ⟨rfl,rfl⟩) | (go_at_call 85;refine (first_any (fun _=>True) _ _ [wi x1 1 ↑(M.dS g),wh (decide (x1≤x0)) 11] _ (bD.lit _ _ [wi x1 1 ↑(M.dS g),wh (decide (x1≤x0)) 11] (by simp) _ trivial)).mono ?_;rintro e dO ⟨rfl,rfl⟩))
             go_roundw
             case rel=>exact ⟨j+1+1,by omega,by go_num,HX.out,KR.alloc _⟩
             case measure=>simp [intOf];omega
           · have hz':(aU [wi x1 1 ↑(M.dS g),wh (decide (x1≤x0)) 11] != 0)=true:=by simp [hz]
             rw [if_pos hz] at hst
             have HX:=hide hst
             have HZ:=hide hz
             clear hst hz
             go_wp2_with (first | (go_at_call 86;refine (bn _ _ _ _).mono ?_;rintro e dO ⟨rfl,rfl⟩) | (go_at_call 87;refine (bY _ _ _).mono ?_;rintro e dO ⟨rfl,rfl⟩) | (go_at_call 85;refine (first_any (fun _=>True) _ _ [wi x1 1 ↑(M.dS g),wh (decide (x1≤x0)) 11] _ (bD.lit _ _ [wi x1 1 ↑(M.dS g),wh (decide (x1≤x0)) 11] (by simp) _ trivial)).mono ?_;rintro e dO ⟨rfl,rfl⟩))
             go_ret
             exact ⟨dG (by rw [sJ (r:=⟨g,tg,fo⟩) (s:=⟨a0,a1,a2,a3,a4,gr,bl,b0,b1,b2,b3,b4,b5,b6,b7⟩) H1.out (by rw [HX.out];exact HZ.out)];exact HX.out.symm),(KR.alloc _).bw⟩
     · have hz0:M.jq (M.dS g) none bl=0:=by rw [hx1,List.drop_of_length_le (by omega),M.jq]
       have H2:=hide hz0
       clear hx1 hz0
       by_cases hn:M.iP ⟨g,tg,fo⟩ ⟨a0,a1,a2,a3,a4,gr,bl,b0,b1,b2,b3,b4,b5,b6,b7⟩=0
       · have hn':(M.iP ⟨g,tg,fo⟩ ⟨a0,a1,a2,a3,a4,gr,bl,b0,b1,b2,b3,b4,b5,b6,b7⟩ != 0)=false:=by simp [hn]
         have H3:=hide hn
         clear hn
         go_upto_region 15 with ((go_at_call 93;refine (vI ⟨g,tg,fo⟩ ⟨a0,a1,a2,a3,a4,gr,bl,b0,b1,b2,b3,b4,b5,b6,b7⟩ _ _ _).mono ?_;rintro e w3 ⟨rfl,hb3⟩;have K3:=KR.call hb3;have hc3:=K3.cell))
         go_cut [11] (fun v wx=>v= .bool (pushB g a1 a3 a4)∧Keeps w ((w.alloc (.cells #[.string g,.int .i64 tg,.int .i64 fo] 23)).alloc (.cells #[.int .i64 a0,.bool a1,.bool a2,.bool a3,.bool a4,.int .i64 gr,.slice A bl.length c,.int .i64 b0,.int .i64 b1,.int .i64 b2,.int .i64 b3,.int .i64 b4,.int .i64 b5,.bool b6,.int .i64 b7] 33)) 2 wx)
         case first=>
          all_goals rcases Bool.eq_false_or_eq_true (g.toList == [110,105,110,101]) with y0 | y0
          all_goals go_wp2
          all_goals go_meet
          all_goals
           refine ⟨?_,by assumption⟩
           exact rG (by first | (simp [pushB,xq, *];done) | (simp_all [pushB,xq];done))
         case rest=>
          obtain ⟨rfl,K4⟩:=hcut
          have hc4:=K4.cell
          go_upto_region 16 with fail
          go_cut [12] (fun v wx=>v= .bool (miss g bl)∧Keeps w ((w.alloc (.cells #[.string g,.int .i64 tg,.int .i64 fo] 23)).alloc (.cells #[.int .i64 a0,.bool a1,.bool a2,.bool a3,.bool a4,.int .i64 gr,.slice A bl.length c,.int .i64 b0,.int .i64 b1,.int .i64 b2,.int .i64 b3,.int .i64 b4,.int .i64 b5,.bool b6,.int .i64 b7] 33)) 2 wx)
          case first=>
           by_cases hb:bl=[]
           · subst hb
             go_quiet (fail)
             go_wp2
             go_meet
             exact ⟨rG (by simp [miss]),K4.drewN _⟩
           · have hb':((bl.length:Int) == 0)=false:=by simp [hb]
             have HB:=hide hb
             clear hb
             by_cases hn:0<need g
             · have hn':decide (0<need g)=true:=by simp [hn]
               have HN:=hide hn
               clear hn
               refine wp_region_held_drew (S:=(fun w'=>∀ p q,p<w.heap.size+2→w'.cell? ⟨p,q,none⟩=((w.alloc (.cells #[.string g,.int .i64 tg,.int .i64 fo] 23)).alloc (.cells #[.int .i64 a0,.bool a1,.bool a2,.bool a3,.bool a4,.int .i64 gr,.slice A bl.length c,.int .i64 b0,.int .i64 b1,.int .i64 b2,.int .i64 b3,.int .i64 b4,.int .i64 b5,.bool b6,.int .i64 b7] 33)).cell? ⟨p,q,none⟩)) (by kernel_rfl) ?eP (fun hHeld=>?_)
               case eP=>first | exact K4.cell | exact K5.cell | exact K6.cell
               refine tk 0 ?_
               refine tk 1 ?_
               refine tk 2 ?_
               refine tk 3 ?_
               refine tk 4 ?_
               refine tk 5 ?_
               refine tr 6 fun K hK=>?_
               go_simp
               (first | (go_at_call 94;refine (jT ⟨g,tg,fo⟩ _).mono ?_;rintro e w5 ⟨rfl,hb5⟩;have K5:=K4.drew.call hb5) | (go_at_call 94;refine (jT ⟨g,tg,fo⟩ _).mono ?_;rintro e w6 ⟨rfl,hb6⟩;have K6:=K5.call hb6;have hc6:=K6.cell) | (go_at_call 95;refine (iZ S A c bl _ _ (hp.below K6.bw)).mono ?_;rintro e dO ⟨rfl,rfl⟩))
               refine hK.out _ _ ?Lp (fun hHeld=>?_)
               case Lp=>(first | (first | exact K4.cell | exact K5.cell | exact K6.cell) | (dsimp only;first | exact K4.cell | exact K5.cell | exact K6.cell))
               clear hK K
               try simp only [Act.put,la,lz,ls]
               refine tk 7 ?_
               refine tk 8 ?_
               refine tk 9 ?_
               refine tk 10 ?_
               refine tk 11 ?_
               refine tr 12 fun K hK=>?_
               go_simp
               (first | (go_at_call 94;refine (jT ⟨g,tg,fo⟩ _).mono ?_;rintro e w5 ⟨rfl,hb5⟩;have K5:=K4.drew.call hb5) | (go_at_call 94;refine (jT ⟨g,tg,fo⟩ _).mono ?_;rintro e w6 ⟨rfl,hb6⟩;have K6:=K5.call hb6;have hc6:=K6.cell) | (go_at_call 95;refine (iZ S A c bl _ _ (hp.below K6.bw)).mono ?_;rintro e dO ⟨rfl,rfl⟩))
               refine hK.out _ _ ?Ql (fun hHeld=>?_)
               case Ql=>(first | (first | exact K4.cell | exact K5.cell | exact K6.cell) | (dsimp only;first | exact K4.cell | exact K5.cell | exact K6.cell))
               clear hK K
               try simp only [Act.put,la,lz,ls]
               refine tr 13 fun K hK=>?_
               go_simp
               (first | (go_at_call 94;refine (jT ⟨g,tg,fo⟩ _).mono ?_;rintro e w5 ⟨rfl,hb5⟩;have K5:=K4.drew.call hb5) | (go_at_call 94;refine (jT ⟨g,tg,fo⟩ _).mono ?_;rintro e w6 ⟨rfl,hb6⟩;have K6:=K5.call hb6;have hc6:=K6.cell) | (go_at_call 95;refine (iZ S A c bl _ _ (hp.below K6.bw)).mono ?_;rintro e dO ⟨rfl,rfl⟩))
               refine hK.out _ _ ?Qm (fun hHeld=>?_)
               case Qm=>(first | (first | exact K4.cell | exact K5.cell | exact K6.cell) | (dsimp only;first | exact K4.cell | exact K5.cell | exact K6.cell))
               clear hK K
               try simp only [Act.put,la,lz,ls]
               refine tk 14 ?_
               refine tk 15 ?_
               refine tk 16 ?_
               refine tk 17 ?_
               refine wpAnyH_done (by kernel_rfl) ?_ _
               go_wp2
               go_meet
               exact ⟨rG (by have h1:=HB.out;have h2:=HN.out;simp [miss,h1,h2]),by first | exact K6 | exact K5 | exact K4.drew⟩
             · have hn':decide (0<need g)=false:=by simp;omega
               have HN:=hide hn
               clear hn
               refine wp_region_held_drew (S:=(fun w'=>∀ p q,p<w.heap.size+2→w'.cell? ⟨p,q,none⟩=((w.alloc (.cells #[.string g,.int .i64 tg,.int .i64 fo] 23)).alloc (.cells #[.int .i64 a0,.bool a1,.bool a2,.bool a3,.bool a4,.int .i64 gr,.slice A bl.length c,.int .i64 b0,.int .i64 b1,.int .i64 b2,.int .i64 b3,.int .i64 b4,.int .i64 b5,.bool b6,.int .i64 b7] 33)).cell? ⟨p,q,none⟩)) (by kernel_rfl) ?jw (fun hHeld=>?_)
               case jw=>first | exact K4.cell | exact K5.cell | exact K6.cell
               refine tk 0 ?_
               refine tk 1 ?_
               refine tk 2 ?_
               refine tk 3 ?_
               refine tk 4 ?_
               refine tk 5 ?_
               refine tr 6 fun K hK=>?_
               go_simp
               (first | (go_at_call 94;refine (jT ⟨g,tg,fo⟩ _).mono ?_;rintro e w5 ⟨rfl,hb5⟩;have K5:=K4.drew.call hb5) | (go_at_call 94;refine (jT ⟨g,tg,fo⟩ _).mono ?_;rintro e w6 ⟨rfl,hb6⟩;have K6:=K5.call hb6;have hc6:=K6.cell) | (go_at_call 95;refine (iZ S A c bl _ _ (hp.below K6.bw)).mono ?_;rintro e dO ⟨rfl,rfl⟩))
               refine hK.out _ _ ?Tn (fun hHeld=>?_)
               case Tn=>(first | (first | exact K4.cell | exact K5.cell | exact K6.cell) | (dsimp only;first | exact K4.cell | exact K5.cell | exact K6.cell))
               clear hK K
               try simp only [Act.put,la,lz,ls]
               refine tk 7 ?_
               refine tk 8 ?_
               refine tu 9 ?_
               refine tu 10 ?_
               refine tu 11 ?_
               refine tu 12 ?_
               refine tu 13 ?_
               refine tu 14 ?_
               refine tk 15 ?_
               refine tk 16 ?_
               refine tk 17 ?_
               refine wpAnyH_done (by kernel_rfl) ?_ _
               go_wp2
               go_meet
               exact ⟨rG (by have h1:=HB.out;have h2:=HN.out;simp [miss,h1];intro h;omega),by first | exact K6 | exact K5 | exact K4.drew⟩
          case rest=>
           obtain ⟨rfl,K7⟩:=hcut
           have YX:=K7.cell
           clear hc4 K4
           obtain ⟨pb,hpb⟩:∃ x,pushB g a1 a3 a4=x:=⟨_,rfl⟩
           obtain ⟨mi,Vd⟩:∃ x,miss g bl=x:=⟨_,rfl⟩
           have HT:=hide (fun b=>BZ (r:=⟨g,tg,fo⟩) (s:=⟨a0,a1,a2,a3,a4,gr,bl,b0,b1,b2,b3,b4,b5,b6,b7⟩) H1.out H2.out H3.out b)
           rw [hpb,Vd]
           rcases Bool.eq_false_or_eq_true (b7 != 0) with y7 | y7
           all_goals have HY:=hide y7
           all_goals
            have WZ:=hide hpb
            have WV:=hide Vd
            clear hpb Vd
            cases pb <;> cases mi <;> cases b6
           all_goals go_wp2_with ((go_at_call 87;refine (bY _ _ _).mono ?_;rintro e dO ⟨rfl,rfl⟩))
           all_goals
            go_ret
            exact ⟨dG (HT.out _ (by have h1:=WZ.out;have h2:=WV.out;have h3:=HY.out;simp only [h1,h2];simp at h3;simp [h3])).symm,K7.bw⟩
       · have hn':(M.iP ⟨g,tg,fo⟩ ⟨a0,a1,a2,a3,a4,gr,bl,b0,b1,b2,b3,b4,b5,b6,b7⟩ != 0)=true:=by simp [hn]
         have H3:=hide hn
         clear hn
         go_wp2_with ((go_at_call 93;refine (vI ⟨g,tg,fo⟩ ⟨a0,a1,a2,a3,a4,gr,bl,b0,b1,b2,b3,b4,b5,b6,b7⟩ _ _ _).mono ?_;rintro e w3 ⟨rfl,hb3⟩;have K3:=KR.call hb3;have hc3:=K3.cell))
         go_ret
         exact ⟨dG (BX (r:=⟨g,tg,fo⟩) (s:=⟨a0,a1,a2,a3,a4,gr,bl,b0,b1,b2,b3,b4,b5,b6,b7⟩) H1.out H2.out H3.out).symm,K3.bw⟩
  · have hz':(M.dw ⟨g,tg,fo⟩ ⟨a0,a1,a2,a3,a4,gr,bl,b0,b1,b2,b3,b4,b5,b6,b7⟩ != 0)=true:=by simp [hz]
    have H1:=hide hz
    clear hz
    go_wp2
    go_ret
    exact ⟨dG (Am H1.out).symm,K4.bw⟩
theorem yN (w:World) (us:List Value) (t:TypeId):∀ W:World,(∀ p q,p<w.heap.size+1→W.cell? ⟨p,q,none⟩=(w.alloc (.cells us.toArray t)).cell? ⟨p,q,none⟩)→W.rangeAt w.heap.size 0 us:=by
 intro W h j v hj
 rw [h _ _ (by omega),Nat.zero_add]
 have:=dK w t us w.heap.size rfl j v hj
 rwa [rH,Nat.zero_add] at this
theorem KD (s:M.State) (hg:0≤s.group∧s.group≤2):M.own s=0↔s.group=0:=by
 unfold M.own
 split
 · exact Iff.rfl
 · next h=>rw [not_or] at h;constructor <;> intro h1 <;> omega
theorem uy (S:Nat→Prop) (r:M.Rules) (s:M.State) (A:Option Addr) (c:Nat) (w:World) (hp:bD w S A c s.ay) (h:r.game=M.aB∨r.game=M.bM∨(r.game=M.aQ∧s.brk=true)):
 Calls Tryz.prog 103 #[dH r s A c] w fun e w'=>∃ A' c',e= .returned (.slice A' (M.targets r s).length c')∧bD w' (fun b=>w.heap.size≤b) A' c' (M.targets r s)∧Below w.heap.size w w':=by
 obtain ⟨c1,c2,c3⟩:=hp.bd
 obtain ⟨g,tg,fo⟩:=r
 obtain ⟨a0,a1,a2,a3,a4,gr,bl,b0,b1,b2,b3,b4,b5,b6,b7⟩:=s
 simp only at h c1 c3 hp
 rcases h with rfl | rfl | ⟨rfl,rfl⟩
 · have ht:M.targets ⟨M.aB,tg,fo⟩ ⟨a0,a1,a2,a3,a4,gr,bl,b0,b1,b2,b3,b4,b5,b6,b7⟩=bl:=by simp [M.targets]
   rw [ht]
   have K0:Keeps w (w.alloc (.cells #[.string M.aB,.int .i64 tg,.int .i64 fo,.int .i64 a0,.bool a1,.bool a2,.bool a3,.bool a4,.int .i64 gr,.slice A bl.length c,.int .i64 b0,.int .i64 b1,.int .i64 b2,.int .i64 b3,.int .i64 b4,.int .i64 b5,.bool b6,.int .i64 b7] 127)) 1 (w.alloc (.cells #[.string M.aB,.int .i64 tg,.int .i64 fo,.int .i64 a0,.bool a1,.bool a2,.bool a3,.bool a4,.int .i64 gr,.slice A bl.length c,.int .i64 b0,.int .i64 b1,.int .i64 b2,.int .i64 b3,.int .i64 b4,.int .i64 b5,.bool b6,.int .i64 b7] 127)):=Keeps.FT w _
   go_enter Tryz.func103,Tryz.ntmps103
   go_wp2_with (go_at_call 141;refine (jL S A c bl _ (hp.below K0.bw)).mono ?_;rintro e w1 ⟨A1,c1',rfl,hr1,hb1⟩;have K1:=K0.call hb1)
   go_ret
   exact ⟨A1,c1',rfl,hr1.more (fun b _ h=>Nat.le_trans (Nat.le_trans (by omega) K0.sz) h),K1.bw⟩
 · have ht:M.targets ⟨M.bM,tg,fo⟩ ⟨a0,a1,a2,a3,a4,gr,bl,b0,b1,b2,b3,b4,b5,b6,b7⟩=bl.take 1:=by simp [M.targets]
   rw [ht]
   have K0:Keeps w (w.alloc (.cells #[.string M.bM,.int .i64 tg,.int .i64 fo,.int .i64 a0,.bool a1,.bool a2,.bool a3,.bool a4,.int .i64 gr,.slice A bl.length c,.int .i64 b0,.int .i64 b1,.int .i64 b2,.int .i64 b3,.int .i64 b4,.int .i64 b5,.bool b6,.int .i64 b7] 127)) 1 (w.alloc (.cells #[.string M.bM,.int .i64 tg,.int .i64 fo,.int .i64 a0,.bool a1,.bool a2,.bool a3,.bool a4,.int .i64 gr,.slice A bl.length c,.int .i64 b0,.int .i64 b1,.int .i64 b2,.int .i64 b3,.int .i64 b4,.int .i64 b5,.bool b6,.int .i64 b7] 127)):=Keeps.FT w _
   by_cases hl:bl=[]
   · subst hl
     go_enter Tryz.func103,Tryz.ntmps103
     go_wp2_with (go_at_call 141;refine (jL S A c [] _ (hp.below K0.bw)).mono ?_;rintro e w1 ⟨A1,c1',rfl,hr1,hb1⟩;have K1:=K0.call hb1)
     go_ret
     exact ⟨A1,c1',rfl,hr1.more (fun b _ h=>Nat.le_trans (Nat.le_trans (by omega) K0.sz) h),K1.bw⟩
   · have hl2:1≤bl.length:=by cases bl with | nil=>exact absurd rfl hl | cons a l=>simp
     have hc1:1≤c:=by omega
     have hlen:(bl.take 1).length=1:=by rw [List.length_take];omega
     have hcl:=jL S A c (bl.take 1) (w.alloc (.cells #[.string M.bM,.int .i64 tg,.int .i64 fo,.int .i64 a0,.bool a1,.bool a2,.bool a3,.bool a4,.int .i64 gr,.slice A bl.length c,.int .i64 b0,.int .i64 b1,.int .i64 b2,.int .i64 b3,.int .i64 b4,.int .i64 b5,.bool b6,.int .i64 b7] 127)) (by unfold bD;rw [hlen,List.map_take];exact (Reads.take (k:=1) (hp.below K0.bw) hl2))
     rw [hlen] at hcl
     clear hl
     go_enter Tryz.func103,Tryz.ntmps103
     go_wp2_with (go_at_call 141;refine (hcl).mono ?_;rintro e w1 ⟨A1,c1',rfl,hr1,hb1⟩;have K1:=K0.call hb1)
     go_ret
     exact ⟨A1,c1',by rw [hlen];rfl,hr1.more (fun b _ h=>Nat.le_trans (Nat.le_trans (by omega) K0.sz) h),K1.bw⟩
 · have ht:M.targets ⟨M.aQ,tg,fo⟩ ⟨a0,true,a2,a3,a4,gr,bl,b0,b1,b2,b3,b4,b5,b6,b7⟩=bl:=by simp [M.targets]
   rw [ht]
   have K0:Keeps w (w.alloc (.cells #[.string M.aQ,.int .i64 tg,.int .i64 fo,.int .i64 a0,.bool true,.bool a2,.bool a3,.bool a4,.int .i64 gr,.slice A bl.length c,.int .i64 b0,.int .i64 b1,.int .i64 b2,.int .i64 b3,.int .i64 b4,.int .i64 b5,.bool b6,.int .i64 b7] 127)) 1 (w.alloc (.cells #[.string M.aQ,.int .i64 tg,.int .i64 fo,.int .i64 a0,.bool true,.bool a2,.bool a3,.bool a4,.int .i64 gr,.slice A bl.length c,.int .i64 b0,.int .i64 b1,.int .i64 b2,.int .i64 b3,.int .i64 b4,.int .i64 b5,.bool b6,.int .i64 b7] 127)):=Keeps.FT w _
   go_enter Tryz.func103,Tryz.ntmps103
   go_wp2_with (go_at_call 141;refine (jL S A c bl _ (hp.below K0.bw)).mono ?_;rintro e w1 ⟨A1,c1',rfl,hr1,hb1⟩;have K1:=K0.call hb1)
   go_ret
   exact ⟨A1,c1',rfl,hr1.more (fun b _ h=>Nat.le_trans (Nat.le_trans (by omega) K0.sz) h),K1.bw⟩
theorem yK (S:Nat→Prop) (tg fo:Int) (s:M.State) (A:Option Addr) (c:Nat) (w:World) (hp:bD w S A c s.ay) (hk:s.brk=false) (hg:0≤s.group∧s.group≤2):
 Calls Tryz.prog 103 #[dH ⟨M.aQ,tg,fo⟩ s A c] w fun e w'=>∃ A' c',e= .returned (.slice A' (M.targets ⟨M.aQ,tg,fo⟩ s).length c')∧bD w' (fun b=>w.heap.size≤b) A' c' (M.targets ⟨M.aQ,tg,fo⟩ s)∧Below w.heap.size w w':=by
 obtain ⟨i0,hi,hz0,hz1,hz2⟩:=info_parts uN
 obtain ⟨c1,c2,c3⟩:=hp.bd
 obtain ⟨a0,a1,a2,a3,a4,gr,bl,b0,b1,b2,b3,b4,b5,b6,b7⟩:=s
 simp only at hk c1 c3 hp hg
 subst hk
 have ht:M.targets ⟨M.aQ,tg,fo⟩ ⟨a0,false,a2,a3,a4,gr,bl,b0,b1,b2,b3,b4,b5,b6,b7⟩=if bl.filter (colour ⟨a0,false,a2,a3,a4,gr,bl,b0,b1,b2,b3,b4,b5,b6,b7⟩)=[]∧(8:Int)∈bl then [8] else bl.filter (colour ⟨a0,false,a2,a3,a4,gr,bl,b0,b1,b2,b3,b4,b5,b6,b7⟩):=by
  simp [M.targets,EU]
 have HT:=hide ht
 clear ht
 have K0:Keeps w (w.alloc (.cells #[.string M.aQ,.int .i64 tg,.int .i64 fo,.int .i64 a0,.bool false,.bool a2,.bool a3,.bool a4,.int .i64 gr,.slice A bl.length c,.int .i64 b0,.int .i64 b1,.int .i64 b2,.int .i64 b3,.int .i64 b4,.int .i64 b5,.bool b6,.int .i64 b7] 127)) 1 (w.alloc (.cells #[.string M.aQ,.int .i64 tg,.int .i64 fo,.int .i64 a0,.bool false,.bool a2,.bool a3,.bool a4,.int .i64 gr,.slice A bl.length c,.int .i64 b0,.int .i64 b1,.int .i64 b2,.int .i64 b3,.int .i64 b4,.int .i64 b5,.bool b6,.int .i64 b7] 127)):=Keeps.FT w _
 have hown0:=KD ⟨a0,false,a2,a3,a4,gr,bl,b0,b1,b2,b3,b4,b5,b6,b7⟩ hg
 have HO:=hide hown0
 clear hown0
 go_enter Tryz.func103,Tryz.ntmps103
 go_wp2
 go_loopw [3,39] (fun v i wr=>∃ k:Nat,k≤bl.length∧i= .int .i64 k∧(∃ A c,v= .slice A ((bl.take k).filter (colour ⟨a0,false,a2,a3,a4,gr,bl,b0,b1,b2,b3,b4,b5,b6,b7⟩)).length c)∧wr.ownsRow (w.heap.size+1) 3 1 v ((bl.take k).filter (colour ⟨a0,false,a2,a3,a4,gr,bl,b0,b1,b2,b3,b4,b5,b6,b7⟩)).length (((bl.take k).filter (colour ⟨a0,false,a2,a3,a4,gr,bl,b0,b1,b2,b3,b4,b5,b6,b7⟩)).map (Value.int .i64))∧Keeps w (w.alloc (.cells #[.string M.aQ,.int .i64 tg,.int .i64 fo,.int .i64 a0,.bool false,.bool a2,.bool a3,.bool a4,.int .i64 gr,.slice A bl.length c,.int .i64 b0,.int .i64 b1,.int .i64 b2,.int .i64 b3,.int .i64 b4,.int .i64 b5,.bool b6,.int .i64 b7] 127)) 1 wr)
  (fun _ i _=>bl.length - (intOf i).toNat)
 case atStart=>exact ⟨0,by omega,rfl,⟨_,_,rfl⟩,World.ownsRow_nil _ _ _ _,K0⟩
 case round=>
  obtain ⟨k,hk,rfl,⟨A1,c1',rfl⟩,hown,KR⟩:=hrel
  have hcR:=KR.cell
  have DX:=KR.sz
  have hfl:=filter_le (colour ⟨a0,false,a2,a3,a4,gr,bl,b0,b1,b2,b3,b4,b5,b6,b7⟩) bl k
  by_cases hlt:k<bl.length
  · obtain ⟨b,o,rfl,_,hbl,hc⟩:=hp.at_ k hlt
    have hck:=hc k hlt
    clear hc
    have P9:b<w.heap.size+1:=by omega
    by_cases h8:bl[k]=8
    · have h8':(bl[k] != 8)=false:=by simp [h8]
      have HS:=hide (Bh (p:=(colour ⟨a0,false,a2,a3,a4,gr,bl,b0,b1,b2,b3,b4,b5,b6,b7⟩)) hlt (by simp [colour,h8]))
      clear h8
      go_wp2
      have uG:∀ W:World,(fun w':World=>∀ p q,p<w.heap.size+1→w'.cell? ⟨p,q,none⟩=(w.alloc (.cells #[.string M.aQ,.int .i64 tg,.int .i64 fo,.int .i64 a0,.bool false,.bool a2,.bool a3,.bool a4,.int .i64 gr,.slice (some ⟨b,o,none⟩) bl.length c,.int .i64 b0,.int .i64 b1,.int .i64 b2,.int .i64 b3,.int .i64 b4,.int .i64 b5,.bool b6,.int .i64 b7] 127)).cell? ⟨p,q,none⟩) W→W.rangeAt w.heap.size 0 [.string M.aQ,.int .i64 tg,.int .i64 fo,.int .i64 a0,.bool false,.bool a2,.bool a3,.bool a4,.int .i64 gr,.slice (some ⟨b,o,none⟩) bl.length c,.int .i64 b0,.int .i64 b1,.int .i64 b2,.int .i64 b3,.int .i64 b4,.int .i64 b5,.bool b6,.int .i64 b7]:=yN w _ _
      have hun:=Tryz.underlying127
      refine wp_region_held_drew (S:=(fun w'=>∀ p q,p<w.heap.size+1→w'.cell? ⟨p,q,none⟩=(w.alloc (.cells #[.string M.aQ,.int .i64 tg,.int .i64 fo,.int .i64 a0,.bool false,.bool a2,.bool a3,.bool a4,.int .i64 gr,.slice (some ⟨b,o,none⟩) bl.length c,.int .i64 b0,.int .i64 b1,.int .i64 b2,.int .i64 b3,.int .i64 b4,.int .i64 b5,.bool b6,.int .i64 b7] 127)).cell? ⟨p,q,none⟩)) (by kernel_rfl) ?uQ (fun hHeld=>?_)
      case uQ=>first | exact K2.cell | exact K1.cell | exact KR.cell
      refine tk 0 ?_
      refine tk 1 ?_
      refine tk 2 ?_
      refine tu 3 ?_
      refine tu 4 ?_
      refine tu 5 ?_
      refine tu 6 ?_
      refine tu 7 ?_
      refine tu 8 ?_
      refine tu 9 ?_
      refine tu 10 ?_
      refine tu 11 ?_
      refine tu 12 ?_
      refine tk 13 ?_
      refine wpAnyH_done (by kernel_rfl) ?_ _
      go_wp2
      go_roundw
      case rel=>exact ⟨k+1,by omega,by go_num,by rw [HS.out];exact ⟨⟨_,_,rfl⟩,own_drewN hown 1,KR.drew⟩⟩
      case measure=>simp [intOf];omega
    · have h8':(bl[k] != 8)=true:=by simp [h8]
      by_cases hgr:gr=0
      · have U9:(M.own ⟨a0,false,a2,a3,a4,gr,bl,b0,b1,b2,b3,b4,b5,b6,b7⟩ == 0)=true:=by simp [HO.out.2 hgr]
        have HS:=hide (zk (p:=(colour ⟨a0,false,a2,a3,a4,gr,bl,b0,b1,b2,b3,b4,b5,b6,b7⟩)) hlt (by simp [colour,h8,hgr]))
        clear hgr h8
        go_wp2
        have uG:∀ W:World,(fun w':World=>∀ p q,p<w.heap.size+1→w'.cell? ⟨p,q,none⟩=(w.alloc (.cells #[.string M.aQ,.int .i64 tg,.int .i64 fo,.int .i64 a0,.bool false,.bool a2,.bool a3,.bool a4,.int .i64 gr,.slice (some ⟨b,o,none⟩) bl.length c,.int .i64 b0,.int .i64 b1,.int .i64 b2,.int .i64 b3,.int .i64 b4,.int .i64 b5,.bool b6,.int .i64 b7] 127)).cell? ⟨p,q,none⟩) W→W.rangeAt w.heap.size 0 [.string M.aQ,.int .i64 tg,.int .i64 fo,.int .i64 a0,.bool false,.bool a2,.bool a3,.bool a4,.int .i64 gr,.slice (some ⟨b,o,none⟩) bl.length c,.int .i64 b0,.int .i64 b1,.int .i64 b2,.int .i64 b3,.int .i64 b4,.int .i64 b5,.bool b6,.int .i64 b7]:=yN w _ _
        have hun:=Tryz.underlying127
        refine wp_region_held_drew (S:=(fun w'=>∀ p q,p<w.heap.size+1→w'.cell? ⟨p,q,none⟩=(w.alloc (.cells #[.string M.aQ,.int .i64 tg,.int .i64 fo,.int .i64 a0,.bool false,.bool a2,.bool a3,.bool a4,.int .i64 gr,.slice (some ⟨b,o,none⟩) bl.length c,.int .i64 b0,.int .i64 b1,.int .i64 b2,.int .i64 b3,.int .i64 b4,.int .i64 b5,.bool b6,.int .i64 b7] 127)).cell? ⟨p,q,none⟩)) (by kernel_rfl) ?zV (fun hHeld=>?_)
        case zV=>first | exact K2.cell | exact K1.cell | exact KR.cell
        refine tk 0 ?_
        refine tk 1 ?_
        refine tk 2 ?_
        refine wpAnyH_take (i:=3) (oi:=_) (v:=_) (ga rfl) (by kernel_rfl) (by kernel_rfl) (by kernel_rfl) (fun _ _ _ h=>h) (yieldsIf_load_mid (by rfl) _ _ (by rfl) _ _ (by rfl) _ _ uG hun rfl (by kernel_rfl)) (by assumption) ?_
        try simp only [Act.put,la,lz,ls]
        refine tr 4 fun K hK=>?_
        go_simp
        (first | (go_at_call 145;refine (jP ⟨M.aQ,tg,fo⟩ ⟨a0,false,a2,a3,a4,gr,bl,b0,b1,b2,b3,b4,b5,b6,b7⟩ _ _ _ hg).mono ?_;rintro e w2 ⟨rfl,hb2⟩;have K2:=K1.call hb2) | (go_at_call 145;refine (jP ⟨M.aQ,tg,fo⟩ ⟨a0,false,a2,a3,a4,gr,bl,b0,b1,b2,b3,b4,b5,b6,b7⟩ _ _ _ hg).mono ?_;rintro e w1 ⟨rfl,hb1⟩;have K1:=KR.drew.call hb1) | (go_at_call 146;refine (lN _ _).mono ?_;rintro e dO ⟨rfl,rfl⟩))
        refine hK.out _ _ ?TK (fun hHeld=>?_)
        case TK=>(first | (first | exact K2.cell | exact K1.cell | exact KR.cell) | (dsimp only;first | exact K2.cell | exact K1.cell | exact KR.cell))
        clear hK K
        try simp only [Act.put,la,lz,ls]
        refine tk 5 ?_
        refine tk 6 ?_
        refine tu 7 ?_
        refine tu 8 ?_
        refine tu 9 ?_
        refine tu 10 ?_
        refine tu 11 ?_
        refine tk 12 ?_
        refine tk 13 ?_
        refine wpAnyH_done (by kernel_rfl) ?_ _
        have uz:=(zN hown hb1 DX)
        have KZ:=K1
        have Vl:=KZ.sz
        go_wp2_with (at_builtin;refine wpList_append_lies _ rfl _ _ _ rfl (w.heap.size+1) 3 i0 (.int .i64 0) 1 8 Tryz.underlying30 hi hz0 hz1 hz2 rfl (by omega) _ _ _ rfl (uz.alloc _) ⟨w1.heap.size,0,none⟩ 1 1 [.int .i64 bl[k]] rfl rfl (dK _ _ _ _ (by simp)) ?c1 (by omega) ?c2 ?c3 ?c4 (w1.heap.size+1) (by simp) ?_)
        case c1=>simp [Value.oneCell']
        case c2=>simp only [maxLen];omega
        case c3=>omega
        case c4=>first | omega | (simp;omega)
        intro g1 cap w9 hown1 hgrow _ _
        have hbd:=dX (B:=w.heap.size+1) (uz.alloc _) hgrow (by omega) (by simp;omega)
        have U6:=((Below.refl (w.heap.size+1) w1).alloc (by omega) _).trans hbd
        have hown2:w9.ownsRow (w.heap.size+1) 3 1 (.slice (some ⟨g1,0,none⟩) ((bl.take (k+1)).filter (colour ⟨a0,false,a2,a3,a4,gr,bl,b0,b1,b2,b3,b4,b5,b6,b7⟩)).length cap) ((bl.take (k+1)).filter (colour ⟨a0,false,a2,a3,a4,gr,bl,b0,b1,b2,b3,b4,b5,b6,b7⟩)).length (((bl.take (k+1)).filter (colour ⟨a0,false,a2,a3,a4,gr,bl,b0,b1,b2,b3,b4,b5,b6,b7⟩)).map (Value.int .i64)):=by rw [HS.out];simpa using hown1
        have hv:((bl.take k).filter (colour ⟨a0,false,a2,a3,a4,gr,bl,b0,b1,b2,b3,b4,b5,b6,b7⟩)).length+1=((bl.take (k+1)).filter (colour ⟨a0,false,a2,a3,a4,gr,bl,b0,b1,b2,b3,b4,b5,b6,b7⟩)).length:=by rw [HS.out];simp
        have KY:=(KZ.alloc _).upto hbd (by omega)
        rw [hv]
        clear uz hgrow hown1 hbd U6 hv HS
        go_wp2
        go_roundw
        case rel=>exact ⟨k+1,by omega,by go_num,⟨_,_,rfl⟩,hown2,KY⟩
        case measure=>simp [intOf];omega
      · have U9:(M.own ⟨a0,false,a2,a3,a4,gr,bl,b0,b1,b2,b3,b4,b5,b6,b7⟩ == 0)=false:=by simp;exact fun h=>hgr (HO.out.1 h)
        by_cases hsd:M.side bl[k]=M.own ⟨a0,false,a2,a3,a4,gr,bl,b0,b1,b2,b3,b4,b5,b6,b7⟩
        · have Vj:(M.side bl[k] == M.own ⟨a0,false,a2,a3,a4,gr,bl,b0,b1,b2,b3,b4,b5,b6,b7⟩)=true:=by simp [hsd]
          have HS:=hide (zk (p:=(colour ⟨a0,false,a2,a3,a4,gr,bl,b0,b1,b2,b3,b4,b5,b6,b7⟩)) hlt (by simp [colour,h8,hsd]))
          clear hgr h8 hsd
          go_wp2
          have uG:∀ W:World,(fun w':World=>∀ p q,p<w.heap.size+1→w'.cell? ⟨p,q,none⟩=(w.alloc (.cells #[.string M.aQ,.int .i64 tg,.int .i64 fo,.int .i64 a0,.bool false,.bool a2,.bool a3,.bool a4,.int .i64 gr,.slice (some ⟨b,o,none⟩) bl.length c,.int .i64 b0,.int .i64 b1,.int .i64 b2,.int .i64 b3,.int .i64 b4,.int .i64 b5,.bool b6,.int .i64 b7] 127)).cell? ⟨p,q,none⟩) W→W.rangeAt w.heap.size 0 [.string M.aQ,.int .i64 tg,.int .i64 fo,.int .i64 a0,.bool false,.bool a2,.bool a3,.bool a4,.int .i64 gr,.slice (some ⟨b,o,none⟩) bl.length c,.int .i64 b0,.int .i64 b1,.int .i64 b2,.int .i64 b3,.int .i64 b4,.int .i64 b5,.bool b6,.int .i64 b7]:=yN w _ _
          have hun:=Tryz.underlying127
          refine wp_region_held_drew (S:=(fun w'=>∀ p q,p<w.heap.size+1→w'.cell? ⟨p,q,none⟩=(w.alloc (.cells #[.string M.aQ,.int .i64 tg,.int .i64 fo,.int .i64 a0,.bool false,.bool a2,.bool a3,.bool a4,.int .i64 gr,.slice (some ⟨b,o,none⟩) bl.length c,.int .i64 b0,.int .i64 b1,.int .i64 b2,.int .i64 b3,.int .i64 b4,.int .i64 b5,.bool b6,.int .i64 b7] 127)).cell? ⟨p,q,none⟩)) (by kernel_rfl) ?Nk (fun hHeld=>?_)
          case Nk=>first | exact K2.cell | exact K1.cell | exact KR.cell
          refine tk 0 ?_
          refine tk 1 ?_
          refine tk 2 ?_
          refine wpAnyH_take (i:=3) (oi:=_) (v:=_) (ga rfl) (by kernel_rfl) (by kernel_rfl) (by kernel_rfl) (fun _ _ _ h=>h) (yieldsIf_load_mid (by rfl) _ _ (by rfl) _ _ (by rfl) _ _ uG hun rfl (by kernel_rfl)) (by assumption) ?_
          try simp only [Act.put,la,lz,ls]
          refine tr 4 fun K hK=>?_
          go_simp
          (first | (go_at_call 145;refine (jP ⟨M.aQ,tg,fo⟩ ⟨a0,false,a2,a3,a4,gr,bl,b0,b1,b2,b3,b4,b5,b6,b7⟩ _ _ _ hg).mono ?_;rintro e w2 ⟨rfl,hb2⟩;have K2:=K1.call hb2) | (go_at_call 145;refine (jP ⟨M.aQ,tg,fo⟩ ⟨a0,false,a2,a3,a4,gr,bl,b0,b1,b2,b3,b4,b5,b6,b7⟩ _ _ _ hg).mono ?_;rintro e w1 ⟨rfl,hb1⟩;have K1:=KR.drew.call hb1) | (go_at_call 146;refine (lN _ _).mono ?_;rintro e dO ⟨rfl,rfl⟩))
          refine hK.out _ _ ?TL (fun hHeld=>?_)
          case TL=>(first | (first | exact K2.cell | exact K1.cell | exact KR.cell) | (dsimp only;first | exact K2.cell | exact K1.cell | exact KR.cell))
          clear hK K
          try simp only [Act.put,la,lz,ls]
          refine tk 5 ?_
          refine tk 6 ?_
          refine tk 7 ?_
          refine wpAnyH_take (i:=9) (oi:=_) (v:=_) (ga rfl) (by kernel_rfl) (by kernel_rfl) (by kernel_rfl) (fun _ _ _ h=>h) (yieldsIf_load_mid (by rfl) _ _ (by rfl) _ _ (by rfl) _ _ uG hun rfl (by kernel_rfl)) (by assumption) ?_
          try simp only [Act.put,la,lz,ls]
          refine tr 8 fun K hK=>?_
          go_simp
          (first | (go_at_call 145;refine (jP ⟨M.aQ,tg,fo⟩ ⟨a0,false,a2,a3,a4,gr,bl,b0,b1,b2,b3,b4,b5,b6,b7⟩ _ _ _ hg).mono ?_;rintro e w2 ⟨rfl,hb2⟩;have K2:=K1.call hb2) | (go_at_call 145;refine (jP ⟨M.aQ,tg,fo⟩ ⟨a0,false,a2,a3,a4,gr,bl,b0,b1,b2,b3,b4,b5,b6,b7⟩ _ _ _ hg).mono ?_;rintro e w1 ⟨rfl,hb1⟩;have K1:=KR.drew.call hb1) | (go_at_call 146;refine (lN _ _).mono ?_;rintro e dO ⟨rfl,rfl⟩))
          refine hK.out _ _ ?TM (fun hHeld=>?_)
          case TM=>(first | (first | exact K2.cell | exact K1.cell | exact KR.cell) | (dsimp only;first | exact K2.cell | exact K1.cell | exact KR.cell))
          clear hK K
          try simp only [Act.put,la,lz,ls]
          refine tr 10 fun K hK=>?_
          go_simp
          (first | (go_at_call 145;refine (jP ⟨M.aQ,tg,fo⟩ ⟨a0,false,a2,a3,a4,gr,bl,b0,b1,b2,b3,b4,b5,b6,b7⟩ _ _ _ hg).mono ?_;rintro e w2 ⟨rfl,hb2⟩;have K2:=K1.call hb2) | (go_at_call 145;refine (jP ⟨M.aQ,tg,fo⟩ ⟨a0,false,a2,a3,a4,gr,bl,b0,b1,b2,b3,b4,b5,b6,b7⟩ _ _ _ hg).mono ?_;rintro e w1 ⟨rfl,hb1⟩;have K1:=KR.drew.call hb1) | (go_at_call 146;refine (lN _ _).mono ?_;rintro e dO ⟨rfl,rfl⟩))
          refine hK.out _ _ ?QC (fun hHeld=>?_)
          case QC=>(first | (first | exact K2.cell | exact K1.cell | exact KR.cell) | (dsimp only;first | exact K2.cell | exact K1.cell | exact KR.cell))
          clear hK K
          try simp only [Act.put,la,lz,ls]
          refine tk 11 ?_
          refine tk 12 ?_
          refine tk 13 ?_
          refine wpAnyH_done (by kernel_rfl) ?_ _
          have uz:=(zM (zN hown hb1 DX) hb2)
          have KZ:=K2
          have Vl:=KZ.sz
          go_wp2_with (at_builtin;refine wpList_append_lies _ rfl _ _ _ rfl (w.heap.size+1) 3 i0 (.int .i64 0) 1 8 Tryz.underlying30 hi hz0 hz1 hz2 rfl (by omega) _ _ _ rfl (uz.alloc _) ⟨w2.heap.size,0,none⟩ 1 1 [.int .i64 bl[k]] rfl rfl (dK _ _ _ _ (by simp)) ?c1 (by omega) ?c2 ?c3 ?c4 (w2.heap.size+1) (by simp) ?_)
          case c1=>simp [Value.oneCell']
          case c2=>simp only [maxLen];omega
          case c3=>omega
          case c4=>first | omega | (simp;omega)
          intro g1 cap w9 hown1 hgrow _ _
          have hbd:=dX (B:=w.heap.size+1) (uz.alloc _) hgrow (by omega) (by simp;omega)
          have U6:=((Below.refl (w.heap.size+1) w2).alloc (by omega) _).trans hbd
          have hown2:w9.ownsRow (w.heap.size+1) 3 1 (.slice (some ⟨g1,0,none⟩) ((bl.take (k+1)).filter (colour ⟨a0,false,a2,a3,a4,gr,bl,b0,b1,b2,b3,b4,b5,b6,b7⟩)).length cap) ((bl.take (k+1)).filter (colour ⟨a0,false,a2,a3,a4,gr,bl,b0,b1,b2,b3,b4,b5,b6,b7⟩)).length (((bl.take (k+1)).filter (colour ⟨a0,false,a2,a3,a4,gr,bl,b0,b1,b2,b3,b4,b5,b6,b7⟩)).map (Value.int .i64)):=by rw [HS.out];simpa using hown1
          have hv:((bl.take k).filter (colour ⟨a0,false,a2,a3,a4,gr,bl,b0,b1,b2,b3,b4,b5,b6,b7⟩)).length+1=((bl.take (k+1)).filter (colour ⟨a0,false,a2,a3,a4,gr,bl,b0,b1,b2,b3,b4,b5,b6,b7⟩)).length:=by rw [HS.out];simp
          have KY:=(KZ.alloc _).upto hbd (by omega)
          rw [hv]
          clear uz hgrow hown1 hbd U6 hv HS
          go_wp2
          go_roundw
          case rel=>exact ⟨k+1,by omega,by go_num,⟨_,_,rfl⟩,hown2,KY⟩
          case measure=>simp [intOf];omega
        · have Vj:(M.side bl[k] == M.own ⟨a0,false,a2,a3,a4,gr,bl,b0,b1,b2,b3,b4,b5,b6,b7⟩)=false:=by simp [hsd]
          have HS:=hide (Bh (p:=(colour ⟨a0,false,a2,a3,a4,gr,bl,b0,b1,b2,b3,b4,b5,b6,b7⟩)) hlt (by simp [colour,h8,hgr,hsd]))
          clear hgr h8 hsd
          go_wp2
          have uG:∀ W:World,(fun w':World=>∀ p q,p<w.heap.size+1→w'.cell? ⟨p,q,none⟩=(w.alloc (.cells #[.string M.aQ,.int .i64 tg,.int .i64 fo,.int .i64 a0,.bool false,.bool a2,.bool a3,.bool a4,.int .i64 gr,.slice (some ⟨b,o,none⟩) bl.length c,.int .i64 b0,.int .i64 b1,.int .i64 b2,.int .i64 b3,.int .i64 b4,.int .i64 b5,.bool b6,.int .i64 b7] 127)).cell? ⟨p,q,none⟩) W→W.rangeAt w.heap.size 0 [.string M.aQ,.int .i64 tg,.int .i64 fo,.int .i64 a0,.bool false,.bool a2,.bool a3,.bool a4,.int .i64 gr,.slice (some ⟨b,o,none⟩) bl.length c,.int .i64 b0,.int .i64 b1,.int .i64 b2,.int .i64 b3,.int .i64 b4,.int .i64 b5,.bool b6,.int .i64 b7]:=yN w _ _
          have hun:=Tryz.underlying127
          refine wp_region_held_drew (S:=(fun w'=>∀ p q,p<w.heap.size+1→w'.cell? ⟨p,q,none⟩=(w.alloc (.cells #[.string M.aQ,.int .i64 tg,.int .i64 fo,.int .i64 a0,.bool false,.bool a2,.bool a3,.bool a4,.int .i64 gr,.slice (some ⟨b,o,none⟩) bl.length c,.int .i64 b0,.int .i64 b1,.int .i64 b2,.int .i64 b3,.int .i64 b4,.int .i64 b5,.bool b6,.int .i64 b7] 127)).cell? ⟨p,q,none⟩)) (by kernel_rfl) ?Nl (fun hHeld=>?_)
          case Nl=>first | exact K2.cell | exact K1.cell | exact KR.cell
          refine tk 0 ?_
          refine tk 1 ?_
          refine tk 2 ?_
          refine wpAnyH_take (i:=3) (oi:=_) (v:=_) (ga rfl) (by kernel_rfl) (by kernel_rfl) (by kernel_rfl) (fun _ _ _ h=>h) (yieldsIf_load_mid (by rfl) _ _ (by rfl) _ _ (by rfl) _ _ uG hun rfl (by kernel_rfl)) (by assumption) ?_
          try simp only [Act.put,la,lz,ls]
          refine tr 4 fun K hK=>?_
          go_simp
          (first | (go_at_call 145;refine (jP ⟨M.aQ,tg,fo⟩ ⟨a0,false,a2,a3,a4,gr,bl,b0,b1,b2,b3,b4,b5,b6,b7⟩ _ _ _ hg).mono ?_;rintro e w2 ⟨rfl,hb2⟩;have K2:=K1.call hb2) | (go_at_call 145;refine (jP ⟨M.aQ,tg,fo⟩ ⟨a0,false,a2,a3,a4,gr,bl,b0,b1,b2,b3,b4,b5,b6,b7⟩ _ _ _ hg).mono ?_;rintro e w1 ⟨rfl,hb1⟩;have K1:=KR.drew.call hb1) | (go_at_call 146;refine (lN _ _).mono ?_;rintro e dO ⟨rfl,rfl⟩))
          refine hK.out _ _ ?TN (fun hHeld=>?_)
          case TN=>(first | (first | exact K2.cell | exact K1.cell | exact KR.cell) | (dsimp only;first | exact K2.cell | exact K1.cell | exact KR.cell))
          clear hK K
          try simp only [Act.put,la,lz,ls]
          refine tk 5 ?_
          refine tk 6 ?_
          refine tk 7 ?_
          refine wpAnyH_take (i:=9) (oi:=_) (v:=_) (ga rfl) (by kernel_rfl) (by kernel_rfl) (by kernel_rfl) (fun _ _ _ h=>h) (yieldsIf_load_mid (by rfl) _ _ (by rfl) _ _ (by rfl) _ _ uG hun rfl (by kernel_rfl)) (by assumption) ?_
          try simp only [Act.put,la,lz,ls]
          refine tr 8 fun K hK=>?_
          go_simp
          (first | (go_at_call 145;refine (jP ⟨M.aQ,tg,fo⟩ ⟨a0,false,a2,a3,a4,gr,bl,b0,b1,b2,b3,b4,b5,b6,b7⟩ _ _ _ hg).mono ?_;rintro e w2 ⟨rfl,hb2⟩;have K2:=K1.call hb2) | (go_at_call 145;refine (jP ⟨M.aQ,tg,fo⟩ ⟨a0,false,a2,a3,a4,gr,bl,b0,b1,b2,b3,b4,b5,b6,b7⟩ _ _ _ hg).mono ?_;rintro e w1 ⟨rfl,hb1⟩;have K1:=KR.drew.call hb1) | (go_at_call 146;refine (lN _ _).mono ?_;rintro e dO ⟨rfl,rfl⟩))
          refine hK.out _ _ ?TP (fun hHeld=>?_)
          case TP=>(first | (first | exact K2.cell | exact K1.cell | exact KR.cell) | (dsimp only;first | exact K2.cell | exact K1.cell | exact KR.cell))
          clear hK K
          try simp only [Act.put,la,lz,ls]
          refine tr 10 fun K hK=>?_
          go_simp
          (first | (go_at_call 145;refine (jP ⟨M.aQ,tg,fo⟩ ⟨a0,false,a2,a3,a4,gr,bl,b0,b1,b2,b3,b4,b5,b6,b7⟩ _ _ _ hg).mono ?_;rintro e w2 ⟨rfl,hb2⟩;have K2:=K1.call hb2) | (go_at_call 145;refine (jP ⟨M.aQ,tg,fo⟩ ⟨a0,false,a2,a3,a4,gr,bl,b0,b1,b2,b3,b4,b5,b6,b7⟩ _ _ _ hg).mono ?_;rintro e w1 ⟨rfl,hb1⟩;have K1:=KR.drew.call hb1) | (go_at_call 146;refine (lN _ _).mono ?_;rintro e dO ⟨rfl,rfl⟩))
          refine hK.out _ _ ?QD (fun hHeld=>?_)
          case QD=>(first | (first | exact K2.cell | exact K1.cell | exact KR.cell) | (dsimp only;first | exact K2.cell | exact K1.cell | exact KR.cell))
          clear hK K
          try simp only [Act.put,la,lz,ls]
          refine tk 11 ?_
          refine tk 12 ?_
          refine tk 13 ?_
          refine wpAnyH_done (by kernel_rfl) ?_ _
          go_wp2
          go_roundw
          case rel=>exact ⟨k+1,by omega,by go_num,by rw [HS.out];exact ⟨⟨_,_,rfl⟩,(zM (zN hown hb1 DX) hb2),K2⟩⟩
          case measure=>simp [intOf];omega
  · obtain rfl:k=bl.length:=by omega
    rw [List.take_length] at hown ⊢
    have hfl:=List.length_filter_le (colour ⟨a0,false,a2,a3,a4,gr,bl,b0,b1,b2,b3,b4,b5,b6,b7⟩) bl
    by_cases hz:bl.filter (colour ⟨a0,false,a2,a3,a4,gr,bl,b0,b1,b2,b3,b4,b5,b6,b7⟩)=[]
    · have hz':(((bl.filter (colour ⟨a0,false,a2,a3,a4,gr,bl,b0,b1,b2,b3,b4,b5,b6,b7⟩)).length:Int) == 0)=true:=by rw [hz];rfl
      by_cases h8:(8:Int)∈bl
      · have HR:=hide (HT.out.trans (if_pos ⟨hz,h8⟩))
        have h8':decide ((8:Int)∈bl)=true:=decide_eq_true h8
        have XU:=(bD.lit wr 3 [8] (by simp) (fun b=>w.heap.size≤b) (by omega))
        clear HT hz h8
        go_wp2_with (go_at_call 95;refine (iZ S A c bl _ _ (hp.below KR.bw)).mono ?_;rintro e dO ⟨rfl,rfl⟩)
        go_ret
        rw [HR.out]
        exact ⟨_,_,rfl,XU,(KR.alloc _).bw⟩
      · have HR:=hide (HT.out.trans (if_neg (fun h=>h8 h.2)))
        have h8':decide ((8:Int)∈bl)=false:=decide_eq_false h8
        clear HT hz h8
        go_wp2_with (go_at_call 95;refine (iZ S A c bl _ _ (hp.below KR.bw)).mono ?_;rintro e dO ⟨rfl,rfl⟩)
        go_ret
        rw [HR.out]
        exact ⟨A1,c1',rfl,Reads.kG hown (fun b h=>by omega) (by omega),KR.bw⟩
    · have HR:=hide (HT.out.trans (if_neg (fun h=>hz h.1)))
      have hz':(((bl.filter (colour ⟨a0,false,a2,a3,a4,gr,bl,b0,b1,b2,b3,b4,b5,b6,b7⟩)).length:Int) == 0)=false:=by simpa using hz
      clear HT hz
      go_wp2
      go_ret
      rw [HR.out]
      exact ⟨A1,c1',rfl,Reads.kG hown (fun b h=>by omega) (by omega),KR.bw⟩
theorem uV (S:Nat→Prop) (r:M.Rules) (s:M.State) (A:Option Addr) (c:Nat) (w:World) (hp:bD w S A c s.ay) (hr:M.aH r=0) (hg:0≤s.group∧s.group≤2):
 Calls Tryz.prog 103 #[dH r s A c] w fun e w'=>∃ A' c',e= .returned (.slice A' (M.targets r s).length c')∧bD w' (fun b=>w.heap.size≤b) A' c' (M.targets r s)∧Below w.heap.size w w':=by
 rcases Oa hr with h | h | h
 · exact uy S r s A c w hp (.inl h)
 · rcases Bool.eq_false_or_eq_true s.brk with hb | hb
   · exact uy S r s A c w hp (.inr (.inr ⟨h,hb⟩))
   · obtain ⟨g,tg,fo⟩:=r
     simp only at h
     subst h
     exact yK S tg fo s A c w hp hb hg
 · exact uy S r s A c w hp (.inr (.inl h))
theorem J4 {r:M.Rules} {s:M.State} (h:M.jf r s=0):M.dw r s=0:=by
 unfold M.jf at h
 by_cases h1:M.dw r s=0
 · exact h1
 · rw [if_pos h1] at h;exact h
theorem zL {n a b:Int} (h:M.out n a b=false):a≤n∧n≤b:=by
 unfold M.out at h
 rw [decide_eq_false_iff_not] at h
 omega
theorem Dc (S:Nat→Prop) (r:M.Rules) (s:M.State) (A:Option Addr) (c:Nat) (w:World) (hp:bD w S A c s.ay):
 Calls Tryz.prog 48 #[jM r,wF s A c] w fun e w'=>∃ A' c',e= .returned (.tuple #[.slice A' (if M.jf r s=0 then M.targets r s else []).length c',.int .i64 (M.jf r s)])∧bD w' (fun b=>w.heap.size≤b) A' c' (if M.jf r s=0 then M.targets r s else [])∧Below w.heap.size w w':=by
 obtain ⟨c1,c2,c3⟩:=hp.bd
 by_cases hz:M.jf r s=0
 · have hh:=Om (J4 hz)
   have hr:=hh.rules
   have hg:=zL hh.group
   rw [if_pos hz,hz]
   have HZ:=hide hz
   clear hz hh
   have hT:=fun W h=>uV S r s A c W h hr hg
   obtain ⟨g,tg,fo⟩:=r
   obtain ⟨a0,a1,a2,a3,a4,gr,bl,b0,b1,b2,b3,b4,b5,b6,b7⟩:=s
   simp only at hp c1 c3
   have HT:=hide hT
   clear hT hr hg
   have K0:Keeps w ((w.alloc (.cells #[.string g,.int .i64 tg,.int .i64 fo] 23)).alloc (.cells #[.int .i64 a0,.bool a1,.bool a2,.bool a3,.bool a4,.int .i64 gr,.slice A bl.length c,.int .i64 b0,.int .i64 b1,.int .i64 b2,.int .i64 b3,.int .i64 b4,.int .i64 b5,.bool b6,.int .i64 b7] 33)) 2 ((w.alloc (.cells #[.string g,.int .i64 tg,.int .i64 fo] 23)).alloc (.cells #[.int .i64 a0,.bool a1,.bool a2,.bool a3,.bool a4,.int .i64 gr,.slice A bl.length c,.int .i64 b0,.int .i64 b1,.int .i64 b2,.int .i64 b3,.int .i64 b4,.int .i64 b5,.bool b6,.int .i64 b7] 33)):=Keeps.SQ w _ _
   go_enter Tryz.func48,Tryz.ntmps48
   go_wp2_with (first | (go_at_call 42;refine (xW S ⟨g,tg,fo⟩ ⟨a0,a1,a2,a3,a4,gr,bl,b0,b1,b2,b3,b4,b5,b6,b7⟩ A c _ (hp.below K0.bw)).mono ?_;rintro e w1 ⟨rfl,hb1⟩;rw [HZ.out];have K1:=K0.call hb1;have hc1:=K1.cell) | (go_at_call 103;refine (HT.out _ (hp.below K1.bw)).mono ?_;rintro e w2 ⟨A2,c2',rfl,hr2,hb2⟩;have K2:=K1.call hb2))
   go_ret2
   exact ⟨_,_,rfl,hr2.more (fun b _ h=>Nat.le_trans (Nat.le_trans (by omega) K1.sz) h),K2.bw⟩
 · rw [if_neg hz]
   have hz':(M.jf r s != 0)=true:=by simp [hz]
   clear hz
   obtain ⟨g,tg,fo⟩:=r
   obtain ⟨a0,a1,a2,a3,a4,gr,bl,b0,b1,b2,b3,b4,b5,b6,b7⟩:=s
   simp only at hp c1 c3
   have K0:Keeps w ((w.alloc (.cells #[.string g,.int .i64 tg,.int .i64 fo] 23)).alloc (.cells #[.int .i64 a0,.bool a1,.bool a2,.bool a3,.bool a4,.int .i64 gr,.slice A bl.length c,.int .i64 b0,.int .i64 b1,.int .i64 b2,.int .i64 b3,.int .i64 b4,.int .i64 b5,.bool b6,.int .i64 b7] 33)) 2 ((w.alloc (.cells #[.string g,.int .i64 tg,.int .i64 fo] 23)).alloc (.cells #[.int .i64 a0,.bool a1,.bool a2,.bool a3,.bool a4,.int .i64 gr,.slice A bl.length c,.int .i64 b0,.int .i64 b1,.int .i64 b2,.int .i64 b3,.int .i64 b4,.int .i64 b5,.bool b6,.int .i64 b7] 33)):=Keeps.SQ w _ _
   go_enter Tryz.func48,Tryz.ntmps48
   go_wp2_with (go_at_call 42;refine (xW S ⟨g,tg,fo⟩ ⟨a0,a1,a2,a3,a4,gr,bl,b0,b1,b2,b3,b4,b5,b6,b7⟩ A c _ (hp.below K0.bw)).mono ?_;rintro e w1 ⟨rfl,hb1⟩;have K1:=K0.call hb1)
   go_ret2
   exact ⟨none,0,rfl,Reads.none_ _ _ _,K1.bw⟩
end Go.Proofs.YtelpepbpdojikaaGreatDoor
namespace Go.Proofs.YtelpepbpdojikaaGreatDoor
theorem Bg:∀ (l seen:List M.rD),M.eH seen l=0→∀ p∈l,(0≤p.aJ∧p.aJ≤15)∧(1≤p.aP∧p.aP≤6)
 | [],_,_,p,hp=>by cases hp
 | q::l,seen,h,p,hp=>by
   rw [M.eH] at h
   split at h
   · cases h
   · next h1=>
     split at h
     · cases h
     · rw [not_or] at h1
       rcases List.mem_cons.1 hp with rfl | hp
       · exact ⟨zL (by simpa using h1.1),zL (by simpa using h1.2)⟩
       · exact Bg l _ h p hp
theorem wL {x:M.aI} (h:M.cZ x=0):vM x∧(∀ p∈x.aA,(0≤p.aJ∧p.aJ≤15)∧(1≤p.aP∧p.aP≤6))∧M.sK x=0:=by
 unfold M.cZ at h
 by_cases h1:M.iK x=0
 · rw [if_neg (by simp [h1])] at h
   by_cases h2:M.eH [] x.aA=0
   · rw [if_neg (by simp [h2])] at h
     exact ⟨Fe h1,Bg _ _ h2,h⟩
   · rw [if_pos h2] at h;exact absurd h h2
 · rw [if_pos h1] at h;exact absurd h h1
end Go.Proofs.YtelpepbpdojikaaGreatDoor
namespace Go.Proofs.YtelpepbpdojikaaGreatDoor
open Go.RowKit
theorem D8 (r:M.Rules) (s:M.State) (A:Option Addr) (c:Nat) (w:World):Calls Tryz.prog 126 #[dH r s A c] w fun e w'=>e= .returned (.bool (true))∧Below w.heap.size w w':=by
 go_enter Tryz.func126,Tryz.ntmps126
 go_wp2
 go_ret
 exact ⟨rfl,(Below.refl _ _).alloc (Nat.le_refl _) _⟩
theorem D9 (r:M.Rules) (s:M.State) (A:Option Addr) (c:Nat) (w:World):Calls Tryz.prog 127 #[dH r s A c] w fun e w'=>e= .returned (.bool (s.push))∧Below w.heap.size w w':=by
 go_enter Tryz.func127,Tryz.ntmps127
 go_wp2
 go_ret
 exact ⟨rfl,(Below.refl _ _).alloc (Nat.le_refl _) _⟩
theorem Ea (r:M.Rules) (s:M.State) (A:Option Addr) (c:Nat) (w:World):Calls Tryz.prog 128 #[dH r s A c] w fun e w'=>e= .returned (.bool (s.pushed))∧Below w.heap.size w w':=by
 go_enter Tryz.func128,Tryz.ntmps128
 go_wp2
 go_ret
 exact ⟨rfl,(Below.refl _ _).alloc (Nat.le_refl _) _⟩
theorem FC (k:ByteArray):∀ args w,(callFunc (Ic k) args).run Tryz.prog w= .ok (.enter (Ic k) args) w:=by
 unfold Ic
 split
 · exact enters_of Tryz.func127 (by kernel_rfl) rfl
 split
 · exact enters_of Tryz.func128 (by kernel_rfl) rfl
 · exact enters_of Tryz.func126 (by kernel_rfl) rfl
theorem Oz (k:ByteArray) (r:M.Rules) (s:M.State) (A:Option Addr) (c:Nat) (w:World):Calls Tryz.prog (Ic k) #[dH r s A c] w fun e w'=>e= .returned (.bool (M.permitted s k))∧Below w.heap.size w w':=by
 unfold Ic M.permitted
 split
 · exact D9 r s A c w
 split
 · exact Ea r s A c w
 · exact D8 r s A c w
section
variable {w:World} {Bf Bx Bc Bo Bk Bl:Nat} {r:M.Rules} {s:M.State} {x:M.aI} {A P:Option Addr} {c d:Nat} {S:Nat→Prop}
theorem Ah (k:ByteArray) (b1 b2:Bool) (hk:Box w Bk [.bool b1,.bool b2,.func (.func (Ic k)) #[] #[]]) (hf:Box w Bf (ah r s A c)):Asks 135 #[ptr Bk,ptr Bf] (M.permitted s k) w:=by
 refine ⟨enters_of Tryz.func135 (by kernel_rfl) rfl,fun W hb=>?_⟩
 have kk:=hk.below hb
 have Ye:=kk.2 2 _ rfl
 have kf:=hf.below hb
 have hrg:W.rangeAt Bf 0 [.string r.game,.int .i64 r.target,.int .i64 r.aY,.int .i64 s.turn,.bool s.brk,.bool s.hand,.bool s.push,.bool s.pushed,.int .i64 s.group,.slice A s.ay.length c,.int .i64 s.s0,.int .i64 s.s1,.int .i64 s.f0,.int .i64 s.f1,.int .i64 s.run,.int .i64 s.aZ,.bool s.over,.int .i64 s.bC]:=fun j v hj=>by rw [Nat.zero_add];exact kf.2 j v hj
 have hun:=Tryz.underlying127
 have HR:=hide hrg
 clear hrg kf
 have eg:=FC k
 have hcall:=fun W'=>Oz k r s A c W'
 obtain ⟨n,hn⟩:∃ n,Ic k=n:=⟨_,rfl⟩
 rw [hn] at Ye eg
 simp only [hn] at hcall
 have HC:=hide hcall
 clear hn hcall
 go_enter Tryz.func135,Tryz.ntmps135
 go_wp2_with (first | (go_at_fn n;refine (HC.out W).mono ?_;rintro e w2 ⟨rfl,hb2⟩) | (refine wpList_load_mid rfl 127 (.tmp 1) rfl Bf 0 rfl _ _ HR.out hun rfl (by kernel_rfl) ?_))
 go_ret
 exact ⟨rfl,hb.trans (hb2.mono hb.size)⟩
theorem Ip (ho:Box w Bo [.func (.func 131) #[] #[ptr Bf]]) (hf:Box w Bf (ah r s A c)) (hp:bD w S A c s.ay):yP 140 #[ptr Bo] Qg (fun b=>decide (b ∉ s.ay)) w:=by
 refine ⟨enters_of Tryz.func140 (by kernel_rfl) rfl,fun W b hb=>?_⟩
 have ko:=ho.below hb
 have WA:=ko.2 0 _ rfl
 go_enter Tryz.func140,Tryz.ntmps140
 go_wp2_with (go_at_call 131;refine (on_any hf hp _ _ hb).mono ?_;rintro e dO ⟨rfl,rfl⟩)
 go_ret
 exact ⟨bZ (by simp),hb⟩
theorem Dx (hx:Box w Bx (au ⟨x,P,d⟩)) (ho:Box w Bo [.func (.func 131) #[] #[ptr Bf]]) (hf:Box w Bf (ah r s A c)) (hp:bD w S A c s.ay) (hpp:jl w S P d x.aA) (hpos:∀ p∈x.aA,0≤p.aJ):
 Asks 138 #[ptr Bx,ptr Bo] (M.q7 s x) w:=by
 refine ⟨enters_of Tryz.func138 (by kernel_rfl) rfl,fun W hb=>?_⟩
 have kx:=hx.below hb
 have Ui:=kx.2 0 _ rfl
 have Uj:=kx.2 1 _ rfl
 have Vt:=kx.2 2 _ rfl
 have WB:=kx.2 3 _ rfl
 have SL:=kx.2 4 _ rfl
 have Uk:=kx.2 5 _ rfl
 have WC:=kx.2 6 _ rfl
 have CG:=jC S x P d W (hpp.below hb) hpos
 have hq:M.q7 s x=(!((M.objects x).any fun b=>decide (b ∉ s.ay)) && (decide (0<x.first) || decide (M.objects x=[]))):=by
  unfold M.q7;rw [Bool.eq_iff_iff];simp only [Bool.and_eq_true,Bool.not_eq_true',Bool.or_eq_true,decide_eq_true_eq]
 rw [hq]
 obtain ⟨zs,hzs⟩:∃ z,M.objects x=z:=⟨_,rfl⟩
 simp only [hzs] at CG ⊢
 clear hq hzs
 obtain ⟨b1,h1⟩:∃ b,(zs.any fun b=>decide (b ∉ s.ay))=b:=⟨_,rfl⟩
 rw [h1]
 have H1:=hide h1
 clear h1
 have HO:=hide CG
 clear CG
 have hz0:decide (zs=[])=((zs.length:Int) == 0):=by cases zs with | nil=>rfl | cons a l=>simp;omega
 rw [hz0]
 clear hz0
 obtain ⟨b3,h3⟩:∃ b,((zs.length:Int) == 0)=b:=⟨_,rfl⟩
 rw [h3]
 obtain ⟨b2,h2⟩:∃ b,decide (0<x.first)=b:=⟨_,rfl⟩
 rw [h2]
 have CF:∀ A1 c1 W1,bD W1 (fun b=>W.heap.size≤b) A1 c1 zs→Below w.heap.size w W1→Calls Tryz.prog 139 #[.slice A1 zs.length c1,.func (.func 140) #[] #[ptr Bo]] W1 fun e w'=>e= .returned (.bool b1)∧Below W1.heap.size W1 w':=fun A1 c1 W1 h hb1=>by
  have:=Hl _ A1 c1 zs _ _ _ W1 h (Ip (ho.below hb1) (hf.below hb1) (hp.below hb1))
  rwa [H1.out] at this
 have Uw:=hide CF
 clear CF
 cases b1 with
 | true=>
   go_enter Tryz.func138,Tryz.ntmps138
   go_wp2_with (first | (go_at_call 70;refine HO.out.mono ?_;rintro e w1 ⟨A1,c1,rfl,hr1,hb1⟩;have hb1':=hb.trans (hb1.mono hb.size);have SN:=(hb1'.cell (p:=⟨Bx,4,none⟩) hx.1).trans (hx.2 4 _ rfl)) | (go_at_call 139;refine (Uw.out _ _ _ hr1 hb1').mono ?_;rintro e w2 ⟨rfl,hb2⟩;have hb2':=hb1'.trans (hb2.mono hb1'.size);have Po:=(hb2'.cell (p:=⟨Bx,4,none⟩) hx.1).trans (hx.2 4 _ rfl)))
   go_ret
   exact ⟨bZ (by simp),hb2'⟩
 | false=>
   cases b2 with
   | true=>
     go_enter Tryz.func138,Tryz.ntmps138
     go_wp2_with (first | (go_at_call 70;refine HO.out.mono ?_;rintro e w1 ⟨A1,c1,rfl,hr1,hb1⟩;have hb1':=hb.trans (hb1.mono hb.size);have SN:=(hb1'.cell (p:=⟨Bx,4,none⟩) hx.1).trans (hx.2 4 _ rfl)) | (go_at_call 139;refine (Uw.out _ _ _ hr1 hb1').mono ?_;rintro e w2 ⟨rfl,hb2⟩;have hb2':=hb1'.trans (hb2.mono hb1'.size);have Po:=(hb2'.cell (p:=⟨Bx,4,none⟩) hx.1).trans (hx.2 4 _ rfl)))
     go_ret
     exact ⟨bZ (by simp),hb2'⟩
   | false=>
     cases b3
     all_goals
      go_enter Tryz.func138,Tryz.ntmps138
      go_wp2_with (first | (go_at_call 70;refine HO.out.mono ?_;rintro e w1 ⟨A1,c1,rfl,hr1,hb1⟩;have hb1':=hb.trans (hb1.mono hb.size);have SN:=(hb1'.cell (p:=⟨Bx,4,none⟩) hx.1).trans (hx.2 4 _ rfl)) | (go_at_call 139;refine (Uw.out _ _ _ hr1 hb1').mono ?_;rintro e w2 ⟨rfl,hb2⟩;have hb2':=hb1'.trans (hb2.mono hb1'.size);have Po:=(hb2'.cell (p:=⟨Bx,4,none⟩) hx.1).trans (hx.2 4 _ rfl)))
      go_ret
      exact ⟨bZ (by simp),hb2'⟩
end
theorem Keeps.box {w B W:World} {nb b:Nat} {cs:List Value} (h:Keeps w B nb W) (hb:Box B b cs) (hl:b<w.heap.size+nb):Box W b cs:=
 ⟨Nat.lt_of_lt_of_le hl h.sz,fun j v hj=>(h.cell b j hl).trans (hb.2 j v hj)⟩
def Yf:Nat→Nat:=fun j=>[132,133,134,135,136,137,138].getD j 0
def Yg (N D L:Nat):Nat→Array Value:=fun j=>[#[ptr N], #[ptr (N+3),ptr (N+1),ptr N], #[ptr (N+3),ptr N,ptr (N+1)], #[ptr D,ptr N], #[ptr L,ptr (N+2),ptr (N+1)], #[ptr (N+1),ptr (N+2)], #[ptr (N+1),ptr (N+2)]].getD j #[]
theorem Ig (S:Nat→Prop) (r:M.Rules) (s:M.State) (x:M.aI) (A P:Option Addr) (c d:Nat) (w:World) (hp:bD w S A c s.ay) (hpp:jl w S P d x.aA) (hx:vM x) (hpos:∀ p∈x.aA,0≤p.aJ):
 Calls Tryz.prog 96 #[dH r s A c,iO x P d] w fun e w'=>e= .returned (.int .i64 (M.legal r s x))∧Below w.heap.size w w':=by
 obtain ⟨e1,e2,e3⟩:=hpp.bd
 obtain ⟨e4,e5,e6⟩:=hp.bd
 rw [M.Ih r s x (zL hx.first).1]
 have hk:=hx.kind
 obtain ⟨g,tg,fo⟩:=r
 obtain ⟨a0,a1,a2,a3,a4,gr,bl,b0,b1,b2,b3,b4,b5,b6,b7⟩:=s
 obtain ⟨pl,kd,ba,po,fi,cu,aA⟩:=x
 simp only at hp hpp e1 e3 e4 e6 hk hpos
 have K0:Keeps w ((((w.alloc (.cells #[.string g,.int .i64 tg,.int .i64 fo,.int .i64 a0,.bool a1,.bool a2,.bool a3,.bool a4,.int .i64 gr,.slice A bl.length c,.int .i64 b0,.int .i64 b1,.int .i64 b2,.int .i64 b3,.int .i64 b4,.int .i64 b5,.bool b6,.int .i64 b7] 127)).alloc (.cells #[.int .i64 pl,.string kd,.int .i64 ba,.int .i64 po,.int .i64 fi,.bool cu,.slice P aA.length d] 66)).alloc (.cells #[.func (.func 131) #[] #[ptr w.heap.size]] 202)).alloc (.cells #[.bool (decide (kd=M.aT))] 4)) 4 ((((w.alloc (.cells #[.string g,.int .i64 tg,.int .i64 fo,.int .i64 a0,.bool a1,.bool a2,.bool a3,.bool a4,.int .i64 gr,.slice A bl.length c,.int .i64 b0,.int .i64 b1,.int .i64 b2,.int .i64 b3,.int .i64 b4,.int .i64 b5,.bool b6,.int .i64 b7] 127)).alloc (.cells #[.int .i64 pl,.string kd,.int .i64 ba,.int .i64 po,.int .i64 fi,.bool cu,.slice P aA.length d] 66)).alloc (.cells #[.func (.func 131) #[] #[ptr w.heap.size]] 202)).alloc (.cells #[.bool (decide (kd=M.aT))] 4)):=Keeps.of ((((Below.refl _ _).alloc (Nat.le_refl _) _).alloc (by simp) _).alloc (by simp;omega) _ |>.alloc (by simp;omega) _) (by simp)
 have hsz:((((w.alloc (.cells #[.string g,.int .i64 tg,.int .i64 fo,.int .i64 a0,.bool a1,.bool a2,.bool a3,.bool a4,.int .i64 gr,.slice A bl.length c,.int .i64 b0,.int .i64 b1,.int .i64 b2,.int .i64 b3,.int .i64 b4,.int .i64 b5,.bool b6,.int .i64 b7] 127)).alloc (.cells #[.int .i64 pl,.string kd,.int .i64 ba,.int .i64 po,.int .i64 fi,.bool cu,.slice P aA.length d] 66)).alloc (.cells #[.func (.func 131) #[] #[ptr w.heap.size]] 202)).alloc (.cells #[.bool (decide (kd=M.aT))] 4)).heap.size=w.heap.size+4:=by simp
 have hl0:=jg hk (w:=(((((w.alloc (.cells #[.string g,.int .i64 tg,.int .i64 fo,.int .i64 a0,.bool a1,.bool a2,.bool a3,.bool a4,.int .i64 gr,.slice A bl.length c,.int .i64 b0,.int .i64 b1,.int .i64 b2,.int .i64 b3,.int .i64 b4,.int .i64 b5,.bool b6,.int .i64 b7] 127)).alloc (.cells #[.int .i64 pl,.string kd,.int .i64 ba,.int .i64 po,.int .i64 fi,.bool cu,.slice P aA.length d] 66)).alloc (.cells #[.func (.func 131) #[] #[ptr w.heap.size]] 202)).alloc (.cells #[.bool (decide (kd=M.aT))] 4)).alloc (.map (kE 6) 6)).drew) (g:=w.heap.size+4) (by have h:=heap_alloc_new ((((w.alloc (.cells #[.string g,.int .i64 tg,.int .i64 fo,.int .i64 a0,.bool a1,.bool a2,.bool a3,.bool a4,.int .i64 gr,.slice A bl.length c,.int .i64 b0,.int .i64 b1,.int .i64 b2,.int .i64 b3,.int .i64 b4,.int .i64 b5,.bool b6,.int .i64 b7] 127)).alloc (.cells #[.int .i64 pl,.string kd,.int .i64 ba,.int .i64 po,.int .i64 fi,.bool cu,.slice P aA.length d] 66)).alloc (.cells #[.func (.func 131) #[] #[ptr w.heap.size]] 202)).alloc (.cells #[.bool (decide (kd=M.aT))] 4)) (.map (kE 6) 6);rwa [hsz] at h) false
 have hl1:=jg hk (w:=((((((w.alloc (.cells #[.string g,.int .i64 tg,.int .i64 fo,.int .i64 a0,.bool a1,.bool a2,.bool a3,.bool a4,.int .i64 gr,.slice A bl.length c,.int .i64 b0,.int .i64 b1,.int .i64 b2,.int .i64 b3,.int .i64 b4,.int .i64 b5,.bool b6,.int .i64 b7] 127)).alloc (.cells #[.int .i64 pl,.string kd,.int .i64 ba,.int .i64 po,.int .i64 fi,.bool cu,.slice P aA.length d] 66)).alloc (.cells #[.func (.func 131) #[] #[ptr w.heap.size]] 202)).alloc (.cells #[.bool (decide (kd=M.aT))] 4)).alloc (.map (kE 6) 6)).alloc (.cells #[.bool false,.bool false,.nilFunc] 158)).drew) (g:=w.heap.size+4) (by have h:=heap_alloc_new ((((w.alloc (.cells #[.string g,.int .i64 tg,.int .i64 fo,.int .i64 a0,.bool a1,.bool a2,.bool a3,.bool a4,.int .i64 gr,.slice A bl.length c,.int .i64 b0,.int .i64 b1,.int .i64 b2,.int .i64 b3,.int .i64 b4,.int .i64 b5,.bool b6,.int .i64 b7] 127)).alloc (.cells #[.int .i64 pl,.string kd,.int .i64 ba,.int .i64 po,.int .i64 fi,.bool cu,.slice P aA.length d] 66)).alloc (.cells #[.func (.func 131) #[] #[ptr w.heap.size]] 202)).alloc (.cells #[.bool (decide (kd=M.aT))] 4)) (.map (kE 6) 6);rw [hsz] at h;exact (heap_alloc_old _ _ (by simp)).trans h) false
 have hl2:=jg hk (w:=((((((w.alloc (.cells #[.string g,.int .i64 tg,.int .i64 fo,.int .i64 a0,.bool a1,.bool a2,.bool a3,.bool a4,.int .i64 gr,.slice A bl.length c,.int .i64 b0,.int .i64 b1,.int .i64 b2,.int .i64 b3,.int .i64 b4,.int .i64 b5,.bool b6,.int .i64 b7] 127)).alloc (.cells #[.int .i64 pl,.string kd,.int .i64 ba,.int .i64 po,.int .i64 fi,.bool cu,.slice P aA.length d] 66)).alloc (.cells #[.func (.func 131) #[] #[ptr w.heap.size]] 202)).alloc (.cells #[.bool (decide (kd=M.aT))] 4)).alloc (.cells #[.bool false,.bool false,.nilFunc] 158)).alloc (.map (kE 6) 6)).drew) (g:=w.heap.size+5) (by have h:=heap_alloc_new (((((w.alloc (.cells #[.string g,.int .i64 tg,.int .i64 fo,.int .i64 a0,.bool a1,.bool a2,.bool a3,.bool a4,.int .i64 gr,.slice A bl.length c,.int .i64 b0,.int .i64 b1,.int .i64 b2,.int .i64 b3,.int .i64 b4,.int .i64 b5,.bool b6,.int .i64 b7] 127)).alloc (.cells #[.int .i64 pl,.string kd,.int .i64 ba,.int .i64 po,.int .i64 fi,.bool cu,.slice P aA.length d] 66)).alloc (.cells #[.func (.func 131) #[] #[ptr w.heap.size]] 202)).alloc (.cells #[.bool (decide (kd=M.aT))] 4)).alloc (.cells #[.bool false,.bool false,.nilFunc] 158)) (.map (kE 6) 6);rwa [show (((((w.alloc (.cells #[.string g,.int .i64 tg,.int .i64 fo,.int .i64 a0,.bool a1,.bool a2,.bool a3,.bool a4,.int .i64 gr,.slice A bl.length c,.int .i64 b0,.int .i64 b1,.int .i64 b2,.int .i64 b3,.int .i64 b4,.int .i64 b5,.bool b6,.int .i64 b7] 127)).alloc (.cells #[.int .i64 pl,.string kd,.int .i64 ba,.int .i64 po,.int .i64 fi,.bool cu,.slice P aA.length d] 66)).alloc (.cells #[.func (.func 131) #[] #[ptr w.heap.size]] 202)).alloc (.cells #[.bool (decide (kd=M.aT))] 4)).alloc (.cells #[.bool false,.bool false,.nilFunc] 158)).heap.size=w.heap.size+5 by simp] at h) false
 have hcc:(kd.toList == [99,111,110,99,101,100,101])=decide (kd=M.aT):=by
  rw [Bool.eq_iff_iff,beq_iff_eq,decide_eq_true_eq];exact ⟨fun e=>lg (by rw [e,ByteArray.toList_eq]),fun e=>by subst e;rw [ByteArray.toList_eq]⟩
 clear hsz
 go_enter Tryz.func96,Tryz.ntmps96
 go_upto_region 3 with (fail)
 go_cut [7] (fun v7 wx=>∃ D,v7=ptr D∧Box wx D [.bool (M.jF kd),.bool (Pm kd),.func (.func (Ic kd)) #[] #[]]∧Keeps w ((((w.alloc (.cells #[.string g,.int .i64 tg,.int .i64 fo,.int .i64 a0,.bool a1,.bool a2,.bool a3,.bool a4,.int .i64 gr,.slice A bl.length c,.int .i64 b0,.int .i64 b1,.int .i64 b2,.int .i64 b3,.int .i64 b4,.int .i64 b5,.bool b6,.int .i64 b7] 127)).alloc (.cells #[.int .i64 pl,.string kd,.int .i64 ba,.int .i64 po,.int .i64 fi,.bool cu,.slice P aA.length d] 66)).alloc (.cells #[.func (.func 131) #[] #[ptr w.heap.size]] 202)).alloc (.cells #[.bool (decide (kd=M.aT))] 4)) 4 wx)
 case first=>
  go_region_held3 (fun w'=>∀ p q,p<w.heap.size+4→w'.cell? ⟨p,q,none⟩=((((w.alloc (.cells #[.string g,.int .i64 tg,.int .i64 fo,.int .i64 a0,.bool a1,.bool a2,.bool a3,.bool a4,.int .i64 gr,.slice A bl.length c,.int .i64 b0,.int .i64 b1,.int .i64 b2,.int .i64 b3,.int .i64 b4,.int .i64 b5,.bool b6,.int .i64 b7] 127)).alloc (.cells #[.int .i64 pl,.string kd,.int .i64 ba,.int .i64 po,.int .i64 fi,.bool cu,.slice P aA.length d] 66)).alloc (.cells #[.func (.func 131) #[] #[ptr w.heap.size]] 202)).alloc (.cells #[.bool (decide (kd=M.aT))] 4)).cell? ⟨p,q,none⟩) (first | exact K0.cell | exact (K0.alloc _).cell | exact ((K0.alloc _).alloc _).cell) (first | (go_at_call 84;refine (rF _).mono ?_;rintro e w1 ⟨rfl,rfl⟩))
  all_goals go_wp2
  all_goals go_meet
  all_goals exact ⟨_,rfl,by first | exact (Box.newAt _ [_,_,_] _ _ (by simp)) | exact (Box.newAt _ [_,_,_] _ _ (by simp)).alloc _,((K0.alloc _).alloc _).drew⟩
 case rest=>
  obtain ⟨D,rfl,hkb,K1⟩:=hcut
  clear hl0 hl1 hl2
  have hbf:Box wc w.heap.size (ah ⟨g,tg,fo⟩ ⟨a0,a1,a2,a3,a4,gr,bl,b0,b1,b2,b3,b4,b5,b6,b7⟩ A c):=K1.box ((((Box.new w (ah ⟨g,tg,fo⟩ ⟨a0,a1,a2,a3,a4,gr,bl,b0,b1,b2,b3,b4,b5,b6,b7⟩ A c) _).alloc _).alloc _).alloc _) (by omega)
  have hbx:Box wc (w.heap.size+1) (au ⟨⟨pl,kd,ba,po,fi,cu,aA⟩,P,d⟩):=K1.box (((Box.newAt _ (au ⟨⟨pl,kd,ba,po,fi,cu,aA⟩,P,d⟩) _ _ (by simp)).alloc _).alloc _) (by omega)
  have Uh:Box wc (w.heap.size+2) [.func (.func 131) #[] #[ptr w.heap.size]]:=K1.box ((Box.newAt _ [_] _ _ (by simp)).alloc _) (by omega)
  have hbc:Box wc (w.heap.size+3) [.bool (decide (kd=M.aT))]:=K1.box (Box.newAt _ [_] _ _ (by simp)) (by omega)
  have hp1:=hp.below K1.bw
  have Ia:=hpp.below K1.bw
  have hask:∀ v:Bool,v=M.calls ⟨g,tg,fo⟩ ⟨pl,kd,ba,po,fi,cu,aA⟩→Calls Tryz.prog 111 #[.slice (some ⟨wc.heap.size+1,0,none⟩) 7 7] ((wc.alloc (.cells #[.bool v] 4)).alloc (.cells #[.func (.func 132) #[] #[ptr w.heap.size],.func (.func 133) #[] #[ptr (w.heap.size+3),ptr (w.heap.size+1),ptr w.heap.size],.func (.func 134) #[] #[ptr (w.heap.size+3),ptr w.heap.size,ptr (w.heap.size+1)],.func (.func 135) #[] #[ptr D,ptr w.heap.size],.func (.func 136) #[] #[ptr wc.heap.size,ptr (w.heap.size+2),ptr (w.heap.size+1)],.func (.func 137) #[] #[ptr (w.heap.size+1),ptr (w.heap.size+2)],.func (.func 138) #[] #[ptr (w.heap.size+1),ptr (w.heap.size+2)]] 29)) fun e w'=>e= .returned (.int .i64 (M.dY 1 (M.CU ⟨g,tg,fo⟩ ⟨a0,a1,a2,a3,a4,gr,bl,b0,b1,b2,b3,b4,b5,b6,b7⟩ ⟨pl,kd,ba,po,fi,cu,aA⟩)))∧Below wc.heap.size wc w':=by
   intro v hv
   subst hv
   refine (Gu (wc.heap.size+1) 0 7 7 Yf (Yg w.heap.size D wc.heap.size) (M.CU ⟨g,tg,fo⟩ ⟨a0,a1,a2,a3,a4,gr,bl,b0,b1,b2,b3,b4,b5,b6,b7⟩ ⟨pl,kd,ba,po,fi,cu,aA⟩) _ rfl (by omega) (by simp) ?_ ?_).mono ?_
   · intro j hj
     rw [Nat.zero_add]
     match j,hj with
     | 0,_=>exact dZ _ [_,_,_,_,_,_,_] _ _ (by simp) 0 _ rfl
     | 1,_=>exact dZ _ [_,_,_,_,_,_,_] _ _ (by simp) 1 _ rfl
     | 2,_=>exact dZ _ [_,_,_,_,_,_,_] _ _ (by simp) 2 _ rfl
     | 3,_=>exact dZ _ [_,_,_,_,_,_,_] _ _ (by simp) 3 _ rfl
     | 4,_=>exact dZ _ [_,_,_,_,_,_,_] _ _ (by simp) 4 _ rfl
     | 5,_=>exact dZ _ [_,_,_,_,_,_,_] _ _ (by simp) 5 _ rfl
     | 6,_=>exact dZ _ [_,_,_,_,_,_,_] _ _ (by simp) 6 _ rfl
   · intro j hj _
     match j,hj with
     | 0,_=>exact JM ((hbf.alloc _).alloc _)
     | 1,_=>exact JO (x:=⟨pl,kd,ba,po,fi,cu,aA⟩) ((hbc.alloc _).alloc _) ((hbx.alloc _).alloc _) ((hbf.alloc _).alloc _)
     | 2,_=>exact G8 (x:=⟨pl,kd,ba,po,fi,cu,aA⟩) ((hbc.alloc _).alloc _) ((hbf.alloc _).alloc _) ((hbx.alloc _).alloc _)
     | 3,_=>exact Ah kd _ _ ((hkb.alloc _).alloc _) ((hbf.alloc _).alloc _)
     | 4,_=>exact JL (x:=⟨pl,kd,ba,po,fi,cu,aA⟩) ((Box.new wc [_] _).alloc _) ((Uh.alloc _).alloc _) ((hbx.alloc _).alloc _) ((hbf.alloc _).alloc _) ((hp1.alloc _).alloc _)
     | 5,_=>exact G9 (x:=⟨pl,kd,ba,po,fi,cu,aA⟩) ((hbx.alloc _).alloc _) ((Uh.alloc _).alloc _) ((hbf.alloc _).alloc _) ((hp1.alloc _).alloc _)
     | 6,_=>exact Dx (x:=⟨pl,kd,ba,po,fi,cu,aA⟩) ((hbx.alloc _).alloc _) ((Uh.alloc _).alloc _) ((hbf.alloc _).alloc _) ((hp1.alloc _).alloc _) ((Ia.alloc _).alloc _) hpos
   · rintro e w' ⟨rfl,hb'⟩
     exact ⟨rfl,(((Below.refl _ _).alloc (Nat.le_refl _) _).alloc (by simp) _).trans (hb'.mono (by simp;omega))⟩
  have HA:=hide hask
  have hk1:=hkb.2 1 _ rfl
  have hc1:=K1.cell
  obtain ⟨y1,hy1⟩:∃ y,Pm kd=y:=⟨_,rfl⟩
  obtain ⟨y2,hy2⟩:∃ y,(g.toList == [110,105,110,101])=y:=⟨_,rfl⟩
  have hcl:M.calls ⟨g,tg,fo⟩ ⟨pl,kd,ba,po,fi,cu,aA⟩=(y1 && !y2):=by
   rw [← hy1, ← hy2,xq];unfold M.calls Pm;rw [Bool.eq_iff_iff];simp
  have HC:=hide hcl
  rw [hy1] at hk1
  clear hask hcl hy1 hbf hbx Uh hbc hkb hp1 Ia hcc
  cases y1 <;> cases y2
  all_goals
   go_wp2_with (go_at_call 111;refine (HA.out _ (by rw [HC.out];rfl)).mono ?_;rintro e w2 ⟨rfl,hb2⟩)
   go_ret
   exact ⟨rfl,(K1.call hb2).bw⟩
section
variable {w:World} {Bf Bx Bp:Nat} {r:M.Rules} {s:M.State} {x:M.aI} {A P:Option Addr} {c d:Nat} {S:Nat→Prop}
theorem Ci (hx:Box w Bx (au ⟨x,P,d⟩)) (hpp:jl w S P d x.aA):Asks 112 #[ptr Bx] (!M.lu x) w:=by
 refine ⟨enters_of Tryz.func112 (by kernel_rfl) rfl,fun W hb=>?_⟩
 have kx:=hx.below hb
 have Ui:=kx.2 0 _ rfl
 have Uj:=kx.2 1 _ rfl
 have Vt:=kx.2 2 _ rfl
 have WB:=kx.2 3 _ rfl
 have SL:=kx.2 4 _ rfl
 have Uk:=kx.2 5 _ rfl
 have WC:=kx.2 6 _ rfl
 go_enter Tryz.func112,Tryz.ntmps112
 go_wp2_with (go_at_call 113;refine (AX S x P d _ (hpp.below hb)).mono ?_;rintro e w1 ⟨rfl,hb1⟩)
 go_ret
 exact ⟨rfl,hb.trans (hb1.mono hb.size)⟩
theorem E5 (hx:Box w Bx (au ⟨x,P,d⟩)):Asks 114 #[ptr Bx] (decide (0<x.first)) w:=by
 refine ⟨enters_of Tryz.func114 (by kernel_rfl) rfl,fun W hb=>?_⟩
 have kx:=hx.below hb
 have SL:=kx.2 4 _ rfl
 go_enter Tryz.func114,Tryz.ntmps114
 go_wp2
 go_ret
 exact ⟨rfl,hb⟩
theorem DN (hq:Box w Bp [.bool (decide (x.kind=M.eu))]) (hf:Box w Bf (ah r s A c)) (hx:Box w Bx (au ⟨x,P,d⟩)) (hp:bD w S A c s.ay) (hr:M.aH r=0) (hg:0≤s.group∧s.group≤2):
 Asks 115 #[ptr Bp,ptr Bf,ptr Bx] (decide (x.kind=M.eu∨x.first∈M.targets r s)) w:=by
 refine ⟨enters_of Tryz.func115 (by kernel_rfl) rfl,fun W hb=>?_⟩
 have kq:=hq.below hb
 have SK:=kq.2 0 _ rfl
 have kx:=hx.below hb
 have SL:=kx.2 4 _ rfl
 have kf:=hf.below hb
 have hT:=fun W h=>uV S r s A c W h hr hg
 have HT:=hide hT
 have uG:∀ w':World,(fun w':World=>∀ p q,p<W.heap.size→w'.cell? ⟨p,q,none⟩=W.cell? ⟨p,q,none⟩) w'→w'.rangeAt Bf 0 [.string r.game,.int .i64 r.target,.int .i64 r.aY,.int .i64 s.turn,.bool s.brk,.bool s.hand,.bool s.push,.bool s.pushed,.int .i64 s.group,.slice A s.ay.length c,.int .i64 s.s0,.int .i64 s.s1,.int .i64 s.f0,.int .i64 s.f1,.int .i64 s.run,.int .i64 s.aZ,.bool s.over,.int .i64 s.bC]:=fun w' h j v hj=>by rw [Nat.zero_add,h _ _ kf.1];exact kf.2 j v hj
 have hun:=Tryz.underlying127
 have hbx:=kx.1
 have hbq:=kq.1
 rw [show decide (x.kind=M.eu∨x.first∈M.targets r s)=(decide (x.kind=M.eu) || decide (x.first∈M.targets r s)) by rw [Bool.eq_iff_iff];simp]
 clear hT
 cases hy:decide (x.kind=M.eu) with
 | true=>
   rw [hy] at SK
   have HY:=hide hy
   clear hy
   go_enter Tryz.func115,Tryz.ntmps115
   go_wp2
   go_quiet (fail)
   go_wp2
   go_ret
   exact ⟨bZ (by simp),below_drewN hb _⟩
 | false=>
   rw [hy] at SK
   have HY:=hide hy
   clear hy
   go_enter Tryz.func115,Tryz.ntmps115
   go_wp2
   refine wp_region_held_drew (S:=(fun w':World=>∀ p q,p<W.heap.size→w'.cell? ⟨p,q,none⟩=W.cell? ⟨p,q,none⟩)) (by kernel_rfl) ?eP (fun hHeld=>?_)
   case eP=>first | exact fun p q h=>K1.cell p q (by omega) | exact fun p q h=>rfl
   refine tk 0 ?_
   refine tk 1 ?_
   refine wpAnyH_take (i:=2) (oi:=_) (v:=_) (ga rfl) (by kernel_rfl) (by kernel_rfl) (by kernel_rfl) (fun _ _ _ h=>h) (yieldsIf_load_mid (by rfl) _ _ (by rfl) _ _ (by rfl) _ _ uG hun rfl (by kernel_rfl)) (by assumption) ?_
   try simp only [Act.put,la,lz,ls]
   refine tk 4 ?_
   refine tk 5 ?_
   refine tr 3 fun K hK=>?_
   go_simp
   (first | (go_at_call 103;refine (HT.out W.drew (bD.drewN (hp.below hb) 1)).mono ?_;rintro e w1 ⟨A1,c1,rfl,hr1,hb1⟩;have K1:Keeps W W 0 w1:=(Keeps.WG W).drew.call hb1) | (go_at_call 95;refine (iZ _ A1 c1 _ _ _ hr1).mono ?_;rintro e dO ⟨rfl,rfl⟩))
   refine hK.out _ _ ?La (fun hHeld=>?_)
   case La=>(first | (first | exact fun p q h=>K1.cell p q (by omega) | exact fun p q h=>rfl) | (dsimp only;first | exact fun p q h=>K1.cell p q (by omega) | exact fun p q h=>rfl))
   clear hK K
   try simp only [Act.put,la,lz,ls]
   refine tr 6 fun K hK=>?_
   go_simp
   (first | (go_at_call 103;refine (HT.out W.drew (bD.drewN (hp.below hb) 1)).mono ?_;rintro e w1 ⟨A1,c1,rfl,hr1,hb1⟩;have K1:Keeps W W 0 w1:=(Keeps.WG W).drew.call hb1) | (go_at_call 95;refine (iZ _ A1 c1 _ _ _ hr1).mono ?_;rintro e dO ⟨rfl,rfl⟩))
   refine hK.out _ _ ?Lp (fun hHeld=>?_)
   case Lp=>(first | (first | exact fun p q h=>K1.cell p q (by omega) | exact fun p q h=>rfl) | (dsimp only;first | exact fun p q h=>K1.cell p q (by omega) | exact fun p q h=>rfl))
   clear hK K
   try simp only [Act.put,la,lz,ls]
   refine tk 7 ?_
   refine tk 8 ?_
   refine wpAnyH_done (by kernel_rfl) ?_ _
   go_wp2
   go_ret
   exact ⟨bZ (by simp),hb.trans (K1.bw.mono hb.size)⟩
theorem Ht (hq:Box w Bp [.bool (decide (x.kind=M.eu))]) (hx:Box w Bx (au ⟨x,P,d⟩)) (hpp:jl w S P d x.aA) (hpos:∀ p∈x.aA,0≤p.aJ):
 Asks 116 #[ptr Bp,ptr Bx] (decide (x.kind=M.eu∨x.dA=true∨0<(M.objects x).length)) w:=by
 refine ⟨enters_of Tryz.func116 (by kernel_rfl) rfl,fun W hb=>?_⟩
 have kq:=hq.below hb
 have SK:=kq.2 0 _ rfl
 have kx:=hx.below hb
 have Ui:=kx.2 0 _ rfl
 have Uj:=kx.2 1 _ rfl
 have Vt:=kx.2 2 _ rfl
 have WB:=kx.2 3 _ rfl
 have SL:=kx.2 4 _ rfl
 have Uk:=kx.2 5 _ rfl
 have WC:=kx.2 6 _ rfl
 have CG:=jC S {x with dA:=false } P d W (hpp.below hb) hpos
 rw [show M.objects {x with dA:=false }=M.objects x from rfl] at CG
 have HO:=hide CG
 rw [show decide (x.kind=M.eu∨x.dA=true∨0<(M.objects x).length)=(decide (x.kind=M.eu) || (x.dA || decide (0<(M.objects x).length))) by rw [Bool.eq_iff_iff];simp]
 clear CG
 cases hy:decide (x.kind=M.eu) with
 | true=>
   rw [hy] at SK
   have HY:=hide hy
   clear hy
   go_enter Tryz.func116,Tryz.ntmps116
   go_wp2
   go_ret
   exact ⟨bZ (by simp),hb⟩
 | false=>
   rw [hy] at SK
   have HY:=hide hy
   clear hy
   cases hc:x.dA with
   | true=>
     rw [hc] at Uk
     go_enter Tryz.func116,Tryz.ntmps116
     go_wp2
     go_ret
     exact ⟨bZ (by simp),hb⟩
   | false=>
     rw [hc] at Uk
     go_enter Tryz.func116,Tryz.ntmps116
     go_wp2_with (go_at_call 70;refine HO.out.mono ?_;rintro e w1 ⟨A1,c1,rfl,hr1,hb1⟩)
     go_ret
     exact ⟨bZ (by simp),hb.trans (hb1.mono hb.size)⟩
end
def Xk:Nat→Nat:=fun j=>[112,114,115,116].getD j 0
def Xl (N L:Nat):Nat→Array Value:=fun j=>[#[ptr (N+1)], #[ptr (N+1)], #[ptr L,ptr N,ptr (N+1)], #[ptr L,ptr (N+1)]].getD j #[]
theorem wO (S:Nat→Prop) (r:M.Rules) (s:M.State) (x:M.aI) (A P:Option Addr) (c d:Nat) (w:World) (hp:bD w S A c s.ay) (hpp:jl w S P d x.aA) (hx:vM x) (hpos:∀ p∈x.aA,0≤p.aJ) (hr:M.aH r=0) (hg:0≤s.group∧s.group≤2):
 Calls Tryz.prog 66 #[dH r s A c,iO x P d] w fun e w'=>e= .returned (.int .i64 (M.iW r s x))∧Below w.heap.size w w':=by
 obtain ⟨e1,e2,e3⟩:=hpp.bd
 obtain ⟨e4,e5,e6⟩:=hp.bd
 rw [M.J9 r s x (zL hx.first).1]
 have hk:=hx.kind
 obtain ⟨g,tg,fo⟩:=r
 obtain ⟨a0,a1,a2,a3,a4,gr,bl,b0,b1,b2,b3,b4,b5,b6,b7⟩:=s
 obtain ⟨pl,kd,ba,po,fi,cu,aA⟩:=x
 simp only at hp hpp e1 e3 e4 e6 hk hpos hg
 have K0:Keeps w ((w.alloc (.cells #[.string g,.int .i64 tg,.int .i64 fo,.int .i64 a0,.bool a1,.bool a2,.bool a3,.bool a4,.int .i64 gr,.slice A bl.length c,.int .i64 b0,.int .i64 b1,.int .i64 b2,.int .i64 b3,.int .i64 b4,.int .i64 b5,.bool b6,.int .i64 b7] 127)).alloc (.cells #[.int .i64 pl,.string kd,.int .i64 ba,.int .i64 po,.int .i64 fi,.bool cu,.slice P aA.length d] 66)) 2 ((w.alloc (.cells #[.string g,.int .i64 tg,.int .i64 fo,.int .i64 a0,.bool a1,.bool a2,.bool a3,.bool a4,.int .i64 gr,.slice A bl.length c,.int .i64 b0,.int .i64 b1,.int .i64 b2,.int .i64 b3,.int .i64 b4,.int .i64 b5,.bool b6,.int .i64 b7] 127)).alloc (.cells #[.int .i64 pl,.string kd,.int .i64 ba,.int .i64 po,.int .i64 fi,.bool cu,.slice P aA.length d] 66)):=Keeps.SQ w _ _
 have hsz:((w.alloc (.cells #[.string g,.int .i64 tg,.int .i64 fo,.int .i64 a0,.bool a1,.bool a2,.bool a3,.bool a4,.int .i64 gr,.slice A bl.length c,.int .i64 b0,.int .i64 b1,.int .i64 b2,.int .i64 b3,.int .i64 b4,.int .i64 b5,.bool b6,.int .i64 b7] 127)).alloc (.cells #[.int .i64 pl,.string kd,.int .i64 ba,.int .i64 po,.int .i64 fi,.bool cu,.slice P aA.length d] 66)).heap.size=w.heap.size+2:=by simp
 have hl0:=jg hk (w:=(((w.alloc (.cells #[.string g,.int .i64 tg,.int .i64 fo,.int .i64 a0,.bool a1,.bool a2,.bool a3,.bool a4,.int .i64 gr,.slice A bl.length c,.int .i64 b0,.int .i64 b1,.int .i64 b2,.int .i64 b3,.int .i64 b4,.int .i64 b5,.bool b6,.int .i64 b7] 127)).alloc (.cells #[.int .i64 pl,.string kd,.int .i64 ba,.int .i64 po,.int .i64 fi,.bool cu,.slice P aA.length d] 66)).alloc (.map (kE 6) 6)).drew) (g:=w.heap.size+2) (by have h:=heap_alloc_new ((w.alloc (.cells #[.string g,.int .i64 tg,.int .i64 fo,.int .i64 a0,.bool a1,.bool a2,.bool a3,.bool a4,.int .i64 gr,.slice A bl.length c,.int .i64 b0,.int .i64 b1,.int .i64 b2,.int .i64 b3,.int .i64 b4,.int .i64 b5,.bool b6,.int .i64 b7] 127)).alloc (.cells #[.int .i64 pl,.string kd,.int .i64 ba,.int .i64 po,.int .i64 fi,.bool cu,.slice P aA.length d] 66)) (.map (kE 6) 6);rwa [hsz] at h) false
 have hpu:(kd.toList == [112,117,115,104])=decide (kd=M.eu):=by
  rw [Bool.eq_iff_iff,beq_iff_eq,decide_eq_true_eq];exact ⟨fun e=>lg (by rw [e,ByteArray.toList_eq]),fun e=>by subst e;rw [ByteArray.toList_eq]⟩
 clear hsz
 have hfd:∀ (a b:Bool) (f:Value) (w:World),(Instr.field 158 (.agg #[.bool a,.bool b,f]) 0).run Tryz.prog w= .ok (.bool a) w:=fun _ _ _ _=>by kernel_rfl
 go_enter Tryz.func66,Tryz.ntmps66
 go_upto_region 1 with (fail)
 go_cut [11] (fun v wx=>v= .bool (!M.jF kd)∧Keeps w ((w.alloc (.cells #[.string g,.int .i64 tg,.int .i64 fo,.int .i64 a0,.bool a1,.bool a2,.bool a3,.bool a4,.int .i64 gr,.slice A bl.length c,.int .i64 b0,.int .i64 b1,.int .i64 b2,.int .i64 b3,.int .i64 b4,.int .i64 b5,.bool b6,.int .i64 b7] 127)).alloc (.cells #[.int .i64 pl,.string kd,.int .i64 ba,.int .i64 po,.int .i64 fi,.bool cu,.slice P aA.length d] 66)) 2 wx)
 case first=>
  refine wp_region_held_drew (S:=(fun w'=>∀ p q,p<w.heap.size+2→w'.cell? ⟨p,q,none⟩=((w.alloc (.cells #[.string g,.int .i64 tg,.int .i64 fo,.int .i64 a0,.bool a1,.bool a2,.bool a3,.bool a4,.int .i64 gr,.slice A bl.length c,.int .i64 b0,.int .i64 b1,.int .i64 b2,.int .i64 b3,.int .i64 b4,.int .i64 b5,.bool b6,.int .i64 b7] 127)).alloc (.cells #[.int .i64 pl,.string kd,.int .i64 ba,.int .i64 po,.int .i64 fi,.bool cu,.slice P aA.length d] 66)).cell? ⟨p,q,none⟩)) (by kernel_rfl) ?eP (fun hHeld=>?_)
  case eP=>first | exact K0.cell | exact (K0.alloc _).cell
  refine tk 1 ?_
  refine tk 2 ?_
  refine tr 0 fun K hK=>?_
  go_simp
  (go_at_call 84;refine (rF _).mono ?_;rintro e w1 ⟨rfl,rfl⟩)
  refine hK.out _ _ ?Tc (fun hHeld=>?_)
  case Tc=>(first | (first | exact K0.cell | exact (K0.alloc _).cell) | (dsimp only;first | exact K0.cell | exact (K0.alloc _).cell))
  clear hK K
  try simp only [Act.put,la,lz,ls]
  refine tr 3 fun K hK=>?_
  go_simp
  refine hK.out _ _ ?La (fun hHeld=>?_)
  case La=>(first | (first | exact K0.cell | exact (K0.alloc _).cell) | (dsimp only;first | exact K0.cell | exact (K0.alloc _).cell))
  clear hK K
  try simp only [Act.put,la,lz,ls]
  refine tk 4 ?_
  refine tk 5 ?_
  refine wpAnyH_done (by kernel_rfl) ?_ _
  go_wp2
  go_meet
  exact ⟨rfl,(K0.alloc _).drew⟩
 case rest=>
  obtain ⟨rfl,K1⟩:=hcut
  clear hl0
  have hbf:Box wc w.heap.size (ah ⟨g,tg,fo⟩ ⟨a0,a1,a2,a3,a4,gr,bl,b0,b1,b2,b3,b4,b5,b6,b7⟩ A c):=K1.box ((Box.new w (ah ⟨g,tg,fo⟩ ⟨a0,a1,a2,a3,a4,gr,bl,b0,b1,b2,b3,b4,b5,b6,b7⟩ A c) _).alloc _) (by omega)
  have hbx:Box wc (w.heap.size+1) (au ⟨⟨pl,kd,ba,po,fi,cu,aA⟩,P,d⟩):=K1.box (Box.newAt _ (au ⟨⟨pl,kd,ba,po,fi,cu,aA⟩,P,d⟩) _ _ (by simp)) (by omega)
  have hp1:=hp.below K1.bw
  have Ia:=hpp.below K1.bw
  have hask:Calls Tryz.prog 111 #[.slice (some ⟨wc.heap.size+1,0,none⟩) 4 4] ((wc.alloc (.cells #[.bool (decide (kd=M.eu))] 4)).alloc (.cells #[.func (.func 112) #[] #[ptr (w.heap.size+1)],.func (.func 114) #[] #[ptr (w.heap.size+1)],.func (.func 115) #[] #[ptr wc.heap.size,ptr w.heap.size,ptr (w.heap.size+1)],.func (.func 116) #[] #[ptr wc.heap.size,ptr (w.heap.size+1)]] 29)) fun e w'=>e= .returned (.int .i64 (M.dY 1 (M.Gz ⟨g,tg,fo⟩ ⟨a0,a1,a2,a3,a4,gr,bl,b0,b1,b2,b3,b4,b5,b6,b7⟩ ⟨pl,kd,ba,po,fi,cu,aA⟩)))∧Below wc.heap.size wc w':=by
   refine (Gu (wc.heap.size+1) 0 4 4 Xk (Xl w.heap.size wc.heap.size) (M.Gz ⟨g,tg,fo⟩ ⟨a0,a1,a2,a3,a4,gr,bl,b0,b1,b2,b3,b4,b5,b6,b7⟩ ⟨pl,kd,ba,po,fi,cu,aA⟩) _ rfl (by omega) (by simp) ?_ ?_).mono ?_
   · intro j hj
     rw [Nat.zero_add]
     match j,hj with
     | 0,_=>exact dZ _ [_,_,_,_] _ _ (by simp) 0 _ rfl
     | 1,_=>exact dZ _ [_,_,_,_] _ _ (by simp) 1 _ rfl
     | 2,_=>exact dZ _ [_,_,_,_] _ _ (by simp) 2 _ rfl
     | 3,_=>exact dZ _ [_,_,_,_] _ _ (by simp) 3 _ rfl
   · intro j hj _
     match j,hj with
     | 0,_=>exact Ci (x:=⟨pl,kd,ba,po,fi,cu,aA⟩) ((hbx.alloc _).alloc _) ((Ia.alloc _).alloc _)
     | 1,_=>exact E5 (x:=⟨pl,kd,ba,po,fi,cu,aA⟩) ((hbx.alloc _).alloc _)
     | 2,_=>exact DN (x:=⟨pl,kd,ba,po,fi,cu,aA⟩) ((Box.new wc [_] _).alloc _) ((hbf.alloc _).alloc _) ((hbx.alloc _).alloc _) ((hp1.alloc _).alloc _) hr hg
     | 3,_=>exact Ht (x:=⟨pl,kd,ba,po,fi,cu,aA⟩) ((Box.new wc [_] _).alloc _) ((hbx.alloc _).alloc _) ((Ia.alloc _).alloc _) hpos
   · rintro e w' ⟨rfl,hb'⟩
     exact ⟨rfl,(((Below.refl _ _).alloc (Nat.le_refl _) _).alloc (by simp) _).trans (hb'.mono (by simp;omega))⟩
  have HA:=hide hask
  have hc1:=K1.cell
  clear hask hbf hbx hp1 Ia
  cases hpl:M.jF kd with
  | true=>
    have HP:=hide hpl
    clear hpl
    go_wp2_with (go_at_call 111;refine HA.out.mono ?_;rintro e w2 ⟨rfl,hb2⟩)
    go_ret
    exact ⟨rfl,(K1.call hb2).bw⟩
  | false=>
    have HP:=hide hpl
    clear hpl
    have hpn:(!false)=true:=rfl
    go_wp2
    all_goals first | (go_ret;exact ⟨rfl,K1.bw⟩) | (exfalso;have:=HP.out;simp_all;done)
end Go.Proofs.YtelpepbpdojikaaGreatDoor
