/- Parts of a proof. -/
import Derived.Test.YtcjglfbpjkdgiaaGreatDoorKk9
set_option maxHeartbeats 4000000
set_option maxRecDepth 100000
set_option linter.unusedVariables false
set_option linter.unusedSimpArgs false
namespace Go.Proofs.YtcjglfbpjkdgiaaGreatDoor
open Go.RowKit
theorem tk {P:Program} {md:Region.Mode} {ops:Array Oper} {Q:Exit→Act→World→Prop} {S:World→Prop} {oi:Oper} {v:Value} {fuel:Nat} {listed l':Array Bool} {a a':Act} {w:World} (i:Nat) (h:wpAnyH P md ops Q S fuel l' a' w) (hi:ops[i]? =some oi:=by exact ga rfl) (h3:(Region.noSelect ops && (Region.free md ops listed i && (Region.ready md ops listed).contains i))=true:=by kernel_rfl) (hw:Region.wanted oi (yielded ops a.tmps)=true:=by rfl) (hS:S w:=by assumption) (hQ:∀ c a w,Q (.panic c) (a.put oi.dst v) w→Q (.panic c) a w:=by exact fun _ _ _ h=>h) (hy:∀ w,S w→(execOp a.eval oi).run P w= .ok (.value v) w:=by (intro w hSw;(try dsimp only at hSw);go_simp;try with_reducible rfl)) (hl:listed.setIfInBounds i true=l':=by (try simp only [la,lz,ls]);exact rfl) (ha:a.put oi.dst v=a':=by (try simp only [Act.put,la,lz,ls]);exact rfl):wpAnyH P md ops Q S (fuel+1) listed a w:=by
 subst hl ha;rw [Bool.and_eq_true,Bool.and_eq_true] at h3;exact wpAnyH_take hi h3.1 h3.2.1 h3.2.2 hQ (Or.inl ⟨hw,hy⟩) hS h
theorem qX {r:M.Rules} {s:M.State} {b:Bool} (hb:b=decide (s.group≠0∧r.game≠M.bF)):aS [M.aQ r,wi s.turn 0 1,wi s.bP 0 1,wi s.group 0 2,wh b 3]=M.dR r s:=by
 subst hb
 unfold M.dR
 simp only [aS,wi,wh]
 by_cases h0:M.aQ r=0
 · by_cases h1:M.out s.turn 0 1=true
   · simp [h0,h1]
   by_cases h2:M.out s.bP 0 1=true
   · simp [h0,h1,h2]
   by_cases h3:M.out s.group 0 2=true
   · simp [h0,h1,h2,h3]
   by_cases h4:s.group≠0∧r.game≠M.bF
   · simp [h0,h1,h2,h3,h4]
   · simp only [h0,h1,h2,h3,h4];simp
 · simp [h0]
theorem vK {l:List Int} {k:Nat} (n:Int) (hk:k<l.length):M.gu n (lastOf l k) (l.drop k)=
 if aS [wi l[k] 1 n,wh (rG l k) 11]≠0 then aS [wi l[k] 1 n,wh (rG l k) 11] else M.gu n (lastOf l (k+1)) (l.drop (k+1)):=by
 rw [FK n hk]
 by_cases h1:M.out l[k] 1 n=true
 · simp [aS,wi,wh,h1]
 by_cases h2:rG l k=true
 · simp [aS,wi,wh,h1,h2]
 · simp [aS,wi,wh,h1,h2]
theorem Ur {l:List Int} {k:Nat} (hk:k+1<l.length):rG l (k+1)=decide (l[k+1]≤l[k]):=by
 unfold rG lastOf
 have h:k<l.length:=by omega
 simp [hk,h,List.getD_eq_getElem?_getD]
def miss (g:ByteArray) (bl:List Int):Bool:=decide (bl=[]) || (decide (0<need g) && !decide (need g∈bl))
theorem Gy (r:M.Rules) (s:M.State):M.missing r s=miss r.game s.au:=by
 unfold M.missing miss need
 by_cases h0:s.au=[]
 · simp [h0]
 by_cases h1:r.game=M.bF
 · have:M.bF≠M.dA:=by decide
   simp [h0,h1,this]
 by_cases h2:r.game=M.dA
 · simp [h0,h1,h2]
 · simp [h0,h1,h2]
def pushB (g:ByteArray) (brk push pushed:Bool):Bool:=(push || pushed) && (!decide (g=M.dA) || (push && pushed) || brk)
theorem FN (r:M.Rules) (s:M.State):M.vY r s=pushB r.game s.brk s.push s.pushed:=by
 unfold M.vY pushB
 by_cases h:r.game=M.dA <;> cases s.push <;> cases s.pushed <;> cases s.brk <;> simp [h]
theorem FQ {r:M.Rules} {s:M.State} (h1:M.dR r s=0) (h2:M.gu (M.fH r.game) none s.au=0) (h3:M.dK r s=0) (b:Bool)
 (hb:b=(pushB r.game s.brk s.push s.pushed || (!s.over && (!decide (s.bP=0) || miss r.game s.au)))):M.eH r s=wh b 19:=by
 subst hb
 unfold M.eH
 rw [if_neg (by simp [h1]),if_neg (by simp [h2]),if_neg (by simp [h3])]
 unfold M.kV
 rw [FN,Gy]
 unfold wh
 congr 1
 rw [eq_iff_iff]
 cases pushB r.game s.brk s.push s.pushed <;> cases s.over <;> cases miss r.game s.au <;> by_cases h:s.bP=0 <;> simp [h]
theorem FP {r:M.Rules} {s:M.State} (h1:M.dR r s=0) (h2:M.gu (M.fH r.game) none s.au=0) (h3:M.dK r s≠0):M.eH r s=M.dK r s:=by
 unfold M.eH
 rw [if_neg (by simp [h1]),if_neg (by simp [h2]),if_pos h3]
 unfold M.dK at h3 ⊢;split at h3 <;> simp_all
theorem rQ {r:M.Rules} {s:M.State} (h1:M.dR r s=0) (h2:M.gu (M.fH r.game) none s.au≠0):M.eH r s=M.gu (M.fH r.game) none s.au:=by
 unfold M.eH
 rw [if_neg (by simp [h1]),if_pos h2]
theorem D5 {r:M.Rules} {s:M.State} (h1:M.dR r s≠0):M.eH r s=M.dR r s:=by
 unfold M.eH
 rw [if_pos h1]
theorem headB {gr:Int} {g:ByteArray} {x y:Bool} (h0:(gr != 0)=x) (h1:(g.toList == [101,105,103,104,116])=y):(x && !y)=decide (gr≠0∧g≠M.bF):=by
 have e1:(g.toList == [101,105,103,104,116])=decide (g=M.bF):=by rw [Bool.eq_iff_iff,beq_iff_eq,decide_eq_true_eq];exact ⟨fun e=>kU (by rw [e,ByteArray.toList_eq]),fun e=>by subst e;rw [ByteArray.toList_eq]⟩
 subst h0 h1;rw [e1]
 by_cases a:gr=0 <;> by_cases b:g=M.bF <;> simp [a,b]
theorem WG (r:M.Rules):(M.jr r).length=M.fH r.game:=kQ _
theorem yO (k:ByteArray):(k.toList == [110,105,110,101])=decide (k=M.dA):=by
 rw [Bool.eq_iff_iff,beq_iff_eq,decide_eq_true_eq];exact ⟨fun e=>kU (by rw [e,ByteArray.toList_eq]),fun e=>by subst e;rw [ByteArray.toList_eq]⟩
theorem uF (S:Nat→Prop) (r:M.Rules) (s:M.State) (A:Option Addr) (c:Nat) (w:World) (hp:bQ w S A c s.au):
 Calls Tryz.prog 47 #[iJ r,oK s A c] w fun e w'=>e= .returned (.int .i64 (M.eH r s))∧Below w.heap.size w w':=by
 obtain ⟨e4,e5,e6⟩:=hp.bd;obtain ⟨g,tg,fo⟩:=r;obtain ⟨a0,a1,a2,a3,a4,gr,bl,b0,b1,b2,b3,b4,b5,b6,b7⟩:=s
 simp only at hp e4 e6
 have K0:Keeps w ((w.alloc (.cells #[.string g,.int .i64 tg,.int .i64 fo] 23)).alloc (.cells #[.int .i64 a0,.bool a1,.bool a2,.bool a3,.bool a4,.int .i64 gr,.slice A bl.length c,.int .i64 b0,.int .i64 b1,.int .i64 b2,.int .i64 b3,.int .i64 b4,.int .i64 b5,.bool b6,.int .i64 b7] 53)) 2 ((w.alloc (.cells #[.string g,.int .i64 tg,.int .i64 fo] 23)).alloc (.cells #[.int .i64 a0,.bool a1,.bool a2,.bool a3,.bool a4,.int .i64 gr,.slice A bl.length c,.int .i64 b0,.int .i64 b1,.int .i64 b2,.int .i64 b3,.int .i64 b4,.int .i64 b5,.bool b6,.int .i64 b7] 53)):=Keeps.of2 w _ _;have Zg:=fun W=>Dw ⟨g,tg,fo⟩ W;rw [WG] at Zg
 go_enter Tryz.func47,Tryz.ntmps47
 go_upto_region 1 with fail
 go_cut [0,1,5] (fun _ _ v wx=>v= .int .i64 (M.dR ⟨g,tg,fo⟩ ⟨a0,a1,a2,a3,a4,gr,bl,b0,b1,b2,b3,b4,b5,b6,b7⟩)∧Keeps w ((w.alloc (.cells #[.string g,.int .i64 tg,.int .i64 fo] 23)).alloc (.cells #[.int .i64 a0,.bool a1,.bool a2,.bool a3,.bool a4,.int .i64 gr,.slice A bl.length c,.int .i64 b0,.int .i64 b1,.int .i64 b2,.int .i64 b3,.int .i64 b4,.int .i64 b5,.bool b6,.int .i64 b7] 53)) 2 wx)
 case first=>
  obtain ⟨y,y1⟩:∃ y,(g.toList == [101,105,103,104,116])=y:=⟨_,rfl⟩
  rcases Bool.eq_false_or_eq_true (gr != 0) with y0 | y0
  · refine wp_region_held_drew (S:=(fun w'=>∀ p q,p<w.heap.size+2→w'.cell? ⟨p,q,none⟩=((w.alloc (.cells #[.string g,.int .i64 tg,.int .i64 fo] 23)).alloc (.cells #[.int .i64 a0,.bool a1,.bool a2,.bool a3,.bool a4,.int .i64 gr,.slice A bl.length c,.int .i64 b0,.int .i64 b1,.int .i64 b2,.int .i64 b3,.int .i64 b4,.int .i64 b5,.bool b6,.int .i64 b7] 53)).cell? ⟨p,q,none⟩)) (by kernel_rfl) ?jm (fun hHeld=>?_)
    case jm=>first | exact K0.cell | exact K1.cell | exact (K1.alloc _).cell
    refine tk 0 ?_;refine tk 2 ?_;refine tk 3 ?_;refine tk 5 ?_;refine tk 6 ?_;refine tk 8 ?_;refine tk 9 ?_;refine tk 11 ?_;refine tk 12 ?_;refine tk 13 ?_;refine tr 1 fun K hK=>?_;go_simp
    (first | (go_at_call 64;refine (bU _ _ _ _).mono ?_;rintro e eY ⟨rfl,rfl⟩) | (go_at_call 30;refine (dF _ _ _).mono ?_;rintro e eY ⟨rfl,rfl⟩) | (go_at_call 67;refine (fK ⟨g,tg,fo⟩ _).mono ?_;rintro e w1 ⟨rfl,hb1⟩;have K1:=K0.drew.call hb1) | (go_at_call 28;refine (first_any (fun _=>True) _ _ [M.aQ ⟨g,tg,fo⟩,wi a0 0 1,wi b7 0 1,wi gr 0 2,wh _ 3] _ (bQ.lit _ _ [M.aQ ⟨g,tg,fo⟩,wi a0 0 1,wi b7 0 1,wi gr 0 2,wh _ 3] (by simp) _ trivial)).mono ?_;rintro e eY ⟨rfl,rfl⟩) | (go_at_call 28;refine (first_any (fun _=>True) _ _ [M.aQ ⟨g,tg,fo⟩,wi a0 0 1,wi b7 0 1,wi gr 0 2,wh _ 3] _ (bQ.drewN (bQ.lit _ _ [M.aQ ⟨g,tg,fo⟩,wi a0 0 1,wi b7 0 1,wi gr 0 2,wh _ 3] (by simp) _ trivial) 1)).mono ?_;rintro e eY ⟨rfl,rfl⟩))
    refine hK.out _ _ ?anp (fun hHeld=>?_)
    case anp=>(first | (first | exact K0.cell | exact K1.cell | exact (K1.alloc _).cell) | (dsimp only;first | exact K0.cell | exact K1.cell | exact (K1.alloc _).cell))
    clear hK K
    try simp only [Act.put,la,lz,ls]
    refine tr 4 fun K hK=>?_;go_simp
    (first | (go_at_call 64;refine (bU _ _ _ _).mono ?_;rintro e eY ⟨rfl,rfl⟩) | (go_at_call 30;refine (dF _ _ _).mono ?_;rintro e eY ⟨rfl,rfl⟩) | (go_at_call 67;refine (fK ⟨g,tg,fo⟩ _).mono ?_;rintro e w1 ⟨rfl,hb1⟩;have K1:=K0.drew.call hb1) | (go_at_call 28;refine (first_any (fun _=>True) _ _ [M.aQ ⟨g,tg,fo⟩,wi a0 0 1,wi b7 0 1,wi gr 0 2,wh _ 3] _ (bQ.lit _ _ [M.aQ ⟨g,tg,fo⟩,wi a0 0 1,wi b7 0 1,wi gr 0 2,wh _ 3] (by simp) _ trivial)).mono ?_;rintro e eY ⟨rfl,rfl⟩) | (go_at_call 28;refine (first_any (fun _=>True) _ _ [M.aQ ⟨g,tg,fo⟩,wi a0 0 1,wi b7 0 1,wi gr 0 2,wh _ 3] _ (bQ.drewN (bQ.lit _ _ [M.aQ ⟨g,tg,fo⟩,wi a0 0 1,wi b7 0 1,wi gr 0 2,wh _ 3] (by simp) _ trivial) 1)).mono ?_;rintro e eY ⟨rfl,rfl⟩))
    refine hK.out _ _ ?J6 (fun hHeld=>?_)
    case J6=>(first | (first | exact K0.cell | exact K1.cell | exact (K1.alloc _).cell) | (dsimp only;first | exact K0.cell | exact K1.cell | exact (K1.alloc _).cell))
    clear hK K
    try simp only [Act.put,la,lz,ls]
    refine tr 7 fun K hK=>?_;go_simp
    (first | (go_at_call 64;refine (bU _ _ _ _).mono ?_;rintro e eY ⟨rfl,rfl⟩) | (go_at_call 30;refine (dF _ _ _).mono ?_;rintro e eY ⟨rfl,rfl⟩) | (go_at_call 67;refine (fK ⟨g,tg,fo⟩ _).mono ?_;rintro e w1 ⟨rfl,hb1⟩;have K1:=K0.drew.call hb1) | (go_at_call 28;refine (first_any (fun _=>True) _ _ [M.aQ ⟨g,tg,fo⟩,wi a0 0 1,wi b7 0 1,wi gr 0 2,wh _ 3] _ (bQ.lit _ _ [M.aQ ⟨g,tg,fo⟩,wi a0 0 1,wi b7 0 1,wi gr 0 2,wh _ 3] (by simp) _ trivial)).mono ?_;rintro e eY ⟨rfl,rfl⟩) | (go_at_call 28;refine (first_any (fun _=>True) _ _ [M.aQ ⟨g,tg,fo⟩,wi a0 0 1,wi b7 0 1,wi gr 0 2,wh _ 3] _ (bQ.drewN (bQ.lit _ _ [M.aQ ⟨g,tg,fo⟩,wi a0 0 1,wi b7 0 1,wi gr 0 2,wh _ 3] (by simp) _ trivial) 1)).mono ?_;rintro e eY ⟨rfl,rfl⟩))
    refine hK.out _ _ ?anx (fun hHeld=>?_)
    case anx=>(first | (first | exact K0.cell | exact K1.cell | exact (K1.alloc _).cell) | (dsimp only;first | exact K0.cell | exact K1.cell | exact (K1.alloc _).cell))
    clear hK K
    try simp only [Act.put,la,lz,ls]
    refine tr 10 fun K hK=>?_;go_simp
    (first | (go_at_call 64;refine (bU _ _ _ _).mono ?_;rintro e eY ⟨rfl,rfl⟩) | (go_at_call 30;refine (dF _ _ _).mono ?_;rintro e eY ⟨rfl,rfl⟩) | (go_at_call 67;refine (fK ⟨g,tg,fo⟩ _).mono ?_;rintro e w1 ⟨rfl,hb1⟩;have K1:=K0.drew.call hb1) | (go_at_call 28;refine (first_any (fun _=>True) _ _ [M.aQ ⟨g,tg,fo⟩,wi a0 0 1,wi b7 0 1,wi gr 0 2,wh _ 3] _ (bQ.lit _ _ [M.aQ ⟨g,tg,fo⟩,wi a0 0 1,wi b7 0 1,wi gr 0 2,wh _ 3] (by simp) _ trivial)).mono ?_;rintro e eY ⟨rfl,rfl⟩) | (go_at_call 28;refine (first_any (fun _=>True) _ _ [M.aQ ⟨g,tg,fo⟩,wi a0 0 1,wi b7 0 1,wi gr 0 2,wh _ 3] _ (bQ.drewN (bQ.lit _ _ [M.aQ ⟨g,tg,fo⟩,wi a0 0 1,wi b7 0 1,wi gr 0 2,wh _ 3] (by simp) _ trivial) 1)).mono ?_;rintro e eY ⟨rfl,rfl⟩))
    refine hK.out _ _ ?Dv (fun hHeld=>?_)
    case Dv=>(first | (first | exact K0.cell | exact K1.cell | exact (K1.alloc _).cell) | (dsimp only;first | exact K0.cell | exact K1.cell | exact (K1.alloc _).cell))
    clear hK K
    try simp only [Act.put,la,lz,ls]
    refine tk 14 ?_;refine tk 15 ?_;refine tk 16 ?_;refine tk 17 ?_;refine tk 18 ?_;refine tr 19 fun K hK=>?_;go_simp
    (first | (go_at_call 64;refine (bU _ _ _ _).mono ?_;rintro e eY ⟨rfl,rfl⟩) | (go_at_call 30;refine (dF _ _ _).mono ?_;rintro e eY ⟨rfl,rfl⟩) | (go_at_call 67;refine (fK ⟨g,tg,fo⟩ _).mono ?_;rintro e w1 ⟨rfl,hb1⟩;have K1:=K0.drew.call hb1) | (go_at_call 28;refine (first_any (fun _=>True) _ _ [M.aQ ⟨g,tg,fo⟩,wi a0 0 1,wi b7 0 1,wi gr 0 2,wh _ 3] _ (bQ.lit _ _ [M.aQ ⟨g,tg,fo⟩,wi a0 0 1,wi b7 0 1,wi gr 0 2,wh _ 3] (by simp) _ trivial)).mono ?_;rintro e eY ⟨rfl,rfl⟩) | (go_at_call 28;refine (first_any (fun _=>True) _ _ [M.aQ ⟨g,tg,fo⟩,wi a0 0 1,wi b7 0 1,wi gr 0 2,wh _ 3] _ (bQ.drewN (bQ.lit _ _ [M.aQ ⟨g,tg,fo⟩,wi a0 0 1,wi b7 0 1,wi gr 0 2,wh _ 3] (by simp) _ trivial) 1)).mono ?_;rintro e eY ⟨rfl,rfl⟩))
    refine hK.out _ _ ?aeC (fun hHeld=>?_)
    case aeC=>(first | (first | exact K0.cell | exact K1.cell | exact (K1.alloc _).cell) | (dsimp only;first | exact K0.cell | exact K1.cell | exact (K1.alloc _).cell))
    clear hK K
    try simp only [Act.put,la,lz,ls]
    refine tr 20 fun K hK=>?_;go_simp;refine hK.out _ _ ?aeJ (fun hHeld=>?_)
    case aeJ=>(first | (first | exact K0.cell | exact K1.cell | exact (K1.alloc _).cell) | (dsimp only;first | exact K0.cell | exact K1.cell | exact (K1.alloc _).cell))
    clear hK K
    try simp only [Act.put,la,lz,ls]
    refine tr 21 fun K hK=>?_;go_simp
    (first | (go_at_call 64;refine (bU _ _ _ _).mono ?_;rintro e eY ⟨rfl,rfl⟩) | (go_at_call 30;refine (dF _ _ _).mono ?_;rintro e eY ⟨rfl,rfl⟩) | (go_at_call 67;refine (fK ⟨g,tg,fo⟩ _).mono ?_;rintro e w1 ⟨rfl,hb1⟩;have K1:=K0.drew.call hb1) | (go_at_call 28;refine (first_any (fun _=>True) _ _ [M.aQ ⟨g,tg,fo⟩,wi a0 0 1,wi b7 0 1,wi gr 0 2,wh _ 3] _ (bQ.lit _ _ [M.aQ ⟨g,tg,fo⟩,wi a0 0 1,wi b7 0 1,wi gr 0 2,wh _ 3] (by simp) _ trivial)).mono ?_;rintro e eY ⟨rfl,rfl⟩) | (go_at_call 28;refine (first_any (fun _=>True) _ _ [M.aQ ⟨g,tg,fo⟩,wi a0 0 1,wi b7 0 1,wi gr 0 2,wh _ 3] _ (bQ.drewN (bQ.lit _ _ [M.aQ ⟨g,tg,fo⟩,wi a0 0 1,wi b7 0 1,wi gr 0 2,wh _ 3] (by simp) _ trivial) 1)).mono ?_;rintro e eY ⟨rfl,rfl⟩))
    refine hK.out _ _ ?aeQ (fun hHeld=>?_)
    case aeQ=>(first | (first | exact K0.cell | exact K1.cell | exact (K1.alloc _).cell) | (dsimp only;first | exact K0.cell | exact K1.cell | exact (K1.alloc _).cell))
    clear hK K
    try simp only [Act.put,la,lz,ls]
    refine tk 22 ?_;refine wpAnyH_done (by kernel_rfl) ?_ _;go_wp2;go_meet;exact ⟨congrArg _ (qX (r:=⟨g,tg,fo⟩) (s:=⟨a0,a1,a2,a3,a4,gr,bl,b0,b1,b2,b3,b4,b5,b6,b7⟩) (by have:=headB y0 y1;exact this)),by first | exact K1.alloc _ | exact (K1.alloc _).drew⟩
  · refine wp_region_held_drew (S:=(fun w'=>∀ p q,p<w.heap.size+2→w'.cell? ⟨p,q,none⟩=((w.alloc (.cells #[.string g,.int .i64 tg,.int .i64 fo] 23)).alloc (.cells #[.int .i64 a0,.bool a1,.bool a2,.bool a3,.bool a4,.int .i64 gr,.slice A bl.length c,.int .i64 b0,.int .i64 b1,.int .i64 b2,.int .i64 b3,.int .i64 b4,.int .i64 b5,.bool b6,.int .i64 b7] 53)).cell? ⟨p,q,none⟩)) (by kernel_rfl) ?jo (fun hHeld=>?_)
    case jo=>first | exact K0.cell | exact K1.cell | exact (K1.alloc _).cell
    refine tk 0 ?_;refine tk 2 ?_;refine tk 3 ?_;refine tk 5 ?_;refine tk 6 ?_;refine tk 8 ?_;refine tk 9 ?_;refine tk 11 ?_;refine tk 12 ?_;refine tk 13 ?_;refine tr 1 fun K hK=>?_;go_simp
    (first | (go_at_call 64;refine (bU _ _ _ _).mono ?_;rintro e eY ⟨rfl,rfl⟩) | (go_at_call 30;refine (dF _ _ _).mono ?_;rintro e eY ⟨rfl,rfl⟩) | (go_at_call 67;refine (fK ⟨g,tg,fo⟩ _).mono ?_;rintro e w1 ⟨rfl,hb1⟩;have K1:=K0.drew.call hb1) | (go_at_call 28;refine (first_any (fun _=>True) _ _ [M.aQ ⟨g,tg,fo⟩,wi a0 0 1,wi b7 0 1,wi gr 0 2,wh _ 3] _ (bQ.lit _ _ [M.aQ ⟨g,tg,fo⟩,wi a0 0 1,wi b7 0 1,wi gr 0 2,wh _ 3] (by simp) _ trivial)).mono ?_;rintro e eY ⟨rfl,rfl⟩) | (go_at_call 28;refine (first_any (fun _=>True) _ _ [M.aQ ⟨g,tg,fo⟩,wi a0 0 1,wi b7 0 1,wi gr 0 2,wh _ 3] _ (bQ.drewN (bQ.lit _ _ [M.aQ ⟨g,tg,fo⟩,wi a0 0 1,wi b7 0 1,wi gr 0 2,wh _ 3] (by simp) _ trivial) 1)).mono ?_;rintro e eY ⟨rfl,rfl⟩))
    refine hK.out _ _ ?anM (fun hHeld=>?_)
    case anM=>(first | (first | exact K0.cell | exact K1.cell | exact (K1.alloc _).cell) | (dsimp only;first | exact K0.cell | exact K1.cell | exact (K1.alloc _).cell))
    clear hK K
    try simp only [Act.put,la,lz,ls]
    refine tr 4 fun K hK=>?_;go_simp
    (first | (go_at_call 64;refine (bU _ _ _ _).mono ?_;rintro e eY ⟨rfl,rfl⟩) | (go_at_call 30;refine (dF _ _ _).mono ?_;rintro e eY ⟨rfl,rfl⟩) | (go_at_call 67;refine (fK ⟨g,tg,fo⟩ _).mono ?_;rintro e w1 ⟨rfl,hb1⟩;have K1:=K0.drew.call hb1) | (go_at_call 28;refine (first_any (fun _=>True) _ _ [M.aQ ⟨g,tg,fo⟩,wi a0 0 1,wi b7 0 1,wi gr 0 2,wh _ 3] _ (bQ.lit _ _ [M.aQ ⟨g,tg,fo⟩,wi a0 0 1,wi b7 0 1,wi gr 0 2,wh _ 3] (by simp) _ trivial)).mono ?_;rintro e eY ⟨rfl,rfl⟩) | (go_at_call 28;refine (first_any (fun _=>True) _ _ [M.aQ ⟨g,tg,fo⟩,wi a0 0 1,wi b7 0 1,wi gr 0 2,wh _ 3] _ (bQ.drewN (bQ.lit _ _ [M.aQ ⟨g,tg,fo⟩,wi a0 0 1,wi b7 0 1,wi gr 0 2,wh _ 3] (by simp) _ trivial) 1)).mono ?_;rintro e eY ⟨rfl,rfl⟩))
    refine hK.out _ _ ?Vu (fun hHeld=>?_)
    case Vu=>(first | (first | exact K0.cell | exact K1.cell | exact (K1.alloc _).cell) | (dsimp only;first | exact K0.cell | exact K1.cell | exact (K1.alloc _).cell))
    clear hK K
    try simp only [Act.put,la,lz,ls]
    refine tr 7 fun K hK=>?_;go_simp
    (first | (go_at_call 64;refine (bU _ _ _ _).mono ?_;rintro e eY ⟨rfl,rfl⟩) | (go_at_call 30;refine (dF _ _ _).mono ?_;rintro e eY ⟨rfl,rfl⟩) | (go_at_call 67;refine (fK ⟨g,tg,fo⟩ _).mono ?_;rintro e w1 ⟨rfl,hb1⟩;have K1:=K0.drew.call hb1) | (go_at_call 28;refine (first_any (fun _=>True) _ _ [M.aQ ⟨g,tg,fo⟩,wi a0 0 1,wi b7 0 1,wi gr 0 2,wh _ 3] _ (bQ.lit _ _ [M.aQ ⟨g,tg,fo⟩,wi a0 0 1,wi b7 0 1,wi gr 0 2,wh _ 3] (by simp) _ trivial)).mono ?_;rintro e eY ⟨rfl,rfl⟩) | (go_at_call 28;refine (first_any (fun _=>True) _ _ [M.aQ ⟨g,tg,fo⟩,wi a0 0 1,wi b7 0 1,wi gr 0 2,wh _ 3] _ (bQ.drewN (bQ.lit _ _ [M.aQ ⟨g,tg,fo⟩,wi a0 0 1,wi b7 0 1,wi gr 0 2,wh _ 3] (by simp) _ trivial) 1)).mono ?_;rintro e eY ⟨rfl,rfl⟩))
    refine hK.out _ _ ?Vx (fun hHeld=>?_)
    case Vx=>(first | (first | exact K0.cell | exact K1.cell | exact (K1.alloc _).cell) | (dsimp only;first | exact K0.cell | exact K1.cell | exact (K1.alloc _).cell))
    clear hK K
    try simp only [Act.put,la,lz,ls]
    refine tr 10 fun K hK=>?_;go_simp
    (first | (go_at_call 64;refine (bU _ _ _ _).mono ?_;rintro e eY ⟨rfl,rfl⟩) | (go_at_call 30;refine (dF _ _ _).mono ?_;rintro e eY ⟨rfl,rfl⟩) | (go_at_call 67;refine (fK ⟨g,tg,fo⟩ _).mono ?_;rintro e w1 ⟨rfl,hb1⟩;have K1:=K0.drew.call hb1) | (go_at_call 28;refine (first_any (fun _=>True) _ _ [M.aQ ⟨g,tg,fo⟩,wi a0 0 1,wi b7 0 1,wi gr 0 2,wh _ 3] _ (bQ.lit _ _ [M.aQ ⟨g,tg,fo⟩,wi a0 0 1,wi b7 0 1,wi gr 0 2,wh _ 3] (by simp) _ trivial)).mono ?_;rintro e eY ⟨rfl,rfl⟩) | (go_at_call 28;refine (first_any (fun _=>True) _ _ [M.aQ ⟨g,tg,fo⟩,wi a0 0 1,wi b7 0 1,wi gr 0 2,wh _ 3] _ (bQ.drewN (bQ.lit _ _ [M.aQ ⟨g,tg,fo⟩,wi a0 0 1,wi b7 0 1,wi gr 0 2,wh _ 3] (by simp) _ trivial) 1)).mono ?_;rintro e eY ⟨rfl,rfl⟩))
    refine hK.out _ _ ?NV (fun hHeld=>?_)
    case NV=>(first | (first | exact K0.cell | exact K1.cell | exact (K1.alloc _).cell) | (dsimp only;first | exact K0.cell | exact K1.cell | exact (K1.alloc _).cell))
    clear hK K
    try simp only [Act.put,la,lz,ls]
    refine tk 14 ?_;refine tu 15 ?_;refine tu 16 ?_;refine tu 17 ?_;refine tk 18 ?_;refine tr 19 fun K hK=>?_;go_simp
    (first | (go_at_call 64;refine (bU _ _ _ _).mono ?_;rintro e eY ⟨rfl,rfl⟩) | (go_at_call 30;refine (dF _ _ _).mono ?_;rintro e eY ⟨rfl,rfl⟩) | (go_at_call 67;refine (fK ⟨g,tg,fo⟩ _).mono ?_;rintro e w1 ⟨rfl,hb1⟩;have K1:=K0.drew.call hb1) | (go_at_call 28;refine (first_any (fun _=>True) _ _ [M.aQ ⟨g,tg,fo⟩,wi a0 0 1,wi b7 0 1,wi gr 0 2,wh _ 3] _ (bQ.lit _ _ [M.aQ ⟨g,tg,fo⟩,wi a0 0 1,wi b7 0 1,wi gr 0 2,wh _ 3] (by simp) _ trivial)).mono ?_;rintro e eY ⟨rfl,rfl⟩) | (go_at_call 28;refine (first_any (fun _=>True) _ _ [M.aQ ⟨g,tg,fo⟩,wi a0 0 1,wi b7 0 1,wi gr 0 2,wh _ 3] _ (bQ.drewN (bQ.lit _ _ [M.aQ ⟨g,tg,fo⟩,wi a0 0 1,wi b7 0 1,wi gr 0 2,wh _ 3] (by simp) _ trivial) 1)).mono ?_;rintro e eY ⟨rfl,rfl⟩))
    refine hK.out _ _ ?afb (fun hHeld=>?_)
    case afb=>(first | (first | exact K0.cell | exact K1.cell | exact (K1.alloc _).cell) | (dsimp only;first | exact K0.cell | exact K1.cell | exact (K1.alloc _).cell))
    clear hK K
    try simp only [Act.put,la,lz,ls]
    refine tr 20 fun K hK=>?_;go_simp;refine hK.out _ _ ?afi (fun hHeld=>?_)
    case afi=>(first | (first | exact K0.cell | exact K1.cell | exact (K1.alloc _).cell) | (dsimp only;first | exact K0.cell | exact K1.cell | exact (K1.alloc _).cell))
    clear hK K
    try simp only [Act.put,la,lz,ls]
    refine tr 21 fun K hK=>?_;go_simp
    (first | (go_at_call 64;refine (bU _ _ _ _).mono ?_;rintro e eY ⟨rfl,rfl⟩) | (go_at_call 30;refine (dF _ _ _).mono ?_;rintro e eY ⟨rfl,rfl⟩) | (go_at_call 67;refine (fK ⟨g,tg,fo⟩ _).mono ?_;rintro e w1 ⟨rfl,hb1⟩;have K1:=K0.drew.call hb1) | (go_at_call 28;refine (first_any (fun _=>True) _ _ [M.aQ ⟨g,tg,fo⟩,wi a0 0 1,wi b7 0 1,wi gr 0 2,wh _ 3] _ (bQ.lit _ _ [M.aQ ⟨g,tg,fo⟩,wi a0 0 1,wi b7 0 1,wi gr 0 2,wh _ 3] (by simp) _ trivial)).mono ?_;rintro e eY ⟨rfl,rfl⟩) | (go_at_call 28;refine (first_any (fun _=>True) _ _ [M.aQ ⟨g,tg,fo⟩,wi a0 0 1,wi b7 0 1,wi gr 0 2,wh _ 3] _ (bQ.drewN (bQ.lit _ _ [M.aQ ⟨g,tg,fo⟩,wi a0 0 1,wi b7 0 1,wi gr 0 2,wh _ 3] (by simp) _ trivial) 1)).mono ?_;rintro e eY ⟨rfl,rfl⟩))
    refine hK.out _ _ ?afp (fun hHeld=>?_)
    case afp=>(first | (first | exact K0.cell | exact K1.cell | exact (K1.alloc _).cell) | (dsimp only;first | exact K0.cell | exact K1.cell | exact (K1.alloc _).cell))
    clear hK K
    try simp only [Act.put,la,lz,ls]
    refine tk 22 ?_;refine wpAnyH_done (by kernel_rfl) ?_ _;go_wp2;go_meet;exact ⟨congrArg _ (qX (r:=⟨g,tg,fo⟩) (s:=⟨a0,a1,a2,a3,a4,gr,bl,b0,b1,b2,b3,b4,b5,b6,b7⟩) (by have:=headB y0 y1;exact this)),by first | exact K1.alloc _ | exact (K1.alloc _).drew⟩
 case rest=>
  obtain ⟨rfl,K4⟩:=hcut;have hc4:=K4.cell
  by_cases hz:M.dR ⟨g,tg,fo⟩ ⟨a0,a1,a2,a3,a4,gr,bl,b0,b1,b2,b3,b4,b5,b6,b7⟩=0
  · have hz':(M.dR ⟨g,tg,fo⟩ ⟨a0,a1,a2,a3,a4,gr,bl,b0,b1,b2,b3,b4,b5,b6,b7⟩ != 0)=false:=by simp [hz]
    have H1:=hide hz;clear hz
    go_wp2_with (go_at_call 68;refine (Zg _).mono ?_;rintro e w5 ⟨A2,c2',rfl,hr2,hb5⟩;have K5:=K4.call hb5;have hc5:=K5.cell)
    go_outline
    go_loopw [44] (fun i wr=>∃ k:Nat,k≤bl.length∧i= .int .i64 k∧M.gu (M.fH g) none bl=M.gu (M.fH g) (lastOf bl k) (bl.drop k)∧Keeps w ((w.alloc (.cells #[.string g,.int .i64 tg,.int .i64 fo] 23)).alloc (.cells #[.int .i64 a0,.bool a1,.bool a2,.bool a3,.bool a4,.int .i64 gr,.slice A bl.length c,.int .i64 b0,.int .i64 b1,.int .i64 b2,.int .i64 b3,.int .i64 b4,.int .i64 b5,.bool b6,.int .i64 b7] 53)) 2 wr) (fun i _=>bl.length - (intOf i).toNat)
    case atStart=>exact ⟨0,Nat.zero_le _,rfl,by simp [lastOf],K5⟩
    case round=>
     obtain ⟨k,hkl,rfl,hx1,KR⟩:=hrel;have hcR:=KR.cell
     by_cases hlt:k<bl.length
     · obtain ⟨b,o,rfl,_,hbl,hc⟩:=hp.at_ k hlt
       have hck:=hc k hlt
       have Z7:b<w.heap.size+1:=by omega
       have aDm:b<w.heap.size+2:=by omega
       by_cases hk0:k=0
       · have hst:=hx1.trans (vK (↑(M.fH g)) hlt)
         rw [show rG bl k=false by rw [hk0];rfl] at hst
         have hkb:decide (0<k)=false:=by simp [hk0]
         have hkc:¬ 0<k:=by omega
         have HK0:=hide hk0;clear hx1 hc hk0
         by_cases hz:aS [wi bl[k] 1 ↑(M.fH g),wh false 11]=0
         · have hz':(aS [wi bl[k] 1 ↑(M.fH g),wh false 11] != 0)=false:=by simp [hz]
           rw [if_neg (by simp [hz])] at hst;have HX:=hide hst;clear hst hz
           go_wp2_with (first | (go_at_call 64;refine (bU _ _ _ _).mono ?_;rintro e eY ⟨rfl,rfl⟩) | (go_at_call 30;refine (dF _ _ _).mono ?_;rintro e eY ⟨rfl,rfl⟩) | (go_at_call 28;refine (first_any (fun _=>True) _ _ [wi bl[k] 1 ↑(M.fH g),wh false 11] _ (bQ.lit _ _ [wi bl[k] 1 ↑(M.fH g),wh false 11] (by simp) _ trivial)).mono ?_;rintro e eY ⟨rfl,rfl⟩))
           go_roundw
           case rel=>exact ⟨k+1,by omega,by go_num,HX.out,KR.alloc _⟩
           case measure=>simp [intOf];omega
         · have hz':(aS [wi bl[k] 1 ↑(M.fH g),wh false 11] != 0)=true:=by simp [hz]
           rw [if_pos hz] at hst;have HX:=hide hst;have HZ:=hide hz;clear hst hz
           go_wp2_with (first | (go_at_call 64;refine (bU _ _ _ _).mono ?_;rintro e eY ⟨rfl,rfl⟩) | (go_at_call 30;refine (dF _ _ _).mono ?_;rintro e eY ⟨rfl,rfl⟩) | (go_at_call 28;refine (first_any (fun _=>True) _ _ [wi bl[k] 1 ↑(M.fH g),wh false 11] _ (bQ.lit _ _ [wi bl[k] 1 ↑(M.fH g),wh false 11] (by simp) _ trivial)).mono ?_;rintro e eY ⟨rfl,rfl⟩))
           go_ret;exact ⟨dw (by rw [rQ (r:=⟨g,tg,fo⟩) (s:=⟨a0,a1,a2,a3,a4,gr,bl,b0,b1,b2,b3,b4,b5,b6,b7⟩) H1.out (by rw [HX.out];exact HZ.out)];exact HX.out.symm),(KR.alloc _).bw⟩
       · obtain ⟨j,rfl⟩:∃ j,k=j+1:=⟨k - 1,by omega⟩
         clear hk0;have hst:=hx1.trans (vK (↑(M.fH g)) hlt);rw [Ur hlt] at hst;have hcj:=hc j (by omega);clear hx1 hc;obtain ⟨x1,hx1⟩:∃ x,bl[j+1]=x:=⟨_,rfl⟩;obtain ⟨x0,hx0⟩:∃ x,bl[j]=x:=⟨_,rfl⟩;rw [hx1] at hck;rw [hx0] at hcj;rw [hx1,hx0] at hst;clear hx1 hx0
         rcases Nat.eq_zero_or_pos j with hj | hj
         · have aDA:w.cell? ⟨b,o,none⟩=some (.int .i64 x0):=by rw [hj] at hcj;exact hcj
           have hjb:¬ 0<j:=by omega
           clear hj
           by_cases hz:aS [wi x1 1 ↑(M.fH g),wh (decide (x1≤x0)) 11]=0
           · have hz':(aS [wi x1 1 ↑(M.fH g),wh (decide (x1≤x0)) 11] != 0)=false:=by simp [hz]
             rw [if_neg (by simp [hz])] at hst;have HX:=hide hst;clear hst hz
             go_wp2_with (first | (go_at_call 64;refine (bU _ _ _ _).mono ?_;rintro e eY ⟨rfl,rfl⟩) | (go_at_call 30;refine (dF _ _ _).mono ?_;rintro e eY ⟨rfl,rfl⟩) | (go_at_call 28;refine (first_any (fun _=>True) _ _ [wi x1 1 ↑(M.fH g),wh (decide (x1≤x0)) 11] _ (bQ.lit _ _ [wi x1 1 ↑(M.fH g),wh (decide (x1≤x0)) 11] (by simp) _ trivial)).mono ?_;rintro e eY ⟨rfl,rfl⟩))
             go_roundw
             case rel=>exact ⟨j+1+1,by omega,by go_num,HX.out,KR.alloc _⟩
             case measure=>simp [intOf];omega
           · have hz':(aS [wi x1 1 ↑(M.fH g),wh (decide (x1≤x0)) 11] != 0)=true:=by simp [hz]
             rw [if_pos hz] at hst;have HX:=hide hst;have HZ:=hide hz;clear hst hz
             go_wp2_with (first | (go_at_call 64;refine (bU _ _ _ _).mono ?_;rintro e eY ⟨rfl,rfl⟩) | (go_at_call 30;refine (dF _ _ _).mono ?_;rintro e eY ⟨rfl,rfl⟩) | (go_at_call 28;refine (first_any (fun _=>True) _ _ [wi x1 1 ↑(M.fH g),wh (decide (x1≤x0)) 11] _ (bQ.lit _ _ [wi x1 1 ↑(M.fH g),wh (decide (x1≤x0)) 11] (by simp) _ trivial)).mono ?_;rintro e eY ⟨rfl,rfl⟩))
             go_ret;exact ⟨dw (by rw [rQ (r:=⟨g,tg,fo⟩) (s:=⟨a0,a1,a2,a3,a4,gr,bl,b0,b1,b2,b3,b4,b5,b6,b7⟩) H1.out (by rw [HX.out];exact HZ.out)];exact HX.out.symm),(KR.alloc _).bw⟩
         · skip
           by_cases hz:aS [wi x1 1 ↑(M.fH g),wh (decide (x1≤x0)) 11]=0
           · have hz':(aS [wi x1 1 ↑(M.fH g),wh (decide (x1≤x0)) 11] != 0)=false:=by simp [hz]
             rw [if_neg (by simp [hz])] at hst;have HX:=hide hst;clear hst hz
             go_wp2_with (first | (go_at_call 64;refine (bU _ _ _ _).mono ?_;rintro e eY ⟨rfl,rfl⟩) | (go_at_call 30;refine (dF _ _ _).mono ?_;rintro e eY ⟨rfl,rfl⟩) | (go_at_call 28;refine (first_any (fun _=>True) _ _ [wi x1 1 ↑(M.fH g),wh (decide (x1≤x0)) 11] _ (bQ.lit _ _ [wi x1 1 ↑(M.fH g),wh (decide (x1≤x0)) 11] (by simp) _ trivial)).mono ?_;rintro e eY ⟨rfl,rfl⟩))
             go_roundw
             case rel=>exact ⟨j+1+1,by omega,by go_num,HX.out,KR.alloc _⟩
             case measure=>simp [intOf];omega
           · have hz':(aS [wi x1 1 ↑(M.fH g),wh (decide (x1≤x0)) 11] != 0)=true:=by simp [hz]
             rw [if_pos hz] at hst;have HX:=hide hst;have HZ:=hide hz;clear hst hz
             go_wp2_with (first | (go_at_call 64;refine (bU _ _ _ _).mono ?_;rintro e eY ⟨rfl,rfl⟩) | (go_at_call 30;refine (dF _ _ _).mono ?_;rintro e eY ⟨rfl,rfl⟩) | (go_at_call 28;refine (first_any (fun _=>True) _ _ [wi x1 1 ↑(M.fH g),wh (decide (x1≤x0)) 11] _ (bQ.lit _ _ [wi x1 1 ↑(M.fH g),wh (decide (x1≤x0)) 11] (by simp) _ trivial)).mono ?_;rintro e eY ⟨rfl,rfl⟩))
             go_ret;exact ⟨dw (by rw [rQ (r:=⟨g,tg,fo⟩) (s:=⟨a0,a1,a2,a3,a4,gr,bl,b0,b1,b2,b3,b4,b5,b6,b7⟩) H1.out (by rw [HX.out];exact HZ.out)];exact HX.out.symm),(KR.alloc _).bw⟩
     · have hz0:M.gu (M.fH g) none bl=0:=by rw [hx1,List.drop_of_length_le (by omega),M.gu]
       have H2:=hide hz0;clear hx1 hz0
       by_cases hn:M.dK ⟨g,tg,fo⟩ ⟨a0,a1,a2,a3,a4,gr,bl,b0,b1,b2,b3,b4,b5,b6,b7⟩=0
       · have hn':(M.dK ⟨g,tg,fo⟩ ⟨a0,a1,a2,a3,a4,gr,bl,b0,b1,b2,b3,b4,b5,b6,b7⟩ != 0)=false:=by simp [hn]
         have H3:=hide hn;clear hn
         go_upto_region 15 with ((go_at_call 50;refine (rP ⟨g,tg,fo⟩ ⟨a0,a1,a2,a3,a4,gr,bl,b0,b1,b2,b3,b4,b5,b6,b7⟩ _ _ _).mono ?_;rintro e w3 ⟨rfl,hb3⟩;have K3:=KR.call hb3;have hc3:=K3.cell))
         go_cut [11] (fun v wx=>v= .bool (pushB g a1 a3 a4)∧Keeps w ((w.alloc (.cells #[.string g,.int .i64 tg,.int .i64 fo] 23)).alloc (.cells #[.int .i64 a0,.bool a1,.bool a2,.bool a3,.bool a4,.int .i64 gr,.slice A bl.length c,.int .i64 b0,.int .i64 b1,.int .i64 b2,.int .i64 b3,.int .i64 b4,.int .i64 b5,.bool b6,.int .i64 b7] 53)) 2 wx)
         case first=>
          all_goals rcases Bool.eq_false_or_eq_true (g.toList == [110,105,110,101]) with y0 | y0
          all_goals go_wp2
          all_goals go_meet
          all_goals
           refine ⟨?_,by assumption⟩;exact qo (by first | (simp [pushB,yO, *];done) | (simp_all [pushB,yO];done))
         case rest=>
          obtain ⟨rfl,K4⟩:=hcut;have hc4:=K4.cell
          go_upto_region 16 with fail
          go_cut [12] (fun v wx=>v= .bool (miss g bl)∧Keeps w ((w.alloc (.cells #[.string g,.int .i64 tg,.int .i64 fo] 23)).alloc (.cells #[.int .i64 a0,.bool a1,.bool a2,.bool a3,.bool a4,.int .i64 gr,.slice A bl.length c,.int .i64 b0,.int .i64 b1,.int .i64 b2,.int .i64 b3,.int .i64 b4,.int .i64 b5,.bool b6,.int .i64 b7] 53)) 2 wx)
          case first=>
           by_cases hb:bl=[]
           · subst hb
             go_quiet (fail)
             go_wp2;go_meet;exact ⟨qo (by simp [miss]),K4.drewN _⟩
           · have hb':((bl.length:Int) == 0)=false:=by simp [hb]
             have HB:=hide hb;clear hb
             by_cases hn:0<need g
             · have hn':decide (0<need g)=true:=by simp [hn]
               have HN:=hide hn;clear hn;refine wp_region_held_drew (S:=(fun w'=>∀ p q,p<w.heap.size+2→w'.cell? ⟨p,q,none⟩=((w.alloc (.cells #[.string g,.int .i64 tg,.int .i64 fo] 23)).alloc (.cells #[.int .i64 a0,.bool a1,.bool a2,.bool a3,.bool a4,.int .i64 gr,.slice A bl.length c,.int .i64 b0,.int .i64 b1,.int .i64 b2,.int .i64 b3,.int .i64 b4,.int .i64 b5,.bool b6,.int .i64 b7] 53)).cell? ⟨p,q,none⟩)) (by kernel_rfl) ?dL (fun hHeld=>?_)
               case dL=>first | exact K4.cell | exact K5.cell | exact K6.cell
               refine tk 0 ?_;refine tk 1 ?_;refine tk 2 ?_;refine tk 3 ?_;refine tk 4 ?_;refine tk 5 ?_;refine tr 6 fun K hK=>?_;go_simp
               (first | (go_at_call 90;refine (jV ⟨g,tg,fo⟩ _).mono ?_;rintro e w5 ⟨rfl,hb5⟩;have K5:=K4.drew.call hb5) | (go_at_call 90;refine (jV ⟨g,tg,fo⟩ _).mono ?_;rintro e w6 ⟨rfl,hb6⟩;have K6:=K5.call hb6;have hc6:=K6.cell) | (go_at_call 78;refine (iQ S A c bl _ _ (hp.below K6.bw)).mono ?_;rintro e eY ⟨rfl,rfl⟩))
               refine hK.out _ _ ?Vb (fun hHeld=>?_)
               case Vb=>(first | (first | exact K4.cell | exact K5.cell | exact K6.cell) | (dsimp only;first | exact K4.cell | exact K5.cell | exact K6.cell))
               clear hK K
               try simp only [Act.put,la,lz,ls]
               refine tk 7 ?_;refine tk 8 ?_;refine tk 9 ?_;refine tk 10 ?_;refine tk 11 ?_;refine tr 12 fun K hK=>?_;go_simp
               (first | (go_at_call 90;refine (jV ⟨g,tg,fo⟩ _).mono ?_;rintro e w5 ⟨rfl,hb5⟩;have K5:=K4.drew.call hb5) | (go_at_call 90;refine (jV ⟨g,tg,fo⟩ _).mono ?_;rintro e w6 ⟨rfl,hb6⟩;have K6:=K5.call hb6;have hc6:=K6.cell) | (go_at_call 78;refine (iQ S A c bl _ _ (hp.below K6.bw)).mono ?_;rintro e eY ⟨rfl,rfl⟩))
               refine hK.out _ _ ?adF (fun hHeld=>?_)
               case adF=>(first | (first | exact K4.cell | exact K5.cell | exact K6.cell) | (dsimp only;first | exact K4.cell | exact K5.cell | exact K6.cell))
               clear hK K
               try simp only [Act.put,la,lz,ls]
               refine tr 13 fun K hK=>?_;go_simp
               (first | (go_at_call 90;refine (jV ⟨g,tg,fo⟩ _).mono ?_;rintro e w5 ⟨rfl,hb5⟩;have K5:=K4.drew.call hb5) | (go_at_call 90;refine (jV ⟨g,tg,fo⟩ _).mono ?_;rintro e w6 ⟨rfl,hb6⟩;have K6:=K5.call hb6;have hc6:=K6.cell) | (go_at_call 78;refine (iQ S A c bl _ _ (hp.below K6.bw)).mono ?_;rintro e eY ⟨rfl,rfl⟩))
               refine hK.out _ _ ?adM (fun hHeld=>?_)
               case adM=>(first | (first | exact K4.cell | exact K5.cell | exact K6.cell) | (dsimp only;first | exact K4.cell | exact K5.cell | exact K6.cell))
               clear hK K
               try simp only [Act.put,la,lz,ls]
               refine tk 14 ?_;refine tk 15 ?_;refine tk 16 ?_;refine tk 17 ?_;refine wpAnyH_done (by kernel_rfl) ?_ _;go_wp2;go_meet;exact ⟨qo (by have h1:=HB.out;have h2:=HN.out;simp [miss,h1,h2]),by first | exact K6 | exact K5 | exact K4.drew⟩
             · have hn':decide (0<need g)=false:=by simp;omega
               have HN:=hide hn;clear hn;refine wp_region_held_drew (S:=(fun w'=>∀ p q,p<w.heap.size+2→w'.cell? ⟨p,q,none⟩=((w.alloc (.cells #[.string g,.int .i64 tg,.int .i64 fo] 23)).alloc (.cells #[.int .i64 a0,.bool a1,.bool a2,.bool a3,.bool a4,.int .i64 gr,.slice A bl.length c,.int .i64 b0,.int .i64 b1,.int .i64 b2,.int .i64 b3,.int .i64 b4,.int .i64 b5,.bool b6,.int .i64 b7] 53)).cell? ⟨p,q,none⟩)) (by kernel_rfl) ?dY (fun hHeld=>?_)
               case dY=>first | exact K4.cell | exact K5.cell | exact K6.cell
               refine tk 0 ?_;refine tk 1 ?_;refine tk 2 ?_;refine tk 3 ?_;refine tk 4 ?_;refine tk 5 ?_;refine tr 6 fun K hK=>?_;go_simp
               (first | (go_at_call 90;refine (jV ⟨g,tg,fo⟩ _).mono ?_;rintro e w5 ⟨rfl,hb5⟩;have K5:=K4.drew.call hb5) | (go_at_call 90;refine (jV ⟨g,tg,fo⟩ _).mono ?_;rintro e w6 ⟨rfl,hb6⟩;have K6:=K5.call hb6;have hc6:=K6.cell) | (go_at_call 78;refine (iQ S A c bl _ _ (hp.below K6.bw)).mono ?_;rintro e eY ⟨rfl,rfl⟩))
               refine hK.out _ _ ?Vr (fun hHeld=>?_)
               case Vr=>(first | (first | exact K4.cell | exact K5.cell | exact K6.cell) | (dsimp only;first | exact K4.cell | exact K5.cell | exact K6.cell))
               clear hK K
               try simp only [Act.put,la,lz,ls]
               refine tk 7 ?_;refine tk 8 ?_;refine tu 9 ?_;refine tu 10 ?_;refine tu 11 ?_;refine tu 12 ?_;refine tu 13 ?_;refine tu 14 ?_;refine tk 15 ?_;refine tk 16 ?_;refine tk 17 ?_;refine wpAnyH_done (by kernel_rfl) ?_ _;go_wp2;go_meet;exact ⟨qo (by have h1:=HB.out;have h2:=HN.out;simp [miss,h1];intro h;omega),by first | exact K6 | exact K5 | exact K4.drew⟩
          case rest=>
           obtain ⟨rfl,K7⟩:=hcut;have hc7:=K7.cell;clear hc4 K4;obtain ⟨pb,hpb⟩:∃ x,pushB g a1 a3 a4=x:=⟨_,rfl⟩;obtain ⟨mi,hmi⟩:∃ x,miss g bl=x:=⟨_,rfl⟩;have HT:=hide (fun b=>FQ (r:=⟨g,tg,fo⟩) (s:=⟨a0,a1,a2,a3,a4,gr,bl,b0,b1,b2,b3,b4,b5,b6,b7⟩) H1.out H2.out H3.out b);rw [hpb,hmi]
           rcases Bool.eq_false_or_eq_true (b7 != 0) with y7 | y7
           all_goals have HY:=hide y7
           all_goals
            have HPB:=hide hpb;have HMI:=hide hmi;clear hpb hmi
            cases pb <;> cases mi <;> cases b6
           all_goals go_wp2_with ((go_at_call 30;refine (dF _ _ _).mono ?_;rintro e eY ⟨rfl,rfl⟩))
           all_goals
            go_ret;exact ⟨dw (HT.out _ (by have h1:=HPB.out;have h2:=HMI.out;have h3:=HY.out;simp only [h1,h2];simp at h3;simp [h3])).symm,K7.bw⟩
       · have hn':(M.dK ⟨g,tg,fo⟩ ⟨a0,a1,a2,a3,a4,gr,bl,b0,b1,b2,b3,b4,b5,b6,b7⟩ != 0)=true:=by simp [hn]
         have H3:=hide hn;clear hn
         go_wp2_with ((go_at_call 50;refine (rP ⟨g,tg,fo⟩ ⟨a0,a1,a2,a3,a4,gr,bl,b0,b1,b2,b3,b4,b5,b6,b7⟩ _ _ _).mono ?_;rintro e w3 ⟨rfl,hb3⟩;have K3:=KR.call hb3;have hc3:=K3.cell))
         go_ret;exact ⟨dw (FP (r:=⟨g,tg,fo⟩) (s:=⟨a0,a1,a2,a3,a4,gr,bl,b0,b1,b2,b3,b4,b5,b6,b7⟩) H1.out H2.out H3.out).symm,K3.bw⟩
  · have hz':(M.dR ⟨g,tg,fo⟩ ⟨a0,a1,a2,a3,a4,gr,bl,b0,b1,b2,b3,b4,b5,b6,b7⟩ != 0)=true:=by simp [hz]
    have H1:=hide hz;clear hz;go_wp2;go_ret;exact ⟨dw (D5 H1.out).symm,K4.bw⟩
theorem Bv (w:World) (us:List Value) (t:TypeId):∀ W:World,(∀ p q,p<w.heap.size+1→W.cell? ⟨p,q,none⟩=(w.alloc (.cells us.toArray t)).cell? ⟨p,q,none⟩)→W.rangeAt w.heap.size 0 us:=by
 intro W h j v hj;rw [h _ _ (by omega),Nat.zero_add]
 have:=dJ w t us w.heap.size rfl j v hj
 rwa [oC,Nat.zero_add] at this
theorem Uw (s:M.State) (hg:0≤s.group∧s.group≤2):M.own s=0↔s.group=0:=by
 unfold M.own
 split
 · exact Iff.rfl
 · next h=>rw [not_or] at h;constructor <;> intro h1 <;> omega
theorem uj (S:Nat→Prop) (r:M.Rules) (s:M.State) (A:Option Addr) (c:Nat) (w:World) (hp:bQ w S A c s.au) (h:r.game=M.aH∨r.game=M.dA∨(r.game=M.bF∧s.brk=true)):
 Calls Tryz.prog 79 #[dX r s A c] w fun e w'=>∃ A' c',e= .returned (.slice A' (M.targets r s).length c')∧bQ w' (fun b=>w.heap.size≤b) A' c' (M.targets r s)∧Below w.heap.size w w':=by
 obtain ⟨c1,c2,c3⟩:=hp.bd;obtain ⟨g,tg,fo⟩:=r;obtain ⟨a0,a1,a2,a3,a4,gr,bl,b0,b1,b2,b3,b4,b5,b6,b7⟩:=s
 simp only at h c1 c3 hp
 rcases h with rfl | rfl | ⟨rfl,rfl⟩
 · have ht:M.targets ⟨M.aH,tg,fo⟩ ⟨a0,a1,a2,a3,a4,gr,bl,b0,b1,b2,b3,b4,b5,b6,b7⟩=bl:=by simp [M.targets]
   rw [ht];have K0:Keeps w (w.alloc (.cells #[.string M.aH,.int .i64 tg,.int .i64 fo,.int .i64 a0,.bool a1,.bool a2,.bool a3,.bool a4,.int .i64 gr,.slice A bl.length c,.int .i64 b0,.int .i64 b1,.int .i64 b2,.int .i64 b3,.int .i64 b4,.int .i64 b5,.bool b6,.int .i64 b7] 99)) 1 (w.alloc (.cells #[.string M.aH,.int .i64 tg,.int .i64 fo,.int .i64 a0,.bool a1,.bool a2,.bool a3,.bool a4,.int .i64 gr,.slice A bl.length c,.int .i64 b0,.int .i64 b1,.int .i64 b2,.int .i64 b3,.int .i64 b4,.int .i64 b5,.bool b6,.int .i64 b7] 99)):=Keeps.Nr w _
   go_enter Tryz.func79,Tryz.ntmps79
   go_wp2_with (go_at_call 101;refine (jK S A c bl _ (hp.below K0.bw)).mono ?_;rintro e w1 ⟨A1,c1',rfl,hr1,hb1⟩;have K1:=K0.call hb1)
   go_ret;exact ⟨A1,c1',rfl,hr1.more (fun b _ h=>Nat.le_trans (Nat.le_trans (by omega) K0.sz) h),K1.bw⟩
 · have ht:M.targets ⟨M.dA,tg,fo⟩ ⟨a0,a1,a2,a3,a4,gr,bl,b0,b1,b2,b3,b4,b5,b6,b7⟩=bl.take 1:=by simp [M.targets]
   rw [ht];have K0:Keeps w (w.alloc (.cells #[.string M.dA,.int .i64 tg,.int .i64 fo,.int .i64 a0,.bool a1,.bool a2,.bool a3,.bool a4,.int .i64 gr,.slice A bl.length c,.int .i64 b0,.int .i64 b1,.int .i64 b2,.int .i64 b3,.int .i64 b4,.int .i64 b5,.bool b6,.int .i64 b7] 99)) 1 (w.alloc (.cells #[.string M.dA,.int .i64 tg,.int .i64 fo,.int .i64 a0,.bool a1,.bool a2,.bool a3,.bool a4,.int .i64 gr,.slice A bl.length c,.int .i64 b0,.int .i64 b1,.int .i64 b2,.int .i64 b3,.int .i64 b4,.int .i64 b5,.bool b6,.int .i64 b7] 99)):=Keeps.Nr w _
   by_cases hl:bl=[]
   · subst hl
     go_enter Tryz.func79,Tryz.ntmps79
     go_wp2_with (go_at_call 101;refine (jK S A c [] _ (hp.below K0.bw)).mono ?_;rintro e w1 ⟨A1,c1',rfl,hr1,hb1⟩;have K1:=K0.call hb1)
     go_ret;exact ⟨A1,c1',rfl,hr1.more (fun b _ h=>Nat.le_trans (Nat.le_trans (by omega) K0.sz) h),K1.bw⟩
   · have hl2:1≤bl.length:=by cases bl with | nil=>exact absurd rfl hl | cons a l=>simp
     have hc1:1≤c:=by omega
     have hlen:(bl.take 1).length=1:=by rw [List.length_take];omega
     have hcl:=jK S A c (bl.take 1) (w.alloc (.cells #[.string M.dA,.int .i64 tg,.int .i64 fo,.int .i64 a0,.bool a1,.bool a2,.bool a3,.bool a4,.int .i64 gr,.slice A bl.length c,.int .i64 b0,.int .i64 b1,.int .i64 b2,.int .i64 b3,.int .i64 b4,.int .i64 b5,.bool b6,.int .i64 b7] 99)) (by unfold bQ;rw [hlen,List.map_take];exact (Reads.take (k:=1) (hp.below K0.bw) hl2));rw [hlen] at hcl;clear hl
     go_enter Tryz.func79,Tryz.ntmps79
     go_wp2_with (go_at_call 101;refine (hcl).mono ?_;rintro e w1 ⟨A1,c1',rfl,hr1,hb1⟩;have K1:=K0.call hb1)
     go_ret;exact ⟨A1,c1',by rw [hlen];rfl,hr1.more (fun b _ h=>Nat.le_trans (Nat.le_trans (by omega) K0.sz) h),K1.bw⟩
 · have ht:M.targets ⟨M.bF,tg,fo⟩ ⟨a0,true,a2,a3,a4,gr,bl,b0,b1,b2,b3,b4,b5,b6,b7⟩=bl:=by simp [M.targets]
   rw [ht];have K0:Keeps w (w.alloc (.cells #[.string M.bF,.int .i64 tg,.int .i64 fo,.int .i64 a0,.bool true,.bool a2,.bool a3,.bool a4,.int .i64 gr,.slice A bl.length c,.int .i64 b0,.int .i64 b1,.int .i64 b2,.int .i64 b3,.int .i64 b4,.int .i64 b5,.bool b6,.int .i64 b7] 99)) 1 (w.alloc (.cells #[.string M.bF,.int .i64 tg,.int .i64 fo,.int .i64 a0,.bool true,.bool a2,.bool a3,.bool a4,.int .i64 gr,.slice A bl.length c,.int .i64 b0,.int .i64 b1,.int .i64 b2,.int .i64 b3,.int .i64 b4,.int .i64 b5,.bool b6,.int .i64 b7] 99)):=Keeps.Nr w _
   go_enter Tryz.func79,Tryz.ntmps79
   go_wp2_with (go_at_call 101;refine (jK S A c bl _ (hp.below K0.bw)).mono ?_;rintro e w1 ⟨A1,c1',rfl,hr1,hb1⟩;have K1:=K0.call hb1)
   go_ret;exact ⟨A1,c1',rfl,hr1.more (fun b _ h=>Nat.le_trans (Nat.le_trans (by omega) K0.sz) h),K1.bw⟩
theorem AQ (S:Nat→Prop) (tg fo:Int) (s:M.State) (A:Option Addr) (c:Nat) (w:World) (hp:bQ w S A c s.au) (hk:s.brk=false) (hg:0≤s.group∧s.group≤2):
 Calls Tryz.prog 79 #[dX ⟨M.bF,tg,fo⟩ s A c] w fun e w'=>∃ A' c',e= .returned (.slice A' (M.targets ⟨M.bF,tg,fo⟩ s).length c')∧bQ w' (fun b=>w.heap.size≤b) A' c' (M.targets ⟨M.bF,tg,fo⟩ s)∧Below w.heap.size w w':=by
 obtain ⟨i0,hi,hz0,hz1,hz2⟩:=info_parts sF;obtain ⟨c1,c2,c3⟩:=hp.bd;obtain ⟨a0,a1,a2,a3,a4,gr,bl,b0,b1,b2,b3,b4,b5,b6,b7⟩:=s
 simp only at hk c1 c3 hp hg
 subst hk
 have ht:M.targets ⟨M.bF,tg,fo⟩ ⟨a0,false,a2,a3,a4,gr,bl,b0,b1,b2,b3,b4,b5,b6,b7⟩=if bl.filter (colour ⟨a0,false,a2,a3,a4,gr,bl,b0,b1,b2,b3,b4,b5,b6,b7⟩)=[]∧(8:Int)∈bl then [8] else bl.filter (colour ⟨a0,false,a2,a3,a4,gr,bl,b0,b1,b2,b3,b4,b5,b6,b7⟩):=by
  simp [M.targets,LX]
 have HT:=hide ht;clear ht;have K0:Keeps w (w.alloc (.cells #[.string M.bF,.int .i64 tg,.int .i64 fo,.int .i64 a0,.bool false,.bool a2,.bool a3,.bool a4,.int .i64 gr,.slice A bl.length c,.int .i64 b0,.int .i64 b1,.int .i64 b2,.int .i64 b3,.int .i64 b4,.int .i64 b5,.bool b6,.int .i64 b7] 99)) 1 (w.alloc (.cells #[.string M.bF,.int .i64 tg,.int .i64 fo,.int .i64 a0,.bool false,.bool a2,.bool a3,.bool a4,.int .i64 gr,.slice A bl.length c,.int .i64 b0,.int .i64 b1,.int .i64 b2,.int .i64 b3,.int .i64 b4,.int .i64 b5,.bool b6,.int .i64 b7] 99)):=Keeps.Nr w _;have hown0:=Uw ⟨a0,false,a2,a3,a4,gr,bl,b0,b1,b2,b3,b4,b5,b6,b7⟩ hg;have HO:=hide hown0;clear hown0
 go_enter Tryz.func79,Tryz.ntmps79
 go_wp2
 go_loopw [3,39] (fun v i wr=>∃ k:Nat,k≤bl.length∧i= .int .i64 k∧(∃ A c,v= .slice A ((bl.take k).filter (colour ⟨a0,false,a2,a3,a4,gr,bl,b0,b1,b2,b3,b4,b5,b6,b7⟩)).length c)∧wr.ownsRow (w.heap.size+1) 3 1 v ((bl.take k).filter (colour ⟨a0,false,a2,a3,a4,gr,bl,b0,b1,b2,b3,b4,b5,b6,b7⟩)).length (((bl.take k).filter (colour ⟨a0,false,a2,a3,a4,gr,bl,b0,b1,b2,b3,b4,b5,b6,b7⟩)).map (Value.int .i64))∧Keeps w (w.alloc (.cells #[.string M.bF,.int .i64 tg,.int .i64 fo,.int .i64 a0,.bool false,.bool a2,.bool a3,.bool a4,.int .i64 gr,.slice A bl.length c,.int .i64 b0,.int .i64 b1,.int .i64 b2,.int .i64 b3,.int .i64 b4,.int .i64 b5,.bool b6,.int .i64 b7] 99)) 1 wr)
  (fun _ i _=>bl.length - (intOf i).toNat)
 case atStart=>exact ⟨0,by omega,rfl,⟨_,_,rfl⟩,World.ownsRow_nil _ _ _ _,K0⟩
 case round=>
  obtain ⟨k,hk,rfl,⟨A1,c1',rfl⟩,hown,KR⟩:=hrel;have hcR:=KR.cell;have Gh:=KR.sz;have hfl:=filter_le (colour ⟨a0,false,a2,a3,a4,gr,bl,b0,b1,b2,b3,b4,b5,b6,b7⟩) bl k
  by_cases hlt:k<bl.length
  · obtain ⟨b,o,rfl,_,hbl,hc⟩:=hp.at_ k hlt
    have hck:=hc k hlt;clear hc
    have Z7:b<w.heap.size+1:=by omega
    by_cases h8:bl[k]=8
    · have h8':(bl[k] != 8)=false:=by simp [h8]
      have HS:=hide (Ey (p:=(colour ⟨a0,false,a2,a3,a4,gr,bl,b0,b1,b2,b3,b4,b5,b6,b7⟩)) hlt (by simp [colour,h8]));clear h8;go_wp2;have Eb:∀ W:World,(fun w':World=>∀ p q,p<w.heap.size+1→w'.cell? ⟨p,q,none⟩=(w.alloc (.cells #[.string M.bF,.int .i64 tg,.int .i64 fo,.int .i64 a0,.bool false,.bool a2,.bool a3,.bool a4,.int .i64 gr,.slice (some ⟨b,o,none⟩) bl.length c,.int .i64 b0,.int .i64 b1,.int .i64 b2,.int .i64 b3,.int .i64 b4,.int .i64 b5,.bool b6,.int .i64 b7] 99)).cell? ⟨p,q,none⟩) W→W.rangeAt w.heap.size 0 [.string M.bF,.int .i64 tg,.int .i64 fo,.int .i64 a0,.bool false,.bool a2,.bool a3,.bool a4,.int .i64 gr,.slice (some ⟨b,o,none⟩) bl.length c,.int .i64 b0,.int .i64 b1,.int .i64 b2,.int .i64 b3,.int .i64 b4,.int .i64 b5,.bool b6,.int .i64 b7]:=Bv w _ _;have hun:=Tryz.underlying99;refine wp_region_held_drew (S:=(fun w'=>∀ p q,p<w.heap.size+1→w'.cell? ⟨p,q,none⟩=(w.alloc (.cells #[.string M.bF,.int .i64 tg,.int .i64 fo,.int .i64 a0,.bool false,.bool a2,.bool a3,.bool a4,.int .i64 gr,.slice (some ⟨b,o,none⟩) bl.length c,.int .i64 b0,.int .i64 b1,.int .i64 b2,.int .i64 b3,.int .i64 b4,.int .i64 b5,.bool b6,.int .i64 b7] 99)).cell? ⟨p,q,none⟩)) (by kernel_rfl) ?jX (fun hHeld=>?_)
      case jX=>first | exact K2.cell | exact K1.cell | exact KR.cell
      refine tk 0 ?_;refine tk 1 ?_;refine tk 2 ?_;refine tu 3 ?_;refine tu 4 ?_;refine tu 5 ?_;refine tu 6 ?_;refine tu 7 ?_;refine tu 8 ?_;refine tu 9 ?_;refine tu 10 ?_;refine tu 11 ?_;refine tu 12 ?_;refine tk 13 ?_;refine wpAnyH_done (by kernel_rfl) ?_ _;go_wp2
      go_roundw
      case rel=>exact ⟨k+1,by omega,by go_num,by rw [HS.out];exact ⟨⟨_,_,rfl⟩,own_drewN hown 1,KR.drew⟩⟩
      case measure=>simp [intOf];omega
    · have h8':(bl[k] != 8)=true:=by simp [h8]
      by_cases hgr:gr=0
      · have asG:(M.own ⟨a0,false,a2,a3,a4,gr,bl,b0,b1,b2,b3,b4,b5,b6,b7⟩ == 0)=true:=by simp [HO.out.2 hgr]
        have HS:=hide (BX (p:=(colour ⟨a0,false,a2,a3,a4,gr,bl,b0,b1,b2,b3,b4,b5,b6,b7⟩)) hlt (by simp [colour,h8,hgr]));clear hgr h8;go_wp2;have Eb:∀ W:World,(fun w':World=>∀ p q,p<w.heap.size+1→w'.cell? ⟨p,q,none⟩=(w.alloc (.cells #[.string M.bF,.int .i64 tg,.int .i64 fo,.int .i64 a0,.bool false,.bool a2,.bool a3,.bool a4,.int .i64 gr,.slice (some ⟨b,o,none⟩) bl.length c,.int .i64 b0,.int .i64 b1,.int .i64 b2,.int .i64 b3,.int .i64 b4,.int .i64 b5,.bool b6,.int .i64 b7] 99)).cell? ⟨p,q,none⟩) W→W.rangeAt w.heap.size 0 [.string M.bF,.int .i64 tg,.int .i64 fo,.int .i64 a0,.bool false,.bool a2,.bool a3,.bool a4,.int .i64 gr,.slice (some ⟨b,o,none⟩) bl.length c,.int .i64 b0,.int .i64 b1,.int .i64 b2,.int .i64 b3,.int .i64 b4,.int .i64 b5,.bool b6,.int .i64 b7]:=Bv w _ _;have hun:=Tryz.underlying99;refine wp_region_held_drew (S:=(fun w'=>∀ p q,p<w.heap.size+1→w'.cell? ⟨p,q,none⟩=(w.alloc (.cells #[.string M.bF,.int .i64 tg,.int .i64 fo,.int .i64 a0,.bool false,.bool a2,.bool a3,.bool a4,.int .i64 gr,.slice (some ⟨b,o,none⟩) bl.length c,.int .i64 b0,.int .i64 b1,.int .i64 b2,.int .i64 b3,.int .i64 b4,.int .i64 b5,.bool b6,.int .i64 b7] 99)).cell? ⟨p,q,none⟩)) (by kernel_rfl) ?lQ (fun hHeld=>?_)
        case lQ=>first | exact K2.cell | exact K1.cell | exact KR.cell
        refine tk 0 ?_;refine tk 1 ?_;refine tk 2 ?_;refine wpAnyH_take (i:=3) (oi:=_) (v:=_) (ga rfl) (by kernel_rfl) (by kernel_rfl) (by kernel_rfl) (fun _ _ _ h=>h) (yieldsIf_load_mid (by rfl) _ _ (by rfl) _ _ (by rfl) _ _ Eb hun rfl (by kernel_rfl)) (by assumption) ?_
        try simp only [Act.put,la,lz,ls]
        refine tr 4 fun K hK=>?_;go_simp
        (first | (go_at_call 141;refine (jO ⟨M.bF,tg,fo⟩ ⟨a0,false,a2,a3,a4,gr,bl,b0,b1,b2,b3,b4,b5,b6,b7⟩ _ _ _ hg).mono ?_;rintro e w2 ⟨rfl,hb2⟩;have K2:=K1.call hb2) | (go_at_call 141;refine (jO ⟨M.bF,tg,fo⟩ ⟨a0,false,a2,a3,a4,gr,bl,b0,b1,b2,b3,b4,b5,b6,b7⟩ _ _ _ hg).mono ?_;rintro e w1 ⟨rfl,hb1⟩;have K1:=KR.drew.call hb1) | (go_at_call 142;refine (lW _ _).mono ?_;rintro e eY ⟨rfl,rfl⟩))
        refine hK.out _ _ ?J8 (fun hHeld=>?_)
        case J8=>(first | (first | exact K2.cell | exact K1.cell | exact KR.cell) | (dsimp only;first | exact K2.cell | exact K1.cell | exact KR.cell))
        clear hK K
        try simp only [Act.put,la,lz,ls]
        refine tk 5 ?_;refine tk 6 ?_;refine tu 7 ?_;refine tu 8 ?_;refine tu 9 ?_;refine tu 10 ?_;refine tu 11 ?_;refine tk 12 ?_;refine tk 13 ?_;refine wpAnyH_done (by kernel_rfl) ?_ _;have um:=(Dn hown hb1 Gh);have KZ:=K1;have atT:=KZ.sz
        go_wp2_with (at_builtin;refine wpList_append_lies _ rfl _ _ _ rfl (w.heap.size+1) 3 i0 (.int .i64 0) 1 8 Tryz.underlying50 hi hz0 hz1 hz2 rfl (by omega) _ _ _ rfl (um.alloc _) ⟨w1.heap.size,0,none⟩ 1 1 [.int .i64 bl[k]] rfl rfl (dJ _ _ _ _ (by simp)) ?c1 (by omega) ?c2 ?c3 ?c4 (w1.heap.size+1) (by simp) ?_)
        case c1=>simp [Value.oneCell']
        case c2=>simp only [maxLen];omega
        case c3=>omega
        case c4=>first | omega | (simp;omega)
        intro g1 cap w9 hown1 hgrow _ _;have hbd:=eX (B:=w.heap.size+1) (um.alloc _) hgrow (by omega) (by simp;omega);have OE:=((Below.refl (w.heap.size+1) w1).alloc (by omega) _).trans hbd
        have hown2:w9.ownsRow (w.heap.size+1) 3 1 (.slice (some ⟨g1,0,none⟩) ((bl.take (k+1)).filter (colour ⟨a0,false,a2,a3,a4,gr,bl,b0,b1,b2,b3,b4,b5,b6,b7⟩)).length cap) ((bl.take (k+1)).filter (colour ⟨a0,false,a2,a3,a4,gr,bl,b0,b1,b2,b3,b4,b5,b6,b7⟩)).length (((bl.take (k+1)).filter (colour ⟨a0,false,a2,a3,a4,gr,bl,b0,b1,b2,b3,b4,b5,b6,b7⟩)).map (Value.int .i64)):=by rw [HS.out];simpa using hown1
        have hv:((bl.take k).filter (colour ⟨a0,false,a2,a3,a4,gr,bl,b0,b1,b2,b3,b4,b5,b6,b7⟩)).length+1=((bl.take (k+1)).filter (colour ⟨a0,false,a2,a3,a4,gr,bl,b0,b1,b2,b3,b4,b5,b6,b7⟩)).length:=by rw [HS.out];simp
        have KY:=(KZ.alloc _).upto hbd (by omega);rw [hv];clear um hgrow hown1 hbd OE hv HS;go_wp2
        go_roundw
        case rel=>exact ⟨k+1,by omega,by go_num,⟨_,_,rfl⟩,hown2,KY⟩
        case measure=>simp [intOf];omega
      · have asG:(M.own ⟨a0,false,a2,a3,a4,gr,bl,b0,b1,b2,b3,b4,b5,b6,b7⟩ == 0)=false:=by simp;exact fun h=>hgr (HO.out.1 h)
        by_cases hsd:M.side bl[k]=M.own ⟨a0,false,a2,a3,a4,gr,bl,b0,b1,b2,b3,b4,b5,b6,b7⟩
        · have atx:(M.side bl[k] == M.own ⟨a0,false,a2,a3,a4,gr,bl,b0,b1,b2,b3,b4,b5,b6,b7⟩)=true:=by simp [hsd]
          have HS:=hide (BX (p:=(colour ⟨a0,false,a2,a3,a4,gr,bl,b0,b1,b2,b3,b4,b5,b6,b7⟩)) hlt (by simp [colour,h8,hsd]));clear hgr h8 hsd;go_wp2;have Eb:∀ W:World,(fun w':World=>∀ p q,p<w.heap.size+1→w'.cell? ⟨p,q,none⟩=(w.alloc (.cells #[.string M.bF,.int .i64 tg,.int .i64 fo,.int .i64 a0,.bool false,.bool a2,.bool a3,.bool a4,.int .i64 gr,.slice (some ⟨b,o,none⟩) bl.length c,.int .i64 b0,.int .i64 b1,.int .i64 b2,.int .i64 b3,.int .i64 b4,.int .i64 b5,.bool b6,.int .i64 b7] 99)).cell? ⟨p,q,none⟩) W→W.rangeAt w.heap.size 0 [.string M.bF,.int .i64 tg,.int .i64 fo,.int .i64 a0,.bool false,.bool a2,.bool a3,.bool a4,.int .i64 gr,.slice (some ⟨b,o,none⟩) bl.length c,.int .i64 b0,.int .i64 b1,.int .i64 b2,.int .i64 b3,.int .i64 b4,.int .i64 b5,.bool b6,.int .i64 b7]:=Bv w _ _;have hun:=Tryz.underlying99;refine wp_region_held_drew (S:=(fun w'=>∀ p q,p<w.heap.size+1→w'.cell? ⟨p,q,none⟩=(w.alloc (.cells #[.string M.bF,.int .i64 tg,.int .i64 fo,.int .i64 a0,.bool false,.bool a2,.bool a3,.bool a4,.int .i64 gr,.slice (some ⟨b,o,none⟩) bl.length c,.int .i64 b0,.int .i64 b1,.int .i64 b2,.int .i64 b3,.int .i64 b4,.int .i64 b5,.bool b6,.int .i64 b7] 99)).cell? ⟨p,q,none⟩)) (by kernel_rfl) ?lS (fun hHeld=>?_)
          case lS=>first | exact K2.cell | exact K1.cell | exact KR.cell
          refine tk 0 ?_;refine tk 1 ?_;refine tk 2 ?_;refine wpAnyH_take (i:=3) (oi:=_) (v:=_) (ga rfl) (by kernel_rfl) (by kernel_rfl) (by kernel_rfl) (fun _ _ _ h=>h) (yieldsIf_load_mid (by rfl) _ _ (by rfl) _ _ (by rfl) _ _ Eb hun rfl (by kernel_rfl)) (by assumption) ?_
          try simp only [Act.put,la,lz,ls]
          refine tr 4 fun K hK=>?_;go_simp
          (first | (go_at_call 141;refine (jO ⟨M.bF,tg,fo⟩ ⟨a0,false,a2,a3,a4,gr,bl,b0,b1,b2,b3,b4,b5,b6,b7⟩ _ _ _ hg).mono ?_;rintro e w2 ⟨rfl,hb2⟩;have K2:=K1.call hb2) | (go_at_call 141;refine (jO ⟨M.bF,tg,fo⟩ ⟨a0,false,a2,a3,a4,gr,bl,b0,b1,b2,b3,b4,b5,b6,b7⟩ _ _ _ hg).mono ?_;rintro e w1 ⟨rfl,hb1⟩;have K1:=KR.drew.call hb1) | (go_at_call 142;refine (lW _ _).mono ?_;rintro e eY ⟨rfl,rfl⟩))
          refine hK.out _ _ ?J9 (fun hHeld=>?_)
          case J9=>(first | (first | exact K2.cell | exact K1.cell | exact KR.cell) | (dsimp only;first | exact K2.cell | exact K1.cell | exact KR.cell))
          clear hK K
          try simp only [Act.put,la,lz,ls]
          refine tk 5 ?_;refine tk 6 ?_;refine tk 7 ?_;refine wpAnyH_take (i:=9) (oi:=_) (v:=_) (ga rfl) (by kernel_rfl) (by kernel_rfl) (by kernel_rfl) (fun _ _ _ h=>h) (yieldsIf_load_mid (by rfl) _ _ (by rfl) _ _ (by rfl) _ _ Eb hun rfl (by kernel_rfl)) (by assumption) ?_
          try simp only [Act.put,la,lz,ls]
          refine tr 8 fun K hK=>?_;go_simp
          (first | (go_at_call 141;refine (jO ⟨M.bF,tg,fo⟩ ⟨a0,false,a2,a3,a4,gr,bl,b0,b1,b2,b3,b4,b5,b6,b7⟩ _ _ _ hg).mono ?_;rintro e w2 ⟨rfl,hb2⟩;have K2:=K1.call hb2) | (go_at_call 141;refine (jO ⟨M.bF,tg,fo⟩ ⟨a0,false,a2,a3,a4,gr,bl,b0,b1,b2,b3,b4,b5,b6,b7⟩ _ _ _ hg).mono ?_;rintro e w1 ⟨rfl,hb1⟩;have K1:=KR.drew.call hb1) | (go_at_call 142;refine (lW _ _).mono ?_;rintro e eY ⟨rfl,rfl⟩))
          refine hK.out _ _ ?VJ (fun hHeld=>?_)
          case VJ=>(first | (first | exact K2.cell | exact K1.cell | exact KR.cell) | (dsimp only;first | exact K2.cell | exact K1.cell | exact KR.cell))
          clear hK K
          try simp only [Act.put,la,lz,ls]
          refine tr 10 fun K hK=>?_;go_simp
          (first | (go_at_call 141;refine (jO ⟨M.bF,tg,fo⟩ ⟨a0,false,a2,a3,a4,gr,bl,b0,b1,b2,b3,b4,b5,b6,b7⟩ _ _ _ hg).mono ?_;rintro e w2 ⟨rfl,hb2⟩;have K2:=K1.call hb2) | (go_at_call 141;refine (jO ⟨M.bF,tg,fo⟩ ⟨a0,false,a2,a3,a4,gr,bl,b0,b1,b2,b3,b4,b5,b6,b7⟩ _ _ _ hg).mono ?_;rintro e w1 ⟨rfl,hb1⟩;have K1:=KR.drew.call hb1) | (go_at_call 142;refine (lW _ _).mono ?_;rintro e eY ⟨rfl,rfl⟩))
          refine hK.out _ _ ?afY (fun hHeld=>?_)
          case afY=>(first | (first | exact K2.cell | exact K1.cell | exact KR.cell) | (dsimp only;first | exact K2.cell | exact K1.cell | exact KR.cell))
          clear hK K
          try simp only [Act.put,la,lz,ls]
          refine tk 11 ?_;refine tk 12 ?_;refine tk 13 ?_;refine wpAnyH_done (by kernel_rfl) ?_ _;have um:=(xX (Dn hown hb1 Gh) hb2);have KZ:=K2;have atT:=KZ.sz
          go_wp2_with (at_builtin;refine wpList_append_lies _ rfl _ _ _ rfl (w.heap.size+1) 3 i0 (.int .i64 0) 1 8 Tryz.underlying50 hi hz0 hz1 hz2 rfl (by omega) _ _ _ rfl (um.alloc _) ⟨w2.heap.size,0,none⟩ 1 1 [.int .i64 bl[k]] rfl rfl (dJ _ _ _ _ (by simp)) ?c1 (by omega) ?c2 ?c3 ?c4 (w2.heap.size+1) (by simp) ?_)
          case c1=>simp [Value.oneCell']
          case c2=>simp only [maxLen];omega
          case c3=>omega
          case c4=>first | omega | (simp;omega)
          intro g1 cap w9 hown1 hgrow _ _;have hbd:=eX (B:=w.heap.size+1) (um.alloc _) hgrow (by omega) (by simp;omega);have OE:=((Below.refl (w.heap.size+1) w2).alloc (by omega) _).trans hbd
          have hown2:w9.ownsRow (w.heap.size+1) 3 1 (.slice (some ⟨g1,0,none⟩) ((bl.take (k+1)).filter (colour ⟨a0,false,a2,a3,a4,gr,bl,b0,b1,b2,b3,b4,b5,b6,b7⟩)).length cap) ((bl.take (k+1)).filter (colour ⟨a0,false,a2,a3,a4,gr,bl,b0,b1,b2,b3,b4,b5,b6,b7⟩)).length (((bl.take (k+1)).filter (colour ⟨a0,false,a2,a3,a4,gr,bl,b0,b1,b2,b3,b4,b5,b6,b7⟩)).map (Value.int .i64)):=by rw [HS.out];simpa using hown1
          have hv:((bl.take k).filter (colour ⟨a0,false,a2,a3,a4,gr,bl,b0,b1,b2,b3,b4,b5,b6,b7⟩)).length+1=((bl.take (k+1)).filter (colour ⟨a0,false,a2,a3,a4,gr,bl,b0,b1,b2,b3,b4,b5,b6,b7⟩)).length:=by rw [HS.out];simp
          have KY:=(KZ.alloc _).upto hbd (by omega);rw [hv];clear um hgrow hown1 hbd OE hv HS;go_wp2
          go_roundw
          case rel=>exact ⟨k+1,by omega,by go_num,⟨_,_,rfl⟩,hown2,KY⟩
          case measure=>simp [intOf];omega
        · have atx:(M.side bl[k] == M.own ⟨a0,false,a2,a3,a4,gr,bl,b0,b1,b2,b3,b4,b5,b6,b7⟩)=false:=by simp [hsd]
          have HS:=hide (Ey (p:=(colour ⟨a0,false,a2,a3,a4,gr,bl,b0,b1,b2,b3,b4,b5,b6,b7⟩)) hlt (by simp [colour,h8,hgr,hsd]));clear hgr h8 hsd;go_wp2;have Eb:∀ W:World,(fun w':World=>∀ p q,p<w.heap.size+1→w'.cell? ⟨p,q,none⟩=(w.alloc (.cells #[.string M.bF,.int .i64 tg,.int .i64 fo,.int .i64 a0,.bool false,.bool a2,.bool a3,.bool a4,.int .i64 gr,.slice (some ⟨b,o,none⟩) bl.length c,.int .i64 b0,.int .i64 b1,.int .i64 b2,.int .i64 b3,.int .i64 b4,.int .i64 b5,.bool b6,.int .i64 b7] 99)).cell? ⟨p,q,none⟩) W→W.rangeAt w.heap.size 0 [.string M.bF,.int .i64 tg,.int .i64 fo,.int .i64 a0,.bool false,.bool a2,.bool a3,.bool a4,.int .i64 gr,.slice (some ⟨b,o,none⟩) bl.length c,.int .i64 b0,.int .i64 b1,.int .i64 b2,.int .i64 b3,.int .i64 b4,.int .i64 b5,.bool b6,.int .i64 b7]:=Bv w _ _;have hun:=Tryz.underlying99;refine wp_region_held_drew (S:=(fun w'=>∀ p q,p<w.heap.size+1→w'.cell? ⟨p,q,none⟩=(w.alloc (.cells #[.string M.bF,.int .i64 tg,.int .i64 fo,.int .i64 a0,.bool false,.bool a2,.bool a3,.bool a4,.int .i64 gr,.slice (some ⟨b,o,none⟩) bl.length c,.int .i64 b0,.int .i64 b1,.int .i64 b2,.int .i64 b3,.int .i64 b4,.int .i64 b5,.bool b6,.int .i64 b7] 99)).cell? ⟨p,q,none⟩)) (by kernel_rfl) ?jY (fun hHeld=>?_)
          case jY=>first | exact K2.cell | exact K1.cell | exact KR.cell
          refine tk 0 ?_;refine tk 1 ?_;refine tk 2 ?_;refine wpAnyH_take (i:=3) (oi:=_) (v:=_) (ga rfl) (by kernel_rfl) (by kernel_rfl) (by kernel_rfl) (fun _ _ _ h=>h) (yieldsIf_load_mid (by rfl) _ _ (by rfl) _ _ (by rfl) _ _ Eb hun rfl (by kernel_rfl)) (by assumption) ?_
          try simp only [Act.put,la,lz,ls]
          refine tr 4 fun K hK=>?_;go_simp
          (first | (go_at_call 141;refine (jO ⟨M.bF,tg,fo⟩ ⟨a0,false,a2,a3,a4,gr,bl,b0,b1,b2,b3,b4,b5,b6,b7⟩ _ _ _ hg).mono ?_;rintro e w2 ⟨rfl,hb2⟩;have K2:=K1.call hb2) | (go_at_call 141;refine (jO ⟨M.bF,tg,fo⟩ ⟨a0,false,a2,a3,a4,gr,bl,b0,b1,b2,b3,b4,b5,b6,b7⟩ _ _ _ hg).mono ?_;rintro e w1 ⟨rfl,hb1⟩;have K1:=KR.drew.call hb1) | (go_at_call 142;refine (lW _ _).mono ?_;rintro e eY ⟨rfl,rfl⟩))
          refine hK.out _ _ ?VY (fun hHeld=>?_)
          case VY=>(first | (first | exact K2.cell | exact K1.cell | exact KR.cell) | (dsimp only;first | exact K2.cell | exact K1.cell | exact KR.cell))
          clear hK K
          try simp only [Act.put,la,lz,ls]
          refine tk 5 ?_;refine tk 6 ?_;refine tk 7 ?_;refine wpAnyH_take (i:=9) (oi:=_) (v:=_) (ga rfl) (by kernel_rfl) (by kernel_rfl) (by kernel_rfl) (fun _ _ _ h=>h) (yieldsIf_load_mid (by rfl) _ _ (by rfl) _ _ (by rfl) _ _ Eb hun rfl (by kernel_rfl)) (by assumption) ?_
          try simp only [Act.put,la,lz,ls]
          refine tr 8 fun K hK=>?_;go_simp
          (first | (go_at_call 141;refine (jO ⟨M.bF,tg,fo⟩ ⟨a0,false,a2,a3,a4,gr,bl,b0,b1,b2,b3,b4,b5,b6,b7⟩ _ _ _ hg).mono ?_;rintro e w2 ⟨rfl,hb2⟩;have K2:=K1.call hb2) | (go_at_call 141;refine (jO ⟨M.bF,tg,fo⟩ ⟨a0,false,a2,a3,a4,gr,bl,b0,b1,b2,b3,b4,b5,b6,b7⟩ _ _ _ hg).mono ?_;rintro e w1 ⟨rfl,hb1⟩;have K1:=KR.drew.call hb1) | (go_at_call 142;refine (lW _ _).mono ?_;rintro e eY ⟨rfl,rfl⟩))
          refine hK.out _ _ ?Wp (fun hHeld=>?_)
          case Wp=>(first | (first | exact K2.cell | exact K1.cell | exact KR.cell) | (dsimp only;first | exact K2.cell | exact K1.cell | exact KR.cell))
          clear hK K
          try simp only [Act.put,la,lz,ls]
          refine tr 10 fun K hK=>?_;go_simp
          (first | (go_at_call 141;refine (jO ⟨M.bF,tg,fo⟩ ⟨a0,false,a2,a3,a4,gr,bl,b0,b1,b2,b3,b4,b5,b6,b7⟩ _ _ _ hg).mono ?_;rintro e w2 ⟨rfl,hb2⟩;have K2:=K1.call hb2) | (go_at_call 141;refine (jO ⟨M.bF,tg,fo⟩ ⟨a0,false,a2,a3,a4,gr,bl,b0,b1,b2,b3,b4,b5,b6,b7⟩ _ _ _ hg).mono ?_;rintro e w1 ⟨rfl,hb1⟩;have K1:=KR.drew.call hb1) | (go_at_call 142;refine (lW _ _).mono ?_;rintro e eY ⟨rfl,rfl⟩))
          refine hK.out _ _ ?NY (fun hHeld=>?_)
          case NY=>(first | (first | exact K2.cell | exact K1.cell | exact KR.cell) | (dsimp only;first | exact K2.cell | exact K1.cell | exact KR.cell))
          clear hK K
          try simp only [Act.put,la,lz,ls]
          refine tk 11 ?_;refine tk 12 ?_;refine tk 13 ?_;refine wpAnyH_done (by kernel_rfl) ?_ _;go_wp2
          go_roundw
          case rel=>exact ⟨k+1,by omega,by go_num,by rw [HS.out];exact ⟨⟨_,_,rfl⟩,(xX (Dn hown hb1 Gh) hb2),K2⟩⟩
          case measure=>simp [intOf];omega
  · obtain rfl:k=bl.length:=by omega
    rw [List.take_length] at hown ⊢;have hfl:=List.length_filter_le (colour ⟨a0,false,a2,a3,a4,gr,bl,b0,b1,b2,b3,b4,b5,b6,b7⟩) bl
    by_cases hz:bl.filter (colour ⟨a0,false,a2,a3,a4,gr,bl,b0,b1,b2,b3,b4,b5,b6,b7⟩)=[]
    · have hz':(((bl.filter (colour ⟨a0,false,a2,a3,a4,gr,bl,b0,b1,b2,b3,b4,b5,b6,b7⟩)).length:Int) == 0)=true:=by rw [hz];rfl
      by_cases h8:(8:Int)∈bl
      · have HR:=hide (HT.out.trans (if_pos ⟨hz,h8⟩))
        have h8':decide ((8:Int)∈bl)=true:=decide_eq_true h8;have hl8:=(bQ.lit wr 3 [8] (by simp) (fun b=>w.heap.size≤b) (by omega));clear HT hz h8
        go_wp2_with (go_at_call 78;refine (iQ S A c bl _ _ (hp.below KR.bw)).mono ?_;rintro e eY ⟨rfl,rfl⟩)
        go_ret;rw [HR.out];exact ⟨_,_,rfl,hl8,(KR.alloc _).bw⟩
      · have HR:=hide (HT.out.trans (if_neg (fun h=>h8 h.2)))
        have h8':decide ((8:Int)∈bl)=false:=decide_eq_false h8;clear HT hz h8
        go_wp2_with (go_at_call 78;refine (iQ S A c bl _ _ (hp.below KR.bw)).mono ?_;rintro e eY ⟨rfl,rfl⟩)
        go_ret;rw [HR.out];exact ⟨A1,c1',rfl,Reads.je hown (fun b h=>by omega) (by omega),KR.bw⟩
    · have HR:=hide (HT.out.trans (if_neg (fun h=>hz h.1)))
      have hz':(((bl.filter (colour ⟨a0,false,a2,a3,a4,gr,bl,b0,b1,b2,b3,b4,b5,b6,b7⟩)).length:Int) == 0)=false:=by simpa using hz
      clear HT hz;go_wp2;go_ret;rw [HR.out];exact ⟨A1,c1',rfl,Reads.je hown (fun b h=>by omega) (by omega),KR.bw⟩
theorem Aj (S:Nat→Prop) (r:M.Rules) (s:M.State) (A:Option Addr) (c:Nat) (w:World) (hp:bQ w S A c s.au) (hr:M.aQ r=0) (hg:0≤s.group∧s.group≤2):
 Calls Tryz.prog 79 #[dX r s A c] w fun e w'=>∃ A' c',e= .returned (.slice A' (M.targets r s).length c')∧bQ w' (fun b=>w.heap.size≤b) A' c' (M.targets r s)∧Below w.heap.size w w':=by
 rcases XL hr with h | h | h
 · exact uj S r s A c w hp (.inl h)
 · rcases Bool.eq_false_or_eq_true s.brk with hb | hb
   · exact uj S r s A c w hp (.inr (.inr ⟨h,hb⟩))
   · obtain ⟨g,tg,fo⟩:=r
     simp only at h
     subst h;exact AQ S tg fo s A c w hp hb hg
 · exact uj S r s A c w hp (.inr (.inl h))
theorem GK {n a b:Int} (h:M.out n a b=false):a≤n∧n≤b:=by
 unfold M.out at h
 rw [decide_eq_false_iff_not] at h
 omega
end Go.Proofs.YtcjglfbpjkdgiaaGreatDoor
namespace Go.Proofs.YtcjglfbpjkdgiaaGreatDoor
theorem Eu:∀ (l seen:List M.kL),M.gJ seen l=0→∀ p∈l,(0≤p.aT∧p.aT≤15)∧(1≤p.aP∧p.aP≤6)
 | [],_,_,p,hp=>by cases hp
 | q::l,seen,h,p,hp=>by
   rw [M.gJ] at h
   split at h
   · cases h
   · next h1=>
     split at h
     · cases h
     · rw [not_or] at h1
       rcases List.mem_cons.1 hp with rfl | hp
       · exact ⟨GK (by simpa using h1.1),GK (by simpa using h1.2)⟩
       · exact Eu l _ h p hp
theorem xq {x:M.aV} (h:M.bT x=0):vW x∧(∀ p∈x.aC,(0≤p.aT∧p.aT≤15)∧(1≤p.aP∧p.aP≤6))∧M.rU x=0:=by
 unfold M.bT at h
 by_cases h1:M.gZ x=0
 · rw [if_neg (by simp [h1])] at h
   by_cases h2:M.gJ [] x.aC=0
   · rw [if_neg (by simp [h2])] at h
     exact ⟨MH h1,Eu _ _ h2,h⟩
   · rw [if_pos h2] at h;exact absurd h h2
 · rw [if_pos h1] at h;exact absurd h h1
end Go.Proofs.YtcjglfbpjkdgiaaGreatDoor
namespace Go.Proofs.YtcjglfbpjkdgiaaGreatDoor
open Go.RowKit
theorem IV (r:M.Rules) (s:M.State) (A:Option Addr) (c:Nat) (w:World):Calls Tryz.prog 134 #[dX r s A c] w fun e w'=>e= .returned (.bool (true))∧Below w.heap.size w w':=by
 go_enter Tryz.func134,Tryz.ntmps134
 go_wp2;go_ret;exact ⟨rfl,(Below.refl _ _).alloc (Nat.le_refl _) _⟩
theorem IW (r:M.Rules) (s:M.State) (A:Option Addr) (c:Nat) (w:World):Calls Tryz.prog 135 #[dX r s A c] w fun e w'=>e= .returned (.bool (s.push))∧Below w.heap.size w w':=by
 go_enter Tryz.func135,Tryz.ntmps135
 go_wp2;go_ret;exact ⟨rfl,(Below.refl _ _).alloc (Nat.le_refl _) _⟩
theorem IX (r:M.Rules) (s:M.State) (A:Option Addr) (c:Nat) (w:World):Calls Tryz.prog 136 #[dX r s A c] w fun e w'=>e= .returned (.bool (s.pushed))∧Below w.heap.size w w':=by
 go_enter Tryz.func136,Tryz.ntmps136
 go_wp2;go_ret;exact ⟨rfl,(Below.refl _ _).alloc (Nat.le_refl _) _⟩
theorem MS (k:ByteArray):∀ args w,(callFunc (P9 k) args).run Tryz.prog w= .ok (.enter (P9 k) args) w:=by
 unfold P9
 split
 · exact enters_of Tryz.func135 (by kernel_rfl) rfl
 split
 · exact enters_of Tryz.func136 (by kernel_rfl) rfl
 · exact enters_of Tryz.func134 (by kernel_rfl) rfl
theorem Yi (k:ByteArray) (r:M.Rules) (s:M.State) (A:Option Addr) (c:Nat) (w:World):Calls Tryz.prog (P9 k) #[dX r s A c] w fun e w'=>e= .returned (.bool (M.permitted s k))∧Below w.heap.size w w':=by
 unfold P9 M.permitted
 split
 · exact IW r s A c w
 split
 · exact IX r s A c w
 · exact IV r s A c w
section
variable {w:World} {Bf Bx Bc Bo Bk Bl:Nat} {r:M.Rules} {s:M.State} {x:M.aV} {A P:Option Addr} {c d:Nat} {S:Nat→Prop}
theorem DX (k:ByteArray) (b1 b2:Bool) (hk:Box w Bk [.bool b1,.bool b2,.func (.func (P9 k)) #[] #[]]) (hf:Box w Bf (aj r s A c)):Asks 95 #[ptr Bk,ptr Bf] (M.permitted s k) w:=by
 refine ⟨enters_of Tryz.func95 (by kernel_rfl) rfl,fun W hb=>?_⟩;have kk:=hk.below hb;have kk2:=kk.2 2 _ rfl;have kf:=hf.below hb
 have hrg:W.rangeAt Bf 0 [.string r.game,.int .i64 r.target,.int .i64 r.bD,.int .i64 s.turn,.bool s.brk,.bool s.hand,.bool s.push,.bool s.pushed,.int .i64 s.group,.slice A s.au.length c,.int .i64 s.s0,.int .i64 s.s1,.int .i64 s.f0,.int .i64 s.f1,.int .i64 s.run,.int .i64 s.bI,.bool s.over,.int .i64 s.bP]:=fun j v hj=>by rw [Nat.zero_add];exact kf.2 j v hj
 have hun:=Tryz.underlying99;have HR:=hide hrg;clear hrg kf;have eg:=MS k;have hcall:=fun W'=>Yi k r s A c W';obtain ⟨n,hn⟩:∃ n,P9 k=n:=⟨_,rfl⟩;rw [hn] at kk2 eg
 simp only [hn] at hcall
 have HC:=hide hcall;clear hn hcall
 go_enter Tryz.func95,Tryz.ntmps95
 go_wp2_with (first | (go_at_fn n;refine (HC.out W).mono ?_;rintro e w2 ⟨rfl,hb2⟩) | (refine wpList_load_mid rfl 99 (.tmp 1) rfl Bf 0 rfl _ _ HR.out hun rfl (by kernel_rfl) ?_))
 go_ret;exact ⟨rfl,hb.trans (hb2.mono hb.size)⟩
theorem Qp (ho:Box w Bo [.func (.func 91) #[] #[ptr Bf]]) (hf:Box w Bf (aj r s A c)) (hp:bQ w S A c s.au):vJ 100 #[ptr Bo] aaE (fun b=>decide (b ∉ s.au)) w:=by
 refine ⟨enters_of Tryz.func100 (by kernel_rfl) rfl,fun W b hb=>?_⟩;have ko:=ho.below hb;have IY:=ko.2 0 _ rfl
 go_enter Tryz.func100,Tryz.ntmps100
 go_wp2_with (go_at_call 91;refine (on_any hf hp _ _ hb).mono ?_;rintro e eY ⟨rfl,rfl⟩)
 go_ret;exact ⟨dD (by simp),hb⟩
theorem Hz (hx:Box w Bx (aA ⟨x,P,d⟩)) (ho:Box w Bo [.func (.func 91) #[] #[ptr Bf]]) (hf:Box w Bf (aj r s A c)) (hp:bQ w S A c s.au) (hpp:fP w S P d x.aC) (hpos:∀ p∈x.aC,0≤p.aT):
 Asks 98 #[ptr Bx,ptr Bo] (M.q7 s x) w:=by
 refine ⟨enters_of Tryz.func98 (by kernel_rfl) rfl,fun W hb=>?_⟩;have kx:=hx.below hb;have RP:=kx.2 0 _ rfl;have RQ:=kx.2 1 _ rfl;have kx2:=kx.2 2 _ rfl;have kx3:=kx.2 3 _ rfl;have kx4:=kx.2 4 _ rfl;have kx5:=kx.2 5 _ rfl;have kx6:=kx.2 6 _ rfl;have Gg:=jW S x P d W (hpp.below hb) hpos
 have hq:M.q7 s x=(!((M.objects x).any fun b=>decide (b ∉ s.au)) && (decide (0<x.first) || decide (M.objects x=[]))):=by
  unfold M.q7;rw [Bool.eq_iff_iff];simp only [Bool.and_eq_true,Bool.not_eq_true',Bool.or_eq_true,decide_eq_true_eq]
 rw [hq];obtain ⟨zs,hzs⟩:∃ z,M.objects x=z:=⟨_,rfl⟩
 simp only [hzs] at Gg ⊢
 clear hq hzs;obtain ⟨b1,h1⟩:∃ b,(zs.any fun b=>decide (b ∉ s.au))=b:=⟨_,rfl⟩;rw [h1];have H1:=hide h1;clear h1;have HO:=hide Gg;clear Gg
 have hz0:decide (zs=[])=((zs.length:Int) == 0):=by cases zs with | nil=>rfl | cons a l=>simp;omega
 rw [hz0];clear hz0;obtain ⟨b3,h3⟩:∃ b,((zs.length:Int) == 0)=b:=⟨_,rfl⟩;rw [h3];obtain ⟨b2,h2⟩:∃ b,decide (0<x.first)=b:=⟨_,rfl⟩;rw [h2]
 have CF:∀ A1 c1 W1,bQ W1 (fun b=>W.heap.size≤b) A1 c1 zs→Below w.heap.size w W1→Calls Tryz.prog 99 #[.slice A1 zs.length c1,.func (.func 100) #[] #[ptr Bo]] W1 fun e w'=>e= .returned (.bool b1)∧Below W1.heap.size W1 w':=fun A1 c1 W1 h hb1=>by
  have:=PD _ A1 c1 zs _ _ _ W1 h (Qp (ho.below hb1) (hf.below hb1) (hp.below hb1))
  rwa [H1.out] at this
 have HCF:=hide CF;clear CF
 cases b1 with
 | true=>
   go_enter Tryz.func98,Tryz.ntmps98
   go_wp2_with (first | (go_at_call 81;refine HO.out.mono ?_;rintro e w1 ⟨A1,c1,rfl,hr1,hb1⟩;have hb1':=hb.trans (hb1.mono hb.size);have alD:=(hb1'.cell (p:=⟨Bx,4,none⟩) hx.1).trans (hx.2 4 _ rfl)) | (go_at_call 99;refine (HCF.out _ _ _ hr1 hb1').mono ?_;rintro e w2 ⟨rfl,hb2⟩;have hb2':=hb1'.trans (hb2.mono hb1'.size);have Zi:=(hb2'.cell (p:=⟨Bx,4,none⟩) hx.1).trans (hx.2 4 _ rfl)))
   go_ret;exact ⟨dD (by simp),hb2'⟩
 | false=>
   cases b2 with
   | true=>
     go_enter Tryz.func98,Tryz.ntmps98
     go_wp2_with (first | (go_at_call 81;refine HO.out.mono ?_;rintro e w1 ⟨A1,c1,rfl,hr1,hb1⟩;have hb1':=hb.trans (hb1.mono hb.size);have alD:=(hb1'.cell (p:=⟨Bx,4,none⟩) hx.1).trans (hx.2 4 _ rfl)) | (go_at_call 99;refine (HCF.out _ _ _ hr1 hb1').mono ?_;rintro e w2 ⟨rfl,hb2⟩;have hb2':=hb1'.trans (hb2.mono hb1'.size);have Zi:=(hb2'.cell (p:=⟨Bx,4,none⟩) hx.1).trans (hx.2 4 _ rfl)))
     go_ret;exact ⟨dD (by simp),hb2'⟩
   | false=>
     cases b3
     all_goals
      go_enter Tryz.func98,Tryz.ntmps98
      go_wp2_with (first | (go_at_call 81;refine HO.out.mono ?_;rintro e w1 ⟨A1,c1,rfl,hr1,hb1⟩;have hb1':=hb.trans (hb1.mono hb.size);have alD:=(hb1'.cell (p:=⟨Bx,4,none⟩) hx.1).trans (hx.2 4 _ rfl)) | (go_at_call 99;refine (HCF.out _ _ _ hr1 hb1').mono ?_;rintro e w2 ⟨rfl,hb2⟩;have hb2':=hb1'.trans (hb2.mono hb1'.size);have Zi:=(hb2'.cell (p:=⟨Bx,4,none⟩) hx.1).trans (hx.2 4 _ rfl)))
      go_ret;exact ⟨dD (by simp),hb2'⟩
end
theorem Keeps.box {w B W:World} {nb b:Nat} {cs:List Value} (h:Keeps w B nb W) (hb:Box B b cs) (hl:b<w.heap.size+nb):Box W b cs:=
 ⟨Nat.lt_of_lt_of_le hl h.sz,fun j v hj=>(h.cell b j hl).trans (hb.2 j v hj)⟩
def lgG:Nat→Nat:=fun j=>[92,93,94,95,96,97,98].getD j 0
def lgL (N D L:Nat):Nat→Array Value:=fun j=>[#[ptr N], #[ptr (N+3),ptr (N+1),ptr N], #[ptr (N+3),ptr N,ptr (N+1)], #[ptr D,ptr N], #[ptr L,ptr (N+2),ptr (N+1)], #[ptr (N+1),ptr (N+2)], #[ptr (N+1),ptr (N+2)]].getD j #[]
theorem EN (S:Nat→Prop) (r:M.Rules) (s:M.State) (x:M.aV) (A P:Option Addr) (c d:Nat) (w:World) (hp:bQ w S A c s.au) (hpp:fP w S P d x.aC) (hx:vW x) (hpos:∀ p∈x.aC,0≤p.aT):
 Calls Tryz.prog 48 #[dX r s A c,iy x P d] w fun e w'=>e= .returned (.int .i64 (M.legal r s x))∧Below w.heap.size w w':=by
 obtain ⟨e1,e2,e3⟩:=hpp.bd;obtain ⟨e4,e5,e6⟩:=hp.bd;rw [M.Qd r s x (GK hx.first).1];have hk:=hx.kind;obtain ⟨g,tg,fo⟩:=r;obtain ⟨a0,a1,a2,a3,a4,gr,bl,b0,b1,b2,b3,b4,b5,b6,b7⟩:=s;obtain ⟨pl,kd,ba,po,fi,cu,aC⟩:=x
 simp only at hp hpp e1 e3 e4 e6 hk hpos
 have K0:Keeps w ((((w.alloc (.cells #[.string g,.int .i64 tg,.int .i64 fo,.int .i64 a0,.bool a1,.bool a2,.bool a3,.bool a4,.int .i64 gr,.slice A bl.length c,.int .i64 b0,.int .i64 b1,.int .i64 b2,.int .i64 b3,.int .i64 b4,.int .i64 b5,.bool b6,.int .i64 b7] 99)).alloc (.cells #[.int .i64 pl,.string kd,.int .i64 ba,.int .i64 po,.int .i64 fi,.bool cu,.slice P aC.length d] 27)).alloc (.cells #[.func (.func 91) #[] #[ptr w.heap.size]] 134)).alloc (.cells #[.bool (decide (kd=M.bC))] 4)) 4 ((((w.alloc (.cells #[.string g,.int .i64 tg,.int .i64 fo,.int .i64 a0,.bool a1,.bool a2,.bool a3,.bool a4,.int .i64 gr,.slice A bl.length c,.int .i64 b0,.int .i64 b1,.int .i64 b2,.int .i64 b3,.int .i64 b4,.int .i64 b5,.bool b6,.int .i64 b7] 99)).alloc (.cells #[.int .i64 pl,.string kd,.int .i64 ba,.int .i64 po,.int .i64 fi,.bool cu,.slice P aC.length d] 27)).alloc (.cells #[.func (.func 91) #[] #[ptr w.heap.size]] 134)).alloc (.cells #[.bool (decide (kd=M.bC))] 4)):=Keeps.of ((((Below.refl _ _).alloc (Nat.le_refl _) _).alloc (by simp) _).alloc (by simp;omega) _ |>.alloc (by simp;omega) _) (by simp)
 have hsz:((((w.alloc (.cells #[.string g,.int .i64 tg,.int .i64 fo,.int .i64 a0,.bool a1,.bool a2,.bool a3,.bool a4,.int .i64 gr,.slice A bl.length c,.int .i64 b0,.int .i64 b1,.int .i64 b2,.int .i64 b3,.int .i64 b4,.int .i64 b5,.bool b6,.int .i64 b7] 99)).alloc (.cells #[.int .i64 pl,.string kd,.int .i64 ba,.int .i64 po,.int .i64 fi,.bool cu,.slice P aC.length d] 27)).alloc (.cells #[.func (.func 91) #[] #[ptr w.heap.size]] 134)).alloc (.cells #[.bool (decide (kd=M.bC))] 4)).heap.size=w.heap.size+4:=by simp
 have hl0:=iY hk (w:=(((((w.alloc (.cells #[.string g,.int .i64 tg,.int .i64 fo,.int .i64 a0,.bool a1,.bool a2,.bool a3,.bool a4,.int .i64 gr,.slice A bl.length c,.int .i64 b0,.int .i64 b1,.int .i64 b2,.int .i64 b3,.int .i64 b4,.int .i64 b5,.bool b6,.int .i64 b7] 99)).alloc (.cells #[.int .i64 pl,.string kd,.int .i64 ba,.int .i64 po,.int .i64 fi,.bool cu,.slice P aC.length d] 27)).alloc (.cells #[.func (.func 91) #[] #[ptr w.heap.size]] 134)).alloc (.cells #[.bool (decide (kd=M.bC))] 4)).alloc (.map (kE 6) 6)).drew) (g:=w.heap.size+4) (by have h:=heap_alloc_new ((((w.alloc (.cells #[.string g,.int .i64 tg,.int .i64 fo,.int .i64 a0,.bool a1,.bool a2,.bool a3,.bool a4,.int .i64 gr,.slice A bl.length c,.int .i64 b0,.int .i64 b1,.int .i64 b2,.int .i64 b3,.int .i64 b4,.int .i64 b5,.bool b6,.int .i64 b7] 99)).alloc (.cells #[.int .i64 pl,.string kd,.int .i64 ba,.int .i64 po,.int .i64 fi,.bool cu,.slice P aC.length d] 27)).alloc (.cells #[.func (.func 91) #[] #[ptr w.heap.size]] 134)).alloc (.cells #[.bool (decide (kd=M.bC))] 4)) (.map (kE 6) 6);rwa [hsz] at h) false;have hl1:=iY hk (w:=((((((w.alloc (.cells #[.string g,.int .i64 tg,.int .i64 fo,.int .i64 a0,.bool a1,.bool a2,.bool a3,.bool a4,.int .i64 gr,.slice A bl.length c,.int .i64 b0,.int .i64 b1,.int .i64 b2,.int .i64 b3,.int .i64 b4,.int .i64 b5,.bool b6,.int .i64 b7] 99)).alloc (.cells #[.int .i64 pl,.string kd,.int .i64 ba,.int .i64 po,.int .i64 fi,.bool cu,.slice P aC.length d] 27)).alloc (.cells #[.func (.func 91) #[] #[ptr w.heap.size]] 134)).alloc (.cells #[.bool (decide (kd=M.bC))] 4)).alloc (.map (kE 6) 6)).alloc (.cells #[.bool false,.bool false,.nilFunc] 157)).drew) (g:=w.heap.size+4) (by have h:=heap_alloc_new ((((w.alloc (.cells #[.string g,.int .i64 tg,.int .i64 fo,.int .i64 a0,.bool a1,.bool a2,.bool a3,.bool a4,.int .i64 gr,.slice A bl.length c,.int .i64 b0,.int .i64 b1,.int .i64 b2,.int .i64 b3,.int .i64 b4,.int .i64 b5,.bool b6,.int .i64 b7] 99)).alloc (.cells #[.int .i64 pl,.string kd,.int .i64 ba,.int .i64 po,.int .i64 fi,.bool cu,.slice P aC.length d] 27)).alloc (.cells #[.func (.func 91) #[] #[ptr w.heap.size]] 134)).alloc (.cells #[.bool (decide (kd=M.bC))] 4)) (.map (kE 6) 6);rw [hsz] at h;exact (heap_alloc_old _ _ (by simp)).trans h) false;have hl2:=iY hk (w:=((((((w.alloc (.cells #[.string g,.int .i64 tg,.int .i64 fo,.int .i64 a0,.bool a1,.bool a2,.bool a3,.bool a4,.int .i64 gr,.slice A bl.length c,.int .i64 b0,.int .i64 b1,.int .i64 b2,.int .i64 b3,.int .i64 b4,.int .i64 b5,.bool b6,.int .i64 b7] 99)).alloc (.cells #[.int .i64 pl,.string kd,.int .i64 ba,.int .i64 po,.int .i64 fi,.bool cu,.slice P aC.length d] 27)).alloc (.cells #[.func (.func 91) #[] #[ptr w.heap.size]] 134)).alloc (.cells #[.bool (decide (kd=M.bC))] 4)).alloc (.cells #[.bool false,.bool false,.nilFunc] 157)).alloc (.map (kE 6) 6)).drew) (g:=w.heap.size+5) (by have h:=heap_alloc_new (((((w.alloc (.cells #[.string g,.int .i64 tg,.int .i64 fo,.int .i64 a0,.bool a1,.bool a2,.bool a3,.bool a4,.int .i64 gr,.slice A bl.length c,.int .i64 b0,.int .i64 b1,.int .i64 b2,.int .i64 b3,.int .i64 b4,.int .i64 b5,.bool b6,.int .i64 b7] 99)).alloc (.cells #[.int .i64 pl,.string kd,.int .i64 ba,.int .i64 po,.int .i64 fi,.bool cu,.slice P aC.length d] 27)).alloc (.cells #[.func (.func 91) #[] #[ptr w.heap.size]] 134)).alloc (.cells #[.bool (decide (kd=M.bC))] 4)).alloc (.cells #[.bool false,.bool false,.nilFunc] 157)) (.map (kE 6) 6);rwa [show (((((w.alloc (.cells #[.string g,.int .i64 tg,.int .i64 fo,.int .i64 a0,.bool a1,.bool a2,.bool a3,.bool a4,.int .i64 gr,.slice A bl.length c,.int .i64 b0,.int .i64 b1,.int .i64 b2,.int .i64 b3,.int .i64 b4,.int .i64 b5,.bool b6,.int .i64 b7] 99)).alloc (.cells #[.int .i64 pl,.string kd,.int .i64 ba,.int .i64 po,.int .i64 fi,.bool cu,.slice P aC.length d] 27)).alloc (.cells #[.func (.func 91) #[] #[ptr w.heap.size]] 134)).alloc (.cells #[.bool (decide (kd=M.bC))] 4)).alloc (.cells #[.bool false,.bool false,.nilFunc] 157)).heap.size=w.heap.size+5 by simp] at h) false
 have hcc:(kd.toList == [99,111,110,99,101,100,101])=decide (kd=M.bC):=by
  rw [Bool.eq_iff_iff,beq_iff_eq,decide_eq_true_eq];exact ⟨fun e=>kU (by rw [e,ByteArray.toList_eq]),fun e=>by subst e;rw [ByteArray.toList_eq]⟩
 clear hsz
 go_enter Tryz.func48,Tryz.ntmps48
 go_upto_region 3 with (fail)
 go_cut [7] (fun v7 wx=>∃ D,v7=ptr D∧Box wx D [.bool (M.jC kd),.bool (Zh kd),.func (.func (P9 kd)) #[] #[]]∧Keeps w ((((w.alloc (.cells #[.string g,.int .i64 tg,.int .i64 fo,.int .i64 a0,.bool a1,.bool a2,.bool a3,.bool a4,.int .i64 gr,.slice A bl.length c,.int .i64 b0,.int .i64 b1,.int .i64 b2,.int .i64 b3,.int .i64 b4,.int .i64 b5,.bool b6,.int .i64 b7] 99)).alloc (.cells #[.int .i64 pl,.string kd,.int .i64 ba,.int .i64 po,.int .i64 fi,.bool cu,.slice P aC.length d] 27)).alloc (.cells #[.func (.func 91) #[] #[ptr w.heap.size]] 134)).alloc (.cells #[.bool (decide (kd=M.bC))] 4)) 4 wx)
 case first=>
  go_region_held3 (fun w'=>∀ p q,p<w.heap.size+4→w'.cell? ⟨p,q,none⟩=((((w.alloc (.cells #[.string g,.int .i64 tg,.int .i64 fo,.int .i64 a0,.bool a1,.bool a2,.bool a3,.bool a4,.int .i64 gr,.slice A bl.length c,.int .i64 b0,.int .i64 b1,.int .i64 b2,.int .i64 b3,.int .i64 b4,.int .i64 b5,.bool b6,.int .i64 b7] 99)).alloc (.cells #[.int .i64 pl,.string kd,.int .i64 ba,.int .i64 po,.int .i64 fi,.bool cu,.slice P aC.length d] 27)).alloc (.cells #[.func (.func 91) #[] #[ptr w.heap.size]] 134)).alloc (.cells #[.bool (decide (kd=M.bC))] 4)).cell? ⟨p,q,none⟩) (first | exact K0.cell | exact (K0.alloc _).cell | exact ((K0.alloc _).alloc _).cell) (first | (go_at_call 63;refine (ql _).mono ?_;rintro e w1 ⟨rfl,rfl⟩))
  all_goals go_wp2
  all_goals go_meet
  all_goals exact ⟨_,rfl,by first | exact (Box.newAt _ [_,_,_] _ _ (by simp)) | exact (Box.newAt _ [_,_,_] _ _ (by simp)).alloc _,((K0.alloc _).alloc _).drew⟩
 case rest=>
  obtain ⟨D,rfl,hkb,K1⟩:=hcut;clear hl0 hl1 hl2;have hbf:Box wc w.heap.size (aj ⟨g,tg,fo⟩ ⟨a0,a1,a2,a3,a4,gr,bl,b0,b1,b2,b3,b4,b5,b6,b7⟩ A c):=K1.box ((((Box.new w (aj ⟨g,tg,fo⟩ ⟨a0,a1,a2,a3,a4,gr,bl,b0,b1,b2,b3,b4,b5,b6,b7⟩ A c) _).alloc _).alloc _).alloc _) (by omega);have hbx:Box wc (w.heap.size+1) (aA ⟨⟨pl,kd,ba,po,fi,cu,aC⟩,P,d⟩):=K1.box (((Box.newAt _ (aA ⟨⟨pl,kd,ba,po,fi,cu,aC⟩,P,d⟩) _ _ (by simp)).alloc _).alloc _) (by omega);have hbo:Box wc (w.heap.size+2) [.func (.func 91) #[] #[ptr w.heap.size]]:=K1.box ((Box.newAt _ [_] _ _ (by simp)).alloc _) (by omega);have hbc:Box wc (w.heap.size+3) [.bool (decide (kd=M.bC))]:=K1.box (Box.newAt _ [_] _ _ (by simp)) (by omega);have hp1:=hp.below K1.bw;have PZ:=hpp.below K1.bw
  have hask:∀ v:Bool,v=M.calls ⟨g,tg,fo⟩ ⟨pl,kd,ba,po,fi,cu,aC⟩→Calls Tryz.prog 73 #[.slice (some ⟨wc.heap.size+1,0,none⟩) 7 7] ((wc.alloc (.cells #[.bool v] 4)).alloc (.cells #[.func (.func 92) #[] #[ptr w.heap.size],.func (.func 93) #[] #[ptr (w.heap.size+3),ptr (w.heap.size+1),ptr w.heap.size],.func (.func 94) #[] #[ptr (w.heap.size+3),ptr w.heap.size,ptr (w.heap.size+1)],.func (.func 95) #[] #[ptr D,ptr w.heap.size],.func (.func 96) #[] #[ptr wc.heap.size,ptr (w.heap.size+2),ptr (w.heap.size+1)],.func (.func 97) #[] #[ptr (w.heap.size+1),ptr (w.heap.size+2)],.func (.func 98) #[] #[ptr (w.heap.size+1),ptr (w.heap.size+2)]] 38)) fun e w'=>e= .returned (.int .i64 (M.fZ 1 (M.Gu ⟨g,tg,fo⟩ ⟨a0,a1,a2,a3,a4,gr,bl,b0,b1,b2,b3,b4,b5,b6,b7⟩ ⟨pl,kd,ba,po,fi,cu,aC⟩)))∧Below wc.heap.size wc w':=by
   intro v hv;subst hv;refine (Ou (wc.heap.size+1) 0 7 7 lgG (lgL w.heap.size D wc.heap.size) (M.Gu ⟨g,tg,fo⟩ ⟨a0,a1,a2,a3,a4,gr,bl,b0,b1,b2,b3,b4,b5,b6,b7⟩ ⟨pl,kd,ba,po,fi,cu,aC⟩) _ rfl (by omega) (by simp) ?_ ?_).mono ?_
   · intro j hj
     rw [Nat.zero_add]
     match j,hj with
     | 0,_=>exact gG _ [_,_,_,_,_,_,_] _ _ (by simp) 0 _ rfl
     | 1,_=>exact gG _ [_,_,_,_,_,_,_] _ _ (by simp) 1 _ rfl
     | 2,_=>exact gG _ [_,_,_,_,_,_,_] _ _ (by simp) 2 _ rfl
     | 3,_=>exact gG _ [_,_,_,_,_,_,_] _ _ (by simp) 3 _ rfl
     | 4,_=>exact gG _ [_,_,_,_,_,_,_] _ _ (by simp) 4 _ rfl
     | 5,_=>exact gG _ [_,_,_,_,_,_,_] _ _ (by simp) 5 _ rfl
     | 6,_=>exact gG _ [_,_,_,_,_,_,_] _ _ (by simp) 6 _ rfl
   · intro j hj _
     match j,hj with
     | 0,_=>exact SK ((hbf.alloc _).alloc _)
     | 1,_=>exact SL (x:=⟨pl,kd,ba,po,fi,cu,aC⟩) ((hbc.alloc _).alloc _) ((hbx.alloc _).alloc _) ((hbf.alloc _).alloc _)
     | 2,_=>exact Px (x:=⟨pl,kd,ba,po,fi,cu,aC⟩) ((hbc.alloc _).alloc _) ((hbf.alloc _).alloc _) ((hbx.alloc _).alloc _)
     | 3,_=>exact DX kd _ _ ((hkb.alloc _).alloc _) ((hbf.alloc _).alloc _)
     | 4,_=>exact SI (x:=⟨pl,kd,ba,po,fi,cu,aC⟩) ((Box.new wc [_] _).alloc _) ((hbo.alloc _).alloc _) ((hbx.alloc _).alloc _) ((hbf.alloc _).alloc _) ((hp1.alloc _).alloc _)
     | 5,_=>exact Py (x:=⟨pl,kd,ba,po,fi,cu,aC⟩) ((hbx.alloc _).alloc _) ((hbo.alloc _).alloc _) ((hbf.alloc _).alloc _) ((hp1.alloc _).alloc _)
     | 6,_=>exact Hz (x:=⟨pl,kd,ba,po,fi,cu,aC⟩) ((hbx.alloc _).alloc _) ((hbo.alloc _).alloc _) ((hbf.alloc _).alloc _) ((hp1.alloc _).alloc _) ((PZ.alloc _).alloc _) hpos
   · rintro e w' ⟨rfl,hb'⟩
     exact ⟨rfl,(((Below.refl _ _).alloc (Nat.le_refl _) _).alloc (by simp) _).trans (hb'.mono (by simp;omega))⟩
  have HA:=hide hask;have hk1:=hkb.2 1 _ rfl;have hc1:=K1.cell;obtain ⟨y1,hy1⟩:∃ y,Zh kd=y:=⟨_,rfl⟩;obtain ⟨y2,hy2⟩:∃ y,(g.toList == [110,105,110,101])=y:=⟨_,rfl⟩
  have hcl:M.calls ⟨g,tg,fo⟩ ⟨pl,kd,ba,po,fi,cu,aC⟩=(y1 && !y2):=by
   rw [← hy1, ← hy2,yO];unfold M.calls Zh;rw [Bool.eq_iff_iff];simp
  have HC:=hide hcl;rw [hy1] at hk1;clear hask hcl hy1 hbf hbx hbo hbc hkb hp1 PZ hcc
  cases y1 <;> cases y2
  all_goals
   go_wp2_with (go_at_call 73;refine (HA.out _ (by rw [HC.out];rfl)).mono ?_;rintro e w2 ⟨rfl,hb2⟩)
   go_ret;exact ⟨rfl,(K1.call hb2).bw⟩
section
variable {w:World} {Bf Bx Bp:Nat} {r:M.Rules} {s:M.State} {x:M.aV} {A P:Option Addr} {c d:Nat} {S:Nat→Prop}
theorem F5 (hx:Box w Bx (aA ⟨x,P,d⟩)) (hpp:fP w S P d x.aC):Asks 74 #[ptr Bx] (!M.kX x) w:=by
 refine ⟨enters_of Tryz.func74 (by kernel_rfl) rfl,fun W hb=>?_⟩;have kx:=hx.below hb;have RP:=kx.2 0 _ rfl;have RQ:=kx.2 1 _ rfl;have kx2:=kx.2 2 _ rfl;have kx3:=kx.2 3 _ rfl;have kx4:=kx.2 4 _ rfl;have kx5:=kx.2 5 _ rfl;have kx6:=kx.2 6 _ rfl
 go_enter Tryz.func74,Tryz.ntmps74
 go_wp2_with (go_at_call 75;refine (Ep S x P d _ (hpp.below hb)).mono ?_;rintro e w1 ⟨rfl,hb1⟩)
 go_ret;exact ⟨rfl,hb.trans (hb1.mono hb.size)⟩
theorem MB (hx:Box w Bx (aA ⟨x,P,d⟩)):Asks 76 #[ptr Bx] (decide (0<x.first)) w:=by
 refine ⟨enters_of Tryz.func76 (by kernel_rfl) rfl,fun W hb=>?_⟩;have kx:=hx.below hb;have kx4:=kx.2 4 _ rfl
 go_enter Tryz.func76,Tryz.ntmps76
 go_wp2;go_ret;exact ⟨rfl,hb⟩
theorem Ih (hq:Box w Bp [.bool (decide (x.kind=M.gI))]) (hf:Box w Bf (aj r s A c)) (hx:Box w Bx (aA ⟨x,P,d⟩)) (hp:bQ w S A c s.au) (hr:M.aQ r=0) (hg:0≤s.group∧s.group≤2):
 Asks 77 #[ptr Bp,ptr Bf,ptr Bx] (decide (x.kind=M.gI∨x.first∈M.targets r s)) w:=by
 refine ⟨enters_of Tryz.func77 (by kernel_rfl) rfl,fun W hb=>?_⟩;have kq:=hq.below hb;have kq0:=kq.2 0 _ rfl;have kx:=hx.below hb;have kx4:=kx.2 4 _ rfl;have kf:=hf.below hb;have hT:=fun W h=>Aj S r s A c W h hr hg;have HT:=hide hT
 have Eb:∀ w':World,(fun w':World=>∀ p q,p<W.heap.size→w'.cell? ⟨p,q,none⟩=W.cell? ⟨p,q,none⟩) w'→w'.rangeAt Bf 0 [.string r.game,.int .i64 r.target,.int .i64 r.bD,.int .i64 s.turn,.bool s.brk,.bool s.hand,.bool s.push,.bool s.pushed,.int .i64 s.group,.slice A s.au.length c,.int .i64 s.s0,.int .i64 s.s1,.int .i64 s.f0,.int .i64 s.f1,.int .i64 s.run,.int .i64 s.bI,.bool s.over,.int .i64 s.bP]:=fun w' h j v hj=>by rw [Nat.zero_add,h _ _ kf.1];exact kf.2 j v hj
 have hun:=Tryz.underlying99;have hbx:=kx.1;have hbq:=kq.1;rw [show decide (x.kind=M.gI∨x.first∈M.targets r s)=(decide (x.kind=M.gI) || decide (x.first∈M.targets r s)) by rw [Bool.eq_iff_iff];simp];clear hT
 cases hy:decide (x.kind=M.gI) with
 | true=>
   rw [hy] at kq0;have HY:=hide hy;clear hy
   go_enter Tryz.func77,Tryz.ntmps77
   go_wp2
   go_quiet (fail)
   go_wp2;go_ret;exact ⟨dD (by simp),below_drewN hb _⟩
 | false=>
   rw [hy] at kq0;have HY:=hide hy;clear hy
   go_enter Tryz.func77,Tryz.ntmps77
   go_wp2;refine wp_region_held_drew (S:=(fun w':World=>∀ p q,p<W.heap.size→w'.cell? ⟨p,q,none⟩=W.cell? ⟨p,q,none⟩)) (by kernel_rfl) ?dL (fun hHeld=>?_)
   case dL=>first | exact fun p q h=>K1.cell p q (by omega) | exact fun p q h=>rfl
   refine tk 0 ?_;refine tk 1 ?_;refine wpAnyH_take (i:=2) (oi:=_) (v:=_) (ga rfl) (by kernel_rfl) (by kernel_rfl) (by kernel_rfl) (fun _ _ _ h=>h) (yieldsIf_load_mid (by rfl) _ _ (by rfl) _ _ (by rfl) _ _ Eb hun rfl (by kernel_rfl)) (by assumption) ?_
   try simp only [Act.put,la,lz,ls]
   refine tk 4 ?_;refine tk 5 ?_;refine tr 3 fun K hK=>?_;go_simp
   (first | (go_at_call 79;refine (HT.out W.drew (bQ.drewN (hp.below hb) 1)).mono ?_;rintro e w1 ⟨A1,c1,rfl,hr1,hb1⟩;have K1:Keeps W W 0 w1:=(Keeps.of0 W).drew.call hb1) | (go_at_call 78;refine (iQ _ A1 c1 _ _ _ hr1).mono ?_;rintro e eY ⟨rfl,rfl⟩))
   refine hK.out _ _ ?J5 (fun hHeld=>?_)
   case J5=>(first | (first | exact fun p q h=>K1.cell p q (by omega) | exact fun p q h=>rfl) | (dsimp only;first | exact fun p q h=>K1.cell p q (by omega) | exact fun p q h=>rfl))
   clear hK K
   try simp only [Act.put,la,lz,ls]
   refine tr 6 fun K hK=>?_;go_simp
   (first | (go_at_call 79;refine (HT.out W.drew (bQ.drewN (hp.below hb) 1)).mono ?_;rintro e w1 ⟨A1,c1,rfl,hr1,hb1⟩;have K1:Keeps W W 0 w1:=(Keeps.of0 W).drew.call hb1) | (go_at_call 78;refine (iQ _ A1 c1 _ _ _ hr1).mono ?_;rintro e eY ⟨rfl,rfl⟩))
   refine hK.out _ _ ?Vb (fun hHeld=>?_)
   case Vb=>(first | (first | exact fun p q h=>K1.cell p q (by omega) | exact fun p q h=>rfl) | (dsimp only;first | exact fun p q h=>K1.cell p q (by omega) | exact fun p q h=>rfl))
   clear hK K
   try simp only [Act.put,la,lz,ls]
   refine tk 7 ?_;refine tk 8 ?_;refine wpAnyH_done (by kernel_rfl) ?_ _;go_wp2;go_ret;exact ⟨dD (by simp),hb.trans (K1.bw.mono hb.size)⟩
theorem PS (hq:Box w Bp [.bool (decide (x.kind=M.gI))]) (hx:Box w Bx (aA ⟨x,P,d⟩)) (hpp:fP w S P d x.aC) (hpos:∀ p∈x.aC,0≤p.aT):
 Asks 80 #[ptr Bp,ptr Bx] (decide (x.kind=M.gI∨x.cO=true∨0<(M.objects x).length)) w:=by
 refine ⟨enters_of Tryz.func80 (by kernel_rfl) rfl,fun W hb=>?_⟩;have kq:=hq.below hb;have kq0:=kq.2 0 _ rfl;have kx:=hx.below hb;have RP:=kx.2 0 _ rfl;have RQ:=kx.2 1 _ rfl;have kx2:=kx.2 2 _ rfl;have kx3:=kx.2 3 _ rfl;have kx4:=kx.2 4 _ rfl;have kx5:=kx.2 5 _ rfl;have kx6:=kx.2 6 _ rfl;have Gg:=jW S {x with cO:=false } P d W (hpp.below hb) hpos;rw [show M.objects {x with cO:=false }=M.objects x from rfl] at Gg;have HO:=hide Gg;rw [show decide (x.kind=M.gI∨x.cO=true∨0<(M.objects x).length)=(decide (x.kind=M.gI) || (x.cO || decide (0<(M.objects x).length))) by rw [Bool.eq_iff_iff];simp];clear Gg
 cases hy:decide (x.kind=M.gI) with
 | true=>
   rw [hy] at kq0;have HY:=hide hy;clear hy
   go_enter Tryz.func80,Tryz.ntmps80
   go_wp2;go_ret;exact ⟨dD (by simp),hb⟩
 | false=>
   rw [hy] at kq0;have HY:=hide hy;clear hy
   cases hc:x.cO with
   | true=>
     rw [hc] at kx5
     go_enter Tryz.func80,Tryz.ntmps80
     go_wp2;go_ret;exact ⟨dD (by simp),hb⟩
   | false=>
     rw [hc] at kx5
     go_enter Tryz.func80,Tryz.ntmps80
     go_wp2_with (go_at_call 81;refine HO.out.mono ?_;rintro e w1 ⟨A1,c1,rfl,hr1,hb1⟩)
     go_ret;exact ⟨dD (by simp),hb.trans (hb1.mono hb.size)⟩
end
def flG:Nat→Nat:=fun j=>[74,76,77,80].getD j 0
def flL (N L:Nat):Nat→Array Value:=fun j=>[#[ptr (N+1)], #[ptr (N+1)], #[ptr L,ptr N,ptr (N+1)], #[ptr L,ptr (N+1)]].getD j #[]
theorem xC (S:Nat→Prop) (r:M.Rules) (s:M.State) (x:M.aV) (A P:Option Addr) (c d:Nat) (w:World) (hp:bQ w S A c s.au) (hpp:fP w S P d x.aC) (hx:vW x) (hpos:∀ p∈x.aC,0≤p.aT) (hr:M.aQ r=0) (hg:0≤s.group∧s.group≤2):
 Calls Tryz.prog 39 #[dX r s A c,iy x P d] w fun e w'=>e= .returned (.int .i64 (M.iw r s x))∧Below w.heap.size w w':=by
 obtain ⟨e1,e2,e3⟩:=hpp.bd;obtain ⟨e4,e5,e6⟩:=hp.bd;rw [M.TI r s x (GK hx.first).1];have hk:=hx.kind;obtain ⟨g,tg,fo⟩:=r;obtain ⟨a0,a1,a2,a3,a4,gr,bl,b0,b1,b2,b3,b4,b5,b6,b7⟩:=s;obtain ⟨pl,kd,ba,po,fi,cu,aC⟩:=x
 simp only at hp hpp e1 e3 e4 e6 hk hpos hg
 have K0:Keeps w ((w.alloc (.cells #[.string g,.int .i64 tg,.int .i64 fo,.int .i64 a0,.bool a1,.bool a2,.bool a3,.bool a4,.int .i64 gr,.slice A bl.length c,.int .i64 b0,.int .i64 b1,.int .i64 b2,.int .i64 b3,.int .i64 b4,.int .i64 b5,.bool b6,.int .i64 b7] 99)).alloc (.cells #[.int .i64 pl,.string kd,.int .i64 ba,.int .i64 po,.int .i64 fi,.bool cu,.slice P aC.length d] 27)) 2 ((w.alloc (.cells #[.string g,.int .i64 tg,.int .i64 fo,.int .i64 a0,.bool a1,.bool a2,.bool a3,.bool a4,.int .i64 gr,.slice A bl.length c,.int .i64 b0,.int .i64 b1,.int .i64 b2,.int .i64 b3,.int .i64 b4,.int .i64 b5,.bool b6,.int .i64 b7] 99)).alloc (.cells #[.int .i64 pl,.string kd,.int .i64 ba,.int .i64 po,.int .i64 fi,.bool cu,.slice P aC.length d] 27)):=Keeps.of2 w _ _
 have hsz:((w.alloc (.cells #[.string g,.int .i64 tg,.int .i64 fo,.int .i64 a0,.bool a1,.bool a2,.bool a3,.bool a4,.int .i64 gr,.slice A bl.length c,.int .i64 b0,.int .i64 b1,.int .i64 b2,.int .i64 b3,.int .i64 b4,.int .i64 b5,.bool b6,.int .i64 b7] 99)).alloc (.cells #[.int .i64 pl,.string kd,.int .i64 ba,.int .i64 po,.int .i64 fi,.bool cu,.slice P aC.length d] 27)).heap.size=w.heap.size+2:=by simp
 have hl0:=iY hk (w:=(((w.alloc (.cells #[.string g,.int .i64 tg,.int .i64 fo,.int .i64 a0,.bool a1,.bool a2,.bool a3,.bool a4,.int .i64 gr,.slice A bl.length c,.int .i64 b0,.int .i64 b1,.int .i64 b2,.int .i64 b3,.int .i64 b4,.int .i64 b5,.bool b6,.int .i64 b7] 99)).alloc (.cells #[.int .i64 pl,.string kd,.int .i64 ba,.int .i64 po,.int .i64 fi,.bool cu,.slice P aC.length d] 27)).alloc (.map (kE 6) 6)).drew) (g:=w.heap.size+2) (by have h:=heap_alloc_new ((w.alloc (.cells #[.string g,.int .i64 tg,.int .i64 fo,.int .i64 a0,.bool a1,.bool a2,.bool a3,.bool a4,.int .i64 gr,.slice A bl.length c,.int .i64 b0,.int .i64 b1,.int .i64 b2,.int .i64 b3,.int .i64 b4,.int .i64 b5,.bool b6,.int .i64 b7] 99)).alloc (.cells #[.int .i64 pl,.string kd,.int .i64 ba,.int .i64 po,.int .i64 fi,.bool cu,.slice P aC.length d] 27)) (.map (kE 6) 6);rwa [hsz] at h) false
 have hpu:(kd.toList == [112,117,115,104])=decide (kd=M.gI):=by
  rw [Bool.eq_iff_iff,beq_iff_eq,decide_eq_true_eq];exact ⟨fun e=>kU (by rw [e,ByteArray.toList_eq]),fun e=>by subst e;rw [ByteArray.toList_eq]⟩
 clear hsz
 have hfd:∀ (a b:Bool) (f:Value) (w:World),(Instr.field 157 (.agg #[.bool a,.bool b,f]) 0).run Tryz.prog w= .ok (.bool a) w:=fun _ _ _ _=>by kernel_rfl
 go_enter Tryz.func39,Tryz.ntmps39
 go_upto_region 1 with (fail)
 go_cut [11] (fun v wx=>v= .bool (!M.jC kd)∧Keeps w ((w.alloc (.cells #[.string g,.int .i64 tg,.int .i64 fo,.int .i64 a0,.bool a1,.bool a2,.bool a3,.bool a4,.int .i64 gr,.slice A bl.length c,.int .i64 b0,.int .i64 b1,.int .i64 b2,.int .i64 b3,.int .i64 b4,.int .i64 b5,.bool b6,.int .i64 b7] 99)).alloc (.cells #[.int .i64 pl,.string kd,.int .i64 ba,.int .i64 po,.int .i64 fi,.bool cu,.slice P aC.length d] 27)) 2 wx)
 case first=>
  refine wp_region_held_drew (S:=(fun w'=>∀ p q,p<w.heap.size+2→w'.cell? ⟨p,q,none⟩=((w.alloc (.cells #[.string g,.int .i64 tg,.int .i64 fo,.int .i64 a0,.bool a1,.bool a2,.bool a3,.bool a4,.int .i64 gr,.slice A bl.length c,.int .i64 b0,.int .i64 b1,.int .i64 b2,.int .i64 b3,.int .i64 b4,.int .i64 b5,.bool b6,.int .i64 b7] 99)).alloc (.cells #[.int .i64 pl,.string kd,.int .i64 ba,.int .i64 po,.int .i64 fi,.bool cu,.slice P aC.length d] 27)).cell? ⟨p,q,none⟩)) (by kernel_rfl) ?dL (fun hHeld=>?_)
  case dL=>first | exact K0.cell | exact (K0.alloc _).cell
  refine tk 1 ?_;refine tk 2 ?_;refine tr 0 fun K hK=>?_;go_simp
  (go_at_call 63;refine (ql _).mono ?_;rintro e w1 ⟨rfl,rfl⟩)
  refine hK.out _ _ ?amc (fun hHeld=>?_)
  case amc=>(first | (first | exact K0.cell | exact (K0.alloc _).cell) | (dsimp only;first | exact K0.cell | exact (K0.alloc _).cell))
  clear hK K
  try simp only [Act.put,la,lz,ls]
  refine tr 3 fun K hK=>?_;go_simp;refine hK.out _ _ ?J5 (fun hHeld=>?_)
  case J5=>(first | (first | exact K0.cell | exact (K0.alloc _).cell) | (dsimp only;first | exact K0.cell | exact (K0.alloc _).cell))
  clear hK K
  try simp only [Act.put,la,lz,ls]
  refine tk 4 ?_;refine tk 5 ?_;refine wpAnyH_done (by kernel_rfl) ?_ _;go_wp2;go_meet;exact ⟨rfl,(K0.alloc _).drew⟩
 case rest=>
  obtain ⟨rfl,K1⟩:=hcut;clear hl0;have hbf:Box wc w.heap.size (aj ⟨g,tg,fo⟩ ⟨a0,a1,a2,a3,a4,gr,bl,b0,b1,b2,b3,b4,b5,b6,b7⟩ A c):=K1.box ((Box.new w (aj ⟨g,tg,fo⟩ ⟨a0,a1,a2,a3,a4,gr,bl,b0,b1,b2,b3,b4,b5,b6,b7⟩ A c) _).alloc _) (by omega);have hbx:Box wc (w.heap.size+1) (aA ⟨⟨pl,kd,ba,po,fi,cu,aC⟩,P,d⟩):=K1.box (Box.newAt _ (aA ⟨⟨pl,kd,ba,po,fi,cu,aC⟩,P,d⟩) _ _ (by simp)) (by omega);have hp1:=hp.below K1.bw;have PZ:=hpp.below K1.bw
  have hask:Calls Tryz.prog 73 #[.slice (some ⟨wc.heap.size+1,0,none⟩) 4 4] ((wc.alloc (.cells #[.bool (decide (kd=M.gI))] 4)).alloc (.cells #[.func (.func 74) #[] #[ptr (w.heap.size+1)],.func (.func 76) #[] #[ptr (w.heap.size+1)],.func (.func 77) #[] #[ptr wc.heap.size,ptr w.heap.size,ptr (w.heap.size+1)],.func (.func 80) #[] #[ptr wc.heap.size,ptr (w.heap.size+1)]] 38)) fun e w'=>e= .returned (.int .i64 (M.fZ 1 (M.OC ⟨g,tg,fo⟩ ⟨a0,a1,a2,a3,a4,gr,bl,b0,b1,b2,b3,b4,b5,b6,b7⟩ ⟨pl,kd,ba,po,fi,cu,aC⟩)))∧Below wc.heap.size wc w':=by
   refine (Ou (wc.heap.size+1) 0 4 4 flG (flL w.heap.size wc.heap.size) (M.OC ⟨g,tg,fo⟩ ⟨a0,a1,a2,a3,a4,gr,bl,b0,b1,b2,b3,b4,b5,b6,b7⟩ ⟨pl,kd,ba,po,fi,cu,aC⟩) _ rfl (by omega) (by simp) ?_ ?_).mono ?_
   · intro j hj
     rw [Nat.zero_add]
     match j,hj with
     | 0,_=>exact gG _ [_,_,_,_] _ _ (by simp) 0 _ rfl
     | 1,_=>exact gG _ [_,_,_,_] _ _ (by simp) 1 _ rfl
     | 2,_=>exact gG _ [_,_,_,_] _ _ (by simp) 2 _ rfl
     | 3,_=>exact gG _ [_,_,_,_] _ _ (by simp) 3 _ rfl
   · intro j hj _
     match j,hj with
     | 0,_=>exact F5 (x:=⟨pl,kd,ba,po,fi,cu,aC⟩) ((hbx.alloc _).alloc _) ((PZ.alloc _).alloc _)
     | 1,_=>exact MB (x:=⟨pl,kd,ba,po,fi,cu,aC⟩) ((hbx.alloc _).alloc _)
     | 2,_=>exact Ih (x:=⟨pl,kd,ba,po,fi,cu,aC⟩) ((Box.new wc [_] _).alloc _) ((hbf.alloc _).alloc _) ((hbx.alloc _).alloc _) ((hp1.alloc _).alloc _) hr hg
     | 3,_=>exact PS (x:=⟨pl,kd,ba,po,fi,cu,aC⟩) ((Box.new wc [_] _).alloc _) ((hbx.alloc _).alloc _) ((PZ.alloc _).alloc _) hpos
   · rintro e w' ⟨rfl,hb'⟩
     exact ⟨rfl,(((Below.refl _ _).alloc (Nat.le_refl _) _).alloc (by simp) _).trans (hb'.mono (by simp;omega))⟩
  have HA:=hide hask;have hc1:=K1.cell;clear hask hbf hbx hp1 PZ
  cases hpl:M.jC kd with
  | true=>
    have HP:=hide hpl;clear hpl
    go_wp2_with (go_at_call 73;refine HA.out.mono ?_;rintro e w2 ⟨rfl,hb2⟩)
    go_ret;exact ⟨rfl,(K1.call hb2).bw⟩
  | false=>
    have HP:=hide hpl;clear hpl;have hpn:(!false)=true:=rfl;go_wp2
    all_goals first | (go_ret;exact ⟨rfl,K1.bw⟩) | (exfalso;have:=HP.out;simp_all;done)
theorem ZP (a b:Int):aS [a,b]=if a≠0 then a else b:=by
 unfold aS;split
 · rfl
 · by_cases h:b=0 <;> simp [aS,h]
theorem Ik {a b:Int} (h:aS [a,b]=0):a=0∧b=0:=by
 rw [ZP] at h
 by_cases ha:a=0
 · rw [if_neg (by simp [ha])] at h;exact ⟨ha,h⟩
 · rw [if_pos ha] at h;exact absurd h ha
theorem jZ {P:Program} {md:Region.Mode} {ops:Array Oper} {Q:Exit→Act→World→Prop} {S:World→Prop} {oi:Oper} {fuel:Nat} {listed l':Array Bool} {a a':Act} {w:World} {ty:TypeId} {x:Operand} {b o:Nat} {cs:List Value} {d:TypeDesc} (i:Nat) (hr:∀ w,S w→w.rangeAt b o cs) (hu:P.underlying ty=some d) (h:wpAnyH P md ops Q S fuel l' a' w) (hi:ops[i]? =some oi:=by exact ga rfl) (h3:(Region.noSelect ops && (Region.free md ops listed i && (Region.ready md ops listed).contains i))=true:=by kernel_rfl) (hw:Region.wanted oi (yielded ops a.tmps)=true:=by rfl) (ho:oi.op= .load ty x:=by rfl) (hx:a.eval x= .pointer (some ⟨b,o,none⟩):=by rfl) (hd:d.isRow=true:=by rfl) (hz:(P.info? ty).map (·.size)=some cs.length:=by kernel_rfl) (hS:S w:=by assumption) (hQ:∀ c a w,Q (.panic c) (a.put oi.dst (.agg cs.toArray)) w→Q (.panic c) a w:=by exact fun _ _ _ h=>h) (hl:listed.setIfInBounds i true=l':=by (try simp only [la,lz,ls]);exact rfl) (ha:a.put oi.dst (.agg cs.toArray)=a':=by (try simp only [Act.put,la,lz,ls]);exact rfl):wpAnyH P md ops Q S (fuel+1) listed a w:=by
 subst hl ha;rw [Bool.and_eq_true,Bool.and_eq_true] at h3;exact wpAnyH_take hi h3.1 h3.2.1 h3.2.2 hQ (yieldsIf_load_mid hw ty x ho b o hx cs d hr hu hd hz) hS h
theorem bW {P:Program} {md:Region.Mode} {ops:Array Oper} {Q:Exit→Act→World→Prop} {S:World→Prop} {fuel:Nat} {l l':Array Bool} {a a':Act} {w:World} {K:Act→World→Prop} (hK:Shut (∀ a w,S w→(S w→wpAnyH P md ops Q S fuel l a w)→K a w)) (hs:S w) (h:S w→wpAnyH P md ops Q S fuel l' a' w) (hl:l=l':=by (try simp only [la,lz,ls]);exact rfl) (ha:a=a':=by (try simp only [Act.put,la,lz,ls]);exact rfl):K a w:=by
 subst hl ha;exact hK.out _ _ hs h
theorem DT {P:Program} {md:Region.Mode} {ops:Array Oper} {Q:Exit→Act→World→Prop} {S:World→Prop} {oi oj:Oper} {fuel:Nat} {listed l1 l2:Array Bool} {a:Act} {w:World} (i j:Nat) (h1:∀ K:Act→World→Prop,Shut (∀ a w,S w→(S w→wpAnyH P md ops Q S fuel l1 a w)→K a w)→if Region.wanted oi (yielded ops a.tmps)=true then Oper.wp P oi a w K Q else K (a.put oi.dst undef) w) (h2:∀ K:Act→World→Prop,Shut (∀ a w,S w→(S w→wpAnyH P md ops Q S fuel l2 a w)→K a w)→if Region.wanted oj (yielded ops a.tmps)=true then Oper.wp P oj a w K Q else K (a.put oj.dst undef) w)
 (hi:ops[i]? =some oi:=by exact ga rfl) (hj:ops[j]? =some oj:=by exact ga rfl) (hr:Region.ready md ops listed=[i,j]:=by kernel_rfl) (hl1:listed.setIfInBounds i true=l1:=by (try simp only [la,lz,ls]);exact rfl) (hl2:listed.setIfInBounds j true=l2:=by (try simp only [la,lz,ls]);exact rfl):wpAnyH P md ops Q S (fuel+1) listed a w:=by
 subst hl1 hl2;exact wpAnyH_ready hr (by simp) (AllReadyH.cons hi h1 (AllReadyH.cons hj h2 AllReadyH.nil))
theorem Pg {P:Program} {md:Region.Mode} {ops:Array Oper} {Q:Exit→Act→World→Prop} {S:World→Prop} {oi oj ok:Oper} {fuel:Nat} {listed l1 l2 l3:Array Bool} {a:Act} {w:World} (i j k:Nat) (h1:∀ K:Act→World→Prop,Shut (∀ a w,S w→(S w→wpAnyH P md ops Q S fuel l1 a w)→K a w)→if Region.wanted oi (yielded ops a.tmps)=true then Oper.wp P oi a w K Q else K (a.put oi.dst undef) w) (h2:∀ K:Act→World→Prop,Shut (∀ a w,S w→(S w→wpAnyH P md ops Q S fuel l2 a w)→K a w)→if Region.wanted oj (yielded ops a.tmps)=true then Oper.wp P oj a w K Q else K (a.put oj.dst undef) w)
 (h3:∀ K:Act→World→Prop,Shut (∀ a w,S w→(S w→wpAnyH P md ops Q S fuel l3 a w)→K a w)→if Region.wanted ok (yielded ops a.tmps)=true then Oper.wp P ok a w K Q else K (a.put ok.dst undef) w) (hi:ops[i]? =some oi:=by exact ga rfl) (hj:ops[j]? =some oj:=by exact ga rfl) (hk:ops[k]? =some ok:=by exact ga rfl) (hr:Region.ready md ops listed=[i,j,k]:=by kernel_rfl)
 (hl1:listed.setIfInBounds i true=l1:=by (try simp only [la,lz,ls]);exact rfl) (hl2:listed.setIfInBounds j true=l2:=by (try simp only [la,lz,ls]);exact rfl) (hl3:listed.setIfInBounds k true=l3:=by (try simp only [la,lz,ls]);exact rfl):wpAnyH P md ops Q S (fuel+1) listed a w:=by
 subst hl1 hl2 hl3;exact wpAnyH_ready hr (by simp) (AllReadyH.cons hi h1 (AllReadyH.cons hj h2 (AllReadyH.cons hk h3 AllReadyH.nil)))
end Go.Proofs.YtcjglfbpjkdgiaaGreatDoor
