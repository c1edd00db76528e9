/- Parts of the proofs about chapter 5 (pool), joined by program. -/
import Derived.Test.YtelpepbpdojikaaGreatDoorKg9
import Derived.Test.YtelpepbpdojikaaGreatDoorKz4
set_option maxHeartbeats 4000000
set_option maxRecDepth 100000
set_option linter.unusedVariables false
set_option linter.unusedSimpArgs false
namespace Go.Proofs.YtelpepbpdojikaaGreatDoor
open Go.RowKit
theorem Ze (n a b:Int) (w:World) (h:M.out n a b=true):Calls Tryz.prog 78 #[.int .i64 n,.int .i64 a,.int .i64 b] w fun r w'=>r= .returned (.bool true)∧w=w':=by
 have:=sF n a b w;rwa [h] at this
theorem Zd (n a b:Int) (w:World) (h:M.out n a b=false):Calls Tryz.prog 78 #[.int .i64 n,.int .i64 a,.int .i64 b] w fun r w'=>r= .returned (.bool false)∧w=w':=by
 have:=sF n a b w;rwa [h] at this
theorem ahK (n:Nat) (b:Int):b∈M.kH n↔1≤b∧b≤n:=by
 unfold M.kH
 rw [List.mem_map]
 constructor
 · rintro ⟨i,hi,rfl⟩
   rw [List.mem_range] at hi
   omega
 · rintro ⟨h1,h2⟩
   exact ⟨(b - 1).toNat,by rw [List.mem_range];omega,by omega⟩
theorem aaE (r:M.Rules) (b:Int):decide (b∈M.jA r)= !(M.out b 1 (M.dS r.game)):=by
 have h:=ahK (M.dS r.game) b
 unfold M.jA M.out
 by_cases a:b<1∨(M.dS r.game:Int)<b
 · rw [decide_eq_false (by rw [h];omega),decide_eq_true a];rfl
 · rw [decide_eq_true (h.2 (by omega)),decide_eq_false a];rfl
theorem ad8 (r:M.Rules) (s:M.State) (A:Option Addr) (c:Nat) (w:World) (hl:s.ay.length≤17592186044416) (h:M.dw r s≠0):
 Calls Tryz.prog 43 #[jM r,wF s A c] w fun e w'=>e= .returned (.int .i64 (M.dw r s))∧Below w.heap.size w w':=by
 obtain ⟨g,tg,fo⟩:=r
 obtain ⟨a0,a1,a2,a3,a4,gr,bl,b0,b1,b2,b3,b4,b5,b6,b7⟩:=s
 unfold M.dw at h ⊢
 simp only at h hl ⊢
 by_cases h1:M.aH ⟨g,tg,fo⟩≠0
 · rw [if_pos h1]
   have h1':(M.aH ⟨g,tg,fo⟩ != 0)=true:=by simpa using h1
   clear h h1
   go_enter Tryz.func43,Tryz.ntmps43
   go_wp2_with (go_at_call 37;refine (Zo ⟨g,tg,fo⟩ _).mono ?_;rintro e w1 ⟨rfl,hb1⟩)
   go_ret
   exact ⟨rfl,(((Below.refl _ _).alloc (Nat.le_refl _) _).alloc (by simp) _).trans (hb1.mono (by simp;omega))⟩
 rw [if_neg h1] at h ⊢
 have h1':(M.aH ⟨g,tg,fo⟩ != 0)=false:=by simpa using h1
 clear h1
 by_cases h2:M.out a0 0 1=true∨M.out b7 0 1=true∨M.out gr 0 2=true∨(gr≠0∧g≠M.aQ)
 · rw [if_pos h2]
   have ar8:M.out a0 0 1=true∨(M.out a0 0 1=false∧M.out b7 0 1=true)∨(M.out a0 0 1=false∧M.out b7 0 1=false∧M.out gr 0 2=true)∨(M.out a0 0 1=false∧M.out b7 0 1=false∧M.out gr 0 2=false∧(gr != 0)=true∧(g.toList == [101,105,103,104,116])=false):=by
    by_cases c1:M.out a0 0 1=true
    · exact .inl c1
    by_cases c2:M.out b7 0 1=true
    · exact .inr (.inl ⟨by simpa using c1,c2⟩)
    by_cases c3:M.out gr 0 2=true
    · exact .inr (.inr (.inl ⟨by simpa using c1,by simpa using c2,c3⟩))
    obtain ⟨c4,c5⟩:=((h2.resolve_left c1).resolve_left c2).resolve_left c3
    exact .inr (.inr (.inr ⟨by simpa using c1,by simpa using c2,by simpa using c3,by simpa using c4,beq_eq_false_iff_ne.2 (bQ c5)⟩))
   clear h h2
   rcases ar8 with k1 | ⟨k1,k2⟩ | ⟨k1,k2,k3⟩ | ⟨k1,k2,k3,k4,k5⟩
   all_goals
    go_enter Tryz.func43,Tryz.ntmps43
    go_wp2_with (first | (go_at_call 78;refine (sF _ _ _ _).mono ?_;rintro e w9 ⟨rfl,rfl⟩) | (go_at_call 37;refine (Zo ⟨g,tg,fo⟩ _).mono ?_;rintro e w1 ⟨rfl,hb1⟩;obtain ⟨hcb,hfb⟩:=Rq hb1))
    go_ret
    exact ⟨rfl,(((Below.refl _ _).alloc (Nat.le_refl _) _).alloc (by simp) _).trans (hb1.mono (by simp;omega))⟩
 · rw [if_neg h2] at h
   exact absurd rfl h
def Zl (r:M.Rules) (over:Bool) (sc f:Int):Bool:=M.out sc (-99999) 99999 || M.yL r over f
theorem Zg {r:M.Rules} {s:M.State} (h:Zl r s.over s.s0 s.f0=true):M.iP r s=3:=by
 unfold Zl at h
 unfold M.iP
 rw [if_pos]
 rcases Bool.or_eq_true_iff.1 h with h | h
 · exact .inl h
 · exact .inr (.inr (.inl h))
theorem Zh {r:M.Rules} {s:M.State} (h:Zl r s.over s.s1 s.f1=true):M.iP r s=3:=by
 unfold Zl at h
 unfold M.iP
 rw [if_pos]
 rcases Bool.or_eq_true_iff.1 h with h | h
 · exact .inr (.inl h)
 · exact .inr (.inr (.inr (.inl h)))
theorem Zy {r:M.Rules} {s:M.State} (h0:Zl r s.over s.s0 s.f0=false) (h1:Zl r s.over s.s1 s.f1=false):M.iP r s=if M.out s.run 0 99999∨M.out s.aZ 1 1000 then 3 else 0:=by
 unfold Zl at h0 h1
 rw [Bool.or_eq_false_iff] at h0 h1
 unfold M.iP
 rw [h0.1,h0.2,h1.1,h1.2]
 simp
theorem Zv (g:ByteArray) (tg fo:Int) (over:Bool) (sc f:Int):
 (M.out sc (-99999) 99999=true∧Zl ⟨g,tg,fo⟩ over sc f=true)∨
 (M.out sc (-99999) 99999=false∧M.out f 0 99999=true∧Zl ⟨g,tg,fo⟩ over sc f=true)∨
 (M.out sc (-99999) 99999=false∧M.out f 0 99999=false∧decide (0<fo)=false∧Zl ⟨g,tg,fo⟩ over sc f=false)∨
 (M.out sc (-99999) 99999=false∧M.out f 0 99999=false∧decide (0<fo)=true∧decide (fo<f)=true∧Zl ⟨g,tg,fo⟩ over sc f=true)∨
 (M.out sc (-99999) 99999=false∧M.out f 0 99999=false∧decide (0<fo)=true∧decide (fo<f)=false∧(f == fo)=false∧Zl ⟨g,tg,fo⟩ over sc f=false)∨
 (M.out sc (-99999) 99999=false∧M.out f 0 99999=false∧decide (0<fo)=true∧decide (fo<f)=false∧(f == fo)=true∧Zl ⟨g,tg,fo⟩ over sc f= !over):=by
 unfold Zl M.yL
 by_cases h1:M.out sc (-99999) 99999=true
 · left;simp [h1]
 by_cases h2:M.out f 0 99999=true
 · right;left;simp [h1,h2]
 by_cases h3:0<fo
 · by_cases h4:fo<f
   · right;right;right;left;simp [h1,h2,h3,h4]
   · by_cases h5:f=fo
     · subst h5
       right;right;right;right;right
       cases over <;> simp [h1,h2,h3]
     · right;right;right;right;left;simp [h1,h2,h3,h4,h5]
 · right;right;left;simp [h1,h2,h3]
theorem ZU {r:M.Rules} {s:M.State} (h:NS r s):M.dw r s=0:=by
 unfold M.dw
 rw [if_neg (by simp [h.rules]),if_neg]
 rw [h.turn,h.bC,h.group]
 rintro (h1 | h1 | h1 | ⟨h1,h2⟩)
 · cases h1
 · cases h1
 · cases h1
 · exact h.game.elim h1 h2
theorem aem (g:ByteArray) (l:List UInt8):(g.toList=l)=(g=⟨l.toArray⟩):=by
 apply propext
 constructor
 · intro h;exact lg (by rw [h,ByteArray.toList_eq])
 · rintro rfl;exact ByteArray.toList_eq _
theorem Zz (g:ByteArray):(g.toList=[101,105,103,104,116])=(g=M.aQ):=aem g _
theorem ZJ (g:ByteArray):(g.toList=[110,105,110,101])=(g=M.bM):=aem g _
theorem Z9 (S:Nat→Prop) (tg fo:Int) (s:M.State) (A:Option Addr) (c:Nat) (w:World) (hp:bD w S A c s.ay) (h:NS ⟨M.aQ,tg,fo⟩ s) (hgr:(s.group != 0)=true):
 Calls Tryz.prog 43 #[jM ⟨M.aQ,tg,fo⟩,wF s A c] w fun e w'=>e= .returned (.int .i64 (M.jf ⟨M.aQ,tg,fo⟩ s))∧Below w.heap.size w w':=by
 have hck:M.jf ⟨M.aQ,tg,fo⟩ s=if M.jq 15 none s.ay≠0 then M.jq 15 none s.ay else if M.iP ⟨M.aQ,tg,fo⟩ s≠0 then 3 else M.xU ⟨M.aQ,tg,fo⟩ s:=by
  unfold M.jf
  rw [if_neg (by rw [ZU h];simp)]
  try rfl
 obtain ⟨c1,c2,c3⟩:=hp.bd
 obtain ⟨a0,a1,a2,a3,a4,gr,bl,b0,b1,b2,b3,b4,b5,b6,b7⟩:=s
 obtain ⟨h1,h2,h3,h4,h5⟩:=h
 simp only at h1 h2 h3 h4 c1 c3 hgr
 have wZ:=hide hck
 clear hck h5
 go_enter Tryz.func43,Tryz.ntmps43
 go_wp2_with (first | (go_at_call 78;refine (sF _ _ _ _).mono ?_;rintro e w9 ⟨rfl,rfl⟩) | (go_at_call 37;refine (Zo ⟨M.aQ,tg,fo⟩ _).mono ?_;rintro e w1 ⟨rfl,hb1⟩;obtain ⟨hcb,hfb⟩:=Rq hb1))
 go_loopw [6] (fun i wr=>∃ k:Nat,k≤bl.length∧i= .int .i64 k∧M.jq 15 none bl=M.jq 15 (lastOf bl k) (bl.drop k)∧Below (w.heap.size+2) ((w.alloc (.cells #[.string M.aQ,.int .i64 tg,.int .i64 fo] 25)).alloc (.cells #[.int .i64 a0,.bool a1,.bool a2,.bool a3,.bool a4,.int .i64 gr,.slice A bl.length c,.int .i64 b0,.int .i64 b1,.int .i64 b2,.int .i64 b3,.int .i64 b4,.int .i64 b5,.bool b6,.int .i64 b7] 42)) wr) (fun i _=>bl.length - (intOf i).toNat)
 case atStart=>exact ⟨0,Nat.zero_le _,rfl,by simp [lastOf],hb1.mono (by simp)⟩
 case round=>
  obtain ⟨k,hk,rfl,hx1,hb⟩:=hrel
  obtain ⟨hcb,hfb⟩:=aaZ hb
  by_cases hlt:k<bl.length
  · obtain ⟨b,o,rfl,_,hbl,hc⟩:=hp.at_ k hlt
    have hck:=hc k hlt
    have hc0:wr.cell? ⟨w.heap.size,0,none⟩=some (.string M.aQ):=by rw [hcb _ _ (by omega)];simp
    have i1:(0:Int)≤(k:Int):=by omega
    have i2:(k:Int)<(bl.length:Int):=by omega
    have hsz:=hb.size
    simp at hsz
    have P9:b<w.heap.size+1:=by omega
    have XM:b<w.heap.size+2:=by omega
    have hst:=BQ (l:=bl) 15 hlt
    have hnm:=aaE ⟨M.aQ,tg,fo⟩ bl[k]
    have hrn:((M.dS M.aQ:Nat):Int)=15:=by decide
    simp only [hrn] at hnm
    clear hrn
    by_cases ho:M.out bl[k] 1 15=true
    · rw [if_pos ho] at hst
      rw [ho] at hnm
      have hmem:(!decide (bl[k]∈M.jA ⟨M.aQ,tg,fo⟩))=true:=by rw [hnm];rfl
      have HX:=hide (hx1.trans hst)
      clear hx1 hst ho
      go_wp2
      go_region_held3 (fun w'=>∀ p q,p<w.heap.size+2→w'.cell? ⟨p,q,none⟩=((w.alloc (.cells #[.string M.aQ,.int .i64 tg,.int .i64 fo] 25)).alloc (.cells #[.int .i64 a0,.bool a1,.bool a2,.bool a3,.bool a4,.int .i64 gr,.slice (some ⟨b,o,none⟩) bl.length c,.int .i64 b0,.int .i64 b1,.int .i64 b2,.int .i64 b3,.int .i64 b4,.int .i64 b5,.bool b6,.int .i64 b7] 42)).cell? ⟨p,q,none⟩)
       (first | exact hcb | exact fun p q h=>(hb2.cell (p:=⟨p,q,none⟩) (Nat.lt_of_lt_of_le h hsz)).trans (hcb p q h))
       (first
         | (go_at_call 90;refine (ZG ⟨M.aQ,tg,fo⟩ _).mono ?_;rintro e w2 ⟨A2,c2',rfl,hr2,hb2⟩)
         | (go_at_call 54;refine (ZF _ _ _ _ _ _ hr2).mono ?_;rintro e w3 ⟨rfl,rfl⟩))
      have hsz':w.heap.size+2≤wr.drew.heap.size:=hsz
      have hbw:Below w.heap.size w w2:=((((Below.refl _ _).alloc (Nat.le_refl _) _).alloc (by simp) _).trans (hb.mono (by omega))).trans ((Below.refl _ _).drew.trans (hb2.mono (by omega)))
      have hb3:Below (w.heap.size+2) ((w.alloc (.cells #[.string M.aQ,.int .i64 tg,.int .i64 fo] 25)).alloc (.cells #[.int .i64 a0,.bool a1,.bool a2,.bool a3,.bool a4,.int .i64 gr,.slice (some ⟨b,o,none⟩) bl.length c,.int .i64 b0,.int .i64 b1,.int .i64 b2,.int .i64 b3,.int .i64 b4,.int .i64 b5,.bool b6,.int .i64 b7] 42)) w2:=hb.trans ((Below.refl _ _).drew.trans (hb2.mono hsz'))
      have hcb3:=aaZ hb3
      clear hcb hfb hb2 hr2 hb
      obtain ⟨hcb,hfb⟩:=hcb3
      go_wp2
      go_ret
      exact ⟨dG (by rw [wZ.out,HX.out];rfl),hbw⟩
    · rw [if_neg ho] at hst
      have ho':M.out bl[k] 1 15=false:=by simpa using ho
      rw [ho'] at hnm
      have hmem:(!decide (bl[k]∈M.jA ⟨M.aQ,tg,fo⟩))=false:=by rw [hnm];rfl
      have HX:=hide hx1
      have HS:=hide hst
      clear hx1 hst ho ho'
      go_wp2
      go_region_held3 (fun w'=>∀ p q,p<w.heap.size+2→w'.cell? ⟨p,q,none⟩=((w.alloc (.cells #[.string M.aQ,.int .i64 tg,.int .i64 fo] 25)).alloc (.cells #[.int .i64 a0,.bool a1,.bool a2,.bool a3,.bool a4,.int .i64 gr,.slice (some ⟨b,o,none⟩) bl.length c,.int .i64 b0,.int .i64 b1,.int .i64 b2,.int .i64 b3,.int .i64 b4,.int .i64 b5,.bool b6,.int .i64 b7] 42)).cell? ⟨p,q,none⟩)
       (first | exact hcb | exact fun p q h=>(hb2.cell (p:=⟨p,q,none⟩) (Nat.lt_of_lt_of_le h hsz)).trans (hcb p q h))
       (first
         | (go_at_call 90;refine (ZG ⟨M.aQ,tg,fo⟩ _).mono ?_;rintro e w2 ⟨A2,c2',rfl,hr2,hb2⟩)
         | (go_at_call 54;refine (ZF _ _ _ _ _ _ hr2).mono ?_;rintro e w3 ⟨rfl,rfl⟩))
      have hsz':w.heap.size+2≤wr.drew.heap.size:=hsz
      have hbw:Below w.heap.size w w2:=((((Below.refl _ _).alloc (Nat.le_refl _) _).alloc (by simp) _).trans (hb.mono (by omega))).trans ((Below.refl _ _).drew.trans (hb2.mono (by omega)))
      have hb3:Below (w.heap.size+2) ((w.alloc (.cells #[.string M.aQ,.int .i64 tg,.int .i64 fo] 25)).alloc (.cells #[.int .i64 a0,.bool a1,.bool a2,.bool a3,.bool a4,.int .i64 gr,.slice (some ⟨b,o,none⟩) bl.length c,.int .i64 b0,.int .i64 b1,.int .i64 b2,.int .i64 b3,.int .i64 b4,.int .i64 b5,.bool b6,.int .i64 b7] 42)) w2:=hb.trans ((Below.refl _ _).drew.trans (hb2.mono hsz'))
      have hcb3:=aaZ hb3
      clear hcb hfb hb2 hr2 hb
      obtain ⟨hcb,hfb⟩:=hcb3
      rcases k with _ | k
      · have hlow:rZ bl 0=false:=by simp [rZ,lastOf]
        have hd:decide ((0:Int)<((0:Nat):Int))=false:=by simp
        have HL:=hide hlow
        clear hlow
        go_wp2
        go_quiet (fail)
        go_wp2
        go_roundw
        case rel=>exact ⟨1,by omega,by go_num,by rw [HX.out,HS.out,HL.out];rfl,below_drewN hb3 _⟩
        case measure=>simp [intOf];omega
      · have hlow:rZ bl (k+1)=decide (bl[k+1]≤bl[k]):=by simp [rZ,lastOf,List.getD_eq_getElem?_getD,hlt,show k<bl.length by omega]
        have HL:=hide hlow
        clear hlow
        have hcm:=hc k (by omega)
        have i3:(k:Int)<(bl.length:Int):=by omega
        have i4:(0:Int)≤(k:Int):=by omega
        by_cases hle:bl[k+1]≤bl[k]
        · have hle':decide (bl[k+1]≤bl[k])=true:=by simpa using hle
          rw [hle'] at HL
          go_wp2
          go_quiet (fail)
          go_wp2
          go_ret
          exact ⟨dG (by rw [wZ.out,HX.out,HS.out,HL.out];rfl),below_drewN hbw _⟩
        · have hle':decide (bl[k+1]≤bl[k])=false:=by simpa using hle
          rw [hle'] at HL
          go_wp2
          go_quiet (fail)
          go_wp2
          go_roundw
          case rel=>exact ⟨k+1+1,by omega,by go_num,by rw [HX.out,HS.out,HL.out];rfl,below_drewN hb3 _⟩
          case measure=>simp [intOf];omega
  · have hkk:k=bl.length:=by omega
    have hz:M.jq 15 none bl=0:=by rw [hx1,hkk,List.drop_length,M.jq]
    have HT:=hide (show M.jf _ _=_ from wZ.out.trans (if_neg (by rw [hz];simp)))
    have hpr:bD wr S A c bl:=bD.keep hp (by have:=hb.size;simp at this;omega) (fun p q _ h=>by rw [hcb p q (by omega),World.cell?_alloc_lt _ _ _ (by simp;omega),World.cell?_alloc_lt _ _ _ h])
    have hbw:Below w.heap.size w wr:=(((Below.refl _ _).alloc (Nat.le_refl _) _).alloc (by simp) _).trans (hb.mono (by omega))
    clear hx1 hkk hz wZ hb
    cases b6
    · go_wp2
      go_loopw [7] (fun i w3=>∃ p m:Nat,p≤2∧i= .int .i64 p∧(1≤p→Zl ⟨M.aQ,tg,fo⟩ false b0 b2=false)∧(2≤p→Zl ⟨M.aQ,tg,fo⟩ false b1 b3=false)∧w3=wr.drewN m) (fun i _=>2 - (intOf i).toNat)
      case atStart=>exact ⟨0,0,by omega,rfl,by omega,by omega,rfl⟩
      case round=>
       obtain ⟨p,m,hp2,rfl,hn0,hn1,rfl⟩:=hrel
       obtain rfl | rfl | rfl:p=0∨p=1∨p=2:=by omega
       · rcases Zv M.aQ tg fo false b0 b2 with ⟨n1,n9⟩ | ⟨n1,n2,n9⟩ | ⟨n1,n2,n3,n9⟩ | ⟨n1,n2,n3,n4,n9⟩ | ⟨n1,n2,n3,n4,n5,n9⟩ | ⟨n1,n2,n3,n4,n5,n9⟩
         · have HN:=hide (Zg (r:=⟨M.aQ,tg,fo⟩) (s:=⟨a0,a1,a2,a3,a4,gr,bl,b0,b1,b2,b3,b4,b5,false,b7⟩) n9)
           clear n9
           go_wp2
           go_quiet ((go_at_call 78;first | exact Zc (Ze _ _ _ _ (by assumption)) | exact Zc (Zd _ _ _ _ (by assumption))))
           go_wp2
           go_ret
           exact ⟨dG (by rw [HT.out,HN.out];rfl),below_drewN (below_drewN hbw _) _⟩
         · have HN:=hide (Zg (r:=⟨M.aQ,tg,fo⟩) (s:=⟨a0,a1,a2,a3,a4,gr,bl,b0,b1,b2,b3,b4,b5,false,b7⟩) n9)
           clear n9
           go_wp2
           go_quiet ((go_at_call 78;first | exact Zc (Ze _ _ _ _ (by assumption)) | exact Zc (Zd _ _ _ _ (by assumption))))
           go_wp2
           go_ret
           exact ⟨dG (by rw [HT.out,HN.out];rfl),below_drewN (below_drewN hbw _) _⟩
         · have N9:=hide n9
           clear n9
           go_wp2
           go_quiet ((go_at_call 78;first | exact Zc (Ze _ _ _ _ (by assumption)) | exact Zc (Zd _ _ _ _ (by assumption))))
           go_wp2
           go_roundw
           case rel=>exact ⟨0+1,_,by omega,by go_num,fun _=>N9.out,by omega,rfl⟩
           case measure=>simp [intOf]
         · have HN:=hide (Zg (r:=⟨M.aQ,tg,fo⟩) (s:=⟨a0,a1,a2,a3,a4,gr,bl,b0,b1,b2,b3,b4,b5,false,b7⟩) n9)
           clear n9
           go_wp2
           go_quiet ((go_at_call 78;first | exact Zc (Ze _ _ _ _ (by assumption)) | exact Zc (Zd _ _ _ _ (by assumption))))
           go_wp2
           go_ret
           exact ⟨dG (by rw [HT.out,HN.out];rfl),below_drewN (below_drewN hbw _) _⟩
         · have N9:=hide n9
           clear n9
           go_wp2
           go_quiet ((go_at_call 78;first | exact Zc (Ze _ _ _ _ (by assumption)) | exact Zc (Zd _ _ _ _ (by assumption))))
           go_wp2
           go_roundw
           case rel=>exact ⟨0+1,_,by omega,by go_num,fun _=>N9.out,by omega,rfl⟩
           case measure=>simp [intOf]
         · have HN:=hide (Zg (r:=⟨M.aQ,tg,fo⟩) (s:=⟨a0,a1,a2,a3,a4,gr,bl,b0,b1,b2,b3,b4,b5,false,b7⟩) n9)
           clear n9
           go_wp2
           go_quiet ((go_at_call 78;first | exact Zc (Ze _ _ _ _ (by assumption)) | exact Zc (Zd _ _ _ _ (by assumption))))
           go_wp2
           go_ret
           exact ⟨dG (by rw [HT.out,HN.out];rfl),below_drewN (below_drewN hbw _) _⟩
       · rcases Zv M.aQ tg fo false b1 b3 with ⟨n1,n9⟩ | ⟨n1,n2,n9⟩ | ⟨n1,n2,n3,n9⟩ | ⟨n1,n2,n3,n4,n9⟩ | ⟨n1,n2,n3,n4,n5,n9⟩ | ⟨n1,n2,n3,n4,n5,n9⟩
         · have HN:=hide (Zh (r:=⟨M.aQ,tg,fo⟩) (s:=⟨a0,a1,a2,a3,a4,gr,bl,b0,b1,b2,b3,b4,b5,false,b7⟩) n9)
           clear n9
           go_wp2
           go_quiet ((go_at_call 78;first | exact Zc (Ze _ _ _ _ (by assumption)) | exact Zc (Zd _ _ _ _ (by assumption))))
           go_wp2
           go_ret
           exact ⟨dG (by rw [HT.out,HN.out];rfl),below_drewN (below_drewN hbw _) _⟩
         · have HN:=hide (Zh (r:=⟨M.aQ,tg,fo⟩) (s:=⟨a0,a1,a2,a3,a4,gr,bl,b0,b1,b2,b3,b4,b5,false,b7⟩) n9)
           clear n9
           go_wp2
           go_quiet ((go_at_call 78;first | exact Zc (Ze _ _ _ _ (by assumption)) | exact Zc (Zd _ _ _ _ (by assumption))))
           go_wp2
           go_ret
           exact ⟨dG (by rw [HT.out,HN.out];rfl),below_drewN (below_drewN hbw _) _⟩
         · have N9:=hide n9
           clear n9
           go_wp2
           go_quiet ((go_at_call 78;first | exact Zc (Ze _ _ _ _ (by assumption)) | exact Zc (Zd _ _ _ _ (by assumption))))
           go_wp2
           go_roundw
           case rel=>exact ⟨1+1,_,by omega,by go_num,fun _=>hn0 (by omega),fun _=>N9.out,rfl⟩
           case measure=>simp [intOf]
         · have HN:=hide (Zh (r:=⟨M.aQ,tg,fo⟩) (s:=⟨a0,a1,a2,a3,a4,gr,bl,b0,b1,b2,b3,b4,b5,false,b7⟩) n9)
           clear n9
           go_wp2
           go_quiet ((go_at_call 78;first | exact Zc (Ze _ _ _ _ (by assumption)) | exact Zc (Zd _ _ _ _ (by assumption))))
           go_wp2
           go_ret
           exact ⟨dG (by rw [HT.out,HN.out];rfl),below_drewN (below_drewN hbw _) _⟩
         · have N9:=hide n9
           clear n9
           go_wp2
           go_quiet ((go_at_call 78;first | exact Zc (Ze _ _ _ _ (by assumption)) | exact Zc (Zd _ _ _ _ (by assumption))))
           go_wp2
           go_roundw
           case rel=>exact ⟨1+1,_,by omega,by go_num,fun _=>hn0 (by omega),fun _=>N9.out,rfl⟩
           case measure=>simp [intOf]
         · have HN:=hide (Zh (r:=⟨M.aQ,tg,fo⟩) (s:=⟨a0,a1,a2,a3,a4,gr,bl,b0,b1,b2,b3,b4,b5,false,b7⟩) n9)
           clear n9
           go_wp2
           go_quiet ((go_at_call 78;first | exact Zc (Ze _ _ _ _ (by assumption)) | exact Zc (Zd _ _ _ _ (by assumption))))
           go_wp2
           go_ret
           exact ⟨dG (by rw [HT.out,HN.out];rfl),below_drewN (below_drewN hbw _) _⟩
       · have HN:=hide (Zy (r:=⟨M.aQ,tg,fo⟩) (s:=⟨a0,a1,a2,a3,a4,gr,bl,b0,b1,b2,b3,b4,b5,false,b7⟩) (hn0 (by omega)) (hn1 (by omega)))
         clear hn0 hn1
         by_cases q1:M.out b4 0 99999=true∨M.out b5 1 1000=true
         · have HU:=hide (HT.out.trans (if_pos (by rw [HN.out,if_pos q1];simp)))
           clear HT HN
           go_wp2_with (go_at_call 78;refine (sF _ _ _ _).mono ?_;rintro e w9 ⟨rfl,rfl⟩)
           all_goals first | (exfalso;simp_all;done) | skip
           all_goals
            go_ret
            exact ⟨dG HU.out.symm,below_drewN hbw _⟩
         · have HU:=hide (HT.out.trans (if_neg (by rw [HN.out,if_neg q1];simp)))
           rw [not_or] at q1
           have q2:M.out b4 0 99999=false:=by simpa using q1.1
           have q3:M.out b5 1 1000=false:=by simpa using q1.2
           clear HT HN q1
           go_wp2_with (first | (go_at_call 78;refine (sF _ _ _ _).mono ?_;rintro e w9 ⟨rfl,rfl⟩) | (go_at_call 54;refine (ZF _ _ _ _ _ _ (hpr.drewN m)).mono ?_;rintro e w9 ⟨rfl,rfl⟩))
           all_goals
            go_ret
            refine ⟨dG ?_,below_drewN hbw _⟩
            rw [HU.out]
            first | (simp [M.xU,M.ET,M.missing, *];done) | (simp_all [M.xU,M.ET,M.missing,Zz,ZJ];done)
    · go_wp2
      go_loopw [7] (fun i w3=>∃ p m:Nat,p≤2∧i= .int .i64 p∧(1≤p→Zl ⟨M.aQ,tg,fo⟩ true b0 b2=false)∧(2≤p→Zl ⟨M.aQ,tg,fo⟩ true b1 b3=false)∧w3=wr.drewN m) (fun i _=>2 - (intOf i).toNat)
      case atStart=>exact ⟨0,0,by omega,rfl,by omega,by omega,rfl⟩
      case round=>
       obtain ⟨p,m,hp2,rfl,hn0,hn1,rfl⟩:=hrel
       obtain rfl | rfl | rfl:p=0∨p=1∨p=2:=by omega
       · rcases Zv M.aQ tg fo true b0 b2 with ⟨n1,n9⟩ | ⟨n1,n2,n9⟩ | ⟨n1,n2,n3,n9⟩ | ⟨n1,n2,n3,n4,n9⟩ | ⟨n1,n2,n3,n4,n5,n9⟩ | ⟨n1,n2,n3,n4,n5,n9⟩
         · have HN:=hide (Zg (r:=⟨M.aQ,tg,fo⟩) (s:=⟨a0,a1,a2,a3,a4,gr,bl,b0,b1,b2,b3,b4,b5,true,b7⟩) n9)
           clear n9
           go_wp2
           go_quiet ((go_at_call 78;first | exact Zc (Ze _ _ _ _ (by assumption)) | exact Zc (Zd _ _ _ _ (by assumption))))
           go_wp2
           go_ret
           exact ⟨dG (by rw [HT.out,HN.out];rfl),below_drewN (below_drewN hbw _) _⟩
         · have HN:=hide (Zg (r:=⟨M.aQ,tg,fo⟩) (s:=⟨a0,a1,a2,a3,a4,gr,bl,b0,b1,b2,b3,b4,b5,true,b7⟩) n9)
           clear n9
           go_wp2
           go_quiet ((go_at_call 78;first | exact Zc (Ze _ _ _ _ (by assumption)) | exact Zc (Zd _ _ _ _ (by assumption))))
           go_wp2
           go_ret
           exact ⟨dG (by rw [HT.out,HN.out];rfl),below_drewN (below_drewN hbw _) _⟩
         · have N9:=hide n9
           clear n9
           go_wp2
           go_quiet ((go_at_call 78;first | exact Zc (Ze _ _ _ _ (by assumption)) | exact Zc (Zd _ _ _ _ (by assumption))))
           go_wp2
           go_roundw
           case rel=>exact ⟨0+1,_,by omega,by go_num,fun _=>N9.out,by omega,rfl⟩
           case measure=>simp [intOf]
         · have HN:=hide (Zg (r:=⟨M.aQ,tg,fo⟩) (s:=⟨a0,a1,a2,a3,a4,gr,bl,b0,b1,b2,b3,b4,b5,true,b7⟩) n9)
           clear n9
           go_wp2
           go_quiet ((go_at_call 78;first | exact Zc (Ze _ _ _ _ (by assumption)) | exact Zc (Zd _ _ _ _ (by assumption))))
           go_wp2
           go_ret
           exact ⟨dG (by rw [HT.out,HN.out];rfl),below_drewN (below_drewN hbw _) _⟩
         · have N9:=hide n9
           clear n9
           go_wp2
           go_quiet ((go_at_call 78;first | exact Zc (Ze _ _ _ _ (by assumption)) | exact Zc (Zd _ _ _ _ (by assumption))))
           go_wp2
           go_roundw
           case rel=>exact ⟨0+1,_,by omega,by go_num,fun _=>N9.out,by omega,rfl⟩
           case measure=>simp [intOf]
         · have N9:=hide n9
           clear n9
           go_wp2
           go_quiet ((go_at_call 78;first | exact Zc (Ze _ _ _ _ (by assumption)) | exact Zc (Zd _ _ _ _ (by assumption))))
           go_wp2
           go_roundw
           case rel=>exact ⟨0+1,_,by omega,by go_num,fun _=>N9.out,by omega,rfl⟩
           case measure=>simp [intOf]
       · rcases Zv M.aQ tg fo true b1 b3 with ⟨n1,n9⟩ | ⟨n1,n2,n9⟩ | ⟨n1,n2,n3,n9⟩ | ⟨n1,n2,n3,n4,n9⟩ | ⟨n1,n2,n3,n4,n5,n9⟩ | ⟨n1,n2,n3,n4,n5,n9⟩
         · have HN:=hide (Zh (r:=⟨M.aQ,tg,fo⟩) (s:=⟨a0,a1,a2,a3,a4,gr,bl,b0,b1,b2,b3,b4,b5,true,b7⟩) n9)
           clear n9
           go_wp2
           go_quiet ((go_at_call 78;first | exact Zc (Ze _ _ _ _ (by assumption)) | exact Zc (Zd _ _ _ _ (by assumption))))
           go_wp2
           go_ret
           exact ⟨dG (by rw [HT.out,HN.out];rfl),below_drewN (below_drewN hbw _) _⟩
         · have HN:=hide (Zh (r:=⟨M.aQ,tg,fo⟩) (s:=⟨a0,a1,a2,a3,a4,gr,bl,b0,b1,b2,b3,b4,b5,true,b7⟩) n9)
           clear n9
           go_wp2
           go_quiet ((go_at_call 78;first | exact Zc (Ze _ _ _ _ (by assumption)) | exact Zc (Zd _ _ _ _ (by assumption))))
           go_wp2
           go_ret
           exact ⟨dG (by rw [HT.out,HN.out];rfl),below_drewN (below_drewN hbw _) _⟩
         · have N9:=hide n9
           clear n9
           go_wp2
           go_quiet ((go_at_call 78;first | exact Zc (Ze _ _ _ _ (by assumption)) | exact Zc (Zd _ _ _ _ (by assumption))))
           go_wp2
           go_roundw
           case rel=>exact ⟨1+1,_,by omega,by go_num,fun _=>hn0 (by omega),fun _=>N9.out,rfl⟩
           case measure=>simp [intOf]
         · have HN:=hide (Zh (r:=⟨M.aQ,tg,fo⟩) (s:=⟨a0,a1,a2,a3,a4,gr,bl,b0,b1,b2,b3,b4,b5,true,b7⟩) n9)
           clear n9
           go_wp2
           go_quiet ((go_at_call 78;first | exact Zc (Ze _ _ _ _ (by assumption)) | exact Zc (Zd _ _ _ _ (by assumption))))
           go_wp2
           go_ret
           exact ⟨dG (by rw [HT.out,HN.out];rfl),below_drewN (below_drewN hbw _) _⟩
         · have N9:=hide n9
           clear n9
           go_wp2
           go_quiet ((go_at_call 78;first | exact Zc (Ze _ _ _ _ (by assumption)) | exact Zc (Zd _ _ _ _ (by assumption))))
           go_wp2
           go_roundw
           case rel=>exact ⟨1+1,_,by omega,by go_num,fun _=>hn0 (by omega),fun _=>N9.out,rfl⟩
           case measure=>simp [intOf]
         · have N9:=hide n9
           clear n9
           go_wp2
           go_quiet ((go_at_call 78;first | exact Zc (Ze _ _ _ _ (by assumption)) | exact Zc (Zd _ _ _ _ (by assumption))))
           go_wp2
           go_roundw
           case rel=>exact ⟨1+1,_,by omega,by go_num,fun _=>hn0 (by omega),fun _=>N9.out,rfl⟩
           case measure=>simp [intOf]
       · have HN:=hide (Zy (r:=⟨M.aQ,tg,fo⟩) (s:=⟨a0,a1,a2,a3,a4,gr,bl,b0,b1,b2,b3,b4,b5,true,b7⟩) (hn0 (by omega)) (hn1 (by omega)))
         clear hn0 hn1
         by_cases q1:M.out b4 0 99999=true∨M.out b5 1 1000=true
         · have HU:=hide (HT.out.trans (if_pos (by rw [HN.out,if_pos q1];simp)))
           clear HT HN
           go_wp2_with (go_at_call 78;refine (sF _ _ _ _).mono ?_;rintro e w9 ⟨rfl,rfl⟩)
           all_goals first | (exfalso;simp_all;done) | skip
           all_goals
            go_ret
            exact ⟨dG HU.out.symm,below_drewN hbw _⟩
         · have HU:=hide (HT.out.trans (if_neg (by rw [HN.out,if_neg q1];simp)))
           rw [not_or] at q1
           have q2:M.out b4 0 99999=false:=by simpa using q1.1
           have q3:M.out b5 1 1000=false:=by simpa using q1.2
           clear HT HN q1
           go_wp2_with (first | (go_at_call 78;refine (sF _ _ _ _).mono ?_;rintro e w9 ⟨rfl,rfl⟩) | (go_at_call 54;refine (ZF _ _ _ _ _ _ (hpr.drewN m)).mono ?_;rintro e w9 ⟨rfl,rfl⟩))
           all_goals
            go_ret
            refine ⟨dG ?_,below_drewN hbw _⟩
            rw [HU.out]
            first | (simp [M.xU,M.ET,M.missing, *];done) | (simp_all [M.xU,M.ET,M.missing,Zz,ZJ];done)
theorem aaS (S:Nat→Prop) (g:ByteArray) (tg fo:Int) (s:M.State) (A:Option Addr) (c:Nat) (w:World) (hp:bD w S A c s.ay) (h:NS ⟨g,tg,fo⟩ s) (hgr:(s.group != 0)=false):
 Calls Tryz.prog 43 #[jM ⟨g,tg,fo⟩,wF s A c] w fun e w'=>e= .returned (.int .i64 (M.jf ⟨g,tg,fo⟩ s))∧Below w.heap.size w w':=by
 have hck:M.jf ⟨g,tg,fo⟩ s=if M.jq (M.dS g) none s.ay≠0 then M.jq (M.dS g) none s.ay else if M.iP ⟨g,tg,fo⟩ s≠0 then 3 else M.xU ⟨g,tg,fo⟩ s:=by
  unfold M.jf
  rw [if_neg (by rw [ZU h];simp)]
  try rfl
 obtain ⟨c1,c2,c3⟩:=hp.bd
 obtain ⟨a0,a1,a2,a3,a4,gr,bl,b0,b1,b2,b3,b4,b5,b6,b7⟩:=s
 obtain ⟨h1,h2,h3,h4,h5⟩:=h
 simp only at h1 h2 h3 h4 c1 c3 hgr
 have wZ:=hide hck
 clear hck h5
 go_enter Tryz.func43,Tryz.ntmps43
 go_wp2_with (first | (go_at_call 78;refine (sF _ _ _ _).mono ?_;rintro e w9 ⟨rfl,rfl⟩) | (go_at_call 37;refine (Zo ⟨g,tg,fo⟩ _).mono ?_;rintro e w1 ⟨rfl,hb1⟩;obtain ⟨hcb,hfb⟩:=Rq hb1))
 go_loopw [6] (fun i wr=>∃ k:Nat,k≤bl.length∧i= .int .i64 k∧M.jq (M.dS g) none bl=M.jq (M.dS g) (lastOf bl k) (bl.drop k)∧Below (w.heap.size+2) ((w.alloc (.cells #[.string g,.int .i64 tg,.int .i64 fo] 25)).alloc (.cells #[.int .i64 a0,.bool a1,.bool a2,.bool a3,.bool a4,.int .i64 gr,.slice A bl.length c,.int .i64 b0,.int .i64 b1,.int .i64 b2,.int .i64 b3,.int .i64 b4,.int .i64 b5,.bool b6,.int .i64 b7] 42)) wr) (fun i _=>bl.length - (intOf i).toNat)
 case atStart=>exact ⟨0,Nat.zero_le _,rfl,by simp [lastOf],hb1.mono (by simp)⟩
 case round=>
  obtain ⟨k,hk,rfl,hx1,hb⟩:=hrel
  obtain ⟨hcb,hfb⟩:=aaZ hb
  by_cases hlt:k<bl.length
  · obtain ⟨b,o,rfl,_,hbl,hc⟩:=hp.at_ k hlt
    have hck:=hc k hlt
    have hc0:wr.cell? ⟨w.heap.size,0,none⟩=some (.string g):=by rw [hcb _ _ (by omega)];simp
    have i1:(0:Int)≤(k:Int):=by omega
    have i2:(k:Int)<(bl.length:Int):=by omega
    have hsz:=hb.size
    simp at hsz
    have P9:b<w.heap.size+1:=by omega
    have XM:b<w.heap.size+2:=by omega
    have hst:=BQ (l:=bl) (M.dS g) hlt
    have hnm:=aaE ⟨g,tg,fo⟩ bl[k]
    by_cases ho:M.out bl[k] 1 (M.dS g)=true
    · rw [if_pos ho] at hst
      rw [ho] at hnm
      have hmem:(!decide (bl[k]∈M.jA ⟨g,tg,fo⟩))=true:=by rw [hnm];rfl
      have HX:=hide (hx1.trans hst)
      clear hx1 hst ho
      go_wp2
      go_region_held3 (fun w'=>∀ p q,p<w.heap.size+2→w'.cell? ⟨p,q,none⟩=((w.alloc (.cells #[.string g,.int .i64 tg,.int .i64 fo] 25)).alloc (.cells #[.int .i64 a0,.bool a1,.bool a2,.bool a3,.bool a4,.int .i64 gr,.slice (some ⟨b,o,none⟩) bl.length c,.int .i64 b0,.int .i64 b1,.int .i64 b2,.int .i64 b3,.int .i64 b4,.int .i64 b5,.bool b6,.int .i64 b7] 42)).cell? ⟨p,q,none⟩)
       (first | exact hcb | exact fun p q h=>(hb2.cell (p:=⟨p,q,none⟩) (Nat.lt_of_lt_of_le h hsz)).trans (hcb p q h))
       (first
         | (go_at_call 90;refine (ZG ⟨g,tg,fo⟩ _).mono ?_;rintro e w2 ⟨A2,c2',rfl,hr2,hb2⟩)
         | (go_at_call 54;refine (ZF _ _ _ _ _ _ hr2).mono ?_;rintro e w3 ⟨rfl,rfl⟩))
      have hsz':w.heap.size+2≤wr.drew.heap.size:=hsz
      have hbw:Below w.heap.size w w2:=((((Below.refl _ _).alloc (Nat.le_refl _) _).alloc (by simp) _).trans (hb.mono (by omega))).trans ((Below.refl _ _).drew.trans (hb2.mono (by omega)))
      have hb3:Below (w.heap.size+2) ((w.alloc (.cells #[.string g,.int .i64 tg,.int .i64 fo] 25)).alloc (.cells #[.int .i64 a0,.bool a1,.bool a2,.bool a3,.bool a4,.int .i64 gr,.slice (some ⟨b,o,none⟩) bl.length c,.int .i64 b0,.int .i64 b1,.int .i64 b2,.int .i64 b3,.int .i64 b4,.int .i64 b5,.bool b6,.int .i64 b7] 42)) w2:=hb.trans ((Below.refl _ _).drew.trans (hb2.mono hsz'))
      have hcb3:=aaZ hb3
      clear hcb hfb hb2 hr2 hb
      obtain ⟨hcb,hfb⟩:=hcb3
      go_wp2
      go_ret
      exact ⟨dG (by rw [wZ.out,HX.out];rfl),hbw⟩
    · rw [if_neg ho] at hst
      have ho':M.out bl[k] 1 (M.dS g)=false:=by simpa using ho
      rw [ho'] at hnm
      have hmem:(!decide (bl[k]∈M.jA ⟨g,tg,fo⟩))=false:=by rw [hnm];rfl
      have HX:=hide hx1
      have HS:=hide hst
      clear hx1 hst ho ho'
      go_wp2
      go_region_held3 (fun w'=>∀ p q,p<w.heap.size+2→w'.cell? ⟨p,q,none⟩=((w.alloc (.cells #[.string g,.int .i64 tg,.int .i64 fo] 25)).alloc (.cells #[.int .i64 a0,.bool a1,.bool a2,.bool a3,.bool a4,.int .i64 gr,.slice (some ⟨b,o,none⟩) bl.length c,.int .i64 b0,.int .i64 b1,.int .i64 b2,.int .i64 b3,.int .i64 b4,.int .i64 b5,.bool b6,.int .i64 b7] 42)).cell? ⟨p,q,none⟩)
       (first | exact hcb | exact fun p q h=>(hb2.cell (p:=⟨p,q,none⟩) (Nat.lt_of_lt_of_le h hsz)).trans (hcb p q h))
       (first
         | (go_at_call 90;refine (ZG ⟨g,tg,fo⟩ _).mono ?_;rintro e w2 ⟨A2,c2',rfl,hr2,hb2⟩)
         | (go_at_call 54;refine (ZF _ _ _ _ _ _ hr2).mono ?_;rintro e w3 ⟨rfl,rfl⟩))
      have hsz':w.heap.size+2≤wr.drew.heap.size:=hsz
      have hbw:Below w.heap.size w w2:=((((Below.refl _ _).alloc (Nat.le_refl _) _).alloc (by simp) _).trans (hb.mono (by omega))).trans ((Below.refl _ _).drew.trans (hb2.mono (by omega)))
      have hb3:Below (w.heap.size+2) ((w.alloc (.cells #[.string g,.int .i64 tg,.int .i64 fo] 25)).alloc (.cells #[.int .i64 a0,.bool a1,.bool a2,.bool a3,.bool a4,.int .i64 gr,.slice (some ⟨b,o,none⟩) bl.length c,.int .i64 b0,.int .i64 b1,.int .i64 b2,.int .i64 b3,.int .i64 b4,.int .i64 b5,.bool b6,.int .i64 b7] 42)) w2:=hb.trans ((Below.refl _ _).drew.trans (hb2.mono hsz'))
      have hcb3:=aaZ hb3
      clear hcb hfb hb2 hr2 hb
      obtain ⟨hcb,hfb⟩:=hcb3
      rcases k with _ | k
      · have hlow:rZ bl 0=false:=by simp [rZ,lastOf]
        have hd:decide ((0:Int)<((0:Nat):Int))=false:=by simp
        have HL:=hide hlow
        clear hlow
        go_wp2
        go_quiet (fail)
        go_wp2
        go_roundw
        case rel=>exact ⟨1,by omega,by go_num,by rw [HX.out,HS.out,HL.out];rfl,below_drewN hb3 _⟩
        case measure=>simp [intOf];omega
      · have hlow:rZ bl (k+1)=decide (bl[k+1]≤bl[k]):=by simp [rZ,lastOf,List.getD_eq_getElem?_getD,hlt,show k<bl.length by omega]
        have HL:=hide hlow
        clear hlow
        have hcm:=hc k (by omega)
        have i3:(k:Int)<(bl.length:Int):=by omega
        have i4:(0:Int)≤(k:Int):=by omega
        by_cases hle:bl[k+1]≤bl[k]
        · have hle':decide (bl[k+1]≤bl[k])=true:=by simpa using hle
          rw [hle'] at HL
          go_wp2
          go_quiet (fail)
          go_wp2
          go_ret
          exact ⟨dG (by rw [wZ.out,HX.out,HS.out,HL.out];rfl),below_drewN hbw _⟩
        · have hle':decide (bl[k+1]≤bl[k])=false:=by simpa using hle
          rw [hle'] at HL
          go_wp2
          go_quiet (fail)
          go_wp2
          go_roundw
          case rel=>exact ⟨k+1+1,by omega,by go_num,by rw [HX.out,HS.out,HL.out];rfl,below_drewN hb3 _⟩
          case measure=>simp [intOf];omega
  · have hkk:k=bl.length:=by omega
    have hz:M.jq (M.dS g) none bl=0:=by rw [hx1,hkk,List.drop_length,M.jq]
    have HT:=hide (show M.jf _ _=_ from wZ.out.trans (if_neg (by rw [hz];simp)))
    have hpr:bD wr S A c bl:=bD.keep hp (by have:=hb.size;simp at this;omega) (fun p q _ h=>by rw [hcb p q (by omega),World.cell?_alloc_lt _ _ _ (by simp;omega),World.cell?_alloc_lt _ _ _ h])
    have hbw:Below w.heap.size w wr:=(((Below.refl _ _).alloc (Nat.le_refl _) _).alloc (by simp) _).trans (hb.mono (by omega))
    clear hx1 hkk hz wZ hb
    cases b6
    · go_wp2
      go_loopw [7] (fun i w3=>∃ p m:Nat,p≤2∧i= .int .i64 p∧(1≤p→Zl ⟨g,tg,fo⟩ false b0 b2=false)∧(2≤p→Zl ⟨g,tg,fo⟩ false b1 b3=false)∧w3=wr.drewN m) (fun i _=>2 - (intOf i).toNat)
      case atStart=>exact ⟨0,0,by omega,rfl,by omega,by omega,rfl⟩
      case round=>
       obtain ⟨p,m,hp2,rfl,hn0,hn1,rfl⟩:=hrel
       obtain rfl | rfl | rfl:p=0∨p=1∨p=2:=by omega
       · rcases Zv g tg fo false b0 b2 with ⟨n1,n9⟩ | ⟨n1,n2,n9⟩ | ⟨n1,n2,n3,n9⟩ | ⟨n1,n2,n3,n4,n9⟩ | ⟨n1,n2,n3,n4,n5,n9⟩ | ⟨n1,n2,n3,n4,n5,n9⟩
         · have HN:=hide (Zg (r:=⟨g,tg,fo⟩) (s:=⟨a0,a1,a2,a3,a4,gr,bl,b0,b1,b2,b3,b4,b5,false,b7⟩) n9)
           clear n9
           go_wp2
           go_quiet ((go_at_call 78;first | exact Zc (Ze _ _ _ _ (by assumption)) | exact Zc (Zd _ _ _ _ (by assumption))))
           go_wp2
           go_ret
           exact ⟨dG (by rw [HT.out,HN.out];rfl),below_drewN (below_drewN hbw _) _⟩
         · have HN:=hide (Zg (r:=⟨g,tg,fo⟩) (s:=⟨a0,a1,a2,a3,a4,gr,bl,b0,b1,b2,b3,b4,b5,false,b7⟩) n9)
           clear n9
           go_wp2
           go_quiet ((go_at_call 78;first | exact Zc (Ze _ _ _ _ (by assumption)) | exact Zc (Zd _ _ _ _ (by assumption))))
           go_wp2
           go_ret
           exact ⟨dG (by rw [HT.out,HN.out];rfl),below_drewN (below_drewN hbw _) _⟩
         · have N9:=hide n9
           clear n9
           go_wp2
           go_quiet ((go_at_call 78;first | exact Zc (Ze _ _ _ _ (by assumption)) | exact Zc (Zd _ _ _ _ (by assumption))))
           go_wp2
           go_roundw
           case rel=>exact ⟨0+1,_,by omega,by go_num,fun _=>N9.out,by omega,rfl⟩
           case measure=>simp [intOf]
         · have HN:=hide (Zg (r:=⟨g,tg,fo⟩) (s:=⟨a0,a1,a2,a3,a4,gr,bl,b0,b1,b2,b3,b4,b5,false,b7⟩) n9)
           clear n9
           go_wp2
           go_quiet ((go_at_call 78;first | exact Zc (Ze _ _ _ _ (by assumption)) | exact Zc (Zd _ _ _ _ (by assumption))))
           go_wp2
           go_ret
           exact ⟨dG (by rw [HT.out,HN.out];rfl),below_drewN (below_drewN hbw _) _⟩
         · have N9:=hide n9
           clear n9
           go_wp2
           go_quiet ((go_at_call 78;first | exact Zc (Ze _ _ _ _ (by assumption)) | exact Zc (Zd _ _ _ _ (by assumption))))
           go_wp2
           go_roundw
           case rel=>exact ⟨0+1,_,by omega,by go_num,fun _=>N9.out,by omega,rfl⟩
           case measure=>simp [intOf]
         · have HN:=hide (Zg (r:=⟨g,tg,fo⟩) (s:=⟨a0,a1,a2,a3,a4,gr,bl,b0,b1,b2,b3,b4,b5,false,b7⟩) n9)
           clear n9
           go_wp2
           go_quiet ((go_at_call 78;first | exact Zc (Ze _ _ _ _ (by assumption)) | exact Zc (Zd _ _ _ _ (by assumption))))
           go_wp2
           go_ret
           exact ⟨dG (by rw [HT.out,HN.out];rfl),below_drewN (below_drewN hbw _) _⟩
       · rcases Zv g tg fo false b1 b3 with ⟨n1,n9⟩ | ⟨n1,n2,n9⟩ | ⟨n1,n2,n3,n9⟩ | ⟨n1,n2,n3,n4,n9⟩ | ⟨n1,n2,n3,n4,n5,n9⟩ | ⟨n1,n2,n3,n4,n5,n9⟩
         · have HN:=hide (Zh (r:=⟨g,tg,fo⟩) (s:=⟨a0,a1,a2,a3,a4,gr,bl,b0,b1,b2,b3,b4,b5,false,b7⟩) n9)
           clear n9
           go_wp2
           go_quiet ((go_at_call 78;first | exact Zc (Ze _ _ _ _ (by assumption)) | exact Zc (Zd _ _ _ _ (by assumption))))
           go_wp2
           go_ret
           exact ⟨dG (by rw [HT.out,HN.out];rfl),below_drewN (below_drewN hbw _) _⟩
         · have HN:=hide (Zh (r:=⟨g,tg,fo⟩) (s:=⟨a0,a1,a2,a3,a4,gr,bl,b0,b1,b2,b3,b4,b5,false,b7⟩) n9)
           clear n9
           go_wp2
           go_quiet ((go_at_call 78;first | exact Zc (Ze _ _ _ _ (by assumption)) | exact Zc (Zd _ _ _ _ (by assumption))))
           go_wp2
           go_ret
           exact ⟨dG (by rw [HT.out,HN.out];rfl),below_drewN (below_drewN hbw _) _⟩
         · have N9:=hide n9
           clear n9
           go_wp2
           go_quiet ((go_at_call 78;first | exact Zc (Ze _ _ _ _ (by assumption)) | exact Zc (Zd _ _ _ _ (by assumption))))
           go_wp2
           go_roundw
           case rel=>exact ⟨1+1,_,by omega,by go_num,fun _=>hn0 (by omega),fun _=>N9.out,rfl⟩
           case measure=>simp [intOf]
         · have HN:=hide (Zh (r:=⟨g,tg,fo⟩) (s:=⟨a0,a1,a2,a3,a4,gr,bl,b0,b1,b2,b3,b4,b5,false,b7⟩) n9)
           clear n9
           go_wp2
           go_quiet ((go_at_call 78;first | exact Zc (Ze _ _ _ _ (by assumption)) | exact Zc (Zd _ _ _ _ (by assumption))))
           go_wp2
           go_ret
           exact ⟨dG (by rw [HT.out,HN.out];rfl),below_drewN (below_drewN hbw _) _⟩
         · have N9:=hide n9
           clear n9
           go_wp2
           go_quiet ((go_at_call 78;first | exact Zc (Ze _ _ _ _ (by assumption)) | exact Zc (Zd _ _ _ _ (by assumption))))
           go_wp2
           go_roundw
           case rel=>exact ⟨1+1,_,by omega,by go_num,fun _=>hn0 (by omega),fun _=>N9.out,rfl⟩
           case measure=>simp [intOf]
         · have HN:=hide (Zh (r:=⟨g,tg,fo⟩) (s:=⟨a0,a1,a2,a3,a4,gr,bl,b0,b1,b2,b3,b4,b5,false,b7⟩) n9)
           clear n9
           go_wp2
           go_quiet ((go_at_call 78;first | exact Zc (Ze _ _ _ _ (by assumption)) | exact Zc (Zd _ _ _ _ (by assumption))))
           go_wp2
           go_ret
           exact ⟨dG (by rw [HT.out,HN.out];rfl),below_drewN (below_drewN hbw _) _⟩
       · have HN:=hide (Zy (r:=⟨g,tg,fo⟩) (s:=⟨a0,a1,a2,a3,a4,gr,bl,b0,b1,b2,b3,b4,b5,false,b7⟩) (hn0 (by omega)) (hn1 (by omega)))
         clear hn0 hn1
         by_cases q1:M.out b4 0 99999=true∨M.out b5 1 1000=true
         · have HU:=hide (HT.out.trans (if_pos (by rw [HN.out,if_pos q1];simp)))
           clear HT HN
           go_wp2_with (go_at_call 78;refine (sF _ _ _ _).mono ?_;rintro e w9 ⟨rfl,rfl⟩)
           all_goals first | (exfalso;simp_all;done) | skip
           all_goals
            go_ret
            exact ⟨dG HU.out.symm,below_drewN hbw _⟩
         · have HU:=hide (HT.out.trans (if_neg (by rw [HN.out,if_neg q1];simp)))
           rw [not_or] at q1
           have q2:M.out b4 0 99999=false:=by simpa using q1.1
           have q3:M.out b5 1 1000=false:=by simpa using q1.2
           clear HT HN q1
           go_wp2_with (first | (go_at_call 78;refine (sF _ _ _ _).mono ?_;rintro e w9 ⟨rfl,rfl⟩) | (go_at_call 54;refine (ZF _ _ _ _ _ _ (hpr.drewN m)).mono ?_;rintro e w9 ⟨rfl,rfl⟩))
           all_goals
            go_ret
            refine ⟨dG ?_,below_drewN hbw _⟩
            rw [HU.out]
            first | (simp [M.xU,M.ET,M.missing, *];done) | (simp_all [M.xU,M.ET,M.missing,Zz,ZJ];done)
    · go_wp2
      go_loopw [7] (fun i w3=>∃ p m:Nat,p≤2∧i= .int .i64 p∧(1≤p→Zl ⟨g,tg,fo⟩ true b0 b2=false)∧(2≤p→Zl ⟨g,tg,fo⟩ true b1 b3=false)∧w3=wr.drewN m) (fun i _=>2 - (intOf i).toNat)
      case atStart=>exact ⟨0,0,by omega,rfl,by omega,by omega,rfl⟩
      case round=>
       obtain ⟨p,m,hp2,rfl,hn0,hn1,rfl⟩:=hrel
       obtain rfl | rfl | rfl:p=0∨p=1∨p=2:=by omega
       · rcases Zv g tg fo true b0 b2 with ⟨n1,n9⟩ | ⟨n1,n2,n9⟩ | ⟨n1,n2,n3,n9⟩ | ⟨n1,n2,n3,n4,n9⟩ | ⟨n1,n2,n3,n4,n5,n9⟩ | ⟨n1,n2,n3,n4,n5,n9⟩
         · have HN:=hide (Zg (r:=⟨g,tg,fo⟩) (s:=⟨a0,a1,a2,a3,a4,gr,bl,b0,b1,b2,b3,b4,b5,true,b7⟩) n9)
           clear n9
           go_wp2
           go_quiet ((go_at_call 78;first | exact Zc (Ze _ _ _ _ (by assumption)) | exact Zc (Zd _ _ _ _ (by assumption))))
           go_wp2
           go_ret
           exact ⟨dG (by rw [HT.out,HN.out];rfl),below_drewN (below_drewN hbw _) _⟩
         · have HN:=hide (Zg (r:=⟨g,tg,fo⟩) (s:=⟨a0,a1,a2,a3,a4,gr,bl,b0,b1,b2,b3,b4,b5,true,b7⟩) n9)
           clear n9
           go_wp2
           go_quiet ((go_at_call 78;first | exact Zc (Ze _ _ _ _ (by assumption)) | exact Zc (Zd _ _ _ _ (by assumption))))
           go_wp2
           go_ret
           exact ⟨dG (by rw [HT.out,HN.out];rfl),below_drewN (below_drewN hbw _) _⟩
         · have N9:=hide n9
           clear n9
           go_wp2
           go_quiet ((go_at_call 78;first | exact Zc (Ze _ _ _ _ (by assumption)) | exact Zc (Zd _ _ _ _ (by assumption))))
           go_wp2
           go_roundw
           case rel=>exact ⟨0+1,_,by omega,by go_num,fun _=>N9.out,by omega,rfl⟩
           case measure=>simp [intOf]
         · have HN:=hide (Zg (r:=⟨g,tg,fo⟩) (s:=⟨a0,a1,a2,a3,a4,gr,bl,b0,b1,b2,b3,b4,b5,true,b7⟩) n9)
           clear n9
           go_wp2
           go_quiet ((go_at_call 78;first | exact Zc (Ze _ _ _ _ (by assumption)) | exact Zc (Zd _ _ _ _ (by assumption))))
           go_wp2
           go_ret
           exact ⟨dG (by rw [HT.out,HN.out];rfl),below_drewN (below_drewN hbw _) _⟩
         · have N9:=hide n9
           clear n9
           go_wp2
           go_quiet ((go_at_call 78;first | exact Zc (Ze _ _ _ _ (by assumption)) | exact Zc (Zd _ _ _ _ (by assumption))))
           go_wp2
           go_roundw
           case rel=>exact ⟨0+1,_,by omega,by go_num,fun _=>N9.out,by omega,rfl⟩
           case measure=>simp [intOf]
         · have N9:=hide n9
           clear n9
           go_wp2
           go_quiet ((go_at_call 78;first | exact Zc (Ze _ _ _ _ (by assumption)) | exact Zc (Zd _ _ _ _ (by assumption))))
           go_wp2
           go_roundw
           case rel=>exact ⟨0+1,_,by omega,by go_num,fun _=>N9.out,by omega,rfl⟩
           case measure=>simp [intOf]
       · rcases Zv g tg fo true b1 b3 with ⟨n1,n9⟩ | ⟨n1,n2,n9⟩ | ⟨n1,n2,n3,n9⟩ | ⟨n1,n2,n3,n4,n9⟩ | ⟨n1,n2,n3,n4,n5,n9⟩ | ⟨n1,n2,n3,n4,n5,n9⟩
         · have HN:=hide (Zh (r:=⟨g,tg,fo⟩) (s:=⟨a0,a1,a2,a3,a4,gr,bl,b0,b1,b2,b3,b4,b5,true,b7⟩) n9)
           clear n9
           go_wp2
           go_quiet ((go_at_call 78;first | exact Zc (Ze _ _ _ _ (by assumption)) | exact Zc (Zd _ _ _ _ (by assumption))))
           go_wp2
           go_ret
           exact ⟨dG (by rw [HT.out,HN.out];rfl),below_drewN (below_drewN hbw _) _⟩
         · have HN:=hide (Zh (r:=⟨g,tg,fo⟩) (s:=⟨a0,a1,a2,a3,a4,gr,bl,b0,b1,b2,b3,b4,b5,true,b7⟩) n9)
           clear n9
           go_wp2
           go_quiet ((go_at_call 78;first | exact Zc (Ze _ _ _ _ (by assumption)) | exact Zc (Zd _ _ _ _ (by assumption))))
           go_wp2
           go_ret
           exact ⟨dG (by rw [HT.out,HN.out];rfl),below_drewN (below_drewN hbw _) _⟩
         · have N9:=hide n9
           clear n9
           go_wp2
           go_quiet ((go_at_call 78;first | exact Zc (Ze _ _ _ _ (by assumption)) | exact Zc (Zd _ _ _ _ (by assumption))))
           go_wp2
           go_roundw
           case rel=>exact ⟨1+1,_,by omega,by go_num,fun _=>hn0 (by omega),fun _=>N9.out,rfl⟩
           case measure=>simp [intOf]
         · have HN:=hide (Zh (r:=⟨g,tg,fo⟩) (s:=⟨a0,a1,a2,a3,a4,gr,bl,b0,b1,b2,b3,b4,b5,true,b7⟩) n9)
           clear n9
           go_wp2
           go_quiet ((go_at_call 78;first | exact Zc (Ze _ _ _ _ (by assumption)) | exact Zc (Zd _ _ _ _ (by assumption))))
           go_wp2
           go_ret
           exact ⟨dG (by rw [HT.out,HN.out];rfl),below_drewN (below_drewN hbw _) _⟩
         · have N9:=hide n9
           clear n9
           go_wp2
           go_quiet ((go_at_call 78;first | exact Zc (Ze _ _ _ _ (by assumption)) | exact Zc (Zd _ _ _ _ (by assumption))))
           go_wp2
           go_roundw
           case rel=>exact ⟨1+1,_,by omega,by go_num,fun _=>hn0 (by omega),fun _=>N9.out,rfl⟩
           case measure=>simp [intOf]
         · have N9:=hide n9
           clear n9
           go_wp2
           go_quiet ((go_at_call 78;first | exact Zc (Ze _ _ _ _ (by assumption)) | exact Zc (Zd _ _ _ _ (by assumption))))
           go_wp2
           go_roundw
           case rel=>exact ⟨1+1,_,by omega,by go_num,fun _=>hn0 (by omega),fun _=>N9.out,rfl⟩
           case measure=>simp [intOf]
       · have HN:=hide (Zy (r:=⟨g,tg,fo⟩) (s:=⟨a0,a1,a2,a3,a4,gr,bl,b0,b1,b2,b3,b4,b5,true,b7⟩) (hn0 (by omega)) (hn1 (by omega)))
         clear hn0 hn1
         by_cases q1:M.out b4 0 99999=true∨M.out b5 1 1000=true
         · have HU:=hide (HT.out.trans (if_pos (by rw [HN.out,if_pos q1];simp)))
           clear HT HN
           go_wp2_with (go_at_call 78;refine (sF _ _ _ _).mono ?_;rintro e w9 ⟨rfl,rfl⟩)
           all_goals first | (exfalso;simp_all;done) | skip
           all_goals
            go_ret
            exact ⟨dG HU.out.symm,below_drewN hbw _⟩
         · have HU:=hide (HT.out.trans (if_neg (by rw [HN.out,if_neg q1];simp)))
           rw [not_or] at q1
           have q2:M.out b4 0 99999=false:=by simpa using q1.1
           have q3:M.out b5 1 1000=false:=by simpa using q1.2
           clear HT HN q1
           go_wp2_with (first | (go_at_call 78;refine (sF _ _ _ _).mono ?_;rintro e w9 ⟨rfl,rfl⟩) | (go_at_call 54;refine (ZF _ _ _ _ _ _ (hpr.drewN m)).mono ?_;rintro e w9 ⟨rfl,rfl⟩))
           all_goals
            go_ret
            refine ⟨dG ?_,below_drewN hbw _⟩
            rw [HU.out]
            first | (simp [M.xU,M.ET,M.missing, *];done) | (simp_all [M.xU,M.ET,M.missing,Zz,ZJ];done)
end Go.Proofs.YtelpepbpdojikaaGreatDoor
