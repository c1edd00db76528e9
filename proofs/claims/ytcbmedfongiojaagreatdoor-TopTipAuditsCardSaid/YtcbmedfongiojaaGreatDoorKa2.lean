/- Parts of a proof. -/
import Derived.Test.YtcbmedfongiojaaGreatDoorKa1
import Derived.Test.YtcbmedfongiojaaGreatDoorKt21
set_option maxHeartbeats 1600000
set_option maxRecDepth 100000
set_option linter.unusedVariables false
set_option linter.unusedSimpArgs false
namespace Go.Proofs.YtcbmedfongiojaaGreatDoor
open Go.RowKit
section
variable {w w':World} {S S':Nat→Prop} {A:Option Addr} {c:Nat} {l:List ByteArray}
end
def bare (l:List En):List Sk.Entry:=l.map (·.x)
theorem abB (l:List En):(bare l).length=l.length:=by simp [bare]
section
variable {w w':World} {S S':Nat→Prop} {A:Option Addr} {c:Nat} {l:List En} {e:En}
end
theorem aAx {p:World→Prop} {W:World} (h:∀ W',W'=W→p W'):p W:=h W rfl
theorem ajI (g:Sk.Game) (l:List En) {k:Nat} (hk:k<l.length):Sk.abL g (bare (l.drop k))=if Sk.jc g l[k].x≠0 then Sk.jc g l[k].x else Sk.abL g (bare (l.drop (k+1))):=by
 rw [List.drop_eq_getElem_cons hk,bare,List.map_cons,Sk.abL]
 rfl
def zeroE:List Value:=[.string ⟨#[]⟩,.string ⟨#[]⟩,.slice none 0 0,.slice none 0 0,.int .i64 0]
theorem avM (e:En):∀ v∈fC e,v.oneCell'=true:=by simp [fC,Value.oneCell']
theorem ayQ {ops:Array Oper} {rest:List Oper} {op:Oper} {a:Act} {W:World} {Q:Exit→Act→World→Prop} {g o:Nat} {cs:List Value} {t:TypeId} {d:TypeDesc} (h:W.rangeAt g o cs) (hu:Tryz.prog.underlying t=some d) (hd:d.isRow=true) (hi:(Tryz.prog.info? t).map (·.size)=some cs.length) (hgd:op.guard=none) (x:Operand) (ho:op.op= .load t x) (hx:a.eval x= .pointer (some ⟨g,o,none⟩))
 (k:wpList Tryz.prog ops Q rest (a.put op.dst (.agg cs.toArray)) W):oz Tryz.prog ops Q op rest a W:=
 wpList_load_mid hgd t x ho g o hx cs d h hu hd hi k
theorem ajZ (S:Nat→Prop) (g:Sk.Game) (l:List En) (A:Option Addr) (c:Nat) (w:World) (hl:wF w S A c l):Calls Tryz.prog 33 #[rF g,.slice A l.length c] w fun e_ w'=>e_= .returned (.int .i64 (Sk.aaT g (bare l)))∧Below w.heap.size w w':=by
 obtain ⟨b1,b2,b3⟩:=hl.bd
 go_enter Tryz.func33,Tryz.ntmps33
 go_upto_region 0 with (fail)
 go_cut [2,4] (fun v2 v4 wx=>v2=ptr w.heap.size∧v4= .int .i64 0∧aC w wx [(dN g,23)])
 case first=>
  go_wp2;go_meet;exact ⟨rfl,rfl,((aC.nil w).new (by simp) (dN g) _)⟩
 case rest=>
  obtain ⟨rfl,rfl,hB⟩:=hcut;have hB0:=hB
  go_upto_region 1 with (fail)
  go_cut [5] (fun v wx=>v= .int .i64 (fst [Sk.eU g,jA (decide (1000<(l.length:Int))) 5])∧aC w wx [(dN g,23)])
  case first=>
   go_wp2_with (first | ((with_reducible refine dh 23 2 ?_);refine dO (hB.aj rfl) Tryz.underlying23 fG ?_) | (go_at_call 36;refine (zC g _).mono ?_;rintro e1 w1 ⟨rfl,hb1⟩;have hB:=hB.call (by simp) hb1) | (go_at_call 25;refine (dJ _ _ _).mono ?_;rintro e oh ⟨rfl,rfl⟩) | (go_at_call 23;refine (iO (fun _=>True) _ _ [Sk.eU g,jA (decide (1000<(l.length:Int))) 5] _ (kX.row _ _ [Sk.eU g,jA (decide (1000<(l.length:Int))) 5] (by simp) _ trivial)).mono ?_;rintro e oh ⟨rfl,rfl⟩))
   go_meet;exact ⟨rfl,hB.alloc (by simp) _⟩
  case rest=>
   obtain ⟨rfl,hB⟩:=hcut
   by_cases hz:Sk.eU g=0
   · by_cases hn:1000<l.length
     · have he5:fst [Sk.eU g,jA (decide (1000<(l.length:Int))) 5]=5:=by rw [hz,decide_eq_true (by omega)];rfl
       have uP:=hide (show Sk.aaT g (bare l)=5 by unfold Sk.aaT;rw [if_neg (by simpa using hz),if_pos (by rw [abB];exact hn)]);rw [he5];clear he5 hz hn;go_wp2;go_ret;exact ⟨bG uP.out.symm,hB.bw⟩
     · have he5:fst [Sk.eU g,jA (decide (1000<(l.length:Int))) 5]=0:=by rw [hz,decide_eq_false (by omega)];rfl
       have uP:=hide (show Sk.aaT g (bare l)=Sk.abL g (bare l) by unfold Sk.aaT;rw [if_neg (by simpa using hz),if_neg (by rw [abB];exact hn)]);rw [he5];clear he5 hz;have jP:=hB;go_wp2
       go_loopw [7,8,22] (fun _ _ i wr=>∃ k:Nat,k≤l.length∧i= .int .i64 k∧Aside (Sk.abL g (bare l)=Sk.abL g (bare (l.drop k)))∧aC w wr [(dN g,23)]∧Below wc.heap.size wc wr) (fun _ _ i _=>l.length - (intOf i).toNat)
       case atStart=>exact ⟨0,Nat.zero_le _,rfl,by simp [Aside],hB,Below.refl _ _⟩
       case round=>
        obtain ⟨k,hk,rfl,hx,hB,hbw⟩:=hrel
        by_cases hlt:k<l.length
        · obtain ⟨b,o,rfl,_,hbl,hc⟩:=hl.at_ k hlt
          have hrg:=Oc hl hlt hB.bw rfl;have heg:=(hl.ent k hlt);have hst:=ajI g l hlt;obtain ⟨ek,hek⟩:∃ e,l[k]=e:=⟨_,rfl⟩;rw [hek] at hrg heg hst;have hZ:=Held.new wr zeroE 41;have hE:=hZ.whole (fC ek) rfl;have hBE:aC w ((wr.alloc (.cells zeroE.toArray 41)).setCells wr.heap.size 0 (fC ek)) [(dN g,23)]:=(hB.alloc (by simp) _).fK (by have:=hB.size (by simp);simpa using this) _ _;have axB:Below wc.heap.size wc ((wr.alloc (.cells zeroE.toArray 41)).setCells wr.heap.size 0 (fC ek)):=below_setCells _ hbw.size _ _ _ _ (hbw.alloc hbw.size _);have hx2:=hx.out;rw [hst] at hx2;clear hc hst hek hx
          by_cases hz2:Sk.jc g ek.x=0
          · have hz':(Sk.jc g ek.x != 0)=false:=by simp [hz2]
            rw [if_neg (by simpa using hz2)] at hx2;have HX:=hide hx2;clear hx2 hz2
            go_wp2_with (first | ((with_reducible (refine dA 41 (.tmp 24) ?lx ?_));(case lx=>rfl);refine ayQ hrg Tryz.underlying41 rfl bY rfl (.tmp 24) rfl rfl ?_) | ((with_reducible refine isS 41 7 25 ?_);refine iZ (hZ) (fC ek) bY (avM _) ?_) | ((with_reducible refine dh 23 2 ?_);refine dO (hBE.aj rfl) Tryz.underlying23 fG ?_) | ((with_reducible refine dh 41 7 ?_);refine dO (hE) Tryz.underlying41 bY ?_) | (go_at_call 69;refine (GI S g ek _ (heg.below hBE.bw)).mono ?_;rintro e1 w1 ⟨rfl,hb1⟩;have hB2:=hBE.call (by simp) hb1;have hbw2:=axB.trans (hb1.mono axB.size)))
            go_roundw
            case rel=>exact ⟨k+1,by omega,by go_num,HX.out,hB2,hbw2⟩
            case measure=>simp [intOf];omega
          · have hz':(Sk.jc g ek.x != 0)=true:=by simp [hz2]
            rw [if_pos hz2] at hx2;have HX:=hide hx2;clear hx2 hz2
            go_wp2_with (first | ((with_reducible (refine dA 41 (.tmp 24) ?lx ?_));(case lx=>rfl);refine ayQ hrg Tryz.underlying41 rfl bY rfl (.tmp 24) rfl rfl ?_) | ((with_reducible refine isS 41 7 25 ?_);refine iZ (hZ) (fC ek) bY (avM _) ?_) | ((with_reducible refine dh 23 2 ?_);refine dO (hBE.aj rfl) Tryz.underlying23 fG ?_) | ((with_reducible refine dh 41 7 ?_);refine dO (hE) Tryz.underlying41 bY ?_) | (go_at_call 69;refine (GI S g ek _ (heg.below hBE.bw)).mono ?_;rintro e1 w1 ⟨rfl,hb1⟩;have hB2:=hBE.call (by simp) hb1;have hbw2:=axB.trans (hb1.mono axB.size)))
            go_ret;exact ⟨bG (by rw [uP.out,HX.out]),hB2.bw⟩
        · have hz2:Sk.abL g (bare l)=0:=by rw [hx.out,List.drop_of_length_le (by omega)];rfl
          have HX:=hide hz2;clear hx hz2;go_wp2;go_ret;exact ⟨bG (by rw [uP.out,HX.out]),hB.bw⟩
   · have he5:fst [Sk.eU g,jA (decide (1000<(l.length:Int))) 5]=Sk.eU g:=by unfold fst;rw [if_pos hz]
     have hz':(Sk.eU g != 0)=true:=by simp [hz]
     have uP:=hide (show Sk.aaT g (bare l)=Sk.eU g by unfold Sk.aaT;rw [if_pos hz]);rw [he5];clear he5 hz;go_wp2;go_ret;exact ⟨bG uP.out.symm,hB.bw⟩
end Go.Proofs.YtcbmedfongiojaaGreatDoor
