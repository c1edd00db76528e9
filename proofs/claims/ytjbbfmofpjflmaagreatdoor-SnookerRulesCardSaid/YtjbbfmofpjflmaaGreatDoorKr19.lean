/- Parts of a proof. -/
import Derived.Deep.CutBlock
import Derived.Test.YtjbbfmofpjflmaaGreatDoorKr18
set_option maxHeartbeats 8000000
set_option maxRecDepth 100000
set_option linter.unusedVariables false
set_option linter.unusedSimpArgs false
namespace Go.Proofs.YtjbbfmofpjflmaaGreatDoor
open Go.RowKit
theorem fE:(Tryz.prog.info? 85).map (·.size)=some 5:=by kernel_rfl
theorem NQ {l:List ByteArray} {x:ByteArray} {k:Nat} (hk:k<l.length):Sk.has (l.drop k) x=(decide (l[k]=x) || Sk.has (l.drop (k+1)) x):=by
 rw [List.drop_eq_getElem_cons hk,Sk.has,List.any_cons]
 rfl
theorem Hl (g:Sk.Game) {l:List ByteArray} {k:Nat} (hk:k<l.length):Sk.fA g (l.drop k)=(!(decide (Sk.value l[k]<0) || (!(g.kind.toList == [115,110,111,111,107,101,114]) && decide (2<Sk.value l[k]))) && Sk.fA g (l.drop (k+1))):=by
 rw [List.drop_eq_getElem_cons hk,Sk.fA,List.all_cons,fB]
 unfold Sk.fA
 congr 1
 rw [Bool.eq_iff_iff]
 simp only [decide_eq_true_eq,Bool.not_eq_true',Bool.or_eq_false_iff,Bool.and_eq_false_iff,decide_eq_false_iff_not,Bool.not_eq_false',not_or,not_and]
 constructor
 · rintro ⟨h1,h2⟩
   refine ⟨h1,?_⟩
   by_cases h3:g.kind=Sk.aK
   · exact .inl h3
   · exact .inr (h2 h3)
 · rintro ⟨h1,h2⟩
   refine ⟨h1,fun h3=>?_⟩
   rcases h2 with h2 | h2
   · exact absurd h2 h3
   · exact h2
theorem gZ (S:Nat→Prop) (A:Option Addr) (c:Nat) (l:List ByteArray) (x:ByteArray) (w:World) (h:lQ w S A c l):
 Calls Tryz.prog 129 #[.slice A l.length c,.string x] w fun e w'=>e= .returned (.bool (Sk.has l x))∧w=w':=by
 obtain ⟨b1,b2,b3⟩:=h.bd
 go_enter Tryz.func129,Tryz.ntmps129
 go_wp2
 go_loop [5] (fun i=>∃ k:Nat,k≤l.length∧i= .int .i64 k∧Aside (Sk.has l x=Sk.has (l.drop k) x)) (fun i=>l.length - (intOf i).toNat)
 case atStart=>exact ⟨0,Nat.zero_le _,rfl,by simp [Aside]⟩
 case round=>
  obtain ⟨k,hk,rfl,hall⟩:=hrel
  by_cases hlt:k<l.length
  · obtain ⟨b,o,rfl,_,hbl,hc⟩:=h.at_ k hlt
    have hck:=hc k hlt;clear hc;have hx:=hall.out;rw [NQ hlt] at hx
    by_cases he:l[k]=x
    · rw [decide_eq_true he,Bool.true_or] at hx
      have HP:=hide hx;have he':(l[k].toList == x.toList)=true:=ku he;clear he hx hall;go_wp2;go_ret;exact ⟨aH HP.out.symm,rfl⟩
    · rw [decide_eq_false he,Bool.false_or] at hx
      have HP:=hide hx;have he':(l[k].toList == x.toList)=false:=jM he;clear he hx hall;go_wp2
      go_round
      case rel=>exact ⟨k+1,by omega,by go_num,HP.out⟩
      case measure=>simp [intOf];omega
  · have HA:=hide (show Sk.has l x=false by rw [hall.out,List.drop_of_length_le (by omega)];rfl)
    go_wp2;go_ret;exact ⟨aH HA.out.symm,rfl⟩
theorem eH (S:Nat→Prop) (g:Sk.Game) (A:Option Addr) (c:Nat) (l:List ByteArray) (w:World) (h:lQ w S A c l):
 Calls Tryz.prog 128 #[lX g,.slice A l.length c] w fun e w'=>e= .returned (.bool (Sk.fA g l))∧Below w.heap.size w w':=by
 obtain ⟨b1,b2,b3⟩:=h.bd
 go_enter Tryz.func128,Tryz.ntmps128
 go_upto_region 0 with (fail)
 go_cut [2,4] (fun v2 v4 wx=>v2=ptr (w.heap.size)∧v4= .bool false∧Bx w wx [(w.heap.size,bK g,28)])
 case first=>
  go_wp2;go_meet;exact ⟨rfl,rfl,Bx.of ((aG.nil w).new (by simp) (bK g) 28) _ rfl⟩
 case rest=>
  obtain ⟨rfl,rfl,hL⟩:=hcut
  go_upto_region 1 with (fail)
  go_wp2
  go_loopw [5,6] (fun i _ wr=>∃ k:Nat,k≤l.length∧i= .int .i64 k∧Aside (Sk.fA g l=Sk.fA g (l.drop k))∧Bx w wr [(w.heap.size,bK g,28)]) (fun i _ _=>l.length - (intOf i).toNat)
  case atStart=>exact ⟨0,Nat.zero_le _,rfl,by simp [Aside],hL⟩
  case round=>
   obtain ⟨k,hk,rfl,hall,hL⟩:=hrel
   by_cases hlt:k<l.length
   · obtain ⟨b,o,rfl,_,hbl,hc⟩:=(h.below hL.bw).at_ k hlt
     have hck:=hc k hlt;clear hc;have hx:=hall.out;rw [Hl g hlt] at hx;have HX:=hide hx;clear hx hall
     go_upto_region 5 with ((go_at_call 55;refine (fV _ _).mono ?_;rintro e w4 ⟨rfl,hb4⟩;have hL:=hL.call hb4))
     obtain ⟨z,hz⟩:∃ q,Sk.value l[k]=q:=⟨_,rfl⟩;rw [hz] at HX;rw [hz];clear hz hck;have kg:=(hL.get 0 rfl).cell (j:=0) rfl
     rcases ha0:(decide (z<0)) with _ | _
     · rcases ha1:((g.kind.toList == [115,110,111,111,107,101,114])) with _ | _
       · rcases ha2:(decide (2<z)) with _ | _
         · have HR:=hide (show Sk.fA g l=Sk.fA g (l.drop (k+1)) by rw [HX.out];simp [ha0,ha1,ha2])
           clear HX;go_wp2
           go_roundw
           case rel=>exact ⟨k+1,by omega,by go_num,HR.out,hL⟩
           case measure=>simp [intOf];omega
         · have HR:=hide (show Sk.fA g l=false by rw [HX.out];simp [ha0,ha1,ha2])
           clear HX;go_wp2;go_ret;exact ⟨aH HR.out.symm,hL.bw⟩
       · have HR:=hide (show Sk.fA g l=Sk.fA g (l.drop (k+1)) by rw [HX.out];simp [ha0,ha1])
         clear HX;go_wp2
         go_roundw
         case rel=>exact ⟨k+1,by omega,by go_num,HR.out,hL⟩
         case measure=>simp [intOf];omega
     · have HR:=hide (show Sk.fA g l=false by rw [HX.out];simp [ha0])
       clear HX;go_wp2;go_ret;exact ⟨aH HR.out.symm,hL.bw⟩
   · have HA:=hide (show Sk.fA g l=true by rw [hall.out,List.drop_of_length_le (by omega)];rfl)
     go_wp2;go_ret;exact ⟨aH HA.out.symm,hL.bw⟩
theorem ng {b c:Prop} [Decidable b] [Decidable c] {x y u v:Int} (h:b↔c) (h1:x=u) (h2:y=v):ite b x y=ite c u v:=by
 subst h1 h2
 by_cases hb:b
 · rw [if_pos hb,if_pos (h.1 hb)]
 · rw [if_neg hb,if_neg (fun q=>hb (h.2 q))]
theorem YS (g:Sk.Game) (h0:Sk.dM g=0) (e:Sk.Entry):Sk.dH g e=if (e.kind.toList == [97,103,97,105,110]) || (e.kind.toList == [102,114,101,101]) || (e.kind.toList == [99,111,110,99,101,100,101]) then (if !e.called.toList.isEmpty || decide (0<(e.hits.length:Int)+(e.aF.length:Int)) || (e.aX != 0) then 1 else 0)
 else if !(e.kind.toList == [115,104,111,116]) then 13
 else if decide (22<(e.hits.length:Int)) || decide (22<(e.aF.length:Int)) then 5
 else if (!e.called.toList.isEmpty && decide (Sk.value e.called<2)) || !Sk.fA g e.hits || !Sk.fA g e.aF || ((g.kind.toList == [115,110,111,111,107,101,114]) && Sk.has e.hits Sk.bf) then 10
 else if Sk.out e.aX 0 99 then 3
 else if (!e.called.toList.isEmpty && !(g.kind.toList == [115,110,111,111,107,101,114])) || (decide (0<(e.aF.length:Int)) && (g.kind.toList == [99,97,114,111,109])) || (decide (0<e.aX) && !(g.kind.toList == [99,97,114,111,109])) then 1 else 0:=by
 rw [← Sk.VA g h0 e]
 have hc:e.called.toList.isEmpty=decide (e.called=Sk.bU):=by
  by_cases h:e.called=Sk.bU
  · rw [ZM h,decide_eq_true h]
  · rw [ZL h,decide_eq_false h]
 have a1:((0:Int)<(e.hits.length:Int)+(e.aF.length:Int))↔0<e.hits.length+e.aF.length:=by omega
 have a2:((22:Int)<(e.hits.length:Int))↔22<e.hits.length:=by omega
 have a3:((22:Int)<(e.aF.length:Int))↔22<e.aF.length:=by omega
 have a4:((0:Int)<(e.aF.length:Int))↔0<e.aF.length:=by omega
 have hn:(!decide (e.called=Sk.bU))=true↔e.called≠Sk.bU:=by simp
 have hs:(!decide (g.kind=Sk.aK))=true↔g.kind≠Sk.aK:=by simp
 have hm:(!decide (g.kind=Sk.fC))=true↔g.kind≠Sk.fC:=by simp
 have nt:∀ b:Bool,(!b)=true↔b=false:=fun b=>by cases b <;> simp
 rw [hc,fB,fB,fB,fB,fB,fB]
 unfold Sk.JQ
 refine (ng ?_ (ng ?_ rfl rfl) (ng ?_ rfl (ng ?_ rfl (ng ?_ rfl (ng Iff.rfl rfl (ng ?_ rfl rfl)))))).symm
 · rw [Bool.or_eq_true,Bool.or_eq_true,decide_eq_true_eq,decide_eq_true_eq,decide_eq_true_eq,or_assoc]
 · rw [Bool.or_eq_true,Bool.or_eq_true,hn,decide_eq_true_eq,a1,bne_iff_ne,or_assoc]
 · rw [nt,decide_eq_false_iff_not]
 · rw [Bool.or_eq_true,decide_eq_true_eq,decide_eq_true_eq,a2,a3]
 · rw [Bool.or_eq_true,Bool.or_eq_true,Bool.or_eq_true,Bool.and_eq_true,Bool.and_eq_true,hn,nt,nt,decide_eq_true_eq,decide_eq_true_eq,or_assoc,or_assoc]
 · rw [Bool.or_eq_true,Bool.or_eq_true,Bool.and_eq_true,Bool.and_eq_true,Bool.and_eq_true,hn,decide_eq_true_eq,decide_eq_true_eq,a4,decide_eq_true_eq,or_assoc]
   exact or_congr (and_congr Iff.rfl hs) (or_congr Iff.rfl (and_congr Iff.rfl hm))
theorem JU (S:Nat→Prop) (g:Sk.Game) (h0:Sk.dM g=0) (e:En) (w:World) (he:iL w S e):Calls Tryz.prog 73 #[lX g,rU e] w fun e_ w'=>e_= .returned (.int .i64 (Sk.dH g e.x))∧Below w.heap.size w w':=by
 have HF:=hide (YS g h0 e.x);clear h0;obtain ⟨b1,b2,b3⟩:=he.hits.bd;obtain ⟨b4,b5,b6⟩:=he.aF.bd;have tk1:=hide True.intro
 go_enter Tryz.func73,Tryz.ntmps73
 go_upto_region 0 with (fail)
 go_cut [2,3,4] (fun v2 v3 v4 wx=>v2=ptr (w.heap.size)∧v3=ptr (w.heap.size+1)∧v4= .int .i64 0∧Bx w wx [(w.heap.size,bK g,28),(w.heap.size+1,dn e,85)])
 case first=>
  go_wp2;go_meet;exact ⟨rfl,rfl,rfl,Bx.of (((aG.nil w).new (by simp) (bK g) 28).new (by simp) (dn e) 85) _ rfl⟩
 case rest=>
  obtain ⟨rfl,rfl,rfl,hL⟩:=hcut;have kq0:=(hL.get 1 rfl).cell (j:=0) rfl
  go_upto_block 0 with (fail)
  go_cut [] from 5 to 31 (fun wx=>(((e.x.kind.toList == [97,103,97,105,110]) || (e.x.kind.toList == [102,114,101,101]) || (e.x.kind.toList == [99,111,110,99,101,100,101]))=false∧(e.x.kind.toList == [115,104,111,116])=true)∧Bx w wx [(w.heap.size,bK g,28),(w.heap.size+1,dn e,85)])
  case first=>
   have hw1:IntKind.i64.wrap ((e.x.hits.length:Int)+(e.x.aF.length:Int))=(e.x.hits.length:Int)+(e.x.aF.length:Int):=by rw [IntKind.wrap_i64];omega
   have ax5:=(hL.get 1 rfl).cell (j:=1) rfl;have ayc:=(hL.get 1 rfl).cell (j:=2) rfl;have ayj:=(hL.get 1 rfl).cell (j:=3) rfl;have ayq:=(hL.get 1 rfl).cell (j:=4) rfl
   rcases hp0:((e.x.kind.toList == [97,103,97,105,110])) with _ | _
   · rcases hp1:((e.x.kind.toList == [102,114,101,101])) with _ | _
     · rcases hp2:((e.x.kind.toList == [99,111,110,99,101,100,101])) with _ | _
       · rcases hp3:((e.x.kind.toList == [115,104,111,116])) with _ | _
         · have HR:=hide (show (13:Int)=Sk.dH g e.x by rw [HF.out];simp [hp0,hp1,hp2,hp3])
           go_wp2;go_ret;exact ⟨aV HR.out,hL.bw⟩
         · go_wp2
           go_meet;exact ⟨by simp [hp0,hp1,hp2,hp3],hL⟩
       · rcases hp3:(e.x.called.toList.isEmpty) with _ | _
         · have HR:=hide (show (1:Int)=Sk.dH g e.x by rw [HF.out];simp [hp0,hp1,hp2,hp3])
           go_wp2;go_ret;exact ⟨aV HR.out,hL.bw⟩
         · rcases Zp:(decide (0<(e.x.hits.length:Int)+(e.x.aF.length:Int))) with _ | _
           · rcases hp5:(e.x.aX != 0) with _ | _
             · have HR:=hide (show (0:Int)=Sk.dH g e.x by rw [HF.out];simp [hp0,hp1,hp2,hp3,Zp,hp5])
               go_wp2;go_ret;exact ⟨aV HR.out,hL.bw⟩
             · have HR:=hide (show (1:Int)=Sk.dH g e.x by rw [HF.out];simp [hp0,hp1,hp2,hp3,Zp,hp5])
               go_wp2;go_ret;exact ⟨aV HR.out,hL.bw⟩
           · have HR:=hide (show (1:Int)=Sk.dH g e.x by rw [HF.out];simp [hp0,hp1,hp2,hp3,Zp])
             go_wp2;go_ret;exact ⟨aV HR.out,hL.bw⟩
     · rcases hp2:(e.x.called.toList.isEmpty) with _ | _
       · have HR:=hide (show (1:Int)=Sk.dH g e.x by rw [HF.out];simp [hp0,hp1,hp2])
         go_wp2;go_ret;exact ⟨aV HR.out,hL.bw⟩
       · rcases hp3:(decide (0<(e.x.hits.length:Int)+(e.x.aF.length:Int))) with _ | _
         · rcases Zp:(e.x.aX != 0) with _ | _
           · have HR:=hide (show (0:Int)=Sk.dH g e.x by rw [HF.out];simp [hp0,hp1,hp2,hp3,Zp])
             go_wp2;go_ret;exact ⟨aV HR.out,hL.bw⟩
           · have HR:=hide (show (1:Int)=Sk.dH g e.x by rw [HF.out];simp [hp0,hp1,hp2,hp3,Zp])
             go_wp2;go_ret;exact ⟨aV HR.out,hL.bw⟩
         · have HR:=hide (show (1:Int)=Sk.dH g e.x by rw [HF.out];simp [hp0,hp1,hp2,hp3])
           go_wp2;go_ret;exact ⟨aV HR.out,hL.bw⟩
   · rcases hp1:(e.x.called.toList.isEmpty) with _ | _
     · have HR:=hide (show (1:Int)=Sk.dH g e.x by rw [HF.out];simp [hp0,hp1])
       go_wp2;go_ret;exact ⟨aV HR.out,hL.bw⟩
     · rcases hp2:(decide (0<(e.x.hits.length:Int)+(e.x.aF.length:Int))) with _ | _
       · rcases hp3:(e.x.aX != 0) with _ | _
         · have HR:=hide (show (0:Int)=Sk.dH g e.x by rw [HF.out];simp [hp0,hp1,hp2,hp3])
           go_wp2;go_ret;exact ⟨aV HR.out,hL.bw⟩
         · have HR:=hide (show (1:Int)=Sk.dH g e.x by rw [HF.out];simp [hp0,hp1,hp2,hp3])
           go_wp2;go_ret;exact ⟨aV HR.out,hL.bw⟩
       · have HR:=hide (show (1:Int)=Sk.dH g e.x by rw [HF.out];simp [hp0,hp1,hp2])
         go_wp2;go_ret;exact ⟨aV HR.out,hL.bw⟩
  case rest=>
   obtain ⟨⟨hk1,hk2⟩,hL⟩:=hcut;have HF1:=hide (show Sk.dH g e.x=if decide (22<(e.x.hits.length:Int)) || decide (22<(e.x.aF.length:Int)) then 5 else if (!e.x.called.toList.isEmpty && decide (Sk.value e.x.called<2)) || !Sk.fA g e.x.hits || !Sk.fA g e.x.aF || ((g.kind.toList == [115,110,111,111,107,101,114]) && Sk.has e.x.hits Sk.bf) then 10 else if Sk.out e.x.aX 0 99 then 3 else if (!e.x.called.toList.isEmpty && !(g.kind.toList == [115,110,111,111,107,101,114])) || (decide (0<(e.x.aF.length:Int)) && (g.kind.toList == [99,97,114,111,109])) || (decide (0<e.x.aX) && !(g.kind.toList == [99,97,114,111,109])) then 1 else 0 by rw [HF.out,hk1,hk2];rfl);clear HF hk1 hk2;have Vr:=(hL.get 1 rfl).cell (j:=1) rfl;have Zv:=(hL.get 1 rfl).cell (j:=2) rfl;have Ym:=(hL.get 1 rfl).cell (j:=3) rfl
   go_upto_region 10 with (fail)
   go_cut [40] from 31 to 41 (fun v40 wx=>v40= .bool (decide (22<(e.x.hits.length:Int)) || decide (22<(e.x.aF.length:Int)))∧Bx w wx [(w.heap.size,bK g,28),(w.heap.size+1,dn e,85)])
   case first=>
    rcases ha0:(decide (22<(e.x.hits.length:Int))) with _ | _
    · rcases ha1:(decide (22<(e.x.aF.length:Int))) with _ | _
      · go_wp2
        go_meet;exact ⟨congrArg Value.bool (by simp only [ha0,ha1,Bool.or_true,Bool.true_or,Bool.or_false]),hL⟩
      · go_wp2
        go_meet;exact ⟨congrArg Value.bool (by simp only [ha0,ha1,Bool.or_true,Bool.true_or,Bool.or_false]),hL⟩
    · go_wp2
      go_meet;exact ⟨congrArg Value.bool (by simp only [ha0,Bool.or_true,Bool.true_or,Bool.or_false]),hL⟩
   case rest=>
    obtain ⟨rfl,hL⟩:=hcut
    rcases hA:(decide (22<(e.x.hits.length:Int)) || decide (22<(e.x.aF.length:Int))) with _ | _
    rotate_left
    · have HR:=hide (show (5:Int)=Sk.dH g e.x by rw [HF1.out,hA];rfl)
      clear hA;go_wp2;go_ret;exact ⟨aV HR.out,hL.bw⟩
    have HF2:=hide (show Sk.dH g e.x=if (!e.x.called.toList.isEmpty && decide (Sk.value e.x.called<2)) || !Sk.fA g e.x.hits || !Sk.fA g e.x.aF || ((g.kind.toList == [115,110,111,111,107,101,114]) && Sk.has e.x.hits Sk.bf) then 10 else if Sk.out e.x.aX 0 99 then 3 else if (!e.x.called.toList.isEmpty && !(g.kind.toList == [115,110,111,111,107,101,114])) || (decide (0<(e.x.aF.length:Int)) && (g.kind.toList == [99,97,114,111,109])) || (decide (0<e.x.aX) && !(g.kind.toList == [99,97,114,111,109])) then 1 else 0 by rw [HF1.out,hA];rfl);clear hA HF1 Vr Zv Ym
    go_upto_region 12 with (fail)
    go_cut [73] from 41 to 74 (fun v73 wx=>v73= .bool ((!e.x.called.toList.isEmpty && decide (Sk.value e.x.called<2)) || !Sk.fA g e.x.hits || !Sk.fA g e.x.aF || ((g.kind.toList == [115,110,111,111,107,101,114]) && Sk.has e.x.hits Sk.bf))∧Bx w wx [(w.heap.size,bK g,28),(w.heap.size+1,dn e,85)])
    case first=>
     have Vr:=(hL.get 1 rfl).cell (j:=1) rfl;have Zv:=(hL.get 1 rfl).cell (j:=2) rfl;have Ym:=(hL.get 1 rfl).cell (j:=3) rfl;have kxg:=(hL.get 0 rfl).cell (j:=0) rfl
     rcases ha0:(e.x.called.toList.isEmpty) with _ | _
     · rcases ha1:(decide (Sk.value e.x.called<2)) with _ | _
       · rcases ha2:(Sk.fA g e.x.hits) with _ | _
         · go_wp2_with (first | ((with_reducible refine bJ 28 2 ?_);refine ig (hL.rn 0 0 (bK g)) Tryz.underlying28 dP ?_) | ((with_reducible refine iy 28 2 ?_);refine kP (hL.rn 0 0 (bK g)) Tryz.underlying28 dP ?_) | fail | (go_at_call 55;refine (fV _ _).mono ?_;rintro e w4 ⟨rfl,hb4⟩;have hL:=hL.call hb4;have lF:=(hL.get 1 rfl).cell (j:=1) rfl;have lG:=(hL.get 1 rfl).cell (j:=2) rfl;have lH:=(hL.get 1 rfl).cell (j:=3) rfl;have lD:=(hL.get 0 rfl).cell (j:=0) rfl) | (clear tk1;go_at_call 128;refine (eH S g _ _ _ _ (he.hits.below hL.bw)).mono ?_;rintro e w5 ⟨rfl,hb5⟩;have hL:=hL.call hb5;have lF:=(hL.get 1 rfl).cell (j:=1) rfl;have lG:=(hL.get 1 rfl).cell (j:=2) rfl;have lH:=(hL.get 1 rfl).cell (j:=3) rfl;have lD:=(hL.get 0 rfl).cell (j:=0) rfl) | (go_at_call 128;refine (eH S g _ _ _ _ (he.aF.below hL.bw)).mono ?_;rintro e w6 ⟨rfl,hb6⟩;have hL:=hL.call hb6;have lF:=(hL.get 1 rfl).cell (j:=1) rfl;have lG:=(hL.get 1 rfl).cell (j:=2) rfl;have lH:=(hL.get 1 rfl).cell (j:=3) rfl;have lD:=(hL.get 0 rfl).cell (j:=0) rfl) | (go_at_call 129;refine (gZ S _ _ _ Sk.bf _ (he.hits.below hL.bw)).mono ?_;rintro e w7 ⟨rfl,rfl⟩))
           go_meet;exact ⟨congrArg Value.bool (by simp [ha0,ha1,ha2]),hL⟩
         · rcases wo:(Sk.fA g e.x.aF) with _ | _
           · go_wp2_with (first | ((with_reducible refine bJ 28 2 ?_);refine ig (hL.rn 0 0 (bK g)) Tryz.underlying28 dP ?_) | ((with_reducible refine iy 28 2 ?_);refine kP (hL.rn 0 0 (bK g)) Tryz.underlying28 dP ?_) | fail | (go_at_call 55;refine (fV _ _).mono ?_;rintro e w4 ⟨rfl,hb4⟩;have hL:=hL.call hb4;have lF:=(hL.get 1 rfl).cell (j:=1) rfl;have lG:=(hL.get 1 rfl).cell (j:=2) rfl;have lH:=(hL.get 1 rfl).cell (j:=3) rfl;have lD:=(hL.get 0 rfl).cell (j:=0) rfl) | (clear tk1;go_at_call 128;refine (eH S g _ _ _ _ (he.hits.below hL.bw)).mono ?_;rintro e w5 ⟨rfl,hb5⟩;have hL:=hL.call hb5;have lF:=(hL.get 1 rfl).cell (j:=1) rfl;have lG:=(hL.get 1 rfl).cell (j:=2) rfl;have lH:=(hL.get 1 rfl).cell (j:=3) rfl;have lD:=(hL.get 0 rfl).cell (j:=0) rfl) | (go_at_call 128;refine (eH S g _ _ _ _ (he.aF.below hL.bw)).mono ?_;rintro e w6 ⟨rfl,hb6⟩;have hL:=hL.call hb6;have lF:=(hL.get 1 rfl).cell (j:=1) rfl;have lG:=(hL.get 1 rfl).cell (j:=2) rfl;have lH:=(hL.get 1 rfl).cell (j:=3) rfl;have lD:=(hL.get 0 rfl).cell (j:=0) rfl) | (go_at_call 129;refine (gZ S _ _ _ Sk.bf _ (he.hits.below hL.bw)).mono ?_;rintro e w7 ⟨rfl,rfl⟩))
             go_meet;exact ⟨congrArg Value.bool (by simp [ha0,ha1,ha2,wo]),hL⟩
           · rcases IU:((g.kind.toList == [115,110,111,111,107,101,114])) with _ | _
             · go_wp2_with (first | ((with_reducible refine bJ 28 2 ?_);refine ig (hL.rn 0 0 (bK g)) Tryz.underlying28 dP ?_) | ((with_reducible refine iy 28 2 ?_);refine kP (hL.rn 0 0 (bK g)) Tryz.underlying28 dP ?_) | fail | (go_at_call 55;refine (fV _ _).mono ?_;rintro e w4 ⟨rfl,hb4⟩;have hL:=hL.call hb4;have lF:=(hL.get 1 rfl).cell (j:=1) rfl;have lG:=(hL.get 1 rfl).cell (j:=2) rfl;have lH:=(hL.get 1 rfl).cell (j:=3) rfl;have lD:=(hL.get 0 rfl).cell (j:=0) rfl) | (clear tk1;go_at_call 128;refine (eH S g _ _ _ _ (he.hits.below hL.bw)).mono ?_;rintro e w5 ⟨rfl,hb5⟩;have hL:=hL.call hb5;have lF:=(hL.get 1 rfl).cell (j:=1) rfl;have lG:=(hL.get 1 rfl).cell (j:=2) rfl;have lH:=(hL.get 1 rfl).cell (j:=3) rfl;have lD:=(hL.get 0 rfl).cell (j:=0) rfl) | (go_at_call 128;refine (eH S g _ _ _ _ (he.aF.below hL.bw)).mono ?_;rintro e w6 ⟨rfl,hb6⟩;have hL:=hL.call hb6;have lF:=(hL.get 1 rfl).cell (j:=1) rfl;have lG:=(hL.get 1 rfl).cell (j:=2) rfl;have lH:=(hL.get 1 rfl).cell (j:=3) rfl;have lD:=(hL.get 0 rfl).cell (j:=0) rfl) | (go_at_call 129;refine (gZ S _ _ _ Sk.bf _ (he.hits.below hL.bw)).mono ?_;rintro e w7 ⟨rfl,rfl⟩))
               go_meet;exact ⟨congrArg Value.bool (by simp [ha0,ha1,ha2,wo,IU]),hL⟩
             · rcases ha5:(Sk.has e.x.hits Sk.bf) with _ | _
               · go_wp2_with (first | ((with_reducible refine bJ 28 2 ?_);refine ig (hL.rn 0 0 (bK g)) Tryz.underlying28 dP ?_) | ((with_reducible refine iy 28 2 ?_);refine kP (hL.rn 0 0 (bK g)) Tryz.underlying28 dP ?_) | fail | (go_at_call 55;refine (fV _ _).mono ?_;rintro e w4 ⟨rfl,hb4⟩;have hL:=hL.call hb4;have lF:=(hL.get 1 rfl).cell (j:=1) rfl;have lG:=(hL.get 1 rfl).cell (j:=2) rfl;have lH:=(hL.get 1 rfl).cell (j:=3) rfl;have lD:=(hL.get 0 rfl).cell (j:=0) rfl) | (clear tk1;go_at_call 128;refine (eH S g _ _ _ _ (he.hits.below hL.bw)).mono ?_;rintro e w5 ⟨rfl,hb5⟩;have hL:=hL.call hb5;have lF:=(hL.get 1 rfl).cell (j:=1) rfl;have lG:=(hL.get 1 rfl).cell (j:=2) rfl;have lH:=(hL.get 1 rfl).cell (j:=3) rfl;have lD:=(hL.get 0 rfl).cell (j:=0) rfl) | (go_at_call 128;refine (eH S g _ _ _ _ (he.aF.below hL.bw)).mono ?_;rintro e w6 ⟨rfl,hb6⟩;have hL:=hL.call hb6;have lF:=(hL.get 1 rfl).cell (j:=1) rfl;have lG:=(hL.get 1 rfl).cell (j:=2) rfl;have lH:=(hL.get 1 rfl).cell (j:=3) rfl;have lD:=(hL.get 0 rfl).cell (j:=0) rfl) | (go_at_call 129;refine (gZ S _ _ _ Sk.bf _ (he.hits.below hL.bw)).mono ?_;rintro e w7 ⟨rfl,rfl⟩))
                 go_meet;exact ⟨congrArg Value.bool (by simp [ha0,ha1,ha2,wo,IU,ha5]),hL⟩
               · go_wp2_with (first | ((with_reducible refine bJ 28 2 ?_);refine ig (hL.rn 0 0 (bK g)) Tryz.underlying28 dP ?_) | ((with_reducible refine iy 28 2 ?_);refine kP (hL.rn 0 0 (bK g)) Tryz.underlying28 dP ?_) | fail | (go_at_call 55;refine (fV _ _).mono ?_;rintro e w4 ⟨rfl,hb4⟩;have hL:=hL.call hb4;have lF:=(hL.get 1 rfl).cell (j:=1) rfl;have lG:=(hL.get 1 rfl).cell (j:=2) rfl;have lH:=(hL.get 1 rfl).cell (j:=3) rfl;have lD:=(hL.get 0 rfl).cell (j:=0) rfl) | (clear tk1;go_at_call 128;refine (eH S g _ _ _ _ (he.hits.below hL.bw)).mono ?_;rintro e w5 ⟨rfl,hb5⟩;have hL:=hL.call hb5;have lF:=(hL.get 1 rfl).cell (j:=1) rfl;have lG:=(hL.get 1 rfl).cell (j:=2) rfl;have lH:=(hL.get 1 rfl).cell (j:=3) rfl;have lD:=(hL.get 0 rfl).cell (j:=0) rfl) | (go_at_call 128;refine (eH S g _ _ _ _ (he.aF.below hL.bw)).mono ?_;rintro e w6 ⟨rfl,hb6⟩;have hL:=hL.call hb6;have lF:=(hL.get 1 rfl).cell (j:=1) rfl;have lG:=(hL.get 1 rfl).cell (j:=2) rfl;have lH:=(hL.get 1 rfl).cell (j:=3) rfl;have lD:=(hL.get 0 rfl).cell (j:=0) rfl) | (go_at_call 129;refine (gZ S _ _ _ Sk.bf _ (he.hits.below hL.bw)).mono ?_;rintro e w7 ⟨rfl,rfl⟩))
                 go_meet;exact ⟨congrArg Value.bool (by simp [ha0,ha1,ha2,wo,IU,ha5]),hL⟩
       · go_wp2_with (first | ((with_reducible refine bJ 28 2 ?_);refine ig (hL.rn 0 0 (bK g)) Tryz.underlying28 dP ?_) | ((with_reducible refine iy 28 2 ?_);refine kP (hL.rn 0 0 (bK g)) Tryz.underlying28 dP ?_) | fail | (go_at_call 55;refine (fV _ _).mono ?_;rintro e w4 ⟨rfl,hb4⟩;have hL:=hL.call hb4;have lF:=(hL.get 1 rfl).cell (j:=1) rfl;have lG:=(hL.get 1 rfl).cell (j:=2) rfl;have lH:=(hL.get 1 rfl).cell (j:=3) rfl;have lD:=(hL.get 0 rfl).cell (j:=0) rfl) | (clear tk1;go_at_call 128;refine (eH S g _ _ _ _ (he.hits.below hL.bw)).mono ?_;rintro e w5 ⟨rfl,hb5⟩;have hL:=hL.call hb5;have lF:=(hL.get 1 rfl).cell (j:=1) rfl;have lG:=(hL.get 1 rfl).cell (j:=2) rfl;have lH:=(hL.get 1 rfl).cell (j:=3) rfl;have lD:=(hL.get 0 rfl).cell (j:=0) rfl) | (go_at_call 128;refine (eH S g _ _ _ _ (he.aF.below hL.bw)).mono ?_;rintro e w6 ⟨rfl,hb6⟩;have hL:=hL.call hb6;have lF:=(hL.get 1 rfl).cell (j:=1) rfl;have lG:=(hL.get 1 rfl).cell (j:=2) rfl;have lH:=(hL.get 1 rfl).cell (j:=3) rfl;have lD:=(hL.get 0 rfl).cell (j:=0) rfl) | (go_at_call 129;refine (gZ S _ _ _ Sk.bf _ (he.hits.below hL.bw)).mono ?_;rintro e w7 ⟨rfl,rfl⟩))
         go_meet;exact ⟨congrArg Value.bool (by simp [ha0,ha1]),hL⟩
     · rcases ha1:(Sk.fA g e.x.hits) with _ | _
       · go_wp2_with (first | ((with_reducible refine bJ 28 2 ?_);refine ig (hL.rn 0 0 (bK g)) Tryz.underlying28 dP ?_) | ((with_reducible refine iy 28 2 ?_);refine kP (hL.rn 0 0 (bK g)) Tryz.underlying28 dP ?_) | fail | (go_at_call 55;refine (fV _ _).mono ?_;rintro e w4 ⟨rfl,hb4⟩;have hL:=hL.call hb4;have lF:=(hL.get 1 rfl).cell (j:=1) rfl;have lG:=(hL.get 1 rfl).cell (j:=2) rfl;have lH:=(hL.get 1 rfl).cell (j:=3) rfl;have lD:=(hL.get 0 rfl).cell (j:=0) rfl) | (clear tk1;go_at_call 128;refine (eH S g _ _ _ _ (he.hits.below hL.bw)).mono ?_;rintro e w5 ⟨rfl,hb5⟩;have hL:=hL.call hb5;have lF:=(hL.get 1 rfl).cell (j:=1) rfl;have lG:=(hL.get 1 rfl).cell (j:=2) rfl;have lH:=(hL.get 1 rfl).cell (j:=3) rfl;have lD:=(hL.get 0 rfl).cell (j:=0) rfl) | (go_at_call 128;refine (eH S g _ _ _ _ (he.aF.below hL.bw)).mono ?_;rintro e w6 ⟨rfl,hb6⟩;have hL:=hL.call hb6;have lF:=(hL.get 1 rfl).cell (j:=1) rfl;have lG:=(hL.get 1 rfl).cell (j:=2) rfl;have lH:=(hL.get 1 rfl).cell (j:=3) rfl;have lD:=(hL.get 0 rfl).cell (j:=0) rfl) | (go_at_call 129;refine (gZ S _ _ _ Sk.bf _ (he.hits.below hL.bw)).mono ?_;rintro e w7 ⟨rfl,rfl⟩))
         go_meet;exact ⟨congrArg Value.bool (by simp [ha0,ha1]),hL⟩
       · rcases ha2:(Sk.fA g e.x.aF) with _ | _
         · go_wp2_with (first | ((with_reducible refine bJ 28 2 ?_);refine ig (hL.rn 0 0 (bK g)) Tryz.underlying28 dP ?_) | ((with_reducible refine iy 28 2 ?_);refine kP (hL.rn 0 0 (bK g)) Tryz.underlying28 dP ?_) | fail | (go_at_call 55;refine (fV _ _).mono ?_;rintro e w4 ⟨rfl,hb4⟩;have hL:=hL.call hb4;have lF:=(hL.get 1 rfl).cell (j:=1) rfl;have lG:=(hL.get 1 rfl).cell (j:=2) rfl;have lH:=(hL.get 1 rfl).cell (j:=3) rfl;have lD:=(hL.get 0 rfl).cell (j:=0) rfl) | (clear tk1;go_at_call 128;refine (eH S g _ _ _ _ (he.hits.below hL.bw)).mono ?_;rintro e w5 ⟨rfl,hb5⟩;have hL:=hL.call hb5;have lF:=(hL.get 1 rfl).cell (j:=1) rfl;have lG:=(hL.get 1 rfl).cell (j:=2) rfl;have lH:=(hL.get 1 rfl).cell (j:=3) rfl;have lD:=(hL.get 0 rfl).cell (j:=0) rfl) | (go_at_call 128;refine (eH S g _ _ _ _ (he.aF.below hL.bw)).mono ?_;rintro e w6 ⟨rfl,hb6⟩;have hL:=hL.call hb6;have lF:=(hL.get 1 rfl).cell (j:=1) rfl;have lG:=(hL.get 1 rfl).cell (j:=2) rfl;have lH:=(hL.get 1 rfl).cell (j:=3) rfl;have lD:=(hL.get 0 rfl).cell (j:=0) rfl) | (go_at_call 129;refine (gZ S _ _ _ Sk.bf _ (he.hits.below hL.bw)).mono ?_;rintro e w7 ⟨rfl,rfl⟩))
           go_meet;exact ⟨congrArg Value.bool (by simp [ha0,ha1,ha2]),hL⟩
         · rcases wo:((g.kind.toList == [115,110,111,111,107,101,114])) with _ | _
           · go_wp2_with (first | ((with_reducible refine bJ 28 2 ?_);refine ig (hL.rn 0 0 (bK g)) Tryz.underlying28 dP ?_) | ((with_reducible refine iy 28 2 ?_);refine kP (hL.rn 0 0 (bK g)) Tryz.underlying28 dP ?_) | fail | (go_at_call 55;refine (fV _ _).mono ?_;rintro e w4 ⟨rfl,hb4⟩;have hL:=hL.call hb4;have lF:=(hL.get 1 rfl).cell (j:=1) rfl;have lG:=(hL.get 1 rfl).cell (j:=2) rfl;have lH:=(hL.get 1 rfl).cell (j:=3) rfl;have lD:=(hL.get 0 rfl).cell (j:=0) rfl) | (clear tk1;go_at_call 128;refine (eH S g _ _ _ _ (he.hits.below hL.bw)).mono ?_;rintro e w5 ⟨rfl,hb5⟩;have hL:=hL.call hb5;have lF:=(hL.get 1 rfl).cell (j:=1) rfl;have lG:=(hL.get 1 rfl).cell (j:=2) rfl;have lH:=(hL.get 1 rfl).cell (j:=3) rfl;have lD:=(hL.get 0 rfl).cell (j:=0) rfl) | (go_at_call 128;refine (eH S g _ _ _ _ (he.aF.below hL.bw)).mono ?_;rintro e w6 ⟨rfl,hb6⟩;have hL:=hL.call hb6;have lF:=(hL.get 1 rfl).cell (j:=1) rfl;have lG:=(hL.get 1 rfl).cell (j:=2) rfl;have lH:=(hL.get 1 rfl).cell (j:=3) rfl;have lD:=(hL.get 0 rfl).cell (j:=0) rfl) | (go_at_call 129;refine (gZ S _ _ _ Sk.bf _ (he.hits.below hL.bw)).mono ?_;rintro e w7 ⟨rfl,rfl⟩))
             go_meet;exact ⟨congrArg Value.bool (by simp [ha0,ha1,ha2,wo]),hL⟩
           · rcases IU:(Sk.has e.x.hits Sk.bf) with _ | _
             · go_wp2_with (first | ((with_reducible refine bJ 28 2 ?_);refine ig (hL.rn 0 0 (bK g)) Tryz.underlying28 dP ?_) | ((with_reducible refine iy 28 2 ?_);refine kP (hL.rn 0 0 (bK g)) Tryz.underlying28 dP ?_) | fail | (go_at_call 55;refine (fV _ _).mono ?_;rintro e w4 ⟨rfl,hb4⟩;have hL:=hL.call hb4;have lF:=(hL.get 1 rfl).cell (j:=1) rfl;have lG:=(hL.get 1 rfl).cell (j:=2) rfl;have lH:=(hL.get 1 rfl).cell (j:=3) rfl;have lD:=(hL.get 0 rfl).cell (j:=0) rfl) | (clear tk1;go_at_call 128;refine (eH S g _ _ _ _ (he.hits.below hL.bw)).mono ?_;rintro e w5 ⟨rfl,hb5⟩;have hL:=hL.call hb5;have lF:=(hL.get 1 rfl).cell (j:=1) rfl;have lG:=(hL.get 1 rfl).cell (j:=2) rfl;have lH:=(hL.get 1 rfl).cell (j:=3) rfl;have lD:=(hL.get 0 rfl).cell (j:=0) rfl) | (go_at_call 128;refine (eH S g _ _ _ _ (he.aF.below hL.bw)).mono ?_;rintro e w6 ⟨rfl,hb6⟩;have hL:=hL.call hb6;have lF:=(hL.get 1 rfl).cell (j:=1) rfl;have lG:=(hL.get 1 rfl).cell (j:=2) rfl;have lH:=(hL.get 1 rfl).cell (j:=3) rfl;have lD:=(hL.get 0 rfl).cell (j:=0) rfl) | (go_at_call 129;refine (gZ S _ _ _ Sk.bf _ (he.hits.below hL.bw)).mono ?_;rintro e w7 ⟨rfl,rfl⟩))
               go_meet;exact ⟨congrArg Value.bool (by simp [ha0,ha1,ha2,wo,IU]),hL⟩
             · go_wp2_with (first | ((with_reducible refine bJ 28 2 ?_);refine ig (hL.rn 0 0 (bK g)) Tryz.underlying28 dP ?_) | ((with_reducible refine iy 28 2 ?_);refine kP (hL.rn 0 0 (bK g)) Tryz.underlying28 dP ?_) | fail | (go_at_call 55;refine (fV _ _).mono ?_;rintro e w4 ⟨rfl,hb4⟩;have hL:=hL.call hb4;have lF:=(hL.get 1 rfl).cell (j:=1) rfl;have lG:=(hL.get 1 rfl).cell (j:=2) rfl;have lH:=(hL.get 1 rfl).cell (j:=3) rfl;have lD:=(hL.get 0 rfl).cell (j:=0) rfl) | (clear tk1;go_at_call 128;refine (eH S g _ _ _ _ (he.hits.below hL.bw)).mono ?_;rintro e w5 ⟨rfl,hb5⟩;have hL:=hL.call hb5;have lF:=(hL.get 1 rfl).cell (j:=1) rfl;have lG:=(hL.get 1 rfl).cell (j:=2) rfl;have lH:=(hL.get 1 rfl).cell (j:=3) rfl;have lD:=(hL.get 0 rfl).cell (j:=0) rfl) | (go_at_call 128;refine (eH S g _ _ _ _ (he.aF.below hL.bw)).mono ?_;rintro e w6 ⟨rfl,hb6⟩;have hL:=hL.call hb6;have lF:=(hL.get 1 rfl).cell (j:=1) rfl;have lG:=(hL.get 1 rfl).cell (j:=2) rfl;have lH:=(hL.get 1 rfl).cell (j:=3) rfl;have lD:=(hL.get 0 rfl).cell (j:=0) rfl) | (go_at_call 129;refine (gZ S _ _ _ Sk.bf _ (he.hits.below hL.bw)).mono ?_;rintro e w7 ⟨rfl,rfl⟩))
               go_meet;exact ⟨congrArg Value.bool (by simp [ha0,ha1,ha2,wo,IU]),hL⟩
    case rest=>
     obtain ⟨rfl,hL⟩:=hcut
     rcases hA:((!e.x.called.toList.isEmpty && decide (Sk.value e.x.called<2)) || !Sk.fA g e.x.hits || !Sk.fA g e.x.aF || ((g.kind.toList == [115,110,111,111,107,101,114]) && Sk.has e.x.hits Sk.bf)) with _ | _
     rotate_left
     · have HR:=hide (show (10:Int)=Sk.dH g e.x by rw [HF2.out,hA];rfl)
       clear hA;go_wp2;go_ret;exact ⟨aV HR.out,hL.bw⟩
     have HF3:=hide (show Sk.dH g e.x=if Sk.out e.x.aX 0 99 then 3 else if (!e.x.called.toList.isEmpty && !(g.kind.toList == [115,110,111,111,107,101,114])) || (decide (0<(e.x.aF.length:Int)) && (g.kind.toList == [99,97,114,111,109])) || (decide (0<e.x.aX) && !(g.kind.toList == [99,97,114,111,109])) then 1 else 0 by rw [HF2.out,hA];rfl);clear hA HF2;have kx4:=(hL.get 1 rfl).cell (j:=4) rfl
     rcases hA:Sk.out e.x.aX 0 99 with _ | _
     rotate_left
     · have HR:=hide (show (3:Int)=Sk.dH g e.x by rw [HF3.out,hA];rfl)
       go_wp2_with (go_at_call 69;refine (BH _ _ _ _).mono ?_;rintro e w8 ⟨rfl,rfl⟩)
       go_ret;exact ⟨aV HR.out,hL.bw⟩
     have HF4:=hide (show Sk.dH g e.x=if (!e.x.called.toList.isEmpty && !(g.kind.toList == [115,110,111,111,107,101,114])) || (decide (0<(e.x.aF.length:Int)) && (g.kind.toList == [99,97,114,111,109])) || (decide (0<e.x.aX) && !(g.kind.toList == [99,97,114,111,109])) then 1 else 0 by rw [HF3.out,hA];rfl)
     go_upto_region 16 with (go_at_call 69;refine (BH _ _ _ _).mono ?_;rintro e w8 ⟨rfl,rfl⟩)
     clear hA HF3
     go_cut [105] from 74 to 106 (fun v105 wx=>v105= .bool ((!e.x.called.toList.isEmpty && !(g.kind.toList == [115,110,111,111,107,101,114])) || (decide (0<(e.x.aF.length:Int)) && (g.kind.toList == [99,97,114,111,109])) || (decide (0<e.x.aX) && !(g.kind.toList == [99,97,114,111,109])))∧Bx w wx [(w.heap.size,bK g,28),(w.heap.size+1,dn e,85)])
     case first=>
      have Vr:=(hL.get 1 rfl).cell (j:=1) rfl;have Ym:=(hL.get 1 rfl).cell (j:=3) rfl;have kg:=(hL.get 0 rfl).cell (j:=0) rfl
      rcases ha0:(e.x.called.toList.isEmpty) with _ | _
      · rcases ha1:((g.kind.toList == [115,110,111,111,107,101,114])) with _ | _
        · go_wp2
          go_meet;exact ⟨congrArg Value.bool (by simp only [ha0,ha1];rfl),hL⟩
        · rcases ha2:(decide (0<(e.x.aF.length:Int))) with _ | _
          · rcases wo:(decide (0<e.x.aX)) with _ | _
            · have hq:=(show decide (0<e.x.aF.length)=false by simpa using ha2)
              go_wp2;go_meet;exact ⟨congrArg Value.bool (by simp only [ha0,ha1,ha2,wo];rfl),hL⟩
            · rcases IU:((g.kind.toList == [99,97,114,111,109])) with _ | _
              · have hq:=(show decide (0<e.x.aF.length)=false by simpa using ha2)
                go_wp2;go_meet;exact ⟨congrArg Value.bool (by simp only [ha0,ha1,ha2,wo,IU];rfl),hL⟩
              · have hq:=(show decide (0<e.x.aF.length)=false by simpa using ha2)
                go_wp2;go_meet;exact ⟨congrArg Value.bool (by simp only [ha0,ha1,ha2,wo,IU];rfl),hL⟩
          · rcases wo:((g.kind.toList == [99,97,114,111,109])) with _ | _
            · rcases IU:(decide (0<e.x.aX)) with _ | _
              · have hq:=(show decide (0<e.x.aF.length)=true by simpa using ha2)
                go_wp2;go_meet;exact ⟨congrArg Value.bool (by simp only [ha0,ha1,ha2,wo,IU];rfl),hL⟩
              · have hq:=(show decide (0<e.x.aF.length)=true by simpa using ha2)
                go_wp2;go_meet;exact ⟨congrArg Value.bool (by simp only [ha0,ha1,ha2,wo,IU];rfl),hL⟩
            · have hq:=(show decide (0<e.x.aF.length)=true by simpa using ha2)
              go_wp2;go_meet;exact ⟨congrArg Value.bool (by simp only [ha0,ha1,ha2,wo];rfl),hL⟩
      · rcases ha1:(decide (0<(e.x.aF.length:Int))) with _ | _
        · rcases ha2:(decide (0<e.x.aX)) with _ | _
          · have hq:=(show decide (0<e.x.aF.length)=false by simpa using ha1)
            go_wp2;go_meet;exact ⟨congrArg Value.bool (by simp only [ha0,ha1,ha2];rfl),hL⟩
          · rcases wo:((g.kind.toList == [99,97,114,111,109])) with _ | _
            · have hq:=(show decide (0<e.x.aF.length)=false by simpa using ha1)
              go_wp2;go_meet;exact ⟨congrArg Value.bool (by simp only [ha0,ha1,ha2,wo];rfl),hL⟩
            · have hq:=(show decide (0<e.x.aF.length)=false by simpa using ha1)
              go_wp2;go_meet;exact ⟨congrArg Value.bool (by simp only [ha0,ha1,ha2,wo];rfl),hL⟩
        · rcases ha2:((g.kind.toList == [99,97,114,111,109])) with _ | _
          · rcases wo:(decide (0<e.x.aX)) with _ | _
            · have hq:=(show decide (0<e.x.aF.length)=true by simpa using ha1)
              go_wp2;go_meet;exact ⟨congrArg Value.bool (by simp only [ha0,ha1,ha2,wo];rfl),hL⟩
            · have hq:=(show decide (0<e.x.aF.length)=true by simpa using ha1)
              go_wp2;go_meet;exact ⟨congrArg Value.bool (by simp only [ha0,ha1,ha2,wo];rfl),hL⟩
          · have hq:=(show decide (0<e.x.aF.length)=true by simpa using ha1)
            go_wp2;go_meet;exact ⟨congrArg Value.bool (by simp only [ha0,ha1,ha2];rfl),hL⟩
     case rest=>
      obtain ⟨rfl,hL⟩:=hcut
      rcases hA:((!e.x.called.toList.isEmpty && !(g.kind.toList == [115,110,111,111,107,101,114])) || (decide (0<(e.x.aF.length:Int)) && (g.kind.toList == [99,97,114,111,109])) || (decide (0<e.x.aX) && !(g.kind.toList == [99,97,114,111,109]))) with _ | _
      · have HR:=hide (show (0:Int)=Sk.dH g e.x by rw [HF4.out,hA];rfl)
        clear hA;go_wp2;go_ret;exact ⟨aV HR.out,hL.bw⟩
      · have HR:=hide (show (1:Int)=Sk.dH g e.x by rw [HF4.out,hA];rfl)
        clear hA;go_wp2;go_ret;exact ⟨aV HR.out,hL.bw⟩
theorem JR (S:Nat→Prop) (g:Sk.Game) (l:List En) (A:Option Addr) (c:Nat) (w:World) (hl:ni w S A c l):Calls Tryz.prog 21 #[lX g,.slice A l.length c] w fun e_ w'=>e_= .returned (.int .i64 (Sk.iO g (bare l)))∧Below w.heap.size w w':=by
 obtain ⟨b1,b2,b3⟩:=hl.bd
 go_enter Tryz.func21,Tryz.ntmps21
 go_upto_region 0 with (fail)
 go_cut [2,4] (fun v2 v4 wx=>v2=ptr (w.heap.size)∧v4= .int .i64 0∧Bx w wx [(w.heap.size,bK g,28)])
 case first=>
  go_wp2;go_meet;exact ⟨rfl,rfl,Bx.of ((aG.nil w).new (by simp) (bK g) 28) _ rfl⟩
 case rest=>
  obtain ⟨rfl,rfl,hL⟩:=hcut
  go_upto_region 2 with (first | ((with_reducible refine bJ 28 2 ?_);refine ig (hL.rn 0 0 (bK g)) Tryz.underlying28 dP ?_) | ((with_reducible refine iy 28 2 ?_);refine kP (hL.rn 0 0 (bK g)) Tryz.underlying28 dP ?_) | (go_at_call 17;refine (zB g _).mono ?_;rintro e w5 ⟨rfl,hb5⟩;have hL:=hL.call hb5))
  obtain ⟨n,hn⟩:∃ q,Sk.dM g=q:=⟨_,rfl⟩
  rcases hz:(n != 0) with _ | _
  rotate_left
  · have HR:=hide (show n=Sk.iO g (bare l) by unfold Sk.iO;rw [hn,if_pos (by simpa using hz)])
    have hz2:(n == 0)=false:=by simpa using hz
    rw [hn];clear hn hz2;go_wp2;go_ret;exact ⟨aV HR.out,hL.bw⟩
  · have hz1:n=0:=by simpa using hz
    subst hz1;have HZ:=hide hn;have qJ:=hide (show Sk.iO g (bare l)=if 1000<l.length then 5 else Sk.kZ g (bare l) by unfold Sk.iO;rw [if_neg (by simp [hn]),kQ]);rw [hn];clear hn hz
    by_cases hlen:1000<l.length
    · have hd:decide (1000<(l.length:Int))=true:=decide_eq_true (by omega)
      have HR:=hide (show (5:Int)=Sk.iO g (bare l) by rw [qJ.out,if_pos hlen]);clear hlen qJ;go_wp2;go_ret;exact ⟨aV HR.out,hL.bw⟩
    have hd:decide (1000<(l.length:Int))=false:=decide_eq_false (by omega);have HR:=hide (show Sk.iO g (bare l)=Sk.kZ g (bare l) by rw [qJ.out,if_neg hlen]);clear qJ hlen
    go_upto_region 6 with (fail)
    go_wp2
    go_loopw [5,6] (fun v i wr=>∃ k:Nat,k≤l.length∧v= .int .i64 0∧i= .int .i64 k∧Aside (Sk.kZ g (bare l)=Sk.kZ g (bare (l.drop k)))∧Bx w wr [(w.heap.size,bK g,28)]) (fun _ i _=>l.length - (intOf i).toNat)
    case atStart=>exact ⟨0,Nat.zero_le _,rfl,rfl,by simp [Aside],hL⟩
    case round=>
     obtain ⟨k,hk,rfl,rfl,hx,hL⟩:=hrel
     by_cases hlt:k<l.length
     · have WE:=(hl.ent k hlt)
       have hst:=zl g l hlt;obtain ⟨b,o,rfl,_,_,_⟩:=hl.at_ k hlt;have hrg:=fun (W:World) (hb:Below w.heap.size w W)=>tV hl hlt hb rfl;obtain ⟨ek,hek⟩:∃ e,l[k]=e:=⟨_,rfl⟩;rw [hek] at WE hst
       have hrg:∀ W:World,Below w.heap.size w W→W.rangeAt b (o+k*5) (dn ek):=fun W hb=>by have:=hrg W hb;rwa [hek] at this
       have hx2:=hx.out;rw [hst] at hx2;have HX:=hide hx2;clear hst hek hx hx2
       go_upto_region 9 with (fail)
       go_cut [5,6] (fun v5 v6 wx=>v5= .int .i64 (Sk.dH g ek.x)∧v6= .int .i64 k∧Bx w wx [(w.heap.size,bK g,28)])
       case first=>
        have ae0:∀ W:World,Bx w W [(w.heap.size,bK g,28)]→W.rangeAt (w.heap.size) 0 (bK g):=fun W h=>h.rng 0 rfl 0 _ rfl;have ae7:∀ W:World,Bx w W [(w.heap.size,bK g,28)]→W.rangeAt (b) (o+k*5) (dn ek):=fun W h=>(hrg W h.bw);have hL:=hL.drew;refine wp_region_held_drew (S:=(fun w':World=>Bx w w' [(w.heap.size,bK g,28)])) (by kernel_rfl) ?bg (fun hHeld=>?_)
        case bg=>exact hL
        refine wpAnyH_take (i:=0) (oi:=_) (v:=_) (ga rfl) (by kernel_rfl) (by kernel_rfl) (by kernel_rfl) (fun _ _ _ h=>h) (yieldsIf_load_mid (by rfl) _ _ (by rfl) _ _ (by rfl) _ _ ae0 Tryz.underlying28 rfl (by kernel_rfl)) (by assumption) ?_
        try simp only [Act.put,la,lz,ls]
        refine tk 1 ?_;refine tk 2 ?_;refine tk 3 ?_;refine wpAnyH_take (i:=4) (oi:=_) (v:=_) (ga rfl) (by kernel_rfl) (by kernel_rfl) (by kernel_rfl) (fun _ _ _ h=>h) (yieldsIf_load_mid (by rfl) _ _ (by rfl) _ _ (by rfl) _ _ ae7 Tryz.underlying85 rfl (by kernel_rfl)) (by assumption) ?_
        try simp only [Act.put,la,lz,ls]
        refine tr 5 fun K hK=>?_;go_simp
        (go_at_call 73;refine (JU S g HZ.out ek _ (WE.below hL.bw)).mono ?_;rintro e w9a ⟨rfl,an3⟩)
        have hL:=hL.call an3;refine hK.out _ _ ?GY (fun hHeld=>?_)
        case GY=>(exact hL)
        clear hK K
        try simp only [Act.put,la,lz,ls]
        refine tk 6 ?_;refine wpAnyH_done (by kernel_rfl) ?_ _;go_wp2;go_meet;exact ⟨rfl,rfl,hL⟩
       case rest=>
        obtain ⟨rfl,rfl,hL⟩:=hcut;obtain ⟨z,hz⟩:∃ q,Sk.dH g ek.x=q:=⟨_,rfl⟩;rw [hz] at HX;rw [hz];clear hz
        rcases hz2:(z != 0) with _ | _
        · have hz3:z=0:=by simpa using hz2
          subst hz3;have HX2:=hide (show Sk.kZ g (bare l)=Sk.kZ g (bare (l.drop (k+1))) by rw [HX.out];rfl);clear HX;go_wp2
          go_roundw
          case rel=>exact ⟨k+1,by omega,rfl,by go_num,HX2.out,hL⟩
          case measure=>simp [intOf];omega
        · have HX2:=hide (show z=Sk.iO g (bare l) by rw [HR.out,HX.out,if_pos (by simpa using hz2)])
          clear HX;go_wp2;go_ret;exact ⟨aV HX2.out,hL.bw⟩
     · have HX:=hide (show (0:Int)=Sk.iO g (bare l) by rw [HR.out,hx.out,List.drop_of_length_le (by omega)];rfl)
       clear hx;go_wp2;go_ret;exact ⟨aV HX.out,hL.bw⟩
theorem JZ (g:Sk.Game) (w:World):Calls Tryz.prog 24 #[lX g] w fun e w'=>e= .returned (jE (Sk.start g))∧Below w.heap.size w w':=by
 have e1:=fB g.kind [115,110,111,111,107,101,114];have HE:=hide (show aC (Sk.start g)=if (g.kind.toList == [115,110,111,111,107,101,114]) then [.int .i64 0,.int .i64 0,.int .i64 0,.int .i64 0,.string ⟨#[114,101,100]⟩,.int .i64 g.aY,.int .i64 0,.bool false,.bool false,.int .i64 0,.int .i64 0,.int .i64 0,.int .i64 (-1)] else [.int .i64 0,.int .i64 0,.int .i64 0,.int .i64 0,.string ⟨#[112,108,97,121]⟩,.int .i64 g.aY,.int .i64 0,.bool false,.bool false,.int .i64 0,.int .i64 0,.int .i64 0,.int .i64 (-1)] by rw [e1];unfold Sk.start aC;by_cases h:g.kind=Sk.aK <;> simp [h] <;> rfl);clear e1
 go_enter Tryz.func24,Tryz.ntmps24
 go_upto_region 0 with (fail)
 go_cut [1,2] (fun v1 v2 wx=>v1=ptr (w.heap.size)∧v2=ptr (w.heap.size+1)∧Bx w wx [(w.heap.size,bK g,28),(w.heap.size+1,aC Sk.zero,39)])
 case first=>
  go_wp2;go_meet;exact ⟨rfl,rfl,Bx.of (((aG.nil w).new (by simp) (bK g) 28).new (by simp) (aC Sk.zero) 39) _ rfl⟩
 case rest=>
  obtain ⟨rfl,rfl,hL⟩:=hcut;have k0:=(hL.get 0 rfl).cell (j:=0) rfl;have k1:=(hL.get 0 rfl).cell (j:=1) rfl
  go_upto_region 1 with (fail)
  go_cut [3] from 3 to 7 (fun v3 wx=>∃ B,v3=ptr B∧Bx w wx [(B,[.int .i64 0,.int .i64 0,.int .i64 0,.int .i64 0,.string ⟨#[112,108,97,121]⟩,.int .i64 g.aY,.int .i64 0,.bool false,.bool false,.int .i64 0,.int .i64 0,.int .i64 0,.int .i64 (-1)],39),(w.heap.size,bK g,28),(w.heap.size+1,aC Sk.zero,39)])
  case first=>
   have hZ:=hL.add [.int .i64 0,.int .i64 0,.int .i64 0,.int .i64 0,.string ⟨#[112,108,97,121]⟩,.int .i64 g.aY,.int .i64 0,.bool false,.bool false,.int .i64 0,.int .i64 0,.int .i64 0,.int .i64 (-1)] 39;go_wp2;go_meet;exact ⟨_,rfl,hZ⟩
  case rest=>
   obtain ⟨B,rfl,hL2⟩:=hcut;have hL:=hL2;clear k0 k1;have k0:=(hL.get 1 rfl).cell (j:=0) rfl
   rcases h1:(g.kind.toList == [115,110,111,111,107,101,114]) with _ | _
   · have HR:=hide (show aC (Sk.start g)=[.int .i64 0,.int .i64 0,.int .i64 0,.int .i64 0,.string ⟨#[112,108,97,121]⟩,.int .i64 g.aY,.int .i64 0,.bool false,.bool false,.int .i64 0,.int .i64 0,.int .i64 0,.int .i64 (-1)] by rw [HE.out,h1];rfl)
     clear HE;have hW:=hL.tail.tail;have hE:=hW.put [.int .i64 0,.int .i64 0,.int .i64 0,.int .i64 0,.string ⟨#[112,108,97,121]⟩,.int .i64 g.aY,.int .i64 0,.bool false,.bool false,.int .i64 0,.int .i64 0,.int .i64 0,.int .i64 (-1)] rfl
     go_wp2_with (first | ((with_reducible refine bJ 39 3 ?_);refine ig (hL.rn 0 0 ([.int .i64 0,.int .i64 0,.int .i64 0,.int .i64 0,.string ⟨#[112,108,97,121]⟩,.int .i64 g.aY,.int .i64 0,.bool false,.bool false,.int .i64 0,.int .i64 0,.int .i64 0,.int .i64 (-1)])) Tryz.underlying39 aJ ?_) | ((with_reducible refine iy 39 3 ?_);refine kP (hL.rn 0 0 ([.int .i64 0,.int .i64 0,.int .i64 0,.int .i64 0,.string ⟨#[112,108,97,121]⟩,.int .i64 g.aY,.int .i64 0,.bool false,.bool false,.int .i64 0,.int .i64 0,.int .i64 0,.int .i64 (-1)])) Tryz.underlying39 aJ ?_) | ((with_reducible refine isS 39 2 11 ?_);refine fU (hL.get 2 rfl) ([.int .i64 0,.int .i64 0,.int .i64 0,.int .i64 0,.string ⟨#[112,108,97,121]⟩,.int .i64 g.aY,.int .i64 0,.bool false,.bool false,.int .i64 0,.int .i64 0,.int .i64 0,.int .i64 (-1)]) aJ (by simp [Value.oneCell']) ?_))
     refine bodyPost_ret (aI (p:=2) (hE.get 0 rfl) Tryz.underlying39 rfl aJ rfl _ rfl) rfl ⟨?_,hE.bw⟩
     show Ending.returned (Value.agg (List.toArray [.int .i64 0,.int .i64 0,.int .i64 0,.int .i64 0,.string ⟨#[112,108,97,121]⟩,.int .i64 g.aY,.int .i64 0,.bool false,.bool false,.int .i64 0,.int .i64 0,.int .i64 0,.int .i64 (-1)]))=Ending.returned (Value.agg (aC (Sk.start g)).toArray);rw [HR.out]
   · have HR:=hide (show aC (Sk.start g)=[.int .i64 0,.int .i64 0,.int .i64 0,.int .i64 0,.string ⟨#[114,101,100]⟩,.int .i64 g.aY,.int .i64 0,.bool false,.bool false,.int .i64 0,.int .i64 0,.int .i64 0,.int .i64 (-1)] by rw [HE.out,h1];rfl)
     clear HE;have kB:=(hL.get 0 rfl).cell (j:=4) rfl;have kBf:=(hL.get 0 rfl).frozen 4;have hS:=hL.set 4 (.string ⟨#[114,101,100]⟩);have hW:=hS.tail.tail;have hE:=hW.put [.int .i64 0,.int .i64 0,.int .i64 0,.int .i64 0,.string ⟨#[114,101,100]⟩,.int .i64 g.aY,.int .i64 0,.bool false,.bool false,.int .i64 0,.int .i64 0,.int .i64 0,.int .i64 (-1)] rfl
     go_wp2_with (first | ((with_reducible refine bJ 39 3 ?_);refine ig (hS.rn 0 0 ([.int .i64 0,.int .i64 0,.int .i64 0,.int .i64 0,.string ⟨#[114,101,100]⟩,.int .i64 g.aY,.int .i64 0,.bool false,.bool false,.int .i64 0,.int .i64 0,.int .i64 0,.int .i64 (-1)])) Tryz.underlying39 aJ ?_) | ((with_reducible refine iy 39 3 ?_);refine kP (hS.rn 0 0 ([.int .i64 0,.int .i64 0,.int .i64 0,.int .i64 0,.string ⟨#[114,101,100]⟩,.int .i64 g.aY,.int .i64 0,.bool false,.bool false,.int .i64 0,.int .i64 0,.int .i64 0,.int .i64 (-1)])) Tryz.underlying39 aJ ?_) | ((with_reducible refine isS 39 2 11 ?_);refine fU (hS.get 2 rfl) ([.int .i64 0,.int .i64 0,.int .i64 0,.int .i64 0,.string ⟨#[114,101,100]⟩,.int .i64 g.aY,.int .i64 0,.bool false,.bool false,.int .i64 0,.int .i64 0,.int .i64 0,.int .i64 (-1)]) aJ (by simp [Value.oneCell']) ?_))
     refine bodyPost_ret (aI (p:=2) (hE.get 0 rfl) Tryz.underlying39 rfl aJ rfl _ rfl) rfl ⟨?_,hE.bw⟩
     show Ending.returned (Value.agg (List.toArray [.int .i64 0,.int .i64 0,.int .i64 0,.int .i64 0,.string ⟨#[114,101,100]⟩,.int .i64 g.aY,.int .i64 0,.bool false,.bool false,.int .i64 0,.int .i64 0,.int .i64 0,.int .i64 (-1)]))=Ending.returned (Value.agg (aC (Sk.start g)).toArray);rw [HR.out]
theorem SI:(Tryz.prog.info? 85).map (fun i=>(i.zero,i.size,i.bytes))=some (some (.agg #[.string ⟨#[]⟩,.string ⟨#[]⟩,.slice none 0 0,.slice none 0 0,.int .i64 0]),5,88):=by kernel_rfl
theorem OM (l:List En) (k:Nat) (hk:k<l.length):zn (l.take (k+1))=zn (l.take k)++dn l[k]:=by
 rw [List.take_succ_eq_append_getElem hk,vX]
 simp [zn]
theorem JB (b:Bool) (n:Int) (w:World):Calls Tryz.prog 28 #[.bool b,.int .i64 n] w fun e w'=>e= .returned (.int .i64 (jg b n))∧w=w':=by
 cases b
 all_goals
  go_enter Tryz.func28,Tryz.ntmps28
  go_wp2;go_ret;exact ⟨rfl,rfl⟩
theorem Gx (S:Nat→Prop) (A:Option Addr) (c:Nat) (zs:List Int) (w:World) (h:nI w S A c zs):
 Calls Tryz.prog 27 #[.slice A zs.length c] w fun r w'=>r= .returned (.int .i64 (fst zs))∧w=w':=by
 obtain ⟨b1,b2,b3⟩:=h.bd
 go_enter Tryz.func27,Tryz.ntmps27
 go_wp2
 go_loop [3] (fun i=>∃ k:Nat,k≤zs.length∧i= .int .i64 k∧fst zs=fst (zs.drop k)) (fun i=>zs.length - (intOf i).toNat)
 case atStart=>exact ⟨0,Nat.zero_le _,rfl,by simp⟩
 case round=>
  obtain ⟨k,hk,rfl,hx⟩:=hrel
  by_cases hlt:k<zs.length
  · obtain ⟨b,o,rfl,_,_,hc⟩:=h.at_ k hlt
    have hck:=hc k hlt;rw [FY hlt] at hx;clear hc
    by_cases he:zs[k]=0
    · have he':(zs[k] != 0)=false:=by simp [he]
      rw [if_neg (by simp [he])] at hx;have HX:=hide hx;clear hx he;go_wp2
      go_round
      case rel=>exact ⟨k+1,by omega,by go_num,HX.out⟩
      case measure=>simp [intOf];omega
    · have he':(zs[k] != 0)=true:=by simp [he]
      rw [if_pos he] at hx;have HX:=hide hx;clear hx he;go_wp2;go_ret;exact ⟨aV HX.out.symm,rfl⟩
  · have hz:fst zs=0:=by rw [hx,List.drop_of_length_le (by omega),fst]
    have HX:=hide hz;clear hx hz;go_wp2;go_ret;exact ⟨aV HX.out.symm,rfl⟩
theorem MH (a b n x:Int) (hn:b=n) (ha:a=if n=0 then x else 0) (w:World):Calls Tryz.prog 35 #[.int .i64 a,.int .i64 b,.int .i64 n,.int .i64 x] w fun e w'=>e= .returned (.bool true)∧w=w':=by
 subst hn
 by_cases h:b=0
 · subst h
   rw [if_pos rfl] at ha;subst ha
   go_enter Tryz.func35,Tryz.ntmps35
   go_wp2;go_ret;exact ⟨rfl,rfl⟩
 · rw [if_neg h] at ha
   subst ha
   have h1:(b != 0)=true:=by simp [h]
   go_enter Tryz.func35,Tryz.ntmps35
   go_wp2;go_ret;exact ⟨rfl,rfl⟩
theorem Di (S:Nat→Prop) (l:List En) (A:Option Addr) (c:Nat) (w:World) (hp:ni w S A c l) (hl:l.length*88≤140737488355328):
 Calls Tryz.prog 15 #[.slice A l.length c] w fun e w'=>∃ A' c',e= .returned (.slice A' l.length c')∧ni w' (fun b=>S b∨w.heap.size≤b) A' c' l∧Below w.heap.size w w':=by
 obtain ⟨b1,b2,b3⟩:=hp.bd;obtain ⟨i0,hi0,hz0,hz1,hz2⟩:=info_parts SI
 go_enter Tryz.func15,Tryz.ntmps15
 go_wp2
 go_loopw [3,4] (fun v i wr=>∃ (k:Nat) (A':Option Addr) (c':Nat),k≤l.length∧i= .int .i64 k∧v= .slice A' k c'∧wr.ownsRow w.heap.size 85 5 (.slice A' k c') k (zn (l.take k))∧Below w.heap.size w wr) (fun _ i=>fun _=>l.length - (intOf i).toNat)
 case atStart=>exact ⟨0,none,0,Nat.zero_le _,rfl,rfl,World.ownsRow_nil _ _ _ _,Below.refl _ _⟩
 case round=>
  obtain ⟨k,A',c',hk,rfl,rfl,hown,hbw⟩:=hrel;have aA8:=hbw.size
  by_cases hlt:k<l.length
  · obtain ⟨b,o,rfl,_,hbl,_⟩:=(hp.below hbw).at_ k hlt
    have h00:wr.rangeAt b (o+k*5) [.string l[k].x.kind,.string l[k].x.called,.slice l[k].A l[k].x.hits.length l[k].a,.slice l[k].B l[k].x.aF.length l[k].b,.int .i64 l[k].x.aX]:=tV hp hlt hbw rfl
    have i1:(0:Int)≤(k:Int):=by omega
    have i2:(k:Int)<(l.length:Int):=by omega
    have hes:zn (l.take (k+1))=zn (l.take k)++[.string l[k].x.kind,.string l[k].x.called,.slice l[k].A l[k].x.hits.length l[k].a,.slice l[k].B l[k].x.aF.length l[k].b,.int .i64 l[k].x.aX]:=OM l k hlt;have HES:=hide hes;clear hes
    go_wp2_with (first | ((with_reducible (refine dw 83 (.tmp 14) ?lx ?_));(case lx=>rfl);refine fH (g:=b) (o:=o+k*5) h00 Tryz.underlying83 rfl bI rfl (.tmp 14) rfl rfl ?_) | (at_builtin;refine wpList_append_lies _ rfl _ _ _ rfl w.heap.size 85 i0 (.agg #[.string ⟨#[]⟩,.string ⟨#[]⟩,.slice none 0 0,.slice none 0 0,.int .i64 0]) 5 88 Tryz.underlying32 hi0 hz0 hz1 hz2 rfl (by omega) _ _ _ rfl (hown.alloc _) ⟨wr.heap.size,0,none⟩ 1 1 ([.string l[k].x.kind,.string l[k].x.called,.slice l[k].A l[k].x.hits.length l[k].a,.slice l[k].B l[k].x.aF.length l[k].b,.int .i64 l[k].x.aX]) rfl rfl (jK _ _ _ _ (by simp)) (IG l[k]) (by omega) (by simp only [maxLen];omega) (by omega) (by simp;omega) (wr.heap.size+1) (by simp) ?_))
    intro g1 cap w4 hown4 hgrow hat _;have hb4:Below w.heap.size w w4:=(hbw.alloc (by omega) _).trans (Ls (hown.alloc _) hgrow (by omega) (by simp;omega));rw [← HES.out] at hown4;have HO:=hide hown4;clear hown4 hgrow;go_wp2
    go_roundw
    case rel=>exact ⟨k+1,_,_,by omega,by go_num,rfl,HO.out,hb4⟩
    case measure=>simp [intOf];omega
  · have hke:k=l.length:=by omega
    subst hke;rw [List.take_length] at hown;have hrd:ni wr (fun b=>S b∨w.heap.size≤b) A' c' l:=⟨Reads.more (Reads.Bz hown (fun b h=>h) (by omega)) (fun b _ h=> .inr h),fun e he=>((hp.2 e he).below hbw).more (fun b _ h=> .inl h)⟩;have HRD:=hide hrd;clear hrd hown;go_wp2;go_ret;exact ⟨_,_,rfl,HRD.out,hbw⟩
theorem jZ (n:Int) (w:World):Calls Tryz.prog 96 #[.int .i64 n] w fun e w'=>e= .returned (.string (Sk.mine n))∧w=w':=by
 by_cases h:n=0
 · subst h
   go_enter Tryz.func96,Tryz.ntmps96
   go_wp2;go_ret;exact ⟨rfl,rfl⟩
 · have h1:(n == 0)=false:=by simp [h]
   have HM:=hide (show Sk.mine n=Sk.bM by unfold Sk.mine;rw [if_neg h]);clear h
   go_enter Tryz.func96,Tryz.ntmps96
   go_wp2;go_ret;exact ⟨by rw [HM.out];rfl,rfl⟩
theorem Hg {l:List ByteArray} {x:ByteArray} {k:Nat} (hk:k<l.length):Sk.count (l.take (k+1)) x=Sk.count (l.take k) x+(if l[k]=x then 1 else 0):=by
 unfold Sk.count
 rw [List.take_succ_eq_append_getElem hk,List.filter_append,List.length_append]
 by_cases h:l[k]=x <;> simp [h]
theorem uZ (l:List ByteArray) (x:ByteArray):0≤Sk.count l x∧Sk.count l x≤l.length:=by
 unfold Sk.count
 have:=List.length_filter_le (fun y=>decide (y=x)) l
 omega
theorem mY (S:Nat→Prop) (A:Option Addr) (c:Nat) (l:List ByteArray) (x:ByteArray) (w:World) (h:lQ w S A c l):
 Calls Tryz.prog 143 #[.slice A l.length c,.string x] w fun e w'=>e= .returned (.int .i64 (Sk.count l x))∧w=w':=by
 obtain ⟨b1,b2,b3⟩:=h.bd
 go_enter Tryz.func143,Tryz.ntmps143
 go_wp2
 go_loop [5,6] (fun n i=>∃ k:Nat,k≤l.length∧i= .int .i64 k∧n= .int .i64 (Sk.count (l.take k) x)) (fun _ i=>l.length - (intOf i).toNat)
 case atStart=>exact ⟨0,Nat.zero_le _,rfl,rfl⟩
 case round=>
  obtain ⟨k,hk,rfl,rfl⟩:=hrel
  by_cases hlt:k<l.length
  · obtain ⟨b,o,rfl,_,hbl,hc⟩:=h.at_ k hlt
    have hck:=hc k hlt;clear hc;have hst:=Hg (x:=x) hlt;have hcb:=uZ (l.take k) x
    have hlk:(l.take k).length=k:=by rw [List.length_take];omega
    rw [hlk] at hcb;clear hlk;obtain ⟨n,hn⟩:∃ q,Sk.count (l.take k) x=q:=⟨_,rfl⟩;rw [hn] at hst hcb ⊢;clear hn
    by_cases he:l[k]=x
    · rw [if_pos he] at hst
      have HP:=hide hst.symm;have he':(l[k].toList == x.toList)=true:=ku he;clear he hst;go_wp2
      go_round
      case rel=>exact ⟨k+1,by omega,by go_num,by rw [← HP.out]⟩
      case measure=>simp [intOf];omega
    · rw [if_neg he] at hst
      have HP:=hide hst.symm;have he':(l[k].toList == x.toList)=false:=jM he;clear he hst;go_wp2
      go_round
      case rel=>exact ⟨k+1,by omega,by go_num,by rw [← HP.out];simp⟩
      case measure=>simp [intOf];omega
  · have hke:k=l.length:=by omega
    subst hke;rw [List.take_length];go_wp2;go_ret;exact ⟨rfl,rfl⟩
theorem Dp (s:Sk.State) (b:ByteArray) (w:World):Calls Tryz.prog 97 #[jE s,.string b] w fun e w'=>e= .returned (.bool (Sk.rF s b))∧Below w.heap.size w w':=by
 have hc:Sk.rF s b=(s.free && (((s.phase.toList == [114,101,100]) && decide (2≤Sk.value b)) || ((s.phase.toList == [102,105,110,97,108]) && decide (s.colour<Sk.value b)))):=by
  unfold Sk.rF
  rw [fB,fB,Bool.eq_iff_iff]
  simp only [decide_eq_true_eq,Bool.and_eq_true,Bool.or_eq_true]
 go_enter Tryz.func97,Tryz.ntmps97
 go_upto_region 0 with (fail)
 go_cut [2,4] (fun v2 v4 wx=>v2=ptr (w.heap.size)∧v4= .bool false∧Bx w wx [(w.heap.size,aC s,39)])
 case first=>
  go_wp2;go_meet;exact ⟨rfl,rfl,Bx.of ((aG.nil w).new (by simp) (aC s) 39) _ rfl⟩
 case rest=>
  obtain ⟨rfl,rfl,hL⟩:=hcut
  go_upto_region 2 with ((go_at_call 55;refine (fV _ _).mono ?_;rintro e w4 ⟨rfl,hb4⟩;have hL:=hL.call hb4))
  have k7:=(hL.get 0 rfl).cell (j:=7) rfl;have axR:=(hL.get 0 rfl).cell (j:=4) rfl;have axY:=(hL.get 0 rfl).cell (j:=6) rfl;obtain ⟨z,hz⟩:∃ q,Sk.value b=q:=⟨_,rfl⟩;rw [hz] at hc ⊢;obtain ⟨fr,hfr⟩:∃ q,s.free=q:=⟨_,rfl⟩;rw [hfr] at hc k7;have HC:=hide hc;clear hc hz hfr
  rcases ha0:(fr) with _ | _
  · go_wp2
    go_ret;exact ⟨aH (by rw [HC.out];simp [ha0]),hL.bw⟩
  · rcases ha1:((s.phase.toList == [114,101,100])) with _ | _
    · rcases ha2:((s.phase.toList == [102,105,110,97,108])) with _ | _
      · go_wp2
        go_ret;exact ⟨aH (by rw [HC.out];simp [ha0,ha1,ha2]),hL.bw⟩
      · rcases wo:(decide (s.colour<z)) with _ | _
        · go_wp2
          go_ret;exact ⟨aH (by rw [HC.out];simp [ha0,ha1,ha2,wo]),hL.bw⟩
        · go_wp2
          go_ret;exact ⟨aH (by rw [HC.out];simp [ha0,ha1,ha2,wo]),hL.bw⟩
    · rcases ha2:(decide (2≤z)) with _ | _
      · rcases wo:((s.phase.toList == [102,105,110,97,108])) with _ | _
        · go_wp2
          go_ret;exact ⟨aH (by rw [HC.out];simp [ha0,ha1,ha2,wo]),hL.bw⟩
        · rcases IU:(decide (s.colour<z)) with _ | _
          · go_wp2
            go_ret;exact ⟨aH (by rw [HC.out];simp [ha0,ha1,ha2,wo,IU]),hL.bw⟩
          · go_wp2
            go_ret;exact ⟨aH (by rw [HC.out];simp [ha0,ha1,ha2,wo,IU]),hL.bw⟩
      · go_wp2
        go_ret;exact ⟨aH (by rw [HC.out];simp [ha0,ha1,ha2]),hL.bw⟩
theorem lU (s:Sk.State) (w:World):Calls Tryz.prog 89 #[jE s] w fun e w'=>e= .returned (.int .i64 (Sk.leader s))∧Below w.heap.size w w':=by
 have hl:Sk.leader s=if decide (s.s1<s.s0) then 0 else if decide (s.s0<s.s1) then 1 else 2:=by unfold Sk.leader;simp
 have HL:=hide hl;clear hl
 go_enter Tryz.func89,Tryz.ntmps89
 go_upto_region 0 with (fail)
 go_cut [1,2] (fun v1 v2 wx=>v1=ptr (w.heap.size)∧v2= .int .i64 0∧Bx w wx [(w.heap.size,aC s,39)])
 case first=>
  go_wp2;go_meet;exact ⟨rfl,rfl,Bx.of ((aG.nil w).new (by simp) (aC s) 39) _ rfl⟩
 case rest=>
  obtain ⟨rfl,rfl,hL⟩:=hcut;have axD:=(hL.get 0 rfl).cell (j:=1) rfl;have axK:=(hL.get 0 rfl).cell (j:=2) rfl
  rcases ha0:(decide (s.s1<s.s0)) with _ | _
  · rcases ha1:(decide (s.s0<s.s1)) with _ | _
    · go_wp2
      go_ret;exact ⟨aV (by rw [HL.out];simp only [ha0,ha1];rfl),hL.bw⟩
    · go_wp2
      go_ret;exact ⟨aV (by rw [HL.out];simp only [ha0,ha1];rfl),hL.bw⟩
  · go_wp2
    go_ret;exact ⟨aV (by rw [HL.out];simp only [ha0];rfl),hL.bw⟩
theorem BJ (c:Int) (hn:c.toNat<Sk.dX.length):Sk.iM c=Sk.dX[c.toNat]'hn:=by
 unfold Sk.iM
 rw [List.getD_eq_getElem?_getD,List.getElem?_eq_getElem hn]
 rfl
theorem xR (w:World):Calls Tryz.prog 52 #[] w fun e w'=>∃ G,e= .returned (.slice (some ⟨G,0,none⟩) 8 8)∧(∀ k (hk:k<Sk.dX.length),w'.cell? ⟨G,k,none⟩=some (.string (Sk.dX[k]'hk)))∧Below w.heap.size w w':=by
 refine (wH w).mono ?_
 rintro e w' ⟨rfl,rfl⟩
 refine ⟨_,rfl,fun k hk=>?_,(Below.refl _ _).alloc (Nat.le_refl _) _⟩;have h:=jK w 9 (Sk.dX.map Value.string) w.heap.size rfl k (.string (Sk.dX[k]'hk)) (by rw [List.getElem?_map,List.getElem?_eq_getElem hk];rfl)
 rwa [nV,Nat.zero_add] at h
theorem G6 (s:Sk.State) (e:En) (hc:0≤s.colour∧s.colour≤7) (w:World):Calls Tryz.prog 142 #[jE s,rU e] w fun e_ w'=>e_= .returned (.string (Sk.iD s e.x))∧Below w.heap.size w w':=by
 have hcn:s.colour.toNat<Sk.dX.length:=by show s.colour.toNat<8;omega
 have i1:0≤s.colour:=hc.1
 have i2:s.colour<8:=by omega
 have hon:Sk.iD s e.x=if (s.phase.toList == [114,101,100]) then Sk.bG else if (s.phase.toList == [99,111,108,111,117,114]) then e.x.called else Sk.dX[s.colour.toNat]'hcn:=by
  rw [fB,fB, ← BJ s.colour hcn]
  unfold Sk.iD
  simp only [decide_eq_true_eq]
 have VZ:=hide (fun W=>xR W)
 go_enter Tryz.func142,Tryz.ntmps142
 go_upto_region 0 with (fail)
 go_cut [2,3,4] (fun v2 v3 v4 wx=>v2=ptr (w.heap.size)∧v3=ptr (w.heap.size+1)∧v4= .string ⟨#[]⟩∧Bx w wx [(w.heap.size,aC s,39),(w.heap.size+1,dn e,85)])
 case first=>
  go_wp2;go_meet;exact ⟨rfl,rfl,rfl,Bx.of (((aG.nil w).new (by simp) (aC s) 39).new (by simp) (dn e) 85) _ rfl⟩
 case rest=>
  obtain ⟨rfl,rfl,rfl,hL⟩:=hcut;have k4:=(hL.get 0 rfl).cell (j:=4) rfl;have k1:=(hL.get 1 rfl).cell (j:=1) rfl
  rcases h1:(s.phase.toList == [114,101,100]) with _ | _
  rotate_left
  · have TR:=hide (show Sk.iD s e.x=Sk.bG by rw [hon,h1];rfl)
    clear hon;go_wp2;go_ret;exact ⟨by rw [TR.out];rfl,hL.bw⟩
  rcases h2:(s.phase.toList == [99,111,108,111,117,114]) with _ | _
  rotate_left
  · have TR:=hide (show Sk.iD s e.x=e.x.called by rw [hon,h1,h2];rfl)
    clear hon;go_wp2;go_ret;exact ⟨by rw [TR.out];rfl,hL.bw⟩
  have TR:=hide (show Sk.iD s e.x=Sk.dX[s.colour.toNat]'hcn by rw [hon,h1,h2];rfl);clear hon
  go_upto_region 6 with (fail)
  have hL:=hL.drew;refine wp_region_held_drew (S:=(fun w':World=>Bx w w' [(w.heap.size,aC s,39),(w.heap.size+1,dn e,85)]∧w'.cell? ⟨w.heap.size,6,none⟩=some (.int .i64 s.colour))) (by kernel_rfl) ?bg (fun hHeld=>?_)
  case bg=>exact ⟨hL,(hL.get 0 rfl).cell (j:=6) rfl⟩
  refine tk 1 ?_;refine tk 2 ?_;refine tr 0 fun K hK=>?_;go_simp
  (go_at_call 52;refine (VZ.out _).mono ?_;rintro e w6a ⟨G,rfl,hcell,AX⟩)
  have hL:=hL.call AX;have hci:=hcell s.colour.toNat hcn;refine hK.out _ _ ?Qq (fun hHeld=>?_)
  case Qq=>(exact ⟨hL,(hL.get 0 rfl).cell (j:=6) rfl⟩)
  clear hK K
  try simp only [Act.put,la,lz,ls]
  refine tk 3 ?_;refine tr 4 fun K hK=>?_;go_simp;refine hK.out _ _ ?BG (fun hHeld=>?_)
  case BG=>(exact ⟨hL,(hL.get 0 rfl).cell (j:=6) rfl⟩)
  clear hK K
  try simp only [Act.put,la,lz,ls]
  refine tk 5 ?_;refine wpAnyH_done (by kernel_rfl) ?_ _;go_wp2;go_ret;exact ⟨by rw [TR.out];rfl,hL.bw⟩
def WZ (w:World) (G:Nat) (g:Sk.Game) (s:Sk.State) (e:En):List (Nat × List Value × TypeId):=[(G,Sk.dX.map Value.string,9),(w.heap.size,bK g,28),(w.heap.size+1,aC s,39),(w.heap.size+2,dn e,85)]
theorem J3 (S:Nat→Prop) (g:Sk.Game) (s:Sk.State) (e:En) (w:World) (he:iL w S e):Calls Tryz.prog 141 #[lX g,jE s,rU e] w fun e_ w'=>e_= .returned (.bool (Sk.mZ g s e.x))∧Below w.heap.size w w':=by
 obtain ⟨p1,p2,p3⟩:=he.hits.bd;obtain ⟨p4,p5,p6⟩:=he.aF.bd
 go_enter Tryz.func141,Tryz.ntmps141
 go_upto_region 0 with (fail)
 go_cut [3,4,5,6] (fun v3 v4 v5 v6 wx=>v3=ptr (w.heap.size)∧v4=ptr (w.heap.size+1)∧v5=ptr (w.heap.size+2)∧v6= .bool false∧Bx w wx [(w.heap.size,bK g,28),(w.heap.size+1,aC s,39),(w.heap.size+2,dn e,85)])
 case first=>
  go_wp2;go_meet;exact ⟨rfl,rfl,rfl,rfl,Bx.of ((((aG.nil w).new (by simp) (bK g) 28).new (by simp) (aC s) 39).new (by simp) (dn e) 85) _ rfl⟩
 case rest=>
  obtain ⟨rfl,rfl,rfl,rfl,hL⟩:=hcut
  go_upto_region 1 with (fail)
  go_cut [7] from 11 to 12 (fun v7 wx=>∃ G,v7= .slice (some ⟨G,0,none⟩) 8 8∧Bx w wx (WZ w G g s e))
  case first=>
   go_wp2_with ((go_at_call 52;refine (wH _).mono ?_;rintro e1 w1 ⟨rfl,rfl⟩;have hL:=hL.add (Sk.dX.map Value.string) 9))
   go_meet;exact ⟨_,rfl,hL⟩
  case rest=>
   obtain ⟨G,rfl,hL⟩:=hcut;go_wp2
   go_loopw [8,9,10] (fun i _ _ wr=>∃ k:Nat,k≤8∧i= .int .i64 k∧Aside (∀ j:Nat,j<k→Sk.ZA g s e.x j=true)∧Bx w wr (WZ w G g s e)) (fun i _ _ _=>8 - (intOf i).toNat)
   case atStart=>exact ⟨0,by omega,rfl,hide (fun j h=>absurd h (by omega)),hL⟩
   case round=>
    obtain ⟨k,hk,rfl,hx,hL⟩:=hrel
    by_cases hlt:k<8
    · have hkb:k<Sk.dX.length:=hlt
      have hbk:Sk.iM (k:Int)=Sk.dX[k]'hkb:=BJ (k:Int) hkb;obtain ⟨b,hb⟩:∃ b,Sk.dX[k]'hkb=b:=⟨_,rfl⟩;rw [hb] at hbk;have Ed:=hide (show (Sk.dX.map Value.string)[k]? =some (.string b) by rw [List.getElem?_map,List.getElem?_eq_getElem hkb,hb];rfl);have hch:=fun W (h:Below w.heap.size w W)=>mY S e.A e.a e.x.hits b W (he.hits.below h);have hcp:=fun W (h:Below w.heap.size w W)=>mY S e.B e.b e.x.aF b W (he.aF.below h);have hc1:=uZ e.x.hits b;have hc2:=uZ e.x.aF b;obtain ⟨a,ha⟩:∃ a,Sk.ZA g s e.x (k:Int)=a:=⟨_,rfl⟩
      have hav:(!a)= !(Sk.ZA g s e.x (k:Int)):=by rw [ha]
      have HA:=hide ha
      unfold Sk.ZA at hav
      rw [hbk] at hav;obtain ⟨ch,h1⟩:∃ q,Sk.count e.x.hits b=q:=⟨_,rfl⟩;obtain ⟨cp,h2⟩:∃ q,Sk.count e.x.aF b=q:=⟨_,rfl⟩;rw [h1] at hch hc1 hav;rw [h2] at hcp hc2 hav;have HCH:=hide hch;have HCP:=hide hcp;have HAV:=hide hav
      have i1:(0:Int)≤(k:Int):=by omega
      have i2:(k:Int)<8:=by omega
      clear hch hcp ha hav hb hbk h1 h2;have kck:_=some (Value.string b):=(hL.get 0 rfl).cell (j:=k) Ed.out;have Zv:=(hL.get 3 rfl).cell (j:=2) rfl;have Ym:=(hL.get 3 rfl).cell (j:=3) rfl
      go_upto_region 5 with (fail)
      go_cut [9,10] from 12 to 32 (fun v9 v10 wx=>v9= .int .i64 ch∧v10= .int .i64 cp∧Bx w wx (WZ w G g s e))
      case first=>
       have hL:=hL.drew;refine wp_region_held_drew (S:=(fun w':World=>Bx w w' (WZ w G g s e)∧w'.cell? ⟨w.heap.size+2,2,none⟩=some (.slice e.A e.x.hits.length e.a)∧w'.cell? ⟨w.heap.size+2,3,none⟩=some (.slice e.B e.x.aF.length e.b)∧w'.cell? ⟨G,k,none⟩=some (.string b))) (by kernel_rfl) ?bg (fun hHeld=>?_)
       case bg=>exact ⟨hL,(hL.get 3 rfl).cell (j:=2) rfl,(hL.get 3 rfl).cell (j:=3) rfl,(hL.get 0 rfl).cell (j:=k) Ed.out⟩
       refine tk 0 ?_;refine tk 1 ?_;refine tk 2 ?_;refine tk 3 ?_;refine tk 4 ?_;refine tk 7 ?_;refine tk 8 ?_;refine tk 9 ?_;refine tk 10 ?_;refine tk 11 ?_;refine wpAnyH_ready (rs:=[5,12]) (by kernel_rfl) (by simp) ?_;refine AllReadyH.cons (o:=_) (ga rfl) (fun K hK=>?_) (AllReadyH.cons (o:=_) (ga rfl) (fun K hK=>?_) AllReadyH.nil)
       · go_simp
         refine hK.out _ _ ?QJ (fun hHeld=>?_)
         case QJ=>(exact ⟨hL,(hL.get 3 rfl).cell (j:=2) rfl,(hL.get 3 rfl).cell (j:=3) rfl,(hL.get 0 rfl).cell (j:=k) Ed.out⟩)
         clear hK K
         try simp only [Act.put,la,lz,ls]
         refine wpAnyH_ready (rs:=[6,12]) (by kernel_rfl) (by simp) ?_;refine AllReadyH.cons (o:=_) (ga rfl) (fun K hK=>?_) (AllReadyH.cons (o:=_) (ga rfl) (fun K hK=>?_) AllReadyH.nil)
         · go_simp
           (go_at_call 143;refine (HCH.out _ hL.bw).mono ?_;rintro e ZI ⟨rfl,rfl⟩)
           refine hK.out _ _ ?QN (fun hHeld=>?_)
           case QN=>(exact ⟨hL,(hL.get 3 rfl).cell (j:=2) rfl,(hL.get 3 rfl).cell (j:=3) rfl,(hL.get 0 rfl).cell (j:=k) Ed.out⟩)
           clear hK K
           try simp only [Act.put,la,lz,ls]
           refine tr 12 fun K hK=>?_;go_simp;refine hK.out _ _ ?MX (fun hHeld=>?_)
           case MX=>(exact ⟨hL,(hL.get 3 rfl).cell (j:=2) rfl,(hL.get 3 rfl).cell (j:=3) rfl,(hL.get 0 rfl).cell (j:=k) Ed.out⟩)
           clear hK K
           try simp only [Act.put,la,lz,ls]
           refine tr 13 fun K hK=>?_;go_simp
           (go_at_call 143;refine (HCP.out _ hL.bw).mono ?_;rintro e Lm ⟨rfl,rfl⟩)
           refine hK.out _ _ ?Nb (fun hHeld=>?_)
           case Nb=>(exact ⟨hL,(hL.get 3 rfl).cell (j:=2) rfl,(hL.get 3 rfl).cell (j:=3) rfl,(hL.get 0 rfl).cell (j:=k) Ed.out⟩)
           clear hK K
           try simp only [Act.put,la,lz,ls]
           refine tk 14 ?_;refine tk 15 ?_;refine wpAnyH_done (by kernel_rfl) ?_ _;go_wp2;go_meet;exact ⟨rfl,rfl,hL⟩
         · go_simp
           refine hK.out _ _ ?MZ (fun hHeld=>?_)
           case MZ=>(exact ⟨hL,(hL.get 3 rfl).cell (j:=2) rfl,(hL.get 3 rfl).cell (j:=3) rfl,(hL.get 0 rfl).cell (j:=k) Ed.out⟩)
           clear hK K
           try simp only [Act.put,la,lz,ls]
           refine tr 6 fun K hK=>?_;go_simp
           (go_at_call 143;refine (HCH.out _ hL.bw).mono ?_;rintro e ZI ⟨rfl,rfl⟩)
           refine hK.out _ _ ?QO (fun hHeld=>?_)
           case QO=>(exact ⟨hL,(hL.get 3 rfl).cell (j:=2) rfl,(hL.get 3 rfl).cell (j:=3) rfl,(hL.get 0 rfl).cell (j:=k) Ed.out⟩)
           clear hK K
           try simp only [Act.put,la,lz,ls]
           refine tr 13 fun K hK=>?_;go_simp
           (go_at_call 143;refine (HCP.out _ hL.bw).mono ?_;rintro e Lm ⟨rfl,rfl⟩)
           refine hK.out _ _ ?Nc (fun hHeld=>?_)
           case Nc=>(exact ⟨hL,(hL.get 3 rfl).cell (j:=2) rfl,(hL.get 3 rfl).cell (j:=3) rfl,(hL.get 0 rfl).cell (j:=k) Ed.out⟩)
           clear hK K
           try simp only [Act.put,la,lz,ls]
           refine tk 14 ?_;refine tk 15 ?_;refine wpAnyH_done (by kernel_rfl) ?_ _;go_wp2;go_meet;exact ⟨rfl,rfl,hL⟩
       · go_simp
         refine hK.out _ _ ?Na (fun hHeld=>?_)
         case Na=>(exact ⟨hL,(hL.get 3 rfl).cell (j:=2) rfl,(hL.get 3 rfl).cell (j:=3) rfl,(hL.get 0 rfl).cell (j:=k) Ed.out⟩)
         clear hK K
         try simp only [Act.put,la,lz,ls]
         refine tr 5 fun K hK=>?_;go_simp;refine hK.out _ _ ?QM (fun hHeld=>?_)
         case QM=>(exact ⟨hL,(hL.get 3 rfl).cell (j:=2) rfl,(hL.get 3 rfl).cell (j:=3) rfl,(hL.get 0 rfl).cell (j:=k) Ed.out⟩)
         clear hK K
         try simp only [Act.put,la,lz,ls]
         refine tr 6 fun K hK=>?_;go_simp
         (go_at_call 143;refine (HCH.out _ hL.bw).mono ?_;rintro e ZI ⟨rfl,rfl⟩)
         refine hK.out _ _ ?QS (fun hHeld=>?_)
         case QS=>(exact ⟨hL,(hL.get 3 rfl).cell (j:=2) rfl,(hL.get 3 rfl).cell (j:=3) rfl,(hL.get 0 rfl).cell (j:=k) Ed.out⟩)
         clear hK K
         try simp only [Act.put,la,lz,ls]
         refine tr 13 fun K hK=>?_;go_simp
         (go_at_call 143;refine (HCP.out _ hL.bw).mono ?_;rintro e Lm ⟨rfl,rfl⟩)
         refine hK.out _ _ ?Nh (fun hHeld=>?_)
         case Nh=>(exact ⟨hL,(hL.get 3 rfl).cell (j:=2) rfl,(hL.get 3 rfl).cell (j:=3) rfl,(hL.get 0 rfl).cell (j:=k) Ed.out⟩)
         clear hK K
         try simp only [Act.put,la,lz,ls]
         refine tk 14 ?_;refine tk 15 ?_;refine wpAnyH_done (by kernel_rfl) ?_ _;go_wp2;go_meet;exact ⟨rfl,rfl,hL⟩
      case rest=>
       obtain ⟨rfl,rfl,hL⟩:=hcut;clear kck Zv Ym;have kg:=(hL.get 1 rfl).cell (j:=0) rfl
       by_cases hg:g.kind=Sk.aK
       · have hg1:=wt hg
         have hg2:(g.kind.toList != [115,110,111,111,107,101,114])=false:=by rw [bne,hg1];rfl
         by_cases hk1:k=1
         · have hq:((k:Int) == 1)=true:=by simp [hk1]
           have HX:=hide (show (!a)=(decide (s.aY<cp) || (decide (0<ch) && (s.aY == 0))) by rw [HAV.out,if_neg (fun h=>h hg),if_pos (by omega)];rw [Bool.eq_iff_iff];simp);clear hg hk1;have kr:=(hL.get 2 rfl).cell (j:=5) rfl
           go_upto_region 12 with (fail)
           go_cut [85] from 71 to 86 (fun v85 wx=>v85= .bool (!a)∧Bx w wx (WZ w G g s e))
           case first=>
            rcases h1:decide (s.aY<cp) with _ | _
            · rcases h2:decide (0<ch) with _ | _
              · go_wp2
                go_meet;exact ⟨congrArg Value.bool (by rw [HX.out,h1,h2];rfl),hL⟩
              · go_wp2
                go_meet;exact ⟨congrArg Value.bool (by rw [HX.out,h1,h2];rfl),hL⟩
            · go_wp2
              go_meet;exact ⟨congrArg Value.bool (by rw [HX.out,h1];rfl),hL⟩
           case rest=>
            clear kr kg;obtain ⟨rfl,hL⟩:=hcut
            cases a
            · have HM:=hide (show Sk.mZ g s e.x=false by
               cases h:Sk.mZ g s e.x
               · rfl
               · have h2:=Sk.qM.1 h (k:Int) (by omega) (by omega)
                 rw [HA.out] at h2
                 cases h2)
              go_wp2;go_ret;exact ⟨aH HM.out.symm,hL.bw⟩
            · go_wp2
              go_roundw
              case rel=>
               exact ⟨k+1,by omega,by go_num,hide (fun j hj=>by
                rcases Nat.lt_or_ge j k with h | h
                · exact hx.out j h
                · have:j=k:=by omega
                  subst this
                  exact HA.out),hL⟩
              case measure=>simp [intOf];omega
         · have hq:((k:Int) == 1)=false:=by simp;omega
           have HX:=hide (show (!a)=(decide (1<cp) || ((decide (1<(k:Int)) && decide ((k:Int)<s.colour)) && decide (0<ch+cp))) by rw [HAV.out,if_neg (fun h=>h hg),if_neg (by omega)];rw [Bool.eq_iff_iff];simp [and_assoc]);clear hg hk1;have kr:=(hL.get 2 rfl).cell (j:=6) rfl
           go_upto_region 6 with (fail)
           go_cut [49] from 32 to 73 (fun v49 wx=>v49= .bool (!a)∧Bx w wx (WZ w G g s e))
           case first=>
            rcases h1:decide (1<cp) with _ | _
            · rcases h2:decide (1<(k:Int)) with _ | _
              · go_wp2
                go_meet;exact ⟨congrArg Value.bool (by rw [HX.out,h1,h2];rfl),hL⟩
              · rcases h3:decide ((k:Int)<s.colour) with _ | _
                · go_wp2
                  go_meet;exact ⟨congrArg Value.bool (by rw [HX.out,h1,h2,h3];rfl),hL⟩
                · go_wp2
                  go_meet;exact ⟨congrArg Value.bool (by rw [HX.out,h1,h2,h3];rfl),hL⟩
            · go_wp2
              go_meet;exact ⟨congrArg Value.bool (by rw [HX.out,h1];rfl),hL⟩
           case rest=>
            clear kr kg;obtain ⟨rfl,hL⟩:=hcut
            cases a
            · have HM:=hide (show Sk.mZ g s e.x=false by
               cases h:Sk.mZ g s e.x
               · rfl
               · have h2:=Sk.qM.1 h (k:Int) (by omega) (by omega)
                 rw [HA.out] at h2
                 cases h2)
              go_wp2;go_ret;exact ⟨aH HM.out.symm,hL.bw⟩
            · go_wp2
              go_roundw
              case rel=>
               exact ⟨k+1,by omega,by go_num,hide (fun j hj=>by
                rcases Nat.lt_or_ge j k with h | h
                · exact hx.out j h
                · have:j=k:=by omega
                  subst this
                  exact HA.out),hL⟩
              case measure=>simp [intOf];omega
       · have hg1:=wf hg
         have hg2:(g.kind.toList != [115,110,111,111,107,101,114])=true:=by rw [bne,hg1];rfl
         have HX:=hide (show (!a)=(decide (1<cp) || (decide (0<ch) && (b.toList == (Sk.mine s.turn).toList))) by rw [HAV.out,if_pos hg,xZ b];rw [Bool.eq_iff_iff];simp);clear hg
         go_upto_region 9 with (fail)
         go_cut [69] from 50 to 70 (fun v69 wx=>v69= .bool (!a)∧Bx w wx (WZ w G g s e))
         case first=>
          rcases h1:decide (1<cp) with _ | _
          · rcases h2:decide (0<ch) with _ | _
            · go_quiet (fail)
              go_wp2;go_meet;exact ⟨congrArg Value.bool (by rw [HX.out,h1,h2];rfl),hL.drewN nq⟩
            · have kck:_=some (Value.string b):=(hL.get 0 rfl).cell (j:=k) Ed.out
              have kt:=(hL.get 2 rfl).cell (j:=0) rfl;have hL:=hL.drew;refine wp_region_held_drew (S:=(fun w':World=>Bx w w' (WZ w G g s e)∧w'.cell? ⟨G,k,none⟩=some (.string b)∧w'.cell? ⟨w.heap.size+1,0,none⟩=some (.int .i64 s.turn))) (by kernel_rfl) ?bV (fun hHeld=>?_)
              case bV=>exact ⟨hL,(hL.get 0 rfl).cell (j:=k) Ed.out,(hL.get 2 rfl).cell (j:=0) rfl⟩
              refine tk 0 ?_;refine tk 1 ?_;refine tk 2 ?_;refine tk 3 ?_;refine tk 4 ?_;refine tk 5 ?_;refine tk 6 ?_;refine tk 7 ?_;refine tk 8 ?_;refine tk 10 ?_;refine tk 11 ?_;refine wpAnyH_ready (rs:=[9,12]) (by kernel_rfl) (by simp) ?_;refine AllReadyH.cons (o:=_) (ga rfl) (fun K hK=>?_) (AllReadyH.cons (o:=_) (ga rfl) (fun K hK=>?_) AllReadyH.nil)
              · go_simp
                refine hK.out _ _ ?Rj (fun hHeld=>?_)
                case Rj=>(exact ⟨hL,(hL.get 0 rfl).cell (j:=k) Ed.out,(hL.get 2 rfl).cell (j:=0) rfl⟩)
                clear hK K
                try simp only [Act.put,la,lz,ls]
                refine tr 12 fun K hK=>?_;go_simp
                (go_at_call 96;refine (jZ s.turn _).mono ?_;rintro e w9a ⟨rfl,rfl⟩)
                refine hK.out _ _ ?Ns (fun hHeld=>?_)
                case Ns=>(exact ⟨hL,(hL.get 0 rfl).cell (j:=k) Ed.out,(hL.get 2 rfl).cell (j:=0) rfl⟩)
                clear hK K
                try simp only [Act.put,la,lz,ls]
                refine tk 13 ?_;refine tk 14 ?_;refine tk 15 ?_;refine wpAnyH_done (by kernel_rfl) ?_ _;go_wp2;go_meet;exact ⟨congrArg Value.bool (by rw [HX.out,h1,h2];rfl),hL⟩
              · go_simp
                (go_at_call 96;refine (jZ s.turn _).mono ?_;rintro e w9a ⟨rfl,rfl⟩)
                refine hK.out _ _ ?Nu (fun hHeld=>?_)
                case Nu=>(exact ⟨hL,(hL.get 0 rfl).cell (j:=k) Ed.out,(hL.get 2 rfl).cell (j:=0) rfl⟩)
                clear hK K
                try simp only [Act.put,la,lz,ls]
                refine tr 9 fun K hK=>?_;go_simp;refine hK.out _ _ ?Rk (fun hHeld=>?_)
                case Rk=>(exact ⟨hL,(hL.get 0 rfl).cell (j:=k) Ed.out,(hL.get 2 rfl).cell (j:=0) rfl⟩)
                clear hK K
                try simp only [Act.put,la,lz,ls]
                refine tk 13 ?_;refine tk 14 ?_;refine tk 15 ?_;refine wpAnyH_done (by kernel_rfl) ?_ _;go_wp2;go_meet;exact ⟨congrArg Value.bool (by rw [HX.out,h1,h2];rfl),hL⟩
          · go_quiet (fail)
            go_wp2;go_meet;exact ⟨congrArg Value.bool (by rw [HX.out,h1];rfl),hL.drewN nq⟩
         case rest=>
          clear kg;obtain ⟨rfl,hL⟩:=hcut
          cases a
          · have HM:=hide (show Sk.mZ g s e.x=false by
             cases h:Sk.mZ g s e.x
             · rfl
             · have h2:=Sk.qM.1 h (k:Int) (by omega) (by omega)
               rw [HA.out] at h2
               cases h2)
            go_wp2;go_ret;exact ⟨aH HM.out.symm,hL.bw⟩
          · go_wp2
            go_roundw
            case rel=>
             exact ⟨k+1,by omega,by go_num,hide (fun j hj=>by
              rcases Nat.lt_or_ge j k with h | h
              · exact hx.out j h
              · have:j=k:=by omega
                subst this
                exact HA.out),hL⟩
            case measure=>simp [intOf];omega
    · have HM:=hide (show Sk.mZ g s e.x=true from Sk.qM.2 (fun n h0 h7=>by
       have h:=hx.out n.toNat (by omega)
       rwa [show ((n.toNat:Nat):Int)=n by omega] at h))
      clear hx;go_wp2;go_ret;exact ⟨aH HM.out.symm,hL.bw⟩
theorem uy (S:Nat→Prop) (s:Sk.State) (ht:s.turn=0∨s.turn=1) (e:En) (w:World) (he:iL w S e):Calls Tryz.prog 85 #[jE s,rU e] w fun e_ w'=>e_= .returned (.bool (Sk.ql s e.x))∧Below w.heap.size w w':=by
 have hw1:IntKind.i64.wrap (1 - s.turn)=1 - s.turn:=by rw [IntKind.wrap_i64];omega
 have hc:Sk.ql s e.x=(Sk.has e.x.hits (Sk.mine (1 - s.turn)) && Sk.has e.x.hits Sk.bG):=by
  unfold Sk.ql
  rw [Bool.eq_iff_iff]
  simp
 have hm:=fun (W:World) (hb:Below w.heap.size w W)=>gZ S _ _ _ (Sk.mine (1 - s.turn)) W (he.hits.below hb)
 go_enter Tryz.func85,Tryz.ntmps85
 go_upto_region 0 with (fail)
 go_cut [2,3,4] (fun v2 v3 v4 wx=>v2=ptr (w.heap.size)∧v3=ptr (w.heap.size+1)∧v4= .bool false∧Bx w wx [(w.heap.size,aC s,39),(w.heap.size+1,dn e,85)])
 case first=>
  go_wp2;go_meet;exact ⟨rfl,rfl,rfl,Bx.of (((aG.nil w).new (by simp) (aC s) 39).new (by simp) (dn e) 85) _ rfl⟩
 case rest=>
  obtain ⟨rfl,rfl,rfl,hL⟩:=hcut;obtain ⟨b,hb⟩:∃ q,Sk.has e.x.hits (Sk.mine (1 - s.turn))=q:=⟨_,rfl⟩;rw [hb] at hc hm;have HC:=hide hc;have HM:=hide hm;clear hc hm hb
  cases b
  · go_upto_region 1 with (fail)
    have hL:=hL.drew;refine wp_region_held_drew (S:=(fun w':World=>Bx w w' [(w.heap.size,aC s,39),(w.heap.size+1,dn e,85)]∧w'.cell? ⟨w.heap.size,0,none⟩=some (.int .i64 s.turn)∧w'.cell? ⟨w.heap.size+1,2,none⟩=some (.slice e.A e.x.hits.length e.a))) (by kernel_rfl) ?bg (fun hHeld=>?_)
    case bg=>exact ⟨hL,(hL.get 0 rfl).cell (j:=0) rfl,(hL.get 1 rfl).cell (j:=2) rfl⟩
    refine tk 0 ?_;refine tk 1 ?_;refine tk 2 ?_;refine tk 3 ?_;refine tk 4 ?_;refine tr 5 fun K hK=>?_;go_simp
    (go_at_call 96;refine (jZ (1 - s.turn) _).mono ?_;rintro e Zb ⟨rfl,rfl⟩)
    refine hK.out _ _ ?GY (fun hHeld=>?_)
    case GY=>(exact ⟨hL,(hL.get 0 rfl).cell (j:=0) rfl,(hL.get 1 rfl).cell (j:=2) rfl⟩)
    clear hK K
    try simp only [Act.put,la,lz,ls]
    refine tr 6 fun K hK=>?_;go_simp
    (go_at_call 129;refine (HM.out _ hL.bw).mono ?_;rintro e W9 ⟨rfl,rfl⟩)
    refine hK.out _ _ ?GZ (fun hHeld=>?_)
    case GZ=>(exact ⟨hL,(hL.get 0 rfl).cell (j:=0) rfl,(hL.get 1 rfl).cell (j:=2) rfl⟩)
    clear hK K
    try simp only [Act.put,la,lz,ls]
    refine tk 7 ?_;refine tu 8 ?_;refine tu 9 ?_;refine tu 10 ?_;refine tk 11 ?_;refine tk 12 ?_;refine wpAnyH_done (by kernel_rfl) ?_ _;go_wp2;go_ret;exact ⟨aH (by rw [HC.out];simp),hL.bw⟩
  · go_upto_region 1 with (fail)
    have hL:=hL.drew;refine wp_region_held_drew (S:=(fun w':World=>Bx w w' [(w.heap.size,aC s,39),(w.heap.size+1,dn e,85)]∧w'.cell? ⟨w.heap.size,0,none⟩=some (.int .i64 s.turn)∧w'.cell? ⟨w.heap.size+1,2,none⟩=some (.slice e.A e.x.hits.length e.a))) (by kernel_rfl) ?bV (fun hHeld=>?_)
    case bV=>exact ⟨hL,(hL.get 0 rfl).cell (j:=0) rfl,(hL.get 1 rfl).cell (j:=2) rfl⟩
    refine tk 0 ?_;refine tk 1 ?_;refine tk 2 ?_;refine tk 3 ?_;refine tk 4 ?_;refine tr 5 fun K hK=>?_;go_simp
    (go_at_call 96;refine (jZ (1 - s.turn) _).mono ?_;rintro e Zb ⟨rfl,rfl⟩)
    refine hK.out _ _ ?agM (fun hHeld=>?_)
    case agM=>(exact ⟨hL,(hL.get 0 rfl).cell (j:=0) rfl,(hL.get 1 rfl).cell (j:=2) rfl⟩)
    clear hK K
    try simp only [Act.put,la,lz,ls]
    refine tr 6 fun K hK=>?_;go_simp
    (go_at_call 129;refine (HM.out _ hL.bw).mono ?_;rintro e W9 ⟨rfl,rfl⟩)
    refine hK.out _ _ ?xQ (fun hHeld=>?_)
    case xQ=>(exact ⟨hL,(hL.get 0 rfl).cell (j:=0) rfl,(hL.get 1 rfl).cell (j:=2) rfl⟩)
    clear hK K
    try simp only [Act.put,la,lz,ls]
    refine tk 7 ?_;refine tk 8 ?_;refine tk 9 ?_;refine tr 10 fun K hK=>?_;go_simp
    (go_at_call 129;refine (gZ S _ _ _ Sk.bG _ (he.hits.below hL.bw)).mono ?_;rintro e ZH ⟨rfl,rfl⟩)
    refine hK.out _ _ ?wG (fun hHeld=>?_)
    case wG=>(exact ⟨hL,(hL.get 0 rfl).cell (j:=0) rfl,(hL.get 1 rfl).cell (j:=2) rfl⟩)
    clear hK K
    try simp only [Act.put,la,lz,ls]
    refine tk 11 ?_;refine tk 12 ?_;refine wpAnyH_done (by kernel_rfl) ?_ _;go_wp2;go_ret;exact ⟨aH (by rw [HC.out];simp),hL.bw⟩
theorem fP:(Tryz.prog.info? 91).map (·.size)=some 4:=by kernel_rfl
def Eh (w:World) (s:Sk.State) (x:Sk.Entry) (PA:Option Addr) (pa:Nat) (PB:Option Addr) (pb:Nat):List (Nat × List Value × TypeId):=[(w.heap.size,aC s,39),(w.heap.size+1,dn ⟨x,PA,pa,PB,pb⟩,85),(w.heap.size+2,dV ⟨0,0,0,false⟩,91)]
theorem SC (S:Nat→Prop) (s:Sk.State) (ht:s.turn=0∨s.turn=1) (e:En) (w:World) (he:iL w S e):Calls Tryz.prog 84 #[jE s,rU e] w fun e_ w'=>e_= .returned (FD (Sk.bC s e.x))∧Below w.heap.size w w':=by
 obtain ⟨x,PA,pa,PB,pb⟩:=e;obtain ⟨p1,p2,p3⟩:=he.hits.bd;obtain ⟨p4,p5,p6⟩:=he.aF.bd
 dsimp only at p1 p2 p3 p4 p5 p6
 have hcn:=fun (W:World) (hb:Below w.heap.size w W)=>uy S s ht ⟨x,PA,pa,PB,pb⟩ W (he.below hb)
 dsimp only at hcn
 obtain ⟨yc,wC⟩:∃ q,Sk.ql s x=q:=⟨_,rfl⟩;rw [wC] at hcn;have yj:=hide hcn;have Ku:=hide ((Sk.yC ht x).symm.trans wC);clear hcn wC
 show Calls _ _ _ _ fun e_ w'=>e_= .returned (FD (Sk.bC s x))∧_
 go_enter Tryz.func84,Tryz.ntmps84
 go_upto_region 0 with (fail)
 go_cut [2,3,4] (fun v2 v3 v4 wx=>v2=ptr (w.heap.size)∧v3=ptr (w.heap.size+1)∧v4=ptr (w.heap.size+2)∧Bx w wx (Eh w s x PA pa PB pb))
 case first=>
  go_wp2;go_meet;exact ⟨rfl,rfl,rfl,Bx.of ((((aG.nil w).new (by simp) (aC s) 39).new (by simp) (dn ⟨x,PA,pa,PB,pb⟩) 85).new (by simp) (dV ⟨0,0,0,false⟩) 91) _ rfl⟩
 case rest=>
  obtain ⟨rfl,rfl,rfl,hL⟩:=hcut;have k2:=(hL.get 1 rfl).cell (j:=2) rfl;have k3:=(hL.get 1 rfl).cell (j:=3) rfl;have k9:=(hL.get 0 rfl).cell (j:=9) rfl
  by_cases hn:x.hits=[]
  · have hn1:((x.hits.length:Int) == 0)=true:=by simp [hn]
    have HM:=hide (show Sk.bC s x=⟨0,1,2,false⟩ by unfold Sk.bC;rw [if_pos hn]);clear hn;have hZ:=hL.tail.tail.put (dV ⟨0,1,2,false⟩) rfl
    go_wp2_with (first | ((with_reducible refine isS 91 4 12 ?_);refine fU (hL.get 2 rfl) (dV ⟨0,1,2,false⟩) fP (fZ _) ?_))
    refine bodyPost_ret (aI (p:=4) (hZ.get 0 rfl) Tryz.underlying91 rfl fP rfl _ rfl) rfl ⟨?_,hZ.bw⟩;rw [HM.out];rfl
  · have hpos:0<x.hits.length:=List.length_pos_iff.2 hn
    have hn1:((x.hits.length:Int) == 0)=false:=by simp [hn]
    have HN:=hide hn;obtain ⟨st,hst⟩:∃ q,lK s x=q:=⟨_,rfl⟩
    have hs3:st=(decide (0<x.aF.length) && (!yc && (s.aO == 5))):=by
     rw [← hst]
     unfold lK
     rw [Ku.out,Bool.eq_iff_iff]
     simp [← List.length_pos_iff]
    have ZQ:=hide hs3;have HST:=hide hst;clear hn hs3 hst
    go_upto_region 3 with (fail)
    go_cut [27] from 8 to 28 (fun v27 wx=>v27= .bool st∧Bx w wx (Eh w s x PA pa PB pb))
    case first=>
     rcases h1:decide (0<x.aF.length) with _ | _
     all_goals have h1i:=(show decide (0<(x.aF.length:Int))=_ from (by simp:decide (0<(x.aF.length:Int))=decide (0<x.aF.length)).trans h1)
     · go_wp2
       go_meet;exact ⟨congrArg _ (by rw [ZQ.out,h1];rfl),hL⟩
     · cases yc
       · rcases h2:(s.aO == 5) with _ | _
         all_goals
          go_wp2_with (first | ((with_reducible refine bJ 39 2 ?_);refine ig (hL.rn 0 0 (aC s)) Tryz.underlying39 aJ ?_) | ((with_reducible refine iy 39 2 ?_);refine kP (hL.rn 0 0 (aC s)) Tryz.underlying39 aJ ?_) | ((with_reducible refine bJ 85 3 ?_);refine ig (hL.rn 1 0 (dn ⟨x,PA,pa,PB,pb⟩)) Tryz.underlying85 fE ?_) | ((with_reducible refine iy 85 3 ?_);refine kP (hL.rn 1 0 (dn ⟨x,PA,pa,PB,pb⟩)) Tryz.underlying85 fE ?_) | (go_at_call 85;refine (yj.out _ hL.bw).mono ?_;rintro e1 w1 ⟨rfl,hb1⟩;have hL:=hL.call hb1;have k2:=(hL.get 1 rfl).cell (j:=2) rfl;have k3:=(hL.get 1 rfl).cell (j:=3) rfl;have k9:=(hL.get 0 rfl).cell (j:=9) rfl))
          go_meet;exact ⟨congrArg _ (by rw [ZQ.out,h1,h2];rfl),hL⟩
       · go_wp2_with (first | ((with_reducible refine bJ 39 2 ?_);refine ig (hL.rn 0 0 (aC s)) Tryz.underlying39 aJ ?_) | ((with_reducible refine iy 39 2 ?_);refine kP (hL.rn 0 0 (aC s)) Tryz.underlying39 aJ ?_) | ((with_reducible refine bJ 85 3 ?_);refine ig (hL.rn 1 0 (dn ⟨x,PA,pa,PB,pb⟩)) Tryz.underlying85 fE ?_) | ((with_reducible refine iy 85 3 ?_);refine kP (hL.rn 1 0 (dn ⟨x,PA,pa,PB,pb⟩)) Tryz.underlying85 fE ?_) | (go_at_call 85;refine (yj.out _ hL.bw).mono ?_;rintro e1 w1 ⟨rfl,hb1⟩;have hL:=hL.call hb1;have k2:=(hL.get 1 rfl).cell (j:=2) rfl;have k3:=(hL.get 1 rfl).cell (j:=3) rfl;have k9:=(hL.get 0 rfl).cell (j:=9) rfl))
         go_meet;exact ⟨congrArg _ (by rw [ZQ.out,h1];rfl),hL⟩
    case rest=>
     obtain ⟨rfl,hL⟩:=hcut;clear k2 k3 k9
     cases st
     rotate_left
     · have HM:=hide (show Sk.bC s x=⟨0,5,2,false⟩ by have h:=HST.out;unfold Sk.bC;rw [if_neg HN.out,if_pos (by unfold lK at h;simpa using h)])
       have hZ:=hL.tail.tail.put (dV ⟨0,5,2,false⟩) rfl
       go_wp2_with (first | ((with_reducible refine isS 91 4 28 ?_);refine fU (hL.get 2 rfl) (dV ⟨0,5,2,false⟩) fP (fZ _) ?_))
       refine bodyPost_ret (aI (p:=4) (hZ.get 0 rfl) Tryz.underlying91 rfl fP rfl _ rfl) rfl ⟨?_,hZ.bw⟩;rw [HM.out];rfl
     go_upto_if 31 with (first | ((with_reducible refine bJ 39 2 ?_);refine ig (hL.rn 0 0 (aC s)) Tryz.underlying39 aJ ?_) | ((with_reducible refine bJ 85 3 ?_);refine ig (hL.rn 1 0 (dn ⟨x,PA,pa,PB,pb⟩)) Tryz.underlying85 fE ?_) | (go_at_call 85;refine (yj.out _ hL.bw).mono ?_;rintro e1 w1 ⟨rfl,hb1⟩;have hL:=hL.call hb1;have k2:=(hL.get 1 rfl).cell (j:=2) rfl;have k3:=(hL.get 1 rfl).cell (j:=3) rfl;have k9:=(hL.get 0 rfl).cell (j:=9) rfl))
     go_cut [5] from 28 to 32 (fun v5 wx=>v5= .int .i64 (if yc=true then 2 else 0)∧Bx w wx (Eh w s x PA pa PB pb))
     case first=>
      cases yc
      all_goals
       go_wp2;go_meet;exact ⟨rfl,hL⟩
     case rest=>
      obtain ⟨rfl,hL⟩:=hcut;obtain ⟨b0,o0,hA0,_,EH,hcc⟩:=he.hits.at_ 0 hpos;have h00:=hcc 0 hpos;rw [Nat.add_zero] at h00;have hhd:=xC hpos;obtain ⟨h0,hh0⟩:∃ h,x.hits[0]=h:=⟨_,rfl⟩;rw [hh0] at h00 hhd;have Oo:=hide (And.intro EH h00);have Uf:=hide hhd;obtain rfl:PA=some ⟨b0,o0,none⟩:=hA0;clear EH h00 hhd hh0 hcc;obtain ⟨m0,hm0⟩:∃ m:Int,(if yc=true then 2 else 0)=m:=⟨_,rfl⟩;have Ot:=hide hm0
      have hm2:0≤m0∧m0≤2:=by rw [← hm0];split <;> omega
      rw [hm0];clear hm0;go_wp2
      go_loopw [5,6,7] (fun v5 i _ wr=>∃ (k:Nat) (m:Int),k≤x.aF.length∧i= .int .i64 k∧v5= .int .i64 m∧Aside (Sk.bW s x=Sk.lT s x m (x.aF.drop k))∧0≤m∧m≤2+3*k∧Bx w wr (Eh w s x (some ⟨b0,o0,none⟩) pa PB pb)) (fun _ i _ _=>x.aF.length - (intOf i).toNat)
      case atStart=>exact ⟨0,m0,Nat.zero_le _,rfl,rfl,by show _=_;unfold Sk.bW;rw [Ku.out,show (if yc=true then (2:Int) else 0)=m0 from Ot.out];rfl,by omega,by omega,hL⟩
      case round=>
       obtain ⟨k,m,hk,rfl,rfl,hx,hm0,hm1,hL⟩:=hrel;have k3:=(hL.get 1 rfl).cell (j:=3) rfl
       by_cases hlt:k<x.aF.length
       · have hst:=BD s x hlt m
         obtain ⟨bp,op,hB,_,hbp,hcp⟩:=he.aF.at_ k hlt;have hck:=(hL.bw.cell (p:=⟨bp,op+k,none⟩) hbp).trans (hcp k hlt);obtain rfl:PB=some ⟨bp,op,none⟩:=hB;have k2:=(hL.get 1 rfl).cell (j:=2) rfl;have k00:=(hL.bw.cell (p:=⟨b0,o0,none⟩) Oo.out.1).trans Oo.out.2;have k0:=(hL.get 0 rfl).cell (j:=0) rfl;replace hck:=(show _=some (Value.string x.aF[k]) from hck);obtain ⟨b,hb⟩:∃ b,x.aF[k]=b:=⟨_,rfl⟩;rw [hb] at hck hst;obtain ⟨b3,hb3⟩:∃ q,((b.toList == [114,101,100]) || ((b.toList == (Sk.mine s.turn).toList) && (h0.toList == [114,101,100])))=q:=⟨_,rfl⟩
         have hst2:Sk.bW s x=Sk.lT s x (m+(if b3=true then 3 else 2)) (x.aF.drop (k+1)):=by
          have h1:=hx.out;rw [h1,hst, ← hb3,Uf.out,(Sk.uK ht).2,xZ b (Sk.own s),fB b [114,101,100],fB h0 [114,101,100]]
          congr 2
          simp only [Bool.or_eq_true,Bool.and_eq_true,decide_eq_true_eq]
         have HX:=hide hst2;have HB3:=hide hb3;clear hst hst2 hb hcp hx hb3
         go_upto_region 11 with (fail)
         go_cut [7] from 32 to 63 (fun v7 wx=>v7= .bool b3∧Bx w wx (Eh w s x (some ⟨b0,o0,none⟩) pa (some ⟨bp,op,none⟩) pb))
         case first=>
          rcases h1:(b.toList == [114,101,100]) with _ | _
          · rcases h2:(b.toList == (Sk.mine s.turn).toList) with _ | _
            · clear k3 k2 k0
              have hL:=hL.drew;refine wp_region_held_drew (S:=(fun w':World=>Bx w w' (Eh w s x (some ⟨b0,o0,none⟩) pa (some ⟨bp,op,none⟩) pb)∧w'.cell? ⟨w.heap.size+1,3,none⟩=some (.slice (some ⟨bp,op,none⟩) x.aF.length pb)∧w'.cell? ⟨w.heap.size,0,none⟩=some (.int .i64 s.turn)∧w'.cell? ⟨w.heap.size+1,2,none⟩=some (.slice (some ⟨b0,o0,none⟩) x.hits.length pa))) (by kernel_rfl) ?bg (fun hHeld=>?_)
              case bg=>exact ⟨hL,(hL.get 1 rfl).cell (j:=3) rfl,(hL.get 0 rfl).cell (j:=0) rfl,(hL.get 1 rfl).cell (j:=2) rfl⟩
              refine tk 0 ?_;refine tk 1 ?_;refine tk 2 ?_;refine tk 3 ?_;refine tr 4 fun K hK=>?_;go_simp;refine hK.out _ _ ?BG (fun hHeld=>?_)
              case BG=>(exact ⟨hL,(hL.get 1 rfl).cell (j:=3) rfl,(hL.get 0 rfl).cell (j:=0) rfl,(hL.get 1 rfl).cell (j:=2) rfl⟩)
              clear hK K
              try simp only [Act.put,la,lz,ls]
              refine tk 5 ?_;refine tk 6 ?_;refine tk 7 ?_;refine tk 8 ?_;refine tk 9 ?_;refine tk 10 ?_;refine tk 12 ?_;refine tk 13 ?_;refine wpAnyH_ready (rs:=[11,14]) (by kernel_rfl) (by simp) ?_;refine AllReadyH.cons (o:=_) (ga rfl) (fun K hK=>?_) (AllReadyH.cons (o:=_) (ga rfl) (fun K hK=>?_) AllReadyH.nil)
              · go_simp
                refine hK.out _ _ ?MV (fun hHeld=>?_)
                case MV=>(exact ⟨hL,(hL.get 1 rfl).cell (j:=3) rfl,(hL.get 0 rfl).cell (j:=0) rfl,(hL.get 1 rfl).cell (j:=2) rfl⟩)
                clear hK K
                try simp only [Act.put,la,lz,ls]
                refine tr 14 fun K hK=>?_;go_simp
                (go_at_call 96;refine (jZ s.turn _).mono ?_;rintro e Kq ⟨rfl,rfl⟩)
                refine hK.out _ _ ?Nj (fun hHeld=>?_)
                case Nj=>(exact ⟨hL,(hL.get 1 rfl).cell (j:=3) rfl,(hL.get 0 rfl).cell (j:=0) rfl,(hL.get 1 rfl).cell (j:=2) rfl⟩)
                clear hK K
                try simp only [Act.put,la,lz,ls]
                refine tk 15 ?_;refine tk 16 ?_;refine tu 17 ?_;refine tu 18 ?_;refine tu 19 ?_;refine tr 20 fun K hK=>?_;go_simp;refine hK.out _ _ ?Nl (fun hHeld=>?_)
                case Nl=>(exact ⟨hL,(hL.get 1 rfl).cell (j:=3) rfl,(hL.get 0 rfl).cell (j:=0) rfl,(hL.get 1 rfl).cell (j:=2) rfl⟩)
                clear hK K
                try simp only [Act.put,la,lz,ls]
                refine tu 21 ?_;refine tk 22 ?_;refine tk 23 ?_;refine tk 24 ?_;refine wpAnyH_done (by kernel_rfl) ?_ _;go_wp2;go_meet;exact ⟨congrArg Value.bool (by rw [← HB3.out,h1,h2];rfl),hL⟩
              · go_simp
                (go_at_call 96;refine (jZ s.turn _).mono ?_;rintro e Kq ⟨rfl,rfl⟩)
                refine hK.out _ _ ?Nk (fun hHeld=>?_)
                case Nk=>(exact ⟨hL,(hL.get 1 rfl).cell (j:=3) rfl,(hL.get 0 rfl).cell (j:=0) rfl,(hL.get 1 rfl).cell (j:=2) rfl⟩)
                clear hK K
                try simp only [Act.put,la,lz,ls]
                refine tr 11 fun K hK=>?_;go_simp;refine hK.out _ _ ?MW (fun hHeld=>?_)
                case MW=>(exact ⟨hL,(hL.get 1 rfl).cell (j:=3) rfl,(hL.get 0 rfl).cell (j:=0) rfl,(hL.get 1 rfl).cell (j:=2) rfl⟩)
                clear hK K
                try simp only [Act.put,la,lz,ls]
                refine tk 15 ?_;refine tk 16 ?_;refine tu 17 ?_;refine tu 18 ?_;refine tu 19 ?_;refine tr 20 fun K hK=>?_;go_simp;refine hK.out _ _ ?Np (fun hHeld=>?_)
                case Np=>(exact ⟨hL,(hL.get 1 rfl).cell (j:=3) rfl,(hL.get 0 rfl).cell (j:=0) rfl,(hL.get 1 rfl).cell (j:=2) rfl⟩)
                clear hK K
                try simp only [Act.put,la,lz,ls]
                refine tu 21 ?_;refine tk 22 ?_;refine tk 23 ?_;refine tk 24 ?_;refine wpAnyH_done (by kernel_rfl) ?_ _;go_wp2;go_meet;exact ⟨congrArg Value.bool (by rw [← HB3.out,h1,h2];rfl),hL⟩
            · rcases h3:(h0.toList == [114,101,100]) with _ | _
              · clear k3 k2 k0
                have hL:=hL.drew;refine wp_region_held_drew (S:=(fun w':World=>Bx w w' (Eh w s x (some ⟨b0,o0,none⟩) pa (some ⟨bp,op,none⟩) pb)∧w'.cell? ⟨w.heap.size+1,3,none⟩=some (.slice (some ⟨bp,op,none⟩) x.aF.length pb)∧w'.cell? ⟨w.heap.size,0,none⟩=some (.int .i64 s.turn)∧w'.cell? ⟨w.heap.size+1,2,none⟩=some (.slice (some ⟨b0,o0,none⟩) x.hits.length pa))) (by kernel_rfl) ?bV (fun hHeld=>?_)
                case bV=>exact ⟨hL,(hL.get 1 rfl).cell (j:=3) rfl,(hL.get 0 rfl).cell (j:=0) rfl,(hL.get 1 rfl).cell (j:=2) rfl⟩
                refine tk 0 ?_;refine tk 1 ?_;refine tk 2 ?_;refine tk 3 ?_;refine tr 4 fun K hK=>?_;go_simp;refine hK.out _ _ ?G5 (fun hHeld=>?_)
                case G5=>(exact ⟨hL,(hL.get 1 rfl).cell (j:=3) rfl,(hL.get 0 rfl).cell (j:=0) rfl,(hL.get 1 rfl).cell (j:=2) rfl⟩)
                clear hK K
                try simp only [Act.put,la,lz,ls]
                refine tk 5 ?_;refine tk 6 ?_;refine tk 7 ?_;refine tk 8 ?_;refine tk 9 ?_;refine tk 10 ?_;refine tk 12 ?_;refine tk 13 ?_;refine wpAnyH_ready (rs:=[11,14]) (by kernel_rfl) (by simp) ?_;refine AllReadyH.cons (o:=_) (ga rfl) (fun K hK=>?_) (AllReadyH.cons (o:=_) (ga rfl) (fun K hK=>?_) AllReadyH.nil)
                · go_simp
                  refine hK.out _ _ ?Nq (fun hHeld=>?_)
                  case Nq=>(exact ⟨hL,(hL.get 1 rfl).cell (j:=3) rfl,(hL.get 0 rfl).cell (j:=0) rfl,(hL.get 1 rfl).cell (j:=2) rfl⟩)
                  clear hK K
                  try simp only [Act.put,la,lz,ls]
                  refine tr 14 fun K hK=>?_;go_simp
                  (go_at_call 96;refine (jZ s.turn _).mono ?_;rintro e Kq ⟨rfl,rfl⟩)
                  refine hK.out _ _ ?Nv (fun hHeld=>?_)
                  case Nv=>(exact ⟨hL,(hL.get 1 rfl).cell (j:=3) rfl,(hL.get 0 rfl).cell (j:=0) rfl,(hL.get 1 rfl).cell (j:=2) rfl⟩)
                  clear hK K
                  try simp only [Act.put,la,lz,ls]
                  refine tk 15 ?_;refine tk 16 ?_;refine tk 17 ?_;refine tk 18 ?_;refine tk 19 ?_;refine tr 20 fun K hK=>?_;go_simp;refine hK.out _ _ ?Ny (fun hHeld=>?_)
                  case Ny=>(exact ⟨hL,(hL.get 1 rfl).cell (j:=3) rfl,(hL.get 0 rfl).cell (j:=0) rfl,(hL.get 1 rfl).cell (j:=2) rfl⟩)
                  clear hK K
                  try simp only [Act.put,la,lz,ls]
                  refine tk 21 ?_;refine tk 22 ?_;refine tk 23 ?_;refine tk 24 ?_;refine wpAnyH_done (by kernel_rfl) ?_ _;go_wp2;go_meet;exact ⟨congrArg Value.bool (by rw [← HB3.out,h1,h2,h3];rfl),hL⟩
                · go_simp
                  (go_at_call 96;refine (jZ s.turn _).mono ?_;rintro e Kq ⟨rfl,rfl⟩)
                  refine hK.out _ _ ?Nw (fun hHeld=>?_)
                  case Nw=>(exact ⟨hL,(hL.get 1 rfl).cell (j:=3) rfl,(hL.get 0 rfl).cell (j:=0) rfl,(hL.get 1 rfl).cell (j:=2) rfl⟩)
                  clear hK K
                  try simp only [Act.put,la,lz,ls]
                  refine tr 11 fun K hK=>?_;go_simp;refine hK.out _ _ ?Nr (fun hHeld=>?_)
                  case Nr=>(exact ⟨hL,(hL.get 1 rfl).cell (j:=3) rfl,(hL.get 0 rfl).cell (j:=0) rfl,(hL.get 1 rfl).cell (j:=2) rfl⟩)
                  clear hK K
                  try simp only [Act.put,la,lz,ls]
                  refine tk 15 ?_;refine tk 16 ?_;refine tk 17 ?_;refine tk 18 ?_;refine tk 19 ?_;refine tr 20 fun K hK=>?_;go_simp;refine hK.out _ _ ?Nz (fun hHeld=>?_)
                  case Nz=>(exact ⟨hL,(hL.get 1 rfl).cell (j:=3) rfl,(hL.get 0 rfl).cell (j:=0) rfl,(hL.get 1 rfl).cell (j:=2) rfl⟩)
                  clear hK K
                  try simp only [Act.put,la,lz,ls]
                  refine tk 21 ?_;refine tk 22 ?_;refine tk 23 ?_;refine tk 24 ?_;refine wpAnyH_done (by kernel_rfl) ?_ _;go_wp2;go_meet;exact ⟨congrArg Value.bool (by rw [← HB3.out,h1,h2,h3];rfl),hL⟩
              · clear k3 k2 k0
                have hL:=hL.drew;refine wp_region_held_drew (S:=(fun w':World=>Bx w w' (Eh w s x (some ⟨b0,o0,none⟩) pa (some ⟨bp,op,none⟩) pb)∧w'.cell? ⟨w.heap.size+1,3,none⟩=some (.slice (some ⟨bp,op,none⟩) x.aF.length pb)∧w'.cell? ⟨w.heap.size,0,none⟩=some (.int .i64 s.turn)∧w'.cell? ⟨w.heap.size+1,2,none⟩=some (.slice (some ⟨b0,o0,none⟩) x.hits.length pa))) (by kernel_rfl) ?dJ (fun hHeld=>?_)
                case dJ=>exact ⟨hL,(hL.get 1 rfl).cell (j:=3) rfl,(hL.get 0 rfl).cell (j:=0) rfl,(hL.get 1 rfl).cell (j:=2) rfl⟩
                refine tk 0 ?_;refine tk 1 ?_;refine tk 2 ?_;refine tk 3 ?_;refine tr 4 fun K hK=>?_;go_simp;refine hK.out _ _ ?Rn (fun hHeld=>?_)
                case Rn=>(exact ⟨hL,(hL.get 1 rfl).cell (j:=3) rfl,(hL.get 0 rfl).cell (j:=0) rfl,(hL.get 1 rfl).cell (j:=2) rfl⟩)
                clear hK K
                try simp only [Act.put,la,lz,ls]
                refine tk 5 ?_;refine tk 6 ?_;refine tk 7 ?_;refine tk 8 ?_;refine tk 9 ?_;refine tk 10 ?_;refine tk 12 ?_;refine tk 13 ?_;refine wpAnyH_ready (rs:=[11,14]) (by kernel_rfl) (by simp) ?_;refine AllReadyH.cons (o:=_) (ga rfl) (fun K hK=>?_) (AllReadyH.cons (o:=_) (ga rfl) (fun K hK=>?_) AllReadyH.nil)
                · go_simp
                  refine hK.out _ _ ?NC (fun hHeld=>?_)
                  case NC=>(exact ⟨hL,(hL.get 1 rfl).cell (j:=3) rfl,(hL.get 0 rfl).cell (j:=0) rfl,(hL.get 1 rfl).cell (j:=2) rfl⟩)
                  clear hK K
                  try simp only [Act.put,la,lz,ls]
                  refine tr 14 fun K hK=>?_;go_simp
                  (go_at_call 96;refine (jZ s.turn _).mono ?_;rintro e Kq ⟨rfl,rfl⟩)
                  refine hK.out _ _ ?NG (fun hHeld=>?_)
                  case NG=>(exact ⟨hL,(hL.get 1 rfl).cell (j:=3) rfl,(hL.get 0 rfl).cell (j:=0) rfl,(hL.get 1 rfl).cell (j:=2) rfl⟩)
                  clear hK K
                  try simp only [Act.put,la,lz,ls]
                  refine tk 15 ?_;refine tk 16 ?_;refine tk 17 ?_;refine tk 18 ?_;refine tk 19 ?_;refine tr 20 fun K hK=>?_;go_simp;refine hK.out _ _ ?NI (fun hHeld=>?_)
                  case NI=>(exact ⟨hL,(hL.get 1 rfl).cell (j:=3) rfl,(hL.get 0 rfl).cell (j:=0) rfl,(hL.get 1 rfl).cell (j:=2) rfl⟩)
                  clear hK K
                  try simp only [Act.put,la,lz,ls]
                  refine tk 21 ?_;refine tk 22 ?_;refine tk 23 ?_;refine tk 24 ?_;refine wpAnyH_done (by kernel_rfl) ?_ _;go_wp2;go_meet;exact ⟨congrArg Value.bool (by rw [← HB3.out,h1,h2,h3];rfl),hL⟩
                · go_simp
                  (go_at_call 96;refine (jZ s.turn _).mono ?_;rintro e Kq ⟨rfl,rfl⟩)
                  refine hK.out _ _ ?NH (fun hHeld=>?_)
                  case NH=>(exact ⟨hL,(hL.get 1 rfl).cell (j:=3) rfl,(hL.get 0 rfl).cell (j:=0) rfl,(hL.get 1 rfl).cell (j:=2) rfl⟩)
                  clear hK K
                  try simp only [Act.put,la,lz,ls]
                  refine tr 11 fun K hK=>?_;go_simp;refine hK.out _ _ ?ND (fun hHeld=>?_)
                  case ND=>(exact ⟨hL,(hL.get 1 rfl).cell (j:=3) rfl,(hL.get 0 rfl).cell (j:=0) rfl,(hL.get 1 rfl).cell (j:=2) rfl⟩)
                  clear hK K
                  try simp only [Act.put,la,lz,ls]
                  refine tk 15 ?_;refine tk 16 ?_;refine tk 17 ?_;refine tk 18 ?_;refine tk 19 ?_;refine tr 20 fun K hK=>?_;go_simp;refine hK.out _ _ ?NJ (fun hHeld=>?_)
                  case NJ=>(exact ⟨hL,(hL.get 1 rfl).cell (j:=3) rfl,(hL.get 0 rfl).cell (j:=0) rfl,(hL.get 1 rfl).cell (j:=2) rfl⟩)
                  clear hK K
                  try simp only [Act.put,la,lz,ls]
                  refine tk 21 ?_;refine tk 22 ?_;refine tk 23 ?_;refine tk 24 ?_;refine wpAnyH_done (by kernel_rfl) ?_ _;go_wp2;go_meet;exact ⟨congrArg Value.bool (by rw [← HB3.out,h1,h2,h3];rfl),hL⟩
          · clear k3 k2 k0
            have hL:=hL.drew;refine wp_region_held_drew (S:=(fun w':World=>Bx w w' (Eh w s x (some ⟨b0,o0,none⟩) pa (some ⟨bp,op,none⟩) pb)∧w'.cell? ⟨w.heap.size+1,3,none⟩=some (.slice (some ⟨bp,op,none⟩) x.aF.length pb)∧w'.cell? ⟨w.heap.size,0,none⟩=some (.int .i64 s.turn)∧w'.cell? ⟨w.heap.size+1,2,none⟩=some (.slice (some ⟨b0,o0,none⟩) x.hits.length pa))) (by kernel_rfl) ?gW (fun hHeld=>?_)
            case gW=>exact ⟨hL,(hL.get 1 rfl).cell (j:=3) rfl,(hL.get 0 rfl).cell (j:=0) rfl,(hL.get 1 rfl).cell (j:=2) rfl⟩
            refine tk 0 ?_;refine tk 1 ?_;refine tk 2 ?_;refine tk 3 ?_;refine tr 4 fun K hK=>?_;go_simp;refine hK.out _ _ ?Ro (fun hHeld=>?_)
            case Ro=>(exact ⟨hL,(hL.get 1 rfl).cell (j:=3) rfl,(hL.get 0 rfl).cell (j:=0) rfl,(hL.get 1 rfl).cell (j:=2) rfl⟩)
            clear hK K
            try simp only [Act.put,la,lz,ls]
            refine tk 5 ?_;refine tk 6 ?_;refine tu 7 ?_;refine tu 8 ?_;refine tu 9 ?_;refine tu 10 ?_;refine tu 12 ?_;refine tu 13 ?_;refine tu 14 ?_;refine tr 11 fun K hK=>?_;go_simp;refine hK.out _ _ ?YD (fun hHeld=>?_)
            case YD=>(exact ⟨hL,(hL.get 1 rfl).cell (j:=3) rfl,(hL.get 0 rfl).cell (j:=0) rfl,(hL.get 1 rfl).cell (j:=2) rfl⟩)
            clear hK K
            try simp only [Act.put,la,lz,ls]
            refine tu 15 ?_;refine tu 16 ?_;refine tu 17 ?_;refine tu 18 ?_;refine tu 19 ?_;refine tr 20 fun K hK=>?_;go_simp;refine hK.out _ _ ?YI (fun hHeld=>?_)
            case YI=>(exact ⟨hL,(hL.get 1 rfl).cell (j:=3) rfl,(hL.get 0 rfl).cell (j:=0) rfl,(hL.get 1 rfl).cell (j:=2) rfl⟩)
            clear hK K
            try simp only [Act.put,la,lz,ls]
            refine tu 21 ?_;refine tu 22 ?_;refine tk 23 ?_;refine tk 24 ?_;refine wpAnyH_done (by kernel_rfl) ?_ _;go_wp2;go_meet;exact ⟨congrArg Value.bool (by rw [← HB3.out,h1];rfl),hL⟩
         case rest=>
          obtain ⟨rfl,hL⟩:=hcut;clear k2 k3 k0 k00 hck;have hx2:=HX.out
          cases b3
          · have HQ:=hide (show Sk.bW s x=Sk.lT s x (m+2) (x.aF.drop (k+1)) from hx2)
            clear hx2;go_wp2
            go_roundw
            case rel=>exact ⟨k+1,m+2,by omega,by go_num,by go_num,HQ,by omega,by omega,hL⟩
            case measure=>simp [intOf];omega
          · have HQ:=hide (show Sk.bW s x=Sk.lT s x (m+3) (x.aF.drop (k+1)) from hx2)
            clear hx2;go_wp2
            go_roundw
            case rel=>exact ⟨k+1,m+3,by omega,by go_num,by go_num,HQ,by omega,by omega,hL⟩
            case measure=>simp [intOf];omega
       · have hz:=hx.out
         rw [List.drop_of_length_le (by omega),Sk.lT] at hz;have HM:=hide (show Sk.bC s x=⟨m,0,0,decide (0<m)⟩ by unfold Sk.bC;rw [if_neg HN.out,if_neg (by have h:=HST.out;unfold lK at h;simpa using h),hz]);clear hz hx;have hZ:=hL.tail.tail.put (dV ⟨m,0,0,decide (0<m)⟩) rfl
         go_wp2_with (first | ((with_reducible refine isS 91 4 71 ?_);refine fU (hL.get 2 rfl) (dV ⟨m,0,0,decide (0<m)⟩) fP (fZ _) ?_))
         refine bodyPost_ret (aI (p:=4) (hZ.get 0 rfl) Tryz.underlying91 rfl fP rfl _ rfl) rfl ⟨?_,hZ.bw⟩;rw [HM.out];rfl
def Ce (w:World) (s:Sk.State) (e:En):List (Nat × List Value × TypeId):=[(w.heap.size,aC s,39),(w.heap.size+1,dn e,85),(w.heap.size+2,dV ⟨0,0,0,false⟩,91)]
theorem JY (S:Nat→Prop) (s:Sk.State) (e:En) (hc:0≤s.colour∧s.colour≤7) (w:World) (he:iL w S e):Calls Tryz.prog 83 #[jE s,rU e] w fun e_ w'=>e_= .returned (FD (Sk.pO s e.x))∧Below w.heap.size w w':=by
 obtain ⟨p1,p2,p3⟩:=he.hits.bd;obtain ⟨p4,p5,p6⟩:=he.aF.bd;have XU:=fun W=>G6 s e hc W;obtain ⟨on,hon⟩:∃ q,Sk.iD s e.x=q:=⟨_,rfl⟩;rw [hon] at XU;have HBO:=hide XU;have TR:=hide hon;obtain ⟨aim,abn⟩:∃ q,Sk.JO s e.x=q:=⟨_,rfl⟩;have Lp:=hide abn;clear XU hon abn
 go_enter Tryz.func83,Tryz.ntmps83
 go_upto_region 0 with (fail)
 go_cut [2,3,4] (fun v2 v3 v4 wx=>v2=ptr (w.heap.size)∧v3=ptr (w.heap.size+1)∧v4=ptr (w.heap.size+2)∧Bx w wx (Ce w s e))
 case first=>
  go_wp2;go_meet;exact ⟨rfl,rfl,rfl,Bx.of ((((aG.nil w).new (by simp) (aC s) 39).new (by simp) (dn e) 85).new (by simp) (dV ⟨0,0,0,false⟩) 91) _ rfl⟩
 case rest=>
  obtain ⟨rfl,rfl,rfl,hL⟩:=hcut
  go_upto_region 1 with (fail)
  go_cut [5] from 12 to 15 (fun v5 wx=>v5= .string on∧Bx w wx (Ce w s e))
  case first=>
   go_wp2_with (first | ((with_reducible refine bJ 39 2 ?_);refine ig (hL.rn 0 0 (aC s)) Tryz.underlying39 aJ ?_) | ((with_reducible refine bJ 85 3 ?_);refine ig (hL.rn 1 0 (dn e)) Tryz.underlying85 fE ?_) | (go_at_call 142;refine (HBO.out _).mono ?_;rintro e1 w1 ⟨rfl,hb1⟩;have hL:=hL.call hb1))
   go_meet;exact ⟨rfl,hL⟩
  case rest=>
   obtain ⟨rfl,hL⟩:=hcut;have Jq:=(hL.get 1 rfl).cell (j:=1) rfl;obtain ⟨bn,hbn⟩:∃ q,e.x.called.toList.isEmpty=q:=⟨_,rfl⟩
   go_upto_if 18 with (fail)
   go_cut [6] from 15 to 19 (fun v6 wx=>v6= .string aim∧Bx w wx (Ce w s e))
   case first=>
    cases bn
    · have hne:¬ e.x.called=Sk.bU:=fun h=>by rw [ZM h] at hbn;cases hbn
      have hq:e.x.called=aim:=by rw [← Lp.out];unfold Sk.JO;rw [if_neg hne]
      have HQ:=hide hq;clear hq hne hbn;go_wp2;go_meet;exact ⟨congrArg _ HQ.out,hL⟩
    · have hne:e.x.called=Sk.bU:=by
       by_cases h:e.x.called=Sk.bU
       · exact h
       · rw [ZL h] at hbn;cases hbn
      have hq:on=aim:=by rw [← Lp.out, ← TR.out];unfold Sk.JO;rw [if_pos hne]
      have HQ:=hide hq;clear hq hne hbn;go_wp2;go_meet;exact ⟨congrArg _ HQ.out,hL⟩
   case rest=>
    obtain ⟨rfl,hL⟩:=hcut;clear hbn Jq;obtain ⟨m0,hm0⟩:∃ q,max 4 (Sk.value on)=q:=⟨_,rfl⟩;have Ot:=hide hm0;clear hm0
    go_upto_region 5 with (fail)
    go_cut [7,8] from 19 to 23 (fun v7 v8 wx=>v7= .int .i64 0∧v8= .int .i64 m0∧Bx w wx (Ce w s e))
    case first=>
     go_wp2_with (first | (go_at_call 55;refine (fV _ _).mono ?_;rintro e1 w2 ⟨rfl,hb2⟩;have hL:=hL.call hb2))
     all_goals
      go_meet;exact ⟨rfl,congrArg _ (by rw [← Ot.out];omega),hL⟩
    case rest=>
     obtain ⟨rfl,rfl,hL⟩:=hcut;obtain ⟨⟨F1,M1⟩,hP⟩:∃ q,Sk.kY s e.x 0 m0 e.x.aF=q:=⟨_,rfl⟩;have HP:=hide hP;clear hP
     go_upto_block 0 with (fail)
     go_cut [7,8] from 23 to 63 (fun v7 v8 wx=>v7= .int .i64 F1∧v8= .int .i64 M1∧Bx w wx (Ce w s e))
     case first=>
      have hpo:=he.aF;obtain ⟨PB,Pj⟩:∃ A,e.B=A:=⟨_,rfl⟩;rw [Pj] at hpo;have HPB:=hide Pj;clear Pj;go_wp2
      go_loopw [7,8,9] (fun v7 v8 i wr=>∃ (k:Nat) (f m:Int),k≤e.x.aF.length∧i= .int .i64 k∧v7= .int .i64 f∧v8= .int .i64 m∧Aside (Sk.kY s e.x f m (e.x.aF.drop k)=(F1,M1))∧Bx w wr (Ce w s e)) (fun _ _ i _=>e.x.aF.length - (intOf i).toNat)
      case atStart=>exact ⟨0,0,m0,Nat.zero_le _,rfl,rfl,rfl,hide HP.out,hL⟩
      case round=>
       obtain ⟨k,f,m,hk,rfl,rfl,rfl,hx,hL⟩:=hrel;have Jr:=((hL.get 1 rfl).cell (j:=3) rfl).trans (by rw [HPB.out]:_=some (.slice PB e.x.aF.length e.b))
       by_cases hlt:k<e.x.aF.length
       · have hst:=hx.out
         rw [List.drop_eq_getElem_cons hlt,Sk.kY] at hst;obtain ⟨bp,op,rfl,_,hbp,hcp⟩:=hpo.at_ k hlt;have hck:=(hL.bw.cell (p:=⟨bp,op+k,none⟩) hbp).trans (hcp k hlt);have Jq:=(hL.get 1 rfl).cell (j:=1) rfl;obtain ⟨b,hb⟩:∃ b,e.x.aF[k]=b:=⟨_,rfl⟩;rw [hb] at hck hst;obtain ⟨bo,XU⟩:∃ q,Sk.sK s e.x b=q:=⟨_,rfl⟩;rw [XU] at hst;have HST:=hide hst
         have hbv:bo=(!(b.toList == on.toList) && (!(b.toList == e.x.called.toList) && !(b.toList == [119,104,105,116,101]))):=by rw [← XU,xZ b on,xZ b e.x.called,fB b [119,104,105,116,101], ← TR.out];unfold Sk.sK;simp
         have HBV:=hide hbv;have qJ:=hide (show w.cell? ⟨bp,op+k,none⟩=some (.string b) from (hcp k hlt).trans (by rw [hb]));clear hst hb hcp hx XU hbv
         go_upto_region 9 with (fail)
         go_cut [54] from 30 to 55 (fun v54 wx=>v54= .bool bo∧Bx w wx (Ce w s e))
         case first=>
          rcases ha0:((b.toList == on.toList)) with _ | _
          · rcases ha1:((b.toList == e.x.called.toList)) with _ | _
            · rcases ha2:((b.toList == [119,104,105,116,101])) with _ | _
              · go_wp2
                go_quiet (fail)
                go_wp2;go_meet;exact ⟨congrArg Value.bool (by rw [HBV.out];simp [ha0,ha1,ha2]),hL.drewN nq⟩
              · go_wp2
                go_quiet (fail)
                go_wp2;go_meet;exact ⟨congrArg Value.bool (by rw [HBV.out];simp [ha0,ha1,ha2]),hL.drewN nq⟩
            · go_wp2
              go_quiet (fail)
              go_wp2;go_meet;exact ⟨congrArg Value.bool (by rw [HBV.out];simp [ha0,ha1]),hL.drewN nq⟩
          · go_wp2
            go_quiet (fail)
            go_wp2;go_meet;exact ⟨congrArg Value.bool (by rw [HBV.out];simp [ha0]),hL.drewN nq⟩
         case rest=>
          obtain ⟨rfl,hL⟩:=hcut;have Jr:=((hL.get 1 rfl).cell (j:=3) rfl).trans (by rw [HPB.out]:_=some (.slice (some ⟨bp,op,none⟩) e.x.aF.length e.b));have hck:=(hL.bw.cell (p:=⟨bp,op+k,none⟩) hbp).trans qJ.out;clear Jq
          cases bo
          · go_wp2
            go_roundw
            case rel=>exact ⟨k+1,f,m,by omega,by go_num,rfl,rfl,hide (by have h:=HST.out;simpa using h),hL⟩
            case measure=>simp [intOf];omega
          · go_wp2_with (first | (go_at_call 55;refine (fV _ _).mono ?_;rintro e1 w3 ⟨rfl,hb3⟩;have hL:=hL.call hb3))
            all_goals
             go_roundw
             case rel=>exact ⟨k+1,4,max m (Sk.value b),by omega,by go_num,rfl,congrArg _ (by omega),hide (by have h:=HST.out;simpa using h),hL⟩
             case measure=>simp [intOf];omega
       · have hz:=hx.out
         rw [List.drop_of_length_le (by omega),Sk.kY] at hz;have HZ:=hide hz;clear hz hx;go_wp2;go_meet;exact ⟨congrArg _ (congrArg Prod.fst HZ.out),congrArg _ (congrArg Prod.snd HZ.out),hL⟩
     case rest=>
      obtain ⟨rfl,rfl,hL⟩:=hcut
      have XH:Sk.kY s e.x 0 (max 4 (Sk.value (Sk.iD s e.x))) e.x.aF=(F1,M1):=by rw [TR.out,Ot.out];exact HP.out
      obtain ⟨hw,XZ⟩:∃ q,Sk.has e.x.aF Sk.bf=q:=⟨_,rfl⟩;obtain ⟨F2,hF2⟩:∃ q:Int,(if hw=true then 3 else F1)=q:=⟨_,rfl⟩
      have hWW:Sk.E8 s e.x=F2:=by unfold Sk.E8;rw [XH,XZ, ← hF2]
      have HHW:=hide XZ;have HF2:=hide hF2;have HWW:=hide hWW;have HPP:=hide XH;have Jr:=(hL.get 1 rfl).cell (j:=3) rfl;clear XH XZ hF2 hWW
      go_upto_if 65 with (first | (go_at_call 129;refine (gZ S _ _ _ Sk.bf _ (he.aF.below hL.bw)).mono ?_;rw [HHW.out];rintro e1 w4 ⟨rfl,rfl⟩))
      go_cut [7] from 63 to 66 (fun v7 wx=>v7= .int .i64 F2∧Bx w wx (Ce w s e))
      case first=>
       cases hw
       · have HQ:=hide (show F1=F2 from HF2.out)
         go_wp2;go_meet;exact ⟨congrArg _ HQ.out,hL⟩
       · have HQ:=hide (show (3:Int)=F2 from HF2.out)
         go_wp2;go_meet;exact ⟨congrArg _ HQ.out,hL⟩
      case rest=>
       obtain ⟨rfl,hL⟩:=hcut;clear Jr;have Vm:=(hL.get 1 rfl).cell (j:=2) rfl;obtain ⟨bz,hbz⟩:∃ q,((e.x.hits.length:Int) == 0)=q:=⟨_,rfl⟩;obtain ⟨F,hF⟩:∃ q,Sk.zC s e.x=q:=⟨_,rfl⟩;obtain ⟨PN,hPN⟩:∃ q,Sk.Dt s e.x=q:=⟨_,rfl⟩;have HF:=hide hF;have HPN:=hide hPN;clear hF hPN
       go_upto_if 69 with (fail)
       go_cut [7,8] from 66 to 83 (fun v7 v8 wx=>v7= .int .i64 F∧v8= .int .i64 PN∧Bx w wx (Ce w s e))
       case first=>
        cases bz
        · have hpos:0<e.x.hits.length:=by have:=hbz;simp at this;exact List.length_pos_iff.2 this
          have hne:¬ e.x.hits=[]:=List.length_pos_iff.1 hpos;obtain ⟨b0,o0,hA0,_,EH,hcc⟩:=he.hits.at_ 0 hpos;have h00:=(hL.bw.cell (p:=⟨b0,o0+0,none⟩) EH).trans (hcc 0 hpos);rw [Nat.add_zero] at h00;have hhd:=xC hpos;obtain ⟨h0,hh0⟩:∃ h,e.x.hits[0]=h:=⟨_,rfl⟩;rw [hh0] at h00 hhd;have k2a:=Vm.trans (by rw [hA0]:_=some (.slice (some ⟨b0,o0,none⟩) e.x.hits.length e.a))
          have i1:(0:Int)<(e.x.hits.length:Int):=by omega
          rcases hq:(h0.toList == aim.toList) with _ | _
          · have hna:¬ h0=aim:=fun h=>by subst h;simp at hq
            have HQ:=hide (show (2:Int)=F from by rw [← HF.out];unfold Sk.zC;rw [if_neg hne,hhd,if_pos (by rw [Lp.out];exact hna)]);have HR:=hide (show max M1 (Sk.value h0)=PN from by rw [← HPN.out];unfold Sk.Dt;rw [if_neg hne,hhd,if_pos (by rw [Lp.out];exact hna),HPP.out]);clear hne hhd hh0 hcc hA0 hna hbz Vm hpos
            go_wp2_with (first | (go_at_call 55;refine (fV _ _).mono ?_;rintro e1 w5 ⟨rfl,hb5⟩;have hL:=hL.call hb5))
            all_goals
             go_meet;exact ⟨congrArg _ HQ.out,congrArg _ (by rw [← HR.out];omega),hL⟩
          · have hna:h0=aim:=by rw [xZ] at hq;exact of_decide_eq_true hq
            have HQ:=hide (show F2=F from by rw [← HF.out, ← HWW.out];unfold Sk.zC;rw [if_neg hne,hhd,if_neg (by rw [Lp.out];exact fun h=>h hna)]);have HR:=hide (show M1=PN from by rw [← HPN.out];unfold Sk.Dt;rw [if_neg hne,hhd,if_neg (by rw [Lp.out];exact fun h=>h hna),HPP.out]);clear hne hhd hh0 hcc hA0 hna hbz Vm hpos;go_wp2;go_meet;exact ⟨congrArg _ HQ.out,congrArg _ HR.out,hL⟩
        · have hnil:e.x.hits=[]:=by have:=hbz;simp at this;exact this
          have HQ:=hide (show (1:Int)=F from by rw [← HF.out];unfold Sk.zC;rw [if_pos hnil]);have HR:=hide (show M1=PN from by rw [← HPN.out];unfold Sk.Dt;rw [if_pos hnil,HPP.out]);clear hnil hbz;go_wp2;go_meet;exact ⟨congrArg _ HQ.out,congrArg _ HR.out,hL⟩
       case rest=>
        obtain ⟨rfl,rfl,hL⟩:=hcut;clear Vm hbz
        by_cases hf:0<F
        · have hd:decide (0<F)=true:=decide_eq_true hf
          have HM:=hide (show Sk.pO s e.x=⟨0,F,PN,false⟩ by unfold Sk.pO;rw [HF.out,if_pos hf,HPN.out]);clear hf;have hZ:=hL.tail.tail.put (dV ⟨0,F,PN,false⟩) rfl
          go_wp2_with (first | ((with_reducible refine isS 91 4 87 ?_);refine fU (hL.get 2 rfl) (dV ⟨0,F,PN,false⟩) fP (fZ _) ?_))
          refine bodyPost_ret (aI (p:=4) (hZ.get 0 rfl) Tryz.underlying91 rfl fP rfl _ rfl) rfl ⟨?_,hZ.bw⟩;rw [HM.out];rfl
        · have hd:decide (0<F)=false:=decide_eq_false hf
          obtain ⟨P,hP⟩:∃ q,Sk.oK s e.x=q:=⟨_,rfl⟩;have HM:=hide (show Sk.pO s e.x=⟨P,0,0,decide (0<P)⟩ by unfold Sk.pO;rw [HF.out,if_neg hf,hP]);have HPT:=hide hP;obtain ⟨cl,hcl⟩:∃ q,Sk.called e.x=q:=⟨_,rfl⟩;have Kt:=hide hcl;obtain ⟨hb,hhb⟩:∃ q,Sk.has e.x.aF e.x.called=q:=⟨_,rfl⟩;have HHB:=hide hhb;obtain ⟨ho,hho⟩:∃ q,Sk.has e.x.aF on=q:=⟨_,rfl⟩;have V4:=hide hho;obtain ⟨cn,hcn⟩:∃ q,Sk.count e.x.aF Sk.bG=q:=⟨_,rfl⟩;have hcu:=Sk.FQ e.x.aF Sk.bG
          have hc0:0≤Sk.count e.x.aF Sk.bG:=by unfold Sk.count;omega
          rw [hcn] at hcu hc0;have yj:=hide hcn;clear hf hP hcl hhb hho hcn;have Jq:=(hL.get 1 rfl).cell (j:=1) rfl;have Jr:=(hL.get 1 rfl).cell (j:=3) rfl
          go_upto_region 20 with (fail)
          go_cut [11] from 88 to 98 (fun v11 wx=>v11= .bool cl∧Bx w wx (Ce w s e))
          case first=>
           rcases hie:e.x.called.toList.isEmpty with _ | _
           · have hne:¬ e.x.called=Sk.bU:=fun h=>by rw [ZM h] at hie;cases hie
             have HQ:=hide (show hb=cl by rw [← Kt.out, ← HHB.out];unfold Sk.called;simp [hne]);clear hne
             go_wp2_with (first | (go_at_call 129;refine (gZ S _ _ _ e.x.called _ (he.aF.below hL.bw)).mono ?_;rw [HHB.out];rintro e1 w6 ⟨rfl,rfl⟩))
             go_meet;exact ⟨congrArg _ HQ.out,hL⟩
           · have hne:e.x.called=Sk.bU:=by
              by_cases h:e.x.called=Sk.bU
              · exact h
              · rw [ZL h] at hie;cases hie
             have HQ:=hide (show false=cl by rw [← Kt.out];unfold Sk.called;simp [hne]);clear hne
             go_wp2_with (first | (go_at_call 129;refine (gZ S _ _ _ e.x.called _ (he.aF.below hL.bw)).mono ?_;rw [HHB.out];rintro e1 w6 ⟨rfl,rfl⟩))
             go_meet;exact ⟨congrArg _ HQ.out,hL⟩
          case rest=>
           obtain ⟨rfl,hL⟩:=hcut;clear Jq Jr;have afl:=(hL.get 0 rfl).cell (j:=4) rfl;have Md:=(hL.get 0 rfl).cell (j:=6) rfl;have Jq:=(hL.get 1 rfl).cell (j:=1) rfl;have Jr:=(hL.get 1 rfl).cell (j:=3) rfl
           go_upto_block 2 with (fail)
           go_cut [10] from 100 to 123 (fun v10 wx=>v10= .int .i64 P∧Bx w wx (Ce w s e))
           case first=>
            have KL:P=if (s.phase.toList == [114,101,100])=true then (if cl=true then cn+1 else cn) else if (s.phase.toList == [99,111,108,111,117,114])=true then (if cl=true then Sk.value e.x.called else 0) else if cl=true∨ho=true then s.colour else 0:=by
             rw [← HPT.out,fB,fB, ← Kt.out, ← yj.out, ← V4.out, ← TR.out]
             unfold Sk.oK
             simp only [decide_eq_true_eq]
            rcases hr:(s.phase.toList == [114,101,100]) with _ | _
            · rcases hco:(s.phase.toList == [99,111,108,111,117,114]) with _ | _
              · cases cl
                · cases ho
                  · have HQ:=hide (show (0:Int)=P by rw [KL,hr,hco];simp)
                    clear KL
                    go_wp2_with (first | (go_at_call 129;refine (gZ S _ _ _ on _ (he.aF.below hL.bw)).mono ?_;rw [V4.out];rintro e1 w7 ⟨rfl,rfl⟩))
                    go_meet;exact ⟨congrArg _ HQ.out,hL⟩
                  · have HQ:=hide (show s.colour=P by rw [KL,hr,hco];simp)
                    clear KL
                    go_wp2_with (first | (go_at_call 129;refine (gZ S _ _ _ on _ (he.aF.below hL.bw)).mono ?_;rw [V4.out];rintro e1 w7 ⟨rfl,rfl⟩))
                    go_meet;exact ⟨congrArg _ HQ.out,hL⟩
                · have HQ:=hide (show s.colour=P by rw [KL,hr,hco];simp)
                  clear KL
                  go_wp2_with (first | (go_at_call 129;refine (gZ S _ _ _ on _ (he.aF.below hL.bw)).mono ?_;rw [V4.out];rintro e1 w7 ⟨rfl,rfl⟩))
                  go_meet;exact ⟨congrArg _ HQ.out,hL⟩
              · cases cl
                · have HQ:=hide (show (0:Int)=P by rw [KL,hr,hco];simp)
                  clear KL;go_wp2;go_meet;exact ⟨congrArg _ HQ.out,hL⟩
                · have HQ:=hide (show Sk.value e.x.called=P by rw [KL,hr,hco];simp)
                  clear KL
                  go_wp2_with (first | (go_at_call 55;refine (fV _ _).mono ?_;rintro e1 w8 ⟨rfl,hb8⟩;have hL:=hL.call hb8))
                  go_meet;exact ⟨congrArg _ HQ.out,hL⟩
            · cases cl
              · have HQ:=hide (show cn=P by rw [KL,hr];simp)
                clear KL
                go_wp2_with (first | (go_at_call 143;refine (mY S _ _ _ Sk.bG _ (he.aF.below hL.bw)).mono ?_;rw [yj.out];rintro e1 w9 ⟨rfl,rfl⟩))
                go_meet;exact ⟨congrArg _ HQ.out,hL⟩
              · have HQ:=hide (show cn+1=P by rw [KL,hr];simp)
                clear KL
                go_wp2_with (first | (go_at_call 143;refine (mY S _ _ _ Sk.bG _ (he.aF.below hL.bw)).mono ?_;rw [yj.out];rintro e1 w9 ⟨rfl,rfl⟩))
                go_meet;exact ⟨congrArg _ HQ.out,hL⟩
           case rest=>
            obtain ⟨rfl,hL⟩:=hcut;clear afl Md Jq Jr hd hcu hc0;have hZ:=hL.tail.tail.put (dV ⟨P,0,0,decide (0<P)⟩) rfl
            go_wp2_with (first | ((with_reducible refine isS 91 4 126 ?_);refine fU (hL.get 2 rfl) (dV ⟨P,0,0,decide (0<P)⟩) fP (fZ _) ?_))
            refine bodyPost_ret (aI (p:=4) (hZ.get 0 rfl) Tryz.underlying91 rfl fP rfl _ rfl) rfl ⟨?_,hZ.bw⟩;rw [HM.out];rfl
theorem wI (S:Nat→Prop) (g:Sk.Game) (s:Sk.State) (e:En) (ht:s.turn=0∨s.turn=1) (hc:0≤s.colour∧s.colour≤7) (w:World) (he:iL w S e):Calls Tryz.prog 49 #[lX g,jE s,rU e] w fun e_ w'=>e_= .returned (FD (Sk.iQ g s e.x))∧Below w.heap.size w w':=by
 have hs:=fun W h=>JY S s e hc W h;have hb:=fun W h=>SC S s ht e W h;have hca:=fun W h=>uy S s ht e W h
 have hJ:Sk.iQ g s e.x=if (g.kind.toList == [115,110,111,111,107,101,114])=true then Sk.pO s e.x else if (g.kind.toList == [98,105,108,108,105,97,114,100,115])=true then Sk.bC s e.x else if Sk.ql s e.x=true∧decide (3≤e.x.aX)=true then ⟨1,0,0,true⟩ else ⟨0,0,0,false⟩:=by
  rw [fB,fB]
  unfold Sk.iQ Sk.gG
  rw [Sk.yC ht]
  simp only [decide_eq_true_eq]
 obtain ⟨V1,h1⟩:∃ q,Sk.pO s e.x=q:=⟨_,rfl⟩;obtain ⟨V2,h2⟩:∃ q,Sk.bC s e.x=q:=⟨_,rfl⟩;obtain ⟨cn,h3⟩:∃ q,Sk.ql s e.x=q:=⟨_,rfl⟩;rw [h1] at hs;rw [h2] at hb;rw [h3] at hca;rw [h1,h2,h3] at hJ;have ZR:=hide hs;have HBI:=hide hb;have TQ:=hide hca;have HJ:=hide hJ;clear hs hb hca hJ h1 h2 h3
 go_enter Tryz.func49,Tryz.ntmps49
 go_upto_region 0 with (fail)
 go_cut [3,4,5,6] (fun v3 v4 v5 v6 wx=>v3=ptr (w.heap.size)∧v4=ptr (w.heap.size+1)∧v5=ptr (w.heap.size+2)∧v6=ptr (w.heap.size+3)∧Bx w wx [(w.heap.size,bK g,28),(w.heap.size+1,aC s,39),(w.heap.size+2,dn e,85),(w.heap.size+3,dV ⟨0,0,0,false⟩,91)])
 case first=>
  go_wp2;go_meet;exact ⟨rfl,rfl,rfl,rfl,Bx.of (((((aG.nil w).new (by simp) (bK g) 28).new (by simp) (aC s) 39).new (by simp) (dn e) 85).new (by simp) (dV ⟨0,0,0,false⟩) 91) _ rfl⟩
 case rest=>
  obtain ⟨rfl,rfl,rfl,rfl,hL⟩:=hcut;have aBn:=(hL.get 0 rfl).cell (j:=0) rfl
  rcases hq1:(g.kind.toList == [115,110,111,111,107,101,114]) with _ | _
  · rcases hq2:(g.kind.toList == [98,105,108,108,105,97,114,100,115]) with _ | _
    · rcases hq3:decide (3≤e.x.aX) with _ | _
      · have HM:=hide (show Sk.iQ g s e.x=⟨0,0,0,false⟩ by rw [HJ.out,hq1,hq2,hq3];simp)
        cases cn
        all_goals
         go_wp2_with (first | ((with_reducible refine bJ 39 4 ?_);refine ig (hL.rn 1 0 (aC s)) Tryz.underlying39 aJ ?_) | ((with_reducible refine bJ 85 5 ?_);refine ig (hL.rn 2 0 (dn e)) Tryz.underlying85 fE ?_) | (go_at_call 85;refine (TQ.out _ (he.below hL.bw)).mono ?_;rintro e1 w3 ⟨rfl,hb3⟩;have hL:=hL.call hb3;have afs:=(hL.get 2 rfl).cell (j:=4) rfl) | ((with_reducible refine isS 91 6 28 ?_);refine fU (hL.get 3 rfl) (dV ⟨0,0,0,false⟩) fP (fZ _) ?_))
         have hZ:=hL.tail.tail.tail.put (dV ⟨0,0,0,false⟩) rfl;refine bodyPost_ret (aI (p:=6) (hZ.get 0 rfl) Tryz.underlying91 rfl fP rfl _ rfl) rfl ⟨?_,hZ.bw⟩;rw [HM.out];rfl
      · cases cn
        · have HM:=hide (show Sk.iQ g s e.x=⟨0,0,0,false⟩ by rw [HJ.out,hq1,hq2,hq3];simp)
          go_wp2_with (first | ((with_reducible refine bJ 39 4 ?_);refine ig (hL.rn 1 0 (aC s)) Tryz.underlying39 aJ ?_) | ((with_reducible refine bJ 85 5 ?_);refine ig (hL.rn 2 0 (dn e)) Tryz.underlying85 fE ?_) | (go_at_call 85;refine (TQ.out _ (he.below hL.bw)).mono ?_;rintro e1 w3 ⟨rfl,hb3⟩;have hL:=hL.call hb3;have afs:=(hL.get 2 rfl).cell (j:=4) rfl) | ((with_reducible refine isS 91 6 28 ?_);refine fU (hL.get 3 rfl) (dV ⟨0,0,0,false⟩) fP (fZ _) ?_))
          have hZ:=hL.tail.tail.tail.put (dV ⟨0,0,0,false⟩) rfl;refine bodyPost_ret (aI (p:=6) (hZ.get 0 rfl) Tryz.underlying91 rfl fP rfl _ rfl) rfl ⟨?_,hZ.bw⟩;rw [HM.out];rfl
        · have HM:=hide (show Sk.iQ g s e.x=⟨1,0,0,true⟩ by rw [HJ.out,hq1,hq2,hq3];simp)
          go_wp2_with (first | ((with_reducible refine bJ 39 4 ?_);refine ig (hL.rn 1 0 (aC s)) Tryz.underlying39 aJ ?_) | ((with_reducible refine bJ 85 5 ?_);refine ig (hL.rn 2 0 (dn e)) Tryz.underlying85 fE ?_) | (go_at_call 85;refine (TQ.out _ (he.below hL.bw)).mono ?_;rintro e1 w3 ⟨rfl,hb3⟩;have hL:=hL.call hb3;have afs:=(hL.get 2 rfl).cell (j:=4) rfl) | ((with_reducible refine isS 91 6 27 ?_);refine fU (hL.get 3 rfl) (dV ⟨1,0,0,true⟩) fP (fZ _) ?_))
          have hZ:=hL.tail.tail.tail.put (dV ⟨1,0,0,true⟩) rfl;refine bodyPost_ret (aI (p:=6) (hZ.get 0 rfl) Tryz.underlying91 rfl fP rfl _ rfl) rfl ⟨?_,hZ.bw⟩;rw [HM.out];rfl
    · have HM:=hide (show Sk.iQ g s e.x=V2 by rw [HJ.out,hq1,hq2];simp)
      go_wp2_with (first | ((with_reducible refine bJ 39 4 ?_);refine ig (hL.rn 1 0 (aC s)) Tryz.underlying39 aJ ?_) | ((with_reducible refine bJ 85 5 ?_);refine ig (hL.rn 2 0 (dn e)) Tryz.underlying85 fE ?_) | (go_at_call 84;refine (HBI.out _ (he.below hL.bw)).mono ?_;rintro e1 w2 ⟨rfl,hb2⟩;have hL:=hL.call hb2) | ((with_reducible refine isS 91 6 18 ?_);refine fU (hL.get 3 rfl) (dV V2) fP (fZ _) ?_))
      have hZ:=hL.tail.tail.tail.put (dV V2) rfl;refine bodyPost_ret (aI (p:=6) (hZ.get 0 rfl) Tryz.underlying91 rfl fP rfl _ rfl) rfl ⟨?_,hZ.bw⟩;rw [HM.out];rfl
  · have HM:=hide (show Sk.iQ g s e.x=V1 by rw [HJ.out,hq1];simp)
    go_wp2_with (first | ((with_reducible refine bJ 39 4 ?_);refine ig (hL.rn 1 0 (aC s)) Tryz.underlying39 aJ ?_) | ((with_reducible refine bJ 85 5 ?_);refine ig (hL.rn 2 0 (dn e)) Tryz.underlying85 fE ?_) | (go_at_call 83;refine (ZR.out _ (he.below hL.bw)).mono ?_;rintro e1 w1 ⟨rfl,hb1⟩;have hL:=hL.call hb1) | ((with_reducible refine isS 91 6 13 ?_);refine fU (hL.get 3 rfl) (dV V1) fP (fZ _) ?_))
    have hZ:=hL.tail.tail.tail.put (dV V1) rfl;refine bodyPost_ret (aI (p:=6) (hZ.get 0 rfl) Tryz.underlying91 rfl fP rfl _ rfl) rfl ⟨?_,hZ.bw⟩;rw [HM.out];rfl
theorem GU (s:Sk.State) (e:Sk.Entry):∀ (l:List ByteArray) (m:Int),Sk.lT s e m l≤m+3*l.length
 | [],m=>by simp [Sk.lT]
 | b::l,m=>by
   rw [Sk.lT];refine Int.le_trans (GU s e l _) ?_;rw [List.length_cons]
   split <;> omega
theorem BI (s:Sk.State) (e:Sk.Entry):∀ (l:List ByteArray) (f m:Int),0≤m∧m≤7→0≤(Sk.kY s e f m l).2∧(Sk.kY s e f m l).2≤7
 | [],f,m,h=>h
 | b::l,f,m,h=>by
   rw [Sk.kY]
   have:=Sk.lI b
   split
   · exact BI s e l _ _ (by omega)
   · exact BI s e l _ _ h
theorem WW (g:Sk.Game) (s:Sk.State) (e:Sk.Entry) (hc:0≤s.colour∧s.colour≤7):(-1≤(Sk.iQ g s e).points∧(Sk.iQ g s e).points≤3*e.aF.length+9)∧0≤(Sk.iQ g s e).penalty∧(Sk.iQ g s e).penalty≤7:=by
 unfold Sk.iQ
 split
 · unfold Sk.pO
   have hp:0≤Sk.Dt s e∧Sk.Dt s e≤7:=by
    have h0:=BI s e e.aF 0 (max 4 (Sk.value (Sk.iD s e))) (by have:=Sk.lI (Sk.iD s e);omega)
    have:=Sk.lI (e.hits.headD Sk.bU)
    unfold Sk.Dt
    repeat' split
    all_goals omega
   have hq: -1≤Sk.oK s e∧Sk.oK s e≤3*e.aF.length+9:=by
    have h1:=uZ e.aF Sk.bG;have h2:=Sk.lI e.called
    unfold Sk.oK
    repeat' split
    all_goals omega
   split
   · exact ⟨by show -1≤(0:Int)∧(0:Int)≤_;omega,hp⟩
   · exact ⟨hq,by show 0≤(0:Int)∧(0:Int)≤7;omega⟩
 · split
   · unfold Sk.bC
     split
     · exact ⟨by show -1≤(0:Int)∧(0:Int)≤_;omega,by show 0≤(2:Int)∧(2:Int)≤7;omega⟩
     · split
       · exact ⟨by show -1≤(0:Int)∧(0:Int)≤_;omega,by show 0≤(2:Int)∧(2:Int)≤7;omega⟩
       · refine ⟨?_,by show 0≤(0:Int)∧(0:Int)≤7;omega⟩
         show -1≤Sk.bW s e∧Sk.bW s e≤_
         unfold Sk.bW
         have h1:=GU s e e.aF (if Sk.eU s e then 2 else 0);have h2:=Sk.xP s e e.aF (if Sk.eU s e then 2 else 0)
         have h3:(0:Int)≤(if Sk.eU s e then 2 else 0)∧(if Sk.eU s e then 2 else 0)≤(2:Int):=by split <;> omega
         omega
   · unfold Sk.gG
     split
     · exact ⟨by show -1≤(1:Int)∧(1:Int)≤_;omega,by show 0≤(0:Int)∧(0:Int)≤7;omega⟩
     · exact ⟨by show -1≤(0:Int)∧(0:Int)≤_;omega,by show 0≤(0:Int)∧(0:Int)≤7;omega⟩
def pY (g:Sk.Game) (s:Sk.State) (e:Sk.Entry) (n:Int):Bool:=
 if n=1 then decide (0≤s.ay)
 else if n=2 then (decide (e.kind=Sk.gu∨e.kind=Sk.iI) && !s.aN)
 else if n=3 then !(Sk.gB g s e)
 else if n=4 then (decide (e.kind=Sk.cO) && !Sk.mZ g s e)
 else decide (e.kind=Sk.cO∧(99999<Sk.score s s.turn+(Sk.iQ g s e).points∨99999<Sk.score s (1 - s.turn)+(Sk.iQ g s e).penalty))
theorem SL (g:Sk.Game) (s:Sk.State) (e:Sk.Entry):Sk.wJ g s e=if pY g s e 1=true then 1 else if pY g s e 2=true then 2 else if pY g s e 3=true then 3 else if pY g s e 4=true then 4 else if pY g s e 5=true then 5 else 0:=by
 unfold Sk.wJ pY
 simp
theorem ajF {g:Sk.Game} {s:Sk.State} {e:Sk.Entry} {n:Int} (h1:1≤n∧n≤5) (h2:∀ j:Int,1≤j→j<n→pY g s e j=false) (h3:pY g s e n=true):Sk.wJ g s e=n:=by
 rw [SL]
 have:n=1∨n=2∨n=3∨n=4∨n=5:=by omega
 rcases this with rfl | rfl | rfl | rfl | rfl
 · simp [h3]
 · simp [h3,h2 1 (by omega) (by omega)]
 · simp [h3,h2 1 (by omega) (by omega),h2 2 (by omega) (by omega)]
 · simp [h3,h2 1 (by omega) (by omega),h2 2 (by omega) (by omega),h2 3 (by omega) (by omega)]
 · simp [h3,h2 1 (by omega) (by omega),h2 2 (by omega) (by omega),h2 3 (by omega) (by omega),h2 4 (by omega) (by omega)]
theorem VF {g:Sk.Game} {s:Sk.State} {e:Sk.Entry} (h2:∀ j:Int,1≤j→j<6→pY g s e j=false):Sk.wJ g s e=0:=by
 rw [SL]
 simp [h2 1 (by omega) (by omega),h2 2 (by omega) (by omega),h2 3 (by omega) (by omega),h2 4 (by omega) (by omega),h2 5 (by omega) (by omega)]
theorem SE (S:Nat→Prop) (g:Sk.Game) (s:Sk.State) (e:En) (n:Int) (hn:1≤n∧n≤5) (w:World) (ht:s.turn=0∨s.turn=1) (hc:0≤s.colour∧s.colour≤7) (hs0:0≤s.s0∧s.s0≤99999) (hs1:0≤s.s1∧s.s1≤99999) (he:iL w S e):
 Calls Tryz.prog 82 #[lX g,jE s,rU e,.int .i64 n] w fun e_ w'=>e_= .returned (.bool (pY g s e.x n))∧Below w.heap.size w w':=by
 obtain ⟨p4,p5,p6⟩:=he.aF.bd;obtain ⟨v,hv⟩:∃ v,Sk.iQ g s e.x=v:=⟨_,rfl⟩;have hvb:=WW g s e.x hc;have hjc:=fun W h=>wI S g s e ht hc W h;have hR:∀ m:Int,pY g s e.x m=pY g s e.x m:=fun _=>rfl;rw [hv] at hjc hvb;have HV:=hide hv;have HJ:=hide hjc;clear hv hjc hR
 have hcases:n=1∨n=2∨n=3∨n=4∨n=5:=by omega
 rcases hcases with rfl | rfl | rfl | rfl | rfl
 · have HR:=hide (show pY g s e.x 1=decide (0≤s.ay) from rfl)
   go_enter Tryz.func82,Tryz.ntmps82
   go_upto_region 0 with (fail)
   go_cut [4,5,6,8] (fun v4 v5 v6 v8 wx=>v4=ptr (w.heap.size)∧v5=ptr (w.heap.size+1)∧v6=ptr (w.heap.size+2)∧v8= .bool false∧Bx w wx [(w.heap.size,bK g,28),(w.heap.size+1,aC s,39),(w.heap.size+2,dn e,85)])
   case first=>
    go_wp2;go_meet;exact ⟨rfl,rfl,rfl,rfl,Bx.of ((((aG.nil w).new (by simp) (bK g) 28).new (by simp) (aC s) 39).new (by simp) (dn e) 85) _ rfl⟩
   case rest=>
    obtain ⟨rfl,rfl,rfl,rfl,hL⟩:=hcut;have k12:=(hL.get 1 rfl).cell (j:=12) rfl;go_wp2;go_ret;exact ⟨aH (by rw [HR.out]),hL.bw⟩
 · have HR:=hide (show pY g s e.x 2=(((e.x.kind.toList == [97,103,97,105,110]) || (e.x.kind.toList == [102,114,101,101])) && !s.aN) by rw [fB,fB];unfold pY;simp)
   go_enter Tryz.func82,Tryz.ntmps82
   go_upto_region 0 with (fail)
   go_cut [4,5,6,8] (fun v4 v5 v6 v8 wx=>v4=ptr (w.heap.size)∧v5=ptr (w.heap.size+1)∧v6=ptr (w.heap.size+2)∧v8= .bool false∧Bx w wx [(w.heap.size,bK g,28),(w.heap.size+1,aC s,39),(w.heap.size+2,dn e,85)])
   case first=>
    go_wp2;go_meet;exact ⟨rfl,rfl,rfl,rfl,Bx.of ((((aG.nil w).new (by simp) (bK g) 28).new (by simp) (aC s) 39).new (by simp) (dn e) 85) _ rfl⟩
   case rest=>
    obtain ⟨rfl,rfl,rfl,rfl,hL⟩:=hcut;have k0:=(hL.get 2 rfl).cell (j:=0) rfl;obtain ⟨fo,hfo⟩:∃ q,s.aN=q:=⟨_,rfl⟩;rw [hfo] at HR;have k8:=((hL.get 1 rfl).cell (j:=8) rfl).trans (by rw [hfo]);clear hfo
    rcases h1:(e.x.kind.toList == [97,103,97,105,110]) with _ | _
    · rcases h2:(e.x.kind.toList == [102,114,101,101]) with _ | _
      · go_wp2
        go_ret;exact ⟨aH (by rw [HR.out];simp [h1,h2]),hL.bw⟩
      · cases fo
        · go_wp2
          go_ret;exact ⟨aH (by rw [HR.out];simp [h1,h2]),hL.bw⟩
        · go_wp2
          go_ret;exact ⟨aH (by rw [HR.out];simp [h1,h2]),hL.bw⟩
    · cases fo
      · go_wp2
        go_ret;exact ⟨aH (by rw [HR.out];simp [h1]),hL.bw⟩
      · go_wp2
        go_ret;exact ⟨aH (by rw [HR.out];simp [h1]),hL.bw⟩
 · have hcl:=fun W=>Dp s e.x.called W
   rw [Sk.EZ] at hcl;obtain ⟨cb,hcb⟩:∃ q,Sk.callable s e.x.called=q:=⟨_,rfl⟩;rw [hcb] at hcl;have Kt:=hide hcl
   have HR:=hide (show pY g s e.x 3= !(if !(e.x.kind.toList == [115,104,111,116]) || !(g.kind.toList == [115,110,111,111,107,101,114]) then true else if (s.phase.toList == [99,111,108,111,117,114]) then !e.x.called.toList.isEmpty else e.x.called.toList.isEmpty || cb) by
    rw [fB,fB,fB, ← hcb]
    have hem:e.x.called.toList.isEmpty=decide (e.x.called=Sk.bU):=by
     by_cases h:e.x.called=Sk.bU
     · rw [ZM h];simp [h]
     · rw [ZL h];simp [h]
    rw [hem]
    unfold pY Sk.gB
    by_cases a1:e.x.kind=Sk.cO <;> by_cases a2:g.kind=Sk.aK <;> by_cases a3:s.phase=Sk.dA <;> simp [a1,a2,a3])
   clear hcl hcb
   go_enter Tryz.func82,Tryz.ntmps82
   go_upto_region 0 with (fail)
   go_cut [4,5,6,8] (fun v4 v5 v6 v8 wx=>v4=ptr (w.heap.size)∧v5=ptr (w.heap.size+1)∧v6=ptr (w.heap.size+2)∧v8= .bool false∧Bx w wx [(w.heap.size,bK g,28),(w.heap.size+1,aC s,39),(w.heap.size+2,dn e,85)])
   case first=>
    go_wp2;go_meet;exact ⟨rfl,rfl,rfl,rfl,Bx.of ((((aG.nil w).new (by simp) (bK g) 28).new (by simp) (aC s) 39).new (by simp) (dn e) 85) _ rfl⟩
   case rest=>
    obtain ⟨rfl,rfl,rfl,rfl,hL⟩:=hcut;have k0:=(hL.get 2 rfl).cell (j:=0) rfl;have kc:=(hL.get 2 rfl).cell (j:=1) rfl;have kg:=(hL.get 0 rfl).cell (j:=0) rfl;have kp:=(hL.get 1 rfl).cell (j:=4) rfl
    rcases h1:(e.x.kind.toList == [115,104,111,116]) with _ | _
    · have h1n:(e.x.kind.toList != [115,104,111,116])=true:=by rw [bne,h1];rfl
      go_wp2;go_ret;exact ⟨aH (by rw [HR.out];simp [h1]),hL.bw⟩
    · have h1n:(e.x.kind.toList != [115,104,111,116])=false:=by rw [bne,h1];rfl
      rcases h2:(g.kind.toList == [115,110,111,111,107,101,114]) with _ | _
      · have h2n:(g.kind.toList != [115,110,111,111,107,101,114])=true:=by rw [bne,h2];rfl
        go_wp2;go_ret;exact ⟨aH (by rw [HR.out];simp [h1,h2]),hL.bw⟩
      · have h2n:(g.kind.toList != [115,110,111,111,107,101,114])=false:=by rw [bne,h2];rfl
        rcases h4:e.x.called.toList.isEmpty with _ | _
        all_goals
         rcases h3:(s.phase.toList == [99,111,108,111,117,114]) with _ | _
        · cases cb
          all_goals
           go_wp2_with (first | ((with_reducible refine bJ 28 4 ?_);refine ig (hL.rn 0 0 (bK g)) Tryz.underlying28 dP ?_) | ((with_reducible refine iy 28 4 ?_);refine kP (hL.rn 0 0 (bK g)) Tryz.underlying28 dP ?_) | ((with_reducible refine bJ 39 5 ?_);refine ig (hL.rn 1 0 (aC s)) Tryz.underlying39 aJ ?_) | ((with_reducible refine iy 39 5 ?_);refine kP (hL.rn 1 0 (aC s)) Tryz.underlying39 aJ ?_) | ((with_reducible refine bJ 85 6 ?_);refine ig (hL.rn 2 0 (dn e)) Tryz.underlying85 fE ?_) | ((with_reducible refine iy 85 6 ?_);refine kP (hL.rn 2 0 (dn e)) Tryz.underlying85 fE ?_) | (go_at_call 97;refine (Kt.out _).mono ?_;rintro e1 w1 ⟨rfl,hb1⟩;have hL:=hL.call hb1))
           go_ret;exact ⟨aH (by rw [HR.out];simp [h1,h2,h3,h4]),hL.bw⟩
        all_goals
         go_wp2;go_ret;exact ⟨aH (by rw [HR.out];simp [h1,h2,h3,h4]),hL.bw⟩
 · have hth:=fun W h=>J3 S g s e W h
   obtain ⟨th,Yc⟩:∃ q,Sk.mZ g s e.x=q:=⟨_,rfl⟩;rw [Yc] at hth;have HTH:=hide hth;have HR:=hide (show pY g s e.x 4=((e.x.kind.toList == [115,104,111,116]) && !th) by rw [fB, ← Yc];rfl);clear hth Yc
   go_enter Tryz.func82,Tryz.ntmps82
   go_upto_region 0 with (fail)
   go_cut [4,5,6,8] (fun v4 v5 v6 v8 wx=>v4=ptr (w.heap.size)∧v5=ptr (w.heap.size+1)∧v6=ptr (w.heap.size+2)∧v8= .bool false∧Bx w wx [(w.heap.size,bK g,28),(w.heap.size+1,aC s,39),(w.heap.size+2,dn e,85)])
   case first=>
    go_wp2;go_meet;exact ⟨rfl,rfl,rfl,rfl,Bx.of ((((aG.nil w).new (by simp) (bK g) 28).new (by simp) (aC s) 39).new (by simp) (dn e) 85) _ rfl⟩
   case rest=>
    obtain ⟨rfl,rfl,rfl,rfl,hL⟩:=hcut;have k0:=(hL.get 2 rfl).cell (j:=0) rfl
    rcases h1:(e.x.kind.toList == [115,104,111,116]) with _ | _
    · go_wp2
      go_ret;exact ⟨aH (by rw [HR.out];simp [h1]),hL.bw⟩
    · cases th
      all_goals
       go_wp2_with (first | ((with_reducible refine bJ 28 4 ?_);refine ig (hL.rn 0 0 (bK g)) Tryz.underlying28 dP ?_) | ((with_reducible refine iy 28 4 ?_);refine kP (hL.rn 0 0 (bK g)) Tryz.underlying28 dP ?_) | ((with_reducible refine bJ 39 5 ?_);refine ig (hL.rn 1 0 (aC s)) Tryz.underlying39 aJ ?_) | ((with_reducible refine iy 39 5 ?_);refine kP (hL.rn 1 0 (aC s)) Tryz.underlying39 aJ ?_) | ((with_reducible refine bJ 85 6 ?_);refine ig (hL.rn 2 0 (dn e)) Tryz.underlying85 fE ?_) | ((with_reducible refine iy 85 6 ?_);refine kP (hL.rn 2 0 (dn e)) Tryz.underlying85 fE ?_) | (go_at_call 141;refine (HTH.out _ (he.below hL.bw)).mono ?_;rintro e1 w1 ⟨rfl,hb1⟩;have hL:=hL.call hb1))
       go_ret;exact ⟨aH (by rw [HR.out];simp [h1]),hL.bw⟩
 · have HR:=hide (show pY g s e.x 5=((e.x.kind.toList == [115,104,111,116]) && (decide (99999<Sk.score s s.turn+v.points) || decide (99999<Sk.score s (1 - s.turn)+v.penalty))) by rw [fB, ← HV.out];unfold pY;rw [Bool.eq_iff_iff];simp)
   go_enter Tryz.func82,Tryz.ntmps82
   go_upto_region 0 with (fail)
   go_cut [4,5,6,8] (fun v4 v5 v6 v8 wx=>v4=ptr (w.heap.size)∧v5=ptr (w.heap.size+1)∧v6=ptr (w.heap.size+2)∧v8= .bool false∧Bx w wx [(w.heap.size,bK g,28),(w.heap.size+1,aC s,39),(w.heap.size+2,dn e,85)])
   case first=>
    go_wp2;go_meet;exact ⟨rfl,rfl,rfl,rfl,Bx.of ((((aG.nil w).new (by simp) (bK g) 28).new (by simp) (aC s) 39).new (by simp) (dn e) 85) _ rfl⟩
   case rest=>
    obtain ⟨rfl,rfl,rfl,rfl,hL⟩:=hcut;have k0:=(hL.get 2 rfl).cell (j:=0) rfl
    rcases h1:(e.x.kind.toList == [115,104,111,116]) with _ | _
    · have h1n:(e.x.kind.toList != [115,104,111,116])=true:=by rw [bne,h1];rfl
      go_wp2;go_ret;exact ⟨aH (by rw [HR.out];simp [h1]),hL.bw⟩
    · have h1n:(e.x.kind.toList != [115,104,111,116])=false:=by rw [bne,h1];rfl
      have HR:=hide (HR.out.trans (by rw [h1,Bool.true_and]))
      go_upto_region 16 with (fail)
      go_cut [9] from 72 to 76 (fun v9 wx=>∃ B9,v9=ptr B9∧Bx w wx [(B9,dV v,91),(w.heap.size,bK g,28),(w.heap.size+1,aC s,39),(w.heap.size+2,dn e,85)])
      case first=>
       go_wp2_with (first | ((with_reducible refine bJ 28 4 ?_);refine ig (hL.rn 0 0 (bK g)) Tryz.underlying28 dP ?_) | ((with_reducible refine iy 28 4 ?_);refine kP (hL.rn 0 0 (bK g)) Tryz.underlying28 dP ?_) | ((with_reducible refine bJ 39 5 ?_);refine ig (hL.rn 1 0 (aC s)) Tryz.underlying39 aJ ?_) | ((with_reducible refine iy 39 5 ?_);refine kP (hL.rn 1 0 (aC s)) Tryz.underlying39 aJ ?_) | ((with_reducible refine bJ 85 6 ?_);refine ig (hL.rn 2 0 (dn e)) Tryz.underlying85 fE ?_) | ((with_reducible refine iy 85 6 ?_);refine kP (hL.rn 2 0 (dn e)) Tryz.underlying85 fE ?_) | (go_at_call 49;refine (HJ.out _ (he.below hL.bw)).mono ?_;rintro e1 w1 ⟨rfl,hb1⟩;have hL:=(hL.call hb1).add (dV ⟨0,0,0,false⟩) 91) | ((with_reducible refine isS 91 9 75 ?_);refine fU (hL.get 0 rfl) (dV v) fP (fZ _) ?_))
       go_meet;exact ⟨_,rfl,hL.put (dV v) rfl⟩
      case rest=>
       obtain ⟨B9,rfl,hL⟩:=hcut;clear k0 h1 h1n
       have hw0:IntKind.i64.wrap 0=0:=by kernel_rfl
       have hw1:IntKind.i64.wrap 1=1:=by kernel_rfl
       go_upto_region 17 with (fail)
       rcases ht with ht' | ht'
       · have kt:_=some (Value.int .i64 0):=((hL.get 2 rfl).cell (j:=0) rfl).trans (by rw [ht'])
         have ka:_=some (Value.int .i64 s.s0):=(hL.get 2 rfl).cell (j:=1) rfl;have kb:_=some (Value.int .i64 s.s1):=(hL.get 2 rfl).cell (j:=2) rfl;have kv0:_=some (Value.int .i64 v.points):=(hL.get 0 rfl).cell (j:=0) rfl;have TV:_=some (Value.int .i64 v.penalty):=(hL.get 0 rfl).cell (j:=2) rfl
         have hwa:IntKind.i64.wrap (s.s0+v.points)=s.s0+v.points:=by rw [IntKind.wrap_i64];omega
         have hwb:IntKind.i64.wrap (s.s1+v.penalty)=s.s1+v.penalty:=by rw [IntKind.wrap_i64];omega
         clear hvb hs0 hs1
         rcases h1:decide (99999<s.s0+v.points) with _ | _
         · rcases h2:decide (99999<s.s1+v.penalty) with _ | _
           · go_quiet (fail)
             go_wp2;go_ret;exact ⟨aH (by rw [HR.out,ht'];simp [Sk.score,h1,h2]),(hL.drewN nq).bw⟩
           · go_quiet (fail)
             go_wp2;go_ret;exact ⟨aH (by rw [HR.out,ht'];simp [Sk.score,h1,h2]),(hL.drewN nq).bw⟩
         · go_quiet (fail)
           go_wp2;go_ret;exact ⟨aH (by rw [HR.out,ht'];simp [Sk.score,h1]),(hL.drewN nq).bw⟩
       · have kt:_=some (Value.int .i64 1):=((hL.get 2 rfl).cell (j:=0) rfl).trans (by rw [ht'])
         have ka:_=some (Value.int .i64 s.s1):=(hL.get 2 rfl).cell (j:=2) rfl;have kb:_=some (Value.int .i64 s.s0):=(hL.get 2 rfl).cell (j:=1) rfl;have kv0:_=some (Value.int .i64 v.points):=(hL.get 0 rfl).cell (j:=0) rfl;have TV:_=some (Value.int .i64 v.penalty):=(hL.get 0 rfl).cell (j:=2) rfl
         have hwa:IntKind.i64.wrap (s.s1+v.points)=s.s1+v.points:=by rw [IntKind.wrap_i64];omega
         have hwb:IntKind.i64.wrap (s.s0+v.penalty)=s.s0+v.penalty:=by rw [IntKind.wrap_i64];omega
         clear hvb hs0 hs1
         rcases h1:decide (99999<s.s1+v.points) with _ | _
         · rcases h2:decide (99999<s.s0+v.penalty) with _ | _
           · go_quiet (fail)
             go_wp2;go_ret;exact ⟨aH (by rw [HR.out,ht'];simp [Sk.score,h1,h2]),(hL.drewN nq).bw⟩
           · go_quiet (fail)
             go_wp2;go_ret;exact ⟨aH (by rw [HR.out,ht'];simp [Sk.score,h1,h2]),(hL.drewN nq).bw⟩
         · go_quiet (fail)
           go_wp2;go_ret;exact ⟨aH (by rw [HR.out,ht'];simp [Sk.score,h1]),(hL.drewN nq).bw⟩
theorem G9 (S:Nat→Prop) (g:Sk.Game) (s:Sk.State) (e:En) (w:World) (ht:s.turn=0∨s.turn=1) (hc:0≤s.colour∧s.colour≤7) (hs0:0≤s.s0∧s.s0≤99999) (hs1:0≤s.s1∧s.s1≤99999) (he:iL w S e):
 Calls Tryz.prog 48 #[lX g,jE s,rU e] w fun e_ w'=>e_= .returned (.int .i64 (Sk.wJ g s e.x))∧Below w.heap.size w w':=by
 have HB:=hide (fun n hn W h=>SE S g s e n hn W ht hc hs0 hs1 h);clear ht hc hs0 hs1
 go_enter Tryz.func48,Tryz.ntmps48
 go_upto_region 0 with (fail)
 go_cut [3,4,5,6] (fun v3 v4 v5 v6 wx=>v3=ptr (w.heap.size)∧v4=ptr (w.heap.size+1)∧v5=ptr (w.heap.size+2)∧v6= .int .i64 0∧Bx w wx [(w.heap.size,bK g,28),(w.heap.size+1,aC s,39),(w.heap.size+2,dn e,85)])
 case first=>
  go_wp2;go_meet;exact ⟨rfl,rfl,rfl,rfl,Bx.of ((((aG.nil w).new (by simp) (bK g) 28).new (by simp) (aC s) 39).new (by simp) (dn e) 85) _ rfl⟩
 case rest=>
  obtain ⟨rfl,rfl,rfl,rfl,hL⟩:=hcut;go_wp2
  go_loopw [7] (fun i wr=>∃ k:Int,(1≤k∧k≤6)∧i= .int .i64 k∧Aside (∀ j:Int,1≤j→j<k→pY g s e.x j=false)∧Bx w wr [(w.heap.size,bK g,28),(w.heap.size+1,aC s,39),(w.heap.size+2,dn e,85)]) (fun i _=>(6 - intOf i).toNat)
  case atStart=>exact ⟨1,by omega,rfl,hide (fun j h1 h2=>by omega),hL⟩
  case round=>
   obtain ⟨k,hk,rfl,hx,hL⟩:=hrel
   by_cases hlt:k≤5
   · have hd:decide (k≤5)=true:=decide_eq_true hlt
     obtain ⟨b,hb⟩:∃ b,pY g s e.x k=b:=⟨_,rfl⟩;have HQ:=hide hb;clear hb
     cases b
     · go_wp2_with (first | ((with_reducible refine bJ 28 3 ?_);refine ig (hL.rn 0 0 (bK g)) Tryz.underlying28 dP ?_) | ((with_reducible refine iy 28 3 ?_);refine kP (hL.rn 0 0 (bK g)) Tryz.underlying28 dP ?_) | ((with_reducible refine bJ 39 4 ?_);refine ig (hL.rn 1 0 (aC s)) Tryz.underlying39 aJ ?_) | ((with_reducible refine iy 39 4 ?_);refine kP (hL.rn 1 0 (aC s)) Tryz.underlying39 aJ ?_) | ((with_reducible refine bJ 85 5 ?_);refine ig (hL.rn 2 0 (dn e)) Tryz.underlying85 fE ?_) | ((with_reducible refine iy 85 5 ?_);refine kP (hL.rn 2 0 (dn e)) Tryz.underlying85 fE ?_) | (go_at_call 82;refine (HB.out k (by omega) _ (he.below hL.bw)).mono ?_;rw [HQ.out];rintro e1 w1 ⟨rfl,hb1⟩;have hL:=hL.call hb1))
       go_roundw
       case rel=>
        exact ⟨k+1,by omega,by go_num,hide (fun j h1 h2=>by
         rcases Int.lt_or_le j k with h | h
         · exact hx.out j h1 h
         · have:j=k:=by omega
           subst this
           exact HQ.out),hL⟩
       case measure=>simp [intOf];omega
     · have HM:=hide (ajF (by omega) hx.out HQ.out)
       go_wp2_with (first | ((with_reducible refine bJ 28 3 ?_);refine ig (hL.rn 0 0 (bK g)) Tryz.underlying28 dP ?_) | ((with_reducible refine iy 28 3 ?_);refine kP (hL.rn 0 0 (bK g)) Tryz.underlying28 dP ?_) | ((with_reducible refine bJ 39 4 ?_);refine ig (hL.rn 1 0 (aC s)) Tryz.underlying39 aJ ?_) | ((with_reducible refine iy 39 4 ?_);refine kP (hL.rn 1 0 (aC s)) Tryz.underlying39 aJ ?_) | ((with_reducible refine bJ 85 5 ?_);refine ig (hL.rn 2 0 (dn e)) Tryz.underlying85 fE ?_) | ((with_reducible refine iy 85 5 ?_);refine kP (hL.rn 2 0 (dn e)) Tryz.underlying85 fE ?_) | (go_at_call 82;refine (HB.out k (by omega) _ (he.below hL.bw)).mono ?_;rw [HQ.out];rintro e1 w1 ⟨rfl,hb1⟩;have hL:=hL.call hb1))
       go_ret;exact ⟨aV HM.out.symm,hL.bw⟩
   · have hd:decide (k≤5)=false:=decide_eq_false hlt
     have hk6:k=6:=by omega
     have HM:=hide (VF (g:=g) (s:=s) (e:=e.x) (by have h:=hx.out;rwa [hk6] at h));clear hk6;go_wp2;go_ret;exact ⟨aV HM.out.symm,hL.bw⟩
theorem rH (s:Sk.State) (ht:s.turn=0∨s.turn=1) (w:World):Calls Tryz.prog 86 #[jE s] w fun e w'=>e= .returned (jE (Sk.pass s))∧Below w.heap.size w w':=by
 have hw1:IntKind.i64.wrap (1 - s.turn)=1 - s.turn:=by rw [IntKind.wrap_i64];omega
 go_enter Tryz.func86,Tryz.ntmps86
 go_upto_region 0 with (fail)
 go_cut [1,2] (fun v1 v2 wx=>v1=ptr (w.heap.size)∧v2=ptr (w.heap.size+1)∧Bx w wx [(w.heap.size,aC s,39),(w.heap.size+1,aC Sk.zero,39)])
 case first=>
  go_wp2;go_meet;exact ⟨rfl,rfl,Bx.of (((aG.nil w).new (by simp) (aC s) 39).new (by simp) (aC Sk.zero) 39) _ rfl⟩
 case rest=>
  obtain ⟨rfl,rfl,hL⟩:=hcut;have k0:=(hL.get 0 rfl).cell (j:=0) rfl;have f0:=(hL.get 0 rfl).frozen 0;have hS1:=hL.set 0 (.int .i64 (1 - s.turn));have k3:=(hS1.get 0 rfl).cell (j:=3) rfl;have f3:=(hS1.get 0 rfl).frozen 3;have hS2:=hS1.set 3 (.int .i64 0);have k9:=(hS2.get 0 rfl).cell (j:=9) rfl;have f9:=(hS2.get 0 rfl).frozen 9;have hS3:=hS2.set 9 (.int .i64 0);have hE:=hS3.tail.put [.int .i64 (1 - s.turn),.int .i64 s.s0,.int .i64 s.s1,.int .i64 0,.string s.phase,.int .i64 s.aY,.int .i64 s.colour,.bool s.free,.bool s.aN,.int .i64 0,.int .i64 s.t0,.int .i64 s.t1,.int .i64 s.ay] rfl
  go_wp2_with (first | ((with_reducible refine bJ 39 1 ?_);refine ig (hS3.rn 0 0 ([.int .i64 (1 - s.turn),.int .i64 s.s0,.int .i64 s.s1,.int .i64 0,.string s.phase,.int .i64 s.aY,.int .i64 s.colour,.bool s.free,.bool s.aN,.int .i64 0,.int .i64 s.t0,.int .i64 s.t1,.int .i64 s.ay])) Tryz.underlying39 aJ ?_) | ((with_reducible refine iy 39 1 ?_);refine kP (hS3.rn 0 0 ([.int .i64 (1 - s.turn),.int .i64 s.s0,.int .i64 s.s1,.int .i64 0,.string s.phase,.int .i64 s.aY,.int .i64 s.colour,.bool s.free,.bool s.aN,.int .i64 0,.int .i64 s.t0,.int .i64 s.t1,.int .i64 s.ay])) Tryz.underlying39 aJ ?_) | ((with_reducible refine isS 39 2 9 ?_);refine fU (hS3.get 1 rfl) ([.int .i64 (1 - s.turn),.int .i64 s.s0,.int .i64 s.s1,.int .i64 0,.string s.phase,.int .i64 s.aY,.int .i64 s.colour,.bool s.free,.bool s.aN,.int .i64 0,.int .i64 s.t0,.int .i64 s.t1,.int .i64 s.ay]) aJ (by simp [Value.oneCell']) ?_))
  refine bodyPost_ret (aI (p:=2) (hE.get 0 rfl) Tryz.underlying39 rfl aJ rfl _ rfl) rfl ⟨?_,hE.bw⟩
  rfl
end Go.Proofs.YtjbbfmofpjflmaaGreatDoor
