/- Parts of a proof. -/
import Derived.Test.YtcbmedfongiojaaGreatDoorKa4
import Derived.Test.YtcbmedfongiojaaGreatDoorKt20
set_option maxHeartbeats 8000000
set_option maxRecDepth 100000
set_option linter.unusedVariables false
set_option linter.unusedSimpArgs false
namespace Go.Proofs.YtcbmedfongiojaaGreatDoor
open Go.RowKit
theorem ald:(Tryz.prog.info? 45).map (·.size)=some 5:=by kernel_rfl
theorem auh {l:List ByteArray} {x:ByteArray} {k:Nat} (hk:k<l.length):Sk.has (l.drop k) x=(decide (l[k]=x) || Sk.has (l.drop (k+1)) x):=by
 rw [List.drop_eq_getElem_cons hk,Sk.has,List.any_cons]
 rfl
theorem apT (g:Sk.Game) {l:List ByteArray} {k:Nat} (hk:k<l.length):Sk.aam g (l.drop k)=(!(decide (Sk.value l[k]<0) || (!(g.kind.toList == [115,110,111,111,107,101,114]) && decide (2<Sk.value l[k]))) && Sk.aam g (l.drop (k+1))):=by
 rw [List.drop_eq_getElem_cons hk,Sk.aam,List.all_cons,jB]
 unfold Sk.aam
 congr 1
 rw [Bool.eq_iff_iff]
 simp only [decide_eq_true_eq,Bool.not_eq_true',Bool.or_eq_false_iff,Bool.and_eq_false_iff,decide_eq_false_iff_not,Bool.not_eq_false',not_or,not_and]
 constructor
 · rintro ⟨h1,h2⟩
   refine ⟨h1,?_⟩
   by_cases h3:g.kind=Sk.aK
   · exact .inl h3
   · exact .inr (h2 h3)
 · rintro ⟨h1,h2⟩
   refine ⟨h1,fun h3=>?_⟩
   rcases h2 with h2 | h2
   · exact absurd h2 h3
   · exact h2
theorem aco (S:Nat→Prop) (A:Option Addr) (c:Nat) (l:List ByteArray) (x:ByteArray) (w:World) (h:kF w S A c l):
 Calls Tryz.prog 68 #[.slice A l.length c,.string x] w fun e w'=>e= .returned (.bool (Sk.has l x))∧w=w':=by
 obtain ⟨b1,b2,b3⟩:=h.bd
 go_enter Tryz.func68,Tryz.ntmps68
 go_wp2
 go_loop [5] (fun i=>∃ k:Nat,k≤l.length∧i= .int .i64 k∧Aside (Sk.has l x=Sk.has (l.drop k) x)) (fun i=>l.length - (intOf i).toNat)
 case atStart=>exact ⟨0,Nat.zero_le _,rfl,by simp [Aside]⟩
 case round=>
  obtain ⟨k,hk,rfl,hall⟩:=hrel
  by_cases hlt:k<l.length
  · obtain ⟨b,o,rfl,_,hbl,hc⟩:=h.at_ k hlt
    have hck:=hc k hlt;clear hc;have hx:=hall.out;rw [auh hlt] at hx
    by_cases he:l[k]=x
    · rw [decide_eq_true he,Bool.true_or] at hx
      have HP:=hide hx;have he':(l[k].toList == x.toList)=true:=mD he;clear he hx hall;go_wp2;go_ret;exact ⟨aI HP.out.symm,rfl⟩
    · rw [decide_eq_false he,Bool.false_or] at hx
      have HP:=hide hx;have he':(l[k].toList == x.toList)=false:=mg he;clear he hx hall;go_wp2
      go_round
      case rel=>exact ⟨k+1,by omega,by go_num,HP.out⟩
      case measure=>simp [intOf];omega
  · have HA:=hide (show Sk.has l x=false by rw [hall.out,List.drop_of_length_le (by omega)];rfl)
    go_wp2;go_ret;exact ⟨aI HA.out.symm,rfl⟩
theorem aae (S:Nat→Prop) (g:Sk.Game) (A:Option Addr) (c:Nat) (l:List ByteArray) (w:World) (h:kF w S A c l):
 Calls Tryz.prog 67 #[rF g,.slice A l.length c] w fun e w'=>e= .returned (.bool (Sk.aam g l))∧Below w.heap.size w w':=by
 obtain ⟨b1,b2,b3⟩:=h.bd
 go_enter Tryz.func67,Tryz.ntmps67
 go_upto_region 0 with (fail)
 go_cut [2,4] (fun v2 v4 wx=>v2=ptr (w.heap.size)∧v4= .bool false∧Bx w wx [(w.heap.size,dN g,28)])
 case first=>
  go_wp2;go_meet;exact ⟨rfl,rfl,Bx.of ((aC.nil w).new (by simp) (dN g) 28) _ rfl⟩
 case rest=>
  obtain ⟨rfl,rfl,hL⟩:=hcut
  go_upto_region 1 with (fail)
  go_wp2
  go_loopw [5,6] (fun i _ wr=>∃ k:Nat,k≤l.length∧i= .int .i64 k∧Aside (Sk.aam g l=Sk.aam g (l.drop k))∧Bx w wr [(w.heap.size,dN g,28)]) (fun i _ _=>l.length - (intOf i).toNat)
  case atStart=>exact ⟨0,Nat.zero_le _,rfl,by simp [Aside],hL⟩
  case round=>
   obtain ⟨k,hk,rfl,hall,hL⟩:=hrel
   by_cases hlt:k<l.length
   · obtain ⟨b,o,rfl,_,hbl,hc⟩:=(h.below hL.bw).at_ k hlt
     have hck:=hc k hlt;clear hc;have hx:=hall.out;rw [apT g hlt] at hx;have HX:=hide hx;clear hx hall
     go_upto_region 5 with ((go_at_call 66;refine (aa1 _ _).mono ?_;rintro e w4 ⟨rfl,hb4⟩;have hL:=hL.call hb4))
     obtain ⟨z,hz⟩:∃ q,Sk.value l[k]=q:=⟨_,rfl⟩;rw [hz] at HX;rw [hz];clear hz hck;have kg:=(hL.get 0 rfl).cell (j:=0) rfl
     rcases ha0:(decide (z<0)) with _ | _
     · rcases ha1:((g.kind.toList == [115,110,111,111,107,101,114])) with _ | _
       · rcases ha2:(decide (2<z)) with _ | _
         · have HR:=hide (show Sk.aam g l=Sk.aam g (l.drop (k+1)) by rw [HX.out];simp [ha0,ha1,ha2])
           clear HX;go_wp2
           go_roundw
           case rel=>exact ⟨k+1,by omega,by go_num,HR.out,hL⟩
           case measure=>simp [intOf];omega
         · have HR:=hide (show Sk.aam g l=false by rw [HX.out];simp [ha0,ha1,ha2])
           clear HX;go_wp2;go_ret;exact ⟨aI HR.out.symm,hL.bw⟩
       · have HR:=hide (show Sk.aam g l=Sk.aam g (l.drop (k+1)) by rw [HX.out];simp [ha0,ha1])
         clear HX;go_wp2
         go_roundw
         case rel=>exact ⟨k+1,by omega,by go_num,HR.out,hL⟩
         case measure=>simp [intOf];omega
     · have HR:=hide (show Sk.aam g l=false by rw [HX.out];simp [ha0])
       clear HX;go_wp2;go_ret;exact ⟨aI HR.out.symm,hL.bw⟩
   · have HA:=hide (show Sk.aam g l=true by rw [hall.out,List.drop_of_length_le (by omega)];rfl)
     go_wp2;go_ret;exact ⟨aI HA.out.symm,hL.bw⟩
theorem adz {b c:Prop} [Decidable b] [Decidable c] {x y u v:Int} (h:b↔c) (h1:x=u) (h2:y=v):ite b x y=ite c u v:=by
 subst h1 h2
 by_cases hb:b
 · rw [if_pos hb,if_pos (h.1 hb)]
 · rw [if_neg hb,if_neg (fun q=>hb (h.2 q))]
theorem azD (g:Sk.Game) (h0:Sk.eU g=0) (e:Sk.Entry):Sk.jc g e=if (e.kind.toList == [97,103,97,105,110]) || (e.kind.toList == [102,114,101,101]) || (e.kind.toList == [99,111,110,99,101,100,101]) then (if !e.called.toList.isEmpty || decide (0<(e.hits.length:Int)+(e.aV.length:Int)) || (e.dM != 0) then 1 else 0)
 else if !(e.kind.toList == [115,104,111,116]) then 13
 else if decide (22<(e.hits.length:Int)) || decide (22<(e.aV.length:Int)) then 5
 else if (!e.called.toList.isEmpty && decide (Sk.value e.called<2)) || !Sk.aam g e.hits || !Sk.aam g e.aV || ((g.kind.toList == [115,110,111,111,107,101,114]) && Sk.has e.hits Sk.dB) then 10
 else if Sk.out e.dM 0 99 then 3
 else if (!e.called.toList.isEmpty && !(g.kind.toList == [115,110,111,111,107,101,114])) || (decide (0<(e.aV.length:Int)) && (g.kind.toList == [99,97,114,111,109])) || (decide (0<e.dM) && !(g.kind.toList == [99,97,114,111,109])) then 1 else 0:=by
 rw [← Sk.axW g h0 e]
 have hc:e.called.toList.isEmpty=decide (e.called=Sk.bQ):=by
  by_cases h:e.called=Sk.bQ
  · rw [wtE h,decide_eq_true h]
  · rw [wfE h,decide_eq_false h]
 have a1:((0:Int)<(e.hits.length:Int)+(e.aV.length:Int))↔0<e.hits.length+e.aV.length:=by omega
 have a2:((22:Int)<(e.hits.length:Int))↔22<e.hits.length:=by omega
 have a3:((22:Int)<(e.aV.length:Int))↔22<e.aV.length:=by omega
 have a4:((0:Int)<(e.aV.length:Int))↔0<e.aV.length:=by omega
 have hn:(!decide (e.called=Sk.bQ))=true↔e.called≠Sk.bQ:=by simp
 have hs:(!decide (g.kind=Sk.aK))=true↔g.kind≠Sk.aK:=by simp
 have hm:(!decide (g.kind=Sk.fA))=true↔g.kind≠Sk.fA:=by simp
 have nt:∀ b:Bool,(!b)=true↔b=false:=fun b=>by cases b <;> simp
 rw [hc,jB,jB,jB,jB,jB,jB]
 unfold Sk.arJ
 refine (adz ?_ (adz ?_ rfl rfl) (adz ?_ rfl (adz ?_ rfl (adz ?_ rfl (adz Iff.rfl rfl (adz ?_ rfl rfl)))))).symm
 · rw [Bool.or_eq_true,Bool.or_eq_true,decide_eq_true_eq,decide_eq_true_eq,decide_eq_true_eq,or_assoc]
 · rw [Bool.or_eq_true,Bool.or_eq_true,hn,decide_eq_true_eq,a1,bne_iff_ne,or_assoc]
 · rw [nt,decide_eq_false_iff_not]
 · rw [Bool.or_eq_true,decide_eq_true_eq,decide_eq_true_eq,a2,a3]
 · rw [Bool.or_eq_true,Bool.or_eq_true,Bool.or_eq_true,Bool.and_eq_true,Bool.and_eq_true,hn,nt,nt,decide_eq_true_eq,decide_eq_true_eq,or_assoc,or_assoc]
 · rw [Bool.or_eq_true,Bool.or_eq_true,Bool.and_eq_true,Bool.and_eq_true,Bool.and_eq_true,hn,decide_eq_true_eq,decide_eq_true_eq,a4,decide_eq_true_eq,or_assoc]
   exact or_congr (and_congr Iff.rfl hs) (or_congr Iff.rfl (and_congr Iff.rfl hm))
theorem ak5 (S:Nat→Prop) (g:Sk.Game) (h0:Sk.eU g=0) (e:En) (w:World) (he:je w S e):Calls Tryz.prog 31 #[rF g,wC e] w fun e_ w'=>e_= .returned (.int .i64 (Sk.jc g e.x))∧Below w.heap.size w w':=by
 have HF:=hide (azD g h0 e.x);clear h0;obtain ⟨b1,b2,b3⟩:=he.hits.bd;obtain ⟨b4,b5,b6⟩:=he.aV.bd;have tk1:=hide True.intro
 go_enter Tryz.func31,Tryz.ntmps31
 go_upto_region 0 with (fail)
 go_cut [2,3,4] (fun v2 v3 v4 wx=>v2=ptr (w.heap.size)∧v3=ptr (w.heap.size+1)∧v4= .int .i64 0∧Bx w wx [(w.heap.size,dN g,28),(w.heap.size+1,fC e,45)])
 case first=>
  go_wp2;go_meet;exact ⟨rfl,rfl,rfl,Bx.of (((aC.nil w).new (by simp) (dN g) 28).new (by simp) (fC e) 45) _ rfl⟩
 case rest=>
  obtain ⟨rfl,rfl,rfl,hL⟩:=hcut;have kq0:=(hL.get 1 rfl).cell (j:=0) rfl
  go_upto_block 0 with (fail)
  go_cut [] from 5 to 31 (fun wx=>(((e.x.kind.toList == [97,103,97,105,110]) || (e.x.kind.toList == [102,114,101,101]) || (e.x.kind.toList == [99,111,110,99,101,100,101]))=false∧(e.x.kind.toList == [115,104,111,116])=true)∧Bx w wx [(w.heap.size,dN g,28),(w.heap.size+1,fC e,45)])
  case first=>
   have hw1:IntKind.i64.wrap ((e.x.hits.length:Int)+(e.x.aV.length:Int))=(e.x.hits.length:Int)+(e.x.aV.length:Int):=by rw [IntKind.wrap_i64];omega
   have V7:=(hL.get 1 rfl).cell (j:=1) rfl;have V8:=(hL.get 1 rfl).cell (j:=2) rfl;have ZW:=(hL.get 1 rfl).cell (j:=3) rfl;have ZX:=(hL.get 1 rfl).cell (j:=4) rfl
   rcases hp0:((e.x.kind.toList == [97,103,97,105,110])) with _ | _
   · rcases hp1:((e.x.kind.toList == [102,114,101,101])) with _ | _
     · rcases hp2:((e.x.kind.toList == [99,111,110,99,101,100,101])) with _ | _
       · rcases hp3:((e.x.kind.toList == [115,104,111,116])) with _ | _
         · have HR:=hide (show (13:Int)=Sk.jc g e.x by rw [HF.out];simp [hp0,hp1,hp2,hp3])
           go_wp2;go_ret;exact ⟨bG HR.out,hL.bw⟩
         · go_wp2
           go_meet;exact ⟨by simp [hp0,hp1,hp2,hp3],hL⟩
       · rcases hp3:(e.x.called.toList.isEmpty) with _ | _
         · have HR:=hide (show (1:Int)=Sk.jc g e.x by rw [HF.out];simp [hp0,hp1,hp2,hp3])
           go_wp2;go_ret;exact ⟨bG HR.out,hL.bw⟩
         · rcases YN:(decide (0<(e.x.hits.length:Int)+(e.x.aV.length:Int))) with _ | _
           · rcases hp5:(e.x.dM != 0) with _ | _
             · have HR:=hide (show (0:Int)=Sk.jc g e.x by rw [HF.out];simp [hp0,hp1,hp2,hp3,YN,hp5])
               go_wp2;go_ret;exact ⟨bG HR.out,hL.bw⟩
             · have HR:=hide (show (1:Int)=Sk.jc g e.x by rw [HF.out];simp [hp0,hp1,hp2,hp3,YN,hp5])
               go_wp2;go_ret;exact ⟨bG HR.out,hL.bw⟩
           · have HR:=hide (show (1:Int)=Sk.jc g e.x by rw [HF.out];simp [hp0,hp1,hp2,hp3,YN])
             go_wp2;go_ret;exact ⟨bG HR.out,hL.bw⟩
     · rcases hp2:(e.x.called.toList.isEmpty) with _ | _
       · have HR:=hide (show (1:Int)=Sk.jc g e.x by rw [HF.out];simp [hp0,hp1,hp2])
         go_wp2;go_ret;exact ⟨bG HR.out,hL.bw⟩
       · rcases hp3:(decide (0<(e.x.hits.length:Int)+(e.x.aV.length:Int))) with _ | _
         · rcases YN:(e.x.dM != 0) with _ | _
           · have HR:=hide (show (0:Int)=Sk.jc g e.x by rw [HF.out];simp [hp0,hp1,hp2,hp3,YN])
             go_wp2;go_ret;exact ⟨bG HR.out,hL.bw⟩
           · have HR:=hide (show (1:Int)=Sk.jc g e.x by rw [HF.out];simp [hp0,hp1,hp2,hp3,YN])
             go_wp2;go_ret;exact ⟨bG HR.out,hL.bw⟩
         · have HR:=hide (show (1:Int)=Sk.jc g e.x by rw [HF.out];simp [hp0,hp1,hp2,hp3])
           go_wp2;go_ret;exact ⟨bG HR.out,hL.bw⟩
   · rcases hp1:(e.x.called.toList.isEmpty) with _ | _
     · have HR:=hide (show (1:Int)=Sk.jc g e.x by rw [HF.out];simp [hp0,hp1])
       go_wp2;go_ret;exact ⟨bG HR.out,hL.bw⟩
     · rcases hp2:(decide (0<(e.x.hits.length:Int)+(e.x.aV.length:Int))) with _ | _
       · rcases hp3:(e.x.dM != 0) with _ | _
         · have HR:=hide (show (0:Int)=Sk.jc g e.x by rw [HF.out];simp [hp0,hp1,hp2,hp3])
           go_wp2;go_ret;exact ⟨bG HR.out,hL.bw⟩
         · have HR:=hide (show (1:Int)=Sk.jc g e.x by rw [HF.out];simp [hp0,hp1,hp2,hp3])
           go_wp2;go_ret;exact ⟨bG HR.out,hL.bw⟩
       · have HR:=hide (show (1:Int)=Sk.jc g e.x by rw [HF.out];simp [hp0,hp1,hp2])
         go_wp2;go_ret;exact ⟨bG HR.out,hL.bw⟩
  case rest=>
   obtain ⟨⟨hk1,hk2⟩,hL⟩:=hcut;have HF1:=hide (show Sk.jc g e.x=if decide (22<(e.x.hits.length:Int)) || decide (22<(e.x.aV.length:Int)) then 5 else if (!e.x.called.toList.isEmpty && decide (Sk.value e.x.called<2)) || !Sk.aam g e.x.hits || !Sk.aam g e.x.aV || ((g.kind.toList == [115,110,111,111,107,101,114]) && Sk.has e.x.hits Sk.dB) then 10 else if Sk.out e.x.dM 0 99 then 3 else if (!e.x.called.toList.isEmpty && !(g.kind.toList == [115,110,111,111,107,101,114])) || (decide (0<(e.x.aV.length:Int)) && (g.kind.toList == [99,97,114,111,109])) || (decide (0<e.x.dM) && !(g.kind.toList == [99,97,114,111,109])) then 1 else 0 by rw [HF.out,hk1,hk2];rfl);clear HF hk1 hk2;have YP:=(hL.get 1 rfl).cell (j:=1) rfl;have kx2:=(hL.get 1 rfl).cell (j:=2) rfl;have kx3:=(hL.get 1 rfl).cell (j:=3) rfl
   go_upto_region 10 with (fail)
   go_cut [40] from 31 to 41 (fun v40 wx=>v40= .bool (decide (22<(e.x.hits.length:Int)) || decide (22<(e.x.aV.length:Int)))∧Bx w wx [(w.heap.size,dN g,28),(w.heap.size+1,fC e,45)])
   case first=>
    rcases ha0:(decide (22<(e.x.hits.length:Int))) with _ | _
    · rcases ha1:(decide (22<(e.x.aV.length:Int))) with _ | _
      · go_wp2
        go_meet;exact ⟨congrArg Value.bool (by simp only [ha0,ha1,Bool.or_true,Bool.true_or,Bool.or_false]),hL⟩
      · go_wp2
        go_meet;exact ⟨congrArg Value.bool (by simp only [ha0,ha1,Bool.or_true,Bool.true_or,Bool.or_false]),hL⟩
    · go_wp2
      go_meet;exact ⟨congrArg Value.bool (by simp only [ha0,Bool.or_true,Bool.true_or,Bool.or_false]),hL⟩
   case rest=>
    obtain ⟨rfl,hL⟩:=hcut
    rcases hA:(decide (22<(e.x.hits.length:Int)) || decide (22<(e.x.aV.length:Int))) with _ | _
    rotate_left
    · have HR:=hide (show (5:Int)=Sk.jc g e.x by rw [HF1.out,hA];rfl)
      clear hA;go_wp2;go_ret;exact ⟨bG HR.out,hL.bw⟩
    have HF2:=hide (show Sk.jc g e.x=if (!e.x.called.toList.isEmpty && decide (Sk.value e.x.called<2)) || !Sk.aam g e.x.hits || !Sk.aam g e.x.aV || ((g.kind.toList == [115,110,111,111,107,101,114]) && Sk.has e.x.hits Sk.dB) then 10 else if Sk.out e.x.dM 0 99 then 3 else if (!e.x.called.toList.isEmpty && !(g.kind.toList == [115,110,111,111,107,101,114])) || (decide (0<(e.x.aV.length:Int)) && (g.kind.toList == [99,97,114,111,109])) || (decide (0<e.x.dM) && !(g.kind.toList == [99,97,114,111,109])) then 1 else 0 by rw [HF1.out,hA];rfl);clear hA HF1 YP kx2 kx3
    go_upto_region 12 with (fail)
    go_cut [73] from 41 to 74 (fun v73 wx=>v73= .bool ((!e.x.called.toList.isEmpty && decide (Sk.value e.x.called<2)) || !Sk.aam g e.x.hits || !Sk.aam g e.x.aV || ((g.kind.toList == [115,110,111,111,107,101,114]) && Sk.has e.x.hits Sk.dB))∧Bx w wx [(w.heap.size,dN g,28),(w.heap.size+1,fC e,45)])
    case first=>
     have YP:=(hL.get 1 rfl).cell (j:=1) rfl;have kx2:=(hL.get 1 rfl).cell (j:=2) rfl;have kx3:=(hL.get 1 rfl).cell (j:=3) rfl;have kxg:=(hL.get 0 rfl).cell (j:=0) rfl
     rcases ha0:(e.x.called.toList.isEmpty) with _ | _
     · rcases ha1:(decide (Sk.value e.x.called<2)) with _ | _
       · rcases ha2:(Sk.aam g e.x.hits) with _ | _
         · go_wp2_with (first | ((with_reducible refine dh 28 2 ?_);refine nI (hL.rn 0 0 (dN g)) Tryz.underlying28 qp ?_) | ((with_reducible refine iV 28 2 ?_);refine nJ (hL.rn 0 0 (dN g)) Tryz.underlying28 qp ?_) | fail | (go_at_call 66;refine (aa1 _ _).mono ?_;rintro e w4 ⟨rfl,hb4⟩;have hL:=hL.call hb4;have acQ:=(hL.get 1 rfl).cell (j:=1) rfl;have acY:=(hL.get 1 rfl).cell (j:=2) rfl;have ac6:=(hL.get 1 rfl).cell (j:=3) rfl;have acI:=(hL.get 0 rfl).cell (j:=0) rfl) | (clear tk1;go_at_call 67;refine (aae S g _ _ _ _ (he.hits.below hL.bw)).mono ?_;rintro e w5 ⟨rfl,hb5⟩;have hL:=hL.call hb5;have acQ:=(hL.get 1 rfl).cell (j:=1) rfl;have acY:=(hL.get 1 rfl).cell (j:=2) rfl;have ac6:=(hL.get 1 rfl).cell (j:=3) rfl;have acI:=(hL.get 0 rfl).cell (j:=0) rfl) | (go_at_call 67;refine (aae S g _ _ _ _ (he.aV.below hL.bw)).mono ?_;rintro e w6 ⟨rfl,hb6⟩;have hL:=hL.call hb6;have acQ:=(hL.get 1 rfl).cell (j:=1) rfl;have acY:=(hL.get 1 rfl).cell (j:=2) rfl;have ac6:=(hL.get 1 rfl).cell (j:=3) rfl;have acI:=(hL.get 0 rfl).cell (j:=0) rfl) | (go_at_call 68;refine (aco S _ _ _ Sk.dB _ (he.hits.below hL.bw)).mono ?_;rintro e w7 ⟨rfl,rfl⟩))
           go_meet;exact ⟨congrArg Value.bool (by simp [ha0,ha1,ha2]),hL⟩
         · rcases rH:(Sk.aam g e.x.aV) with _ | _
           · go_wp2_with (first | ((with_reducible refine dh 28 2 ?_);refine nI (hL.rn 0 0 (dN g)) Tryz.underlying28 qp ?_) | ((with_reducible refine iV 28 2 ?_);refine nJ (hL.rn 0 0 (dN g)) Tryz.underlying28 qp ?_) | fail | (go_at_call 66;refine (aa1 _ _).mono ?_;rintro e w4 ⟨rfl,hb4⟩;have hL:=hL.call hb4;have acQ:=(hL.get 1 rfl).cell (j:=1) rfl;have acY:=(hL.get 1 rfl).cell (j:=2) rfl;have ac6:=(hL.get 1 rfl).cell (j:=3) rfl;have acI:=(hL.get 0 rfl).cell (j:=0) rfl) | (clear tk1;go_at_call 67;refine (aae S g _ _ _ _ (he.hits.below hL.bw)).mono ?_;rintro e w5 ⟨rfl,hb5⟩;have hL:=hL.call hb5;have acQ:=(hL.get 1 rfl).cell (j:=1) rfl;have acY:=(hL.get 1 rfl).cell (j:=2) rfl;have ac6:=(hL.get 1 rfl).cell (j:=3) rfl;have acI:=(hL.get 0 rfl).cell (j:=0) rfl) | (go_at_call 67;refine (aae S g _ _ _ _ (he.aV.below hL.bw)).mono ?_;rintro e w6 ⟨rfl,hb6⟩;have hL:=hL.call hb6;have acQ:=(hL.get 1 rfl).cell (j:=1) rfl;have acY:=(hL.get 1 rfl).cell (j:=2) rfl;have ac6:=(hL.get 1 rfl).cell (j:=3) rfl;have acI:=(hL.get 0 rfl).cell (j:=0) rfl) | (go_at_call 68;refine (aco S _ _ _ Sk.dB _ (he.hits.below hL.bw)).mono ?_;rintro e w7 ⟨rfl,rfl⟩))
             go_meet;exact ⟨congrArg Value.bool (by simp [ha0,ha1,ha2,rH]),hL⟩
           · rcases Ho:((g.kind.toList == [115,110,111,111,107,101,114])) with _ | _
             · go_wp2_with (first | ((with_reducible refine dh 28 2 ?_);refine nI (hL.rn 0 0 (dN g)) Tryz.underlying28 qp ?_) | ((with_reducible refine iV 28 2 ?_);refine nJ (hL.rn 0 0 (dN g)) Tryz.underlying28 qp ?_) | fail | (go_at_call 66;refine (aa1 _ _).mono ?_;rintro e w4 ⟨rfl,hb4⟩;have hL:=hL.call hb4;have acQ:=(hL.get 1 rfl).cell (j:=1) rfl;have acY:=(hL.get 1 rfl).cell (j:=2) rfl;have ac6:=(hL.get 1 rfl).cell (j:=3) rfl;have acI:=(hL.get 0 rfl).cell (j:=0) rfl) | (clear tk1;go_at_call 67;refine (aae S g _ _ _ _ (he.hits.below hL.bw)).mono ?_;rintro e w5 ⟨rfl,hb5⟩;have hL:=hL.call hb5;have acQ:=(hL.get 1 rfl).cell (j:=1) rfl;have acY:=(hL.get 1 rfl).cell (j:=2) rfl;have ac6:=(hL.get 1 rfl).cell (j:=3) rfl;have acI:=(hL.get 0 rfl).cell (j:=0) rfl) | (go_at_call 67;refine (aae S g _ _ _ _ (he.aV.below hL.bw)).mono ?_;rintro e w6 ⟨rfl,hb6⟩;have hL:=hL.call hb6;have acQ:=(hL.get 1 rfl).cell (j:=1) rfl;have acY:=(hL.get 1 rfl).cell (j:=2) rfl;have ac6:=(hL.get 1 rfl).cell (j:=3) rfl;have acI:=(hL.get 0 rfl).cell (j:=0) rfl) | (go_at_call 68;refine (aco S _ _ _ Sk.dB _ (he.hits.below hL.bw)).mono ?_;rintro e w7 ⟨rfl,rfl⟩))
               go_meet;exact ⟨congrArg Value.bool (by simp [ha0,ha1,ha2,rH,Ho]),hL⟩
             · rcases YK:(Sk.has e.x.hits Sk.dB) with _ | _
               · go_wp2_with (first | ((with_reducible refine dh 28 2 ?_);refine nI (hL.rn 0 0 (dN g)) Tryz.underlying28 qp ?_) | ((with_reducible refine iV 28 2 ?_);refine nJ (hL.rn 0 0 (dN g)) Tryz.underlying28 qp ?_) | fail | (go_at_call 66;refine (aa1 _ _).mono ?_;rintro e w4 ⟨rfl,hb4⟩;have hL:=hL.call hb4;have acQ:=(hL.get 1 rfl).cell (j:=1) rfl;have acY:=(hL.get 1 rfl).cell (j:=2) rfl;have ac6:=(hL.get 1 rfl).cell (j:=3) rfl;have acI:=(hL.get 0 rfl).cell (j:=0) rfl) | (clear tk1;go_at_call 67;refine (aae S g _ _ _ _ (he.hits.below hL.bw)).mono ?_;rintro e w5 ⟨rfl,hb5⟩;have hL:=hL.call hb5;have acQ:=(hL.get 1 rfl).cell (j:=1) rfl;have acY:=(hL.get 1 rfl).cell (j:=2) rfl;have ac6:=(hL.get 1 rfl).cell (j:=3) rfl;have acI:=(hL.get 0 rfl).cell (j:=0) rfl) | (go_at_call 67;refine (aae S g _ _ _ _ (he.aV.below hL.bw)).mono ?_;rintro e w6 ⟨rfl,hb6⟩;have hL:=hL.call hb6;have acQ:=(hL.get 1 rfl).cell (j:=1) rfl;have acY:=(hL.get 1 rfl).cell (j:=2) rfl;have ac6:=(hL.get 1 rfl).cell (j:=3) rfl;have acI:=(hL.get 0 rfl).cell (j:=0) rfl) | (go_at_call 68;refine (aco S _ _ _ Sk.dB _ (he.hits.below hL.bw)).mono ?_;rintro e w7 ⟨rfl,rfl⟩))
                 go_meet;exact ⟨congrArg Value.bool (by simp [ha0,ha1,ha2,rH,Ho,YK]),hL⟩
               · go_wp2_with (first | ((with_reducible refine dh 28 2 ?_);refine nI (hL.rn 0 0 (dN g)) Tryz.underlying28 qp ?_) | ((with_reducible refine iV 28 2 ?_);refine nJ (hL.rn 0 0 (dN g)) Tryz.underlying28 qp ?_) | fail | (go_at_call 66;refine (aa1 _ _).mono ?_;rintro e w4 ⟨rfl,hb4⟩;have hL:=hL.call hb4;have acQ:=(hL.get 1 rfl).cell (j:=1) rfl;have acY:=(hL.get 1 rfl).cell (j:=2) rfl;have ac6:=(hL.get 1 rfl).cell (j:=3) rfl;have acI:=(hL.get 0 rfl).cell (j:=0) rfl) | (clear tk1;go_at_call 67;refine (aae S g _ _ _ _ (he.hits.below hL.bw)).mono ?_;rintro e w5 ⟨rfl,hb5⟩;have hL:=hL.call hb5;have acQ:=(hL.get 1 rfl).cell (j:=1) rfl;have acY:=(hL.get 1 rfl).cell (j:=2) rfl;have ac6:=(hL.get 1 rfl).cell (j:=3) rfl;have acI:=(hL.get 0 rfl).cell (j:=0) rfl) | (go_at_call 67;refine (aae S g _ _ _ _ (he.aV.below hL.bw)).mono ?_;rintro e w6 ⟨rfl,hb6⟩;have hL:=hL.call hb6;have acQ:=(hL.get 1 rfl).cell (j:=1) rfl;have acY:=(hL.get 1 rfl).cell (j:=2) rfl;have ac6:=(hL.get 1 rfl).cell (j:=3) rfl;have acI:=(hL.get 0 rfl).cell (j:=0) rfl) | (go_at_call 68;refine (aco S _ _ _ Sk.dB _ (he.hits.below hL.bw)).mono ?_;rintro e w7 ⟨rfl,rfl⟩))
                 go_meet;exact ⟨congrArg Value.bool (by simp [ha0,ha1,ha2,rH,Ho,YK]),hL⟩
       · go_wp2_with (first | ((with_reducible refine dh 28 2 ?_);refine nI (hL.rn 0 0 (dN g)) Tryz.underlying28 qp ?_) | ((with_reducible refine iV 28 2 ?_);refine nJ (hL.rn 0 0 (dN g)) Tryz.underlying28 qp ?_) | fail | (go_at_call 66;refine (aa1 _ _).mono ?_;rintro e w4 ⟨rfl,hb4⟩;have hL:=hL.call hb4;have acQ:=(hL.get 1 rfl).cell (j:=1) rfl;have acY:=(hL.get 1 rfl).cell (j:=2) rfl;have ac6:=(hL.get 1 rfl).cell (j:=3) rfl;have acI:=(hL.get 0 rfl).cell (j:=0) rfl) | (clear tk1;go_at_call 67;refine (aae S g _ _ _ _ (he.hits.below hL.bw)).mono ?_;rintro e w5 ⟨rfl,hb5⟩;have hL:=hL.call hb5;have acQ:=(hL.get 1 rfl).cell (j:=1) rfl;have acY:=(hL.get 1 rfl).cell (j:=2) rfl;have ac6:=(hL.get 1 rfl).cell (j:=3) rfl;have acI:=(hL.get 0 rfl).cell (j:=0) rfl) | (go_at_call 67;refine (aae S g _ _ _ _ (he.aV.below hL.bw)).mono ?_;rintro e w6 ⟨rfl,hb6⟩;have hL:=hL.call hb6;have acQ:=(hL.get 1 rfl).cell (j:=1) rfl;have acY:=(hL.get 1 rfl).cell (j:=2) rfl;have ac6:=(hL.get 1 rfl).cell (j:=3) rfl;have acI:=(hL.get 0 rfl).cell (j:=0) rfl) | (go_at_call 68;refine (aco S _ _ _ Sk.dB _ (he.hits.below hL.bw)).mono ?_;rintro e w7 ⟨rfl,rfl⟩))
         go_meet;exact ⟨congrArg Value.bool (by simp [ha0,ha1]),hL⟩
     · rcases ha1:(Sk.aam g e.x.hits) with _ | _
       · go_wp2_with (first | ((with_reducible refine dh 28 2 ?_);refine nI (hL.rn 0 0 (dN g)) Tryz.underlying28 qp ?_) | ((with_reducible refine iV 28 2 ?_);refine nJ (hL.rn 0 0 (dN g)) Tryz.underlying28 qp ?_) | fail | (go_at_call 66;refine (aa1 _ _).mono ?_;rintro e w4 ⟨rfl,hb4⟩;have hL:=hL.call hb4;have acQ:=(hL.get 1 rfl).cell (j:=1) rfl;have acY:=(hL.get 1 rfl).cell (j:=2) rfl;have ac6:=(hL.get 1 rfl).cell (j:=3) rfl;have acI:=(hL.get 0 rfl).cell (j:=0) rfl) | (clear tk1;go_at_call 67;refine (aae S g _ _ _ _ (he.hits.below hL.bw)).mono ?_;rintro e w5 ⟨rfl,hb5⟩;have hL:=hL.call hb5;have acQ:=(hL.get 1 rfl).cell (j:=1) rfl;have acY:=(hL.get 1 rfl).cell (j:=2) rfl;have ac6:=(hL.get 1 rfl).cell (j:=3) rfl;have acI:=(hL.get 0 rfl).cell (j:=0) rfl) | (go_at_call 67;refine (aae S g _ _ _ _ (he.aV.below hL.bw)).mono ?_;rintro e w6 ⟨rfl,hb6⟩;have hL:=hL.call hb6;have acQ:=(hL.get 1 rfl).cell (j:=1) rfl;have acY:=(hL.get 1 rfl).cell (j:=2) rfl;have ac6:=(hL.get 1 rfl).cell (j:=3) rfl;have acI:=(hL.get 0 rfl).cell (j:=0) rfl) | (go_at_call 68;refine (aco S _ _ _ Sk.dB _ (he.hits.below hL.bw)).mono ?_;rintro e w7 ⟨rfl,rfl⟩))
         go_meet;exact ⟨congrArg Value.bool (by simp [ha0,ha1]),hL⟩
       · rcases ha2:(Sk.aam g e.x.aV) with _ | _
         · go_wp2_with (first | ((with_reducible refine dh 28 2 ?_);refine nI (hL.rn 0 0 (dN g)) Tryz.underlying28 qp ?_) | ((with_reducible refine iV 28 2 ?_);refine nJ (hL.rn 0 0 (dN g)) Tryz.underlying28 qp ?_) | fail | (go_at_call 66;refine (aa1 _ _).mono ?_;rintro e w4 ⟨rfl,hb4⟩;have hL:=hL.call hb4;have acQ:=(hL.get 1 rfl).cell (j:=1) rfl;have acY:=(hL.get 1 rfl).cell (j:=2) rfl;have ac6:=(hL.get 1 rfl).cell (j:=3) rfl;have acI:=(hL.get 0 rfl).cell (j:=0) rfl) | (clear tk1;go_at_call 67;refine (aae S g _ _ _ _ (he.hits.below hL.bw)).mono ?_;rintro e w5 ⟨rfl,hb5⟩;have hL:=hL.call hb5;have acQ:=(hL.get 1 rfl).cell (j:=1) rfl;have acY:=(hL.get 1 rfl).cell (j:=2) rfl;have ac6:=(hL.get 1 rfl).cell (j:=3) rfl;have acI:=(hL.get 0 rfl).cell (j:=0) rfl) | (go_at_call 67;refine (aae S g _ _ _ _ (he.aV.below hL.bw)).mono ?_;rintro e w6 ⟨rfl,hb6⟩;have hL:=hL.call hb6;have acQ:=(hL.get 1 rfl).cell (j:=1) rfl;have acY:=(hL.get 1 rfl).cell (j:=2) rfl;have ac6:=(hL.get 1 rfl).cell (j:=3) rfl;have acI:=(hL.get 0 rfl).cell (j:=0) rfl) | (go_at_call 68;refine (aco S _ _ _ Sk.dB _ (he.hits.below hL.bw)).mono ?_;rintro e w7 ⟨rfl,rfl⟩))
           go_meet;exact ⟨congrArg Value.bool (by simp [ha0,ha1,ha2]),hL⟩
         · rcases rH:((g.kind.toList == [115,110,111,111,107,101,114])) with _ | _
           · go_wp2_with (first | ((with_reducible refine dh 28 2 ?_);refine nI (hL.rn 0 0 (dN g)) Tryz.underlying28 qp ?_) | ((with_reducible refine iV 28 2 ?_);refine nJ (hL.rn 0 0 (dN g)) Tryz.underlying28 qp ?_) | fail | (go_at_call 66;refine (aa1 _ _).mono ?_;rintro e w4 ⟨rfl,hb4⟩;have hL:=hL.call hb4;have acQ:=(hL.get 1 rfl).cell (j:=1) rfl;have acY:=(hL.get 1 rfl).cell (j:=2) rfl;have ac6:=(hL.get 1 rfl).cell (j:=3) rfl;have acI:=(hL.get 0 rfl).cell (j:=0) rfl) | (clear tk1;go_at_call 67;refine (aae S g _ _ _ _ (he.hits.below hL.bw)).mono ?_;rintro e w5 ⟨rfl,hb5⟩;have hL:=hL.call hb5;have acQ:=(hL.get 1 rfl).cell (j:=1) rfl;have acY:=(hL.get 1 rfl).cell (j:=2) rfl;have ac6:=(hL.get 1 rfl).cell (j:=3) rfl;have acI:=(hL.get 0 rfl).cell (j:=0) rfl) | (go_at_call 67;refine (aae S g _ _ _ _ (he.aV.below hL.bw)).mono ?_;rintro e w6 ⟨rfl,hb6⟩;have hL:=hL.call hb6;have acQ:=(hL.get 1 rfl).cell (j:=1) rfl;have acY:=(hL.get 1 rfl).cell (j:=2) rfl;have ac6:=(hL.get 1 rfl).cell (j:=3) rfl;have acI:=(hL.get 0 rfl).cell (j:=0) rfl) | (go_at_call 68;refine (aco S _ _ _ Sk.dB _ (he.hits.below hL.bw)).mono ?_;rintro e w7 ⟨rfl,rfl⟩))
             go_meet;exact ⟨congrArg Value.bool (by simp [ha0,ha1,ha2,rH]),hL⟩
           · rcases Ho:(Sk.has e.x.hits Sk.dB) with _ | _
             · go_wp2_with (first | ((with_reducible refine dh 28 2 ?_);refine nI (hL.rn 0 0 (dN g)) Tryz.underlying28 qp ?_) | ((with_reducible refine iV 28 2 ?_);refine nJ (hL.rn 0 0 (dN g)) Tryz.underlying28 qp ?_) | fail | (go_at_call 66;refine (aa1 _ _).mono ?_;rintro e w4 ⟨rfl,hb4⟩;have hL:=hL.call hb4;have acQ:=(hL.get 1 rfl).cell (j:=1) rfl;have acY:=(hL.get 1 rfl).cell (j:=2) rfl;have ac6:=(hL.get 1 rfl).cell (j:=3) rfl;have acI:=(hL.get 0 rfl).cell (j:=0) rfl) | (clear tk1;go_at_call 67;refine (aae S g _ _ _ _ (he.hits.below hL.bw)).mono ?_;rintro e w5 ⟨rfl,hb5⟩;have hL:=hL.call hb5;have acQ:=(hL.get 1 rfl).cell (j:=1) rfl;have acY:=(hL.get 1 rfl).cell (j:=2) rfl;have ac6:=(hL.get 1 rfl).cell (j:=3) rfl;have acI:=(hL.get 0 rfl).cell (j:=0) rfl) | (go_at_call 67;refine (aae S g _ _ _ _ (he.aV.below hL.bw)).mono ?_;rintro e w6 ⟨rfl,hb6⟩;have hL:=hL.call hb6;have acQ:=(hL.get 1 rfl).cell (j:=1) rfl;have acY:=(hL.get 1 rfl).cell (j:=2) rfl;have ac6:=(hL.get 1 rfl).cell (j:=3) rfl;have acI:=(hL.get 0 rfl).cell (j:=0) rfl) | (go_at_call 68;refine (aco S _ _ _ Sk.dB _ (he.hits.below hL.bw)).mono ?_;rintro e w7 ⟨rfl,rfl⟩))
               go_meet;exact ⟨congrArg Value.bool (by simp [ha0,ha1,ha2,rH,Ho]),hL⟩
             · go_wp2_with (first | ((with_reducible refine dh 28 2 ?_);refine nI (hL.rn 0 0 (dN g)) Tryz.underlying28 qp ?_) | ((with_reducible refine iV 28 2 ?_);refine nJ (hL.rn 0 0 (dN g)) Tryz.underlying28 qp ?_) | fail | (go_at_call 66;refine (aa1 _ _).mono ?_;rintro e w4 ⟨rfl,hb4⟩;have hL:=hL.call hb4;have acQ:=(hL.get 1 rfl).cell (j:=1) rfl;have acY:=(hL.get 1 rfl).cell (j:=2) rfl;have ac6:=(hL.get 1 rfl).cell (j:=3) rfl;have acI:=(hL.get 0 rfl).cell (j:=0) rfl) | (clear tk1;go_at_call 67;refine (aae S g _ _ _ _ (he.hits.below hL.bw)).mono ?_;rintro e w5 ⟨rfl,hb5⟩;have hL:=hL.call hb5;have acQ:=(hL.get 1 rfl).cell (j:=1) rfl;have acY:=(hL.get 1 rfl).cell (j:=2) rfl;have ac6:=(hL.get 1 rfl).cell (j:=3) rfl;have acI:=(hL.get 0 rfl).cell (j:=0) rfl) | (go_at_call 67;refine (aae S g _ _ _ _ (he.aV.below hL.bw)).mono ?_;rintro e w6 ⟨rfl,hb6⟩;have hL:=hL.call hb6;have acQ:=(hL.get 1 rfl).cell (j:=1) rfl;have acY:=(hL.get 1 rfl).cell (j:=2) rfl;have ac6:=(hL.get 1 rfl).cell (j:=3) rfl;have acI:=(hL.get 0 rfl).cell (j:=0) rfl) | (go_at_call 68;refine (aco S _ _ _ Sk.dB _ (he.hits.below hL.bw)).mono ?_;rintro e w7 ⟨rfl,rfl⟩))
               go_meet;exact ⟨congrArg Value.bool (by simp [ha0,ha1,ha2,rH,Ho]),hL⟩
    case rest=>
     obtain ⟨rfl,hL⟩:=hcut
     rcases hA:((!e.x.called.toList.isEmpty && decide (Sk.value e.x.called<2)) || !Sk.aam g e.x.hits || !Sk.aam g e.x.aV || ((g.kind.toList == [115,110,111,111,107,101,114]) && Sk.has e.x.hits Sk.dB)) with _ | _
     rotate_left
     · have HR:=hide (show (10:Int)=Sk.jc g e.x by rw [HF2.out,hA];rfl)
       clear hA;go_wp2;go_ret;exact ⟨bG HR.out,hL.bw⟩
     have HF3:=hide (show Sk.jc g e.x=if Sk.out e.x.dM 0 99 then 3 else if (!e.x.called.toList.isEmpty && !(g.kind.toList == [115,110,111,111,107,101,114])) || (decide (0<(e.x.aV.length:Int)) && (g.kind.toList == [99,97,114,111,109])) || (decide (0<e.x.dM) && !(g.kind.toList == [99,97,114,111,109])) then 1 else 0 by rw [HF2.out,hA];rfl);clear hA HF2;have kx4:=(hL.get 1 rfl).cell (j:=4) rfl
     rcases hA:Sk.out e.x.dM 0 99 with _ | _
     rotate_left
     · have HR:=hide (show (3:Int)=Sk.jc g e.x by rw [HF3.out,hA];rfl)
       go_wp2_with (go_at_call 17;refine (jR _ _ _ _).mono ?_;rintro e w8 ⟨rfl,rfl⟩)
       go_ret;exact ⟨bG HR.out,hL.bw⟩
     have NC:=hide (show Sk.jc g e.x=if (!e.x.called.toList.isEmpty && !(g.kind.toList == [115,110,111,111,107,101,114])) || (decide (0<(e.x.aV.length:Int)) && (g.kind.toList == [99,97,114,111,109])) || (decide (0<e.x.dM) && !(g.kind.toList == [99,97,114,111,109])) then 1 else 0 by rw [HF3.out,hA];rfl)
     go_upto_region 16 with (go_at_call 17;refine (jR _ _ _ _).mono ?_;rintro e w8 ⟨rfl,rfl⟩)
     clear hA HF3
     go_cut [105] from 74 to 106 (fun v105 wx=>v105= .bool ((!e.x.called.toList.isEmpty && !(g.kind.toList == [115,110,111,111,107,101,114])) || (decide (0<(e.x.aV.length:Int)) && (g.kind.toList == [99,97,114,111,109])) || (decide (0<e.x.dM) && !(g.kind.toList == [99,97,114,111,109])))∧Bx w wx [(w.heap.size,dN g,28),(w.heap.size+1,fC e,45)])
     case first=>
      have YP:=(hL.get 1 rfl).cell (j:=1) rfl;have kx3:=(hL.get 1 rfl).cell (j:=3) rfl;have kg:=(hL.get 0 rfl).cell (j:=0) rfl
      rcases ha0:(e.x.called.toList.isEmpty) with _ | _
      · rcases ha1:((g.kind.toList == [115,110,111,111,107,101,114])) with _ | _
        · go_wp2
          go_meet;exact ⟨congrArg Value.bool (by simp only [ha0,ha1];rfl),hL⟩
        · rcases ha2:(decide (0<(e.x.aV.length:Int))) with _ | _
          · rcases rH:(decide (0<e.x.dM)) with _ | _
            · have hq:=(show decide (0<e.x.aV.length)=false by simpa using ha2)
              go_wp2;go_meet;exact ⟨congrArg Value.bool (by simp only [ha0,ha1,ha2,rH];rfl),hL⟩
            · rcases Ho:((g.kind.toList == [99,97,114,111,109])) with _ | _
              · have hq:=(show decide (0<e.x.aV.length)=false by simpa using ha2)
                go_wp2;go_meet;exact ⟨congrArg Value.bool (by simp only [ha0,ha1,ha2,rH,Ho];rfl),hL⟩
              · have hq:=(show decide (0<e.x.aV.length)=false by simpa using ha2)
                go_wp2;go_meet;exact ⟨congrArg Value.bool (by simp only [ha0,ha1,ha2,rH,Ho];rfl),hL⟩
          · rcases rH:((g.kind.toList == [99,97,114,111,109])) with _ | _
            · rcases Ho:(decide (0<e.x.dM)) with _ | _
              · have hq:=(show decide (0<e.x.aV.length)=true by simpa using ha2)
                go_wp2;go_meet;exact ⟨congrArg Value.bool (by simp only [ha0,ha1,ha2,rH,Ho];rfl),hL⟩
              · have hq:=(show decide (0<e.x.aV.length)=true by simpa using ha2)
                go_wp2;go_meet;exact ⟨congrArg Value.bool (by simp only [ha0,ha1,ha2,rH,Ho];rfl),hL⟩
            · have hq:=(show decide (0<e.x.aV.length)=true by simpa using ha2)
              go_wp2;go_meet;exact ⟨congrArg Value.bool (by simp only [ha0,ha1,ha2,rH];rfl),hL⟩
      · rcases ha1:(decide (0<(e.x.aV.length:Int))) with _ | _
        · rcases ha2:(decide (0<e.x.dM)) with _ | _
          · have hq:=(show decide (0<e.x.aV.length)=false by simpa using ha1)
            go_wp2;go_meet;exact ⟨congrArg Value.bool (by simp only [ha0,ha1,ha2];rfl),hL⟩
          · rcases rH:((g.kind.toList == [99,97,114,111,109])) with _ | _
            · have hq:=(show decide (0<e.x.aV.length)=false by simpa using ha1)
              go_wp2;go_meet;exact ⟨congrArg Value.bool (by simp only [ha0,ha1,ha2,rH];rfl),hL⟩
            · have hq:=(show decide (0<e.x.aV.length)=false by simpa using ha1)
              go_wp2;go_meet;exact ⟨congrArg Value.bool (by simp only [ha0,ha1,ha2,rH];rfl),hL⟩
        · rcases ha2:((g.kind.toList == [99,97,114,111,109])) with _ | _
          · rcases rH:(decide (0<e.x.dM)) with _ | _
            · have hq:=(show decide (0<e.x.aV.length)=true by simpa using ha1)
              go_wp2;go_meet;exact ⟨congrArg Value.bool (by simp only [ha0,ha1,ha2,rH];rfl),hL⟩
            · have hq:=(show decide (0<e.x.aV.length)=true by simpa using ha1)
              go_wp2;go_meet;exact ⟨congrArg Value.bool (by simp only [ha0,ha1,ha2,rH];rfl),hL⟩
          · have hq:=(show decide (0<e.x.aV.length)=true by simpa using ha1)
            go_wp2;go_meet;exact ⟨congrArg Value.bool (by simp only [ha0,ha1,ha2];rfl),hL⟩
     case rest=>
      obtain ⟨rfl,hL⟩:=hcut
      rcases hA:((!e.x.called.toList.isEmpty && !(g.kind.toList == [115,110,111,111,107,101,114])) || (decide (0<(e.x.aV.length:Int)) && (g.kind.toList == [99,97,114,111,109])) || (decide (0<e.x.dM) && !(g.kind.toList == [99,97,114,111,109]))) with _ | _
      · have HR:=hide (show (0:Int)=Sk.jc g e.x by rw [NC.out,hA];rfl)
        clear hA;go_wp2;go_ret;exact ⟨bG HR.out,hL.bw⟩
      · have HR:=hide (show (1:Int)=Sk.jc g e.x by rw [NC.out,hA];rfl)
        clear hA;go_wp2;go_ret;exact ⟨bG HR.out,hL.bw⟩
theorem an9 (S:Nat→Prop) (g:Sk.Game) (e:En) (w:World) (he:je w S e):Calls Tryz.prog 13 #[rF g,wC e] w fun e_ w'=>e_= .returned (.int .i64 (Sk.aep g e.x))∧Below w.heap.size w w':=by
 go_enter Tryz.func13,Tryz.ntmps13
 go_upto_region 0 with (fail)
 go_cut [2,3,4] (fun v2 v3 v4 wx=>v2=ptr (w.heap.size)∧v3=ptr (w.heap.size+1)∧v4= .int .i64 0∧Bx w wx [(w.heap.size,dN g,28),(w.heap.size+1,fC e,45)])
 case first=>
  go_wp2;go_meet;exact ⟨rfl,rfl,rfl,Bx.of (((aC.nil w).new (by simp) (dN g) 28).new (by simp) (fC e) 45) _ rfl⟩
 case rest=>
  obtain ⟨rfl,rfl,rfl,hL⟩:=hcut
  go_upto_region 2 with (first | ((with_reducible refine dh 28 2 ?_);refine nI (hL.rn 0 0 (dN g)) Tryz.underlying28 qp ?_) | ((with_reducible refine iV 28 2 ?_);refine nJ (hL.rn 0 0 (dN g)) Tryz.underlying28 qp ?_) | (go_at_call 16;refine (Gx g _).mono ?_;rintro e w5 ⟨rfl,hb5⟩;have hL:=hL.call hb5))
  obtain ⟨n,hn⟩:∃ q,Sk.eU g=q:=⟨_,rfl⟩
  rcases hz:(n != 0) with _ | _
  rotate_left
  · have HR:=hide (show n=Sk.aep g e.x by unfold Sk.aep;rw [hn,if_pos (by simpa using hz)])
    have hz2:(n == 0)=false:=by simpa using hz
    rw [hn];clear hn;go_wp2;go_ret;exact ⟨bG HR.out,hL.bw⟩
  · have hz1:n=0:=by simpa using hz
    subst hz1;have HZ:=hide hn;have uP:=hide (show Sk.aep g e.x=Sk.jc g e.x by unfold Sk.aep;rw [if_neg (by simp [hn])]);rw [hn];clear hn hz
    go_wp2_with (first | ((with_reducible refine dh 28 2 ?_);refine nI (hL.rn 0 0 (dN g)) Tryz.underlying28 qp ?_) | ((with_reducible refine iV 28 2 ?_);refine nJ (hL.rn 0 0 (dN g)) Tryz.underlying28 qp ?_) | ((with_reducible refine dh 45 3 ?_);refine nI (hL.rn 1 0 (fC e)) Tryz.underlying45 ald ?_) | ((with_reducible refine iV 45 3 ?_);refine nJ (hL.rn 1 0 (fC e)) Tryz.underlying45 ald ?_) | (go_at_call 31;refine (ak5 S g HZ.out e _ (he.below hL.bw)).mono ?_;rintro e w6 ⟨rfl,hb6⟩;have hL:=hL.call hb6))
    go_ret;exact ⟨bG uP.out.symm,hL.bw⟩
theorem arR (S:Nat→Prop) (g:Sk.Game) (l:List En) (A:Option Addr) (c:Nat) (w:World) (hl:wF w S A c l):Calls Tryz.prog 11 #[rF g,.slice A l.length c] w fun e_ w'=>e_= .returned (.int .i64 (Sk.aaT g (bare l)))∧Below w.heap.size w w':=by
 obtain ⟨b1,b2,b3⟩:=hl.bd
 go_enter Tryz.func11,Tryz.ntmps11
 go_upto_region 0 with (fail)
 go_cut [2,4] (fun v2 v4 wx=>v2=ptr (w.heap.size)∧v4= .int .i64 0∧Bx w wx [(w.heap.size,dN g,28)])
 case first=>
  go_wp2;go_meet;exact ⟨rfl,rfl,Bx.of ((aC.nil w).new (by simp) (dN g) 28) _ rfl⟩
 case rest=>
  obtain ⟨rfl,rfl,hL⟩:=hcut
  go_upto_region 2 with (first | ((with_reducible refine dh 28 2 ?_);refine nI (hL.rn 0 0 (dN g)) Tryz.underlying28 qp ?_) | ((with_reducible refine iV 28 2 ?_);refine nJ (hL.rn 0 0 (dN g)) Tryz.underlying28 qp ?_) | (go_at_call 16;refine (Gx g _).mono ?_;rintro e w5 ⟨rfl,hb5⟩;have hL:=hL.call hb5))
  obtain ⟨n,hn⟩:∃ q,Sk.eU g=q:=⟨_,rfl⟩
  rcases hz:(n != 0) with _ | _
  rotate_left
  · have HR:=hide (show n=Sk.aaT g (bare l) by unfold Sk.aaT;rw [hn,if_pos (by simpa using hz)])
    have hz2:(n == 0)=false:=by simpa using hz
    rw [hn];clear hn hz2;go_wp2;go_ret;exact ⟨bG HR.out,hL.bw⟩
  · have hz1:n=0:=by simpa using hz
    subst hz1;have HZ:=hide hn;have uP:=hide (show Sk.aaT g (bare l)=if 1000<l.length then 5 else Sk.abL g (bare l) by unfold Sk.aaT;rw [if_neg (by simp [hn]),abB]);rw [hn];clear hn hz
    by_cases hlen:1000<l.length
    · have hd:decide (1000<(l.length:Int))=true:=decide_eq_true (by omega)
      have HR:=hide (show (5:Int)=Sk.aaT g (bare l) by rw [uP.out,if_pos hlen]);clear hlen uP;go_wp2;go_ret;exact ⟨bG HR.out,hL.bw⟩
    have hd:decide (1000<(l.length:Int))=false:=decide_eq_false (by omega);have HR:=hide (show Sk.aaT g (bare l)=Sk.abL g (bare l) by rw [uP.out,if_neg hlen]);clear uP hlen
    go_upto_region 6 with (fail)
    go_wp2
    go_loopw [5,6] (fun v i wr=>∃ k:Nat,k≤l.length∧v= .int .i64 0∧i= .int .i64 k∧Aside (Sk.abL g (bare l)=Sk.abL g (bare (l.drop k)))∧Bx w wr [(w.heap.size,dN g,28)]) (fun _ i _=>l.length - (intOf i).toNat)
    case atStart=>exact ⟨0,Nat.zero_le _,rfl,rfl,by simp [Aside],hL⟩
    case round=>
     obtain ⟨k,hk,rfl,rfl,hx,hL⟩:=hrel
     by_cases hlt:k<l.length
     · have heg:=(hl.ent k hlt)
       have hst:=ajI g l hlt;obtain ⟨b,o,rfl,_,_,_⟩:=hl.at_ k hlt;have hrg:=fun (W:World) (hb:Below w.heap.size w W)=>Oc hl hlt hb rfl;obtain ⟨ek,hek⟩:∃ e,l[k]=e:=⟨_,rfl⟩;rw [hek] at heg hst
       have hrg:∀ W:World,Below w.heap.size w W→W.rangeAt b (o+k*5) (fC ek):=fun W hb=>by have:=hrg W hb;rwa [hek] at this
       have hx2:=hx.out;rw [hst] at hx2;have HX:=hide hx2;clear hst hek hx hx2
       go_upto_region 9 with (fail)
       go_cut [5,6] (fun v5 v6 wx=>v5= .int .i64 (Sk.jc g ek.x)∧v6= .int .i64 k∧Bx w wx [(w.heap.size,dN g,28)])
       case first=>
        have ZP:∀ W:World,Bx w W [(w.heap.size,dN g,28)]→W.rangeAt (w.heap.size) 0 (dN g):=fun W h=>h.rng 0 rfl 0 _ rfl;have ZQ:∀ W:World,Bx w W [(w.heap.size,dN g,28)]→W.rangeAt (b) (o+k*5) (fC ek):=fun W h=>(hrg W h.bw);have hL:=hL.drew;refine wp_region_held_drew (S:=(fun w':World=>Bx w w' [(w.heap.size,dN g,28)])) (by kernel_rfl) ?bU (fun hHeld=>?_)
        case bU=>exact hL
        refine wpAnyH_take (i:=0) (oi:=_) (v:=_) (ga rfl) (by kernel_rfl) (by kernel_rfl) (by kernel_rfl) (fun _ _ _ h=>h) (yieldsIf_load_mid (by rfl) _ _ (by rfl) _ _ (by rfl) _ _ ZP Tryz.underlying28 rfl (by kernel_rfl)) (by assumption) ?_
        try simp only [Act.put,la,lz,ls]
        refine tk 1 ?_;refine tk 2 ?_;refine tk 3 ?_;refine wpAnyH_take (i:=4) (oi:=_) (v:=_) (ga rfl) (by kernel_rfl) (by kernel_rfl) (by kernel_rfl) (fun _ _ _ h=>h) (yieldsIf_load_mid (by rfl) _ _ (by rfl) _ _ (by rfl) _ _ ZQ Tryz.underlying45 rfl (by kernel_rfl)) (by assumption) ?_
        try simp only [Act.put,la,lz,ls]
        refine tr 5 fun K hK=>?_;go_simp
        (go_at_call 31;refine (ak5 S g HZ.out ek _ (heg.below hL.bw)).mono ?_;rintro e w9a ⟨rfl,Xi⟩)
        have hL:=hL.call Xi;refine hK.out _ _ ?Qg (fun hHeld=>?_)
        case Qg=>(exact hL)
        clear hK K
        try simp only [Act.put,la,lz,ls]
        refine tk 6 ?_;refine wpAnyH_done (by kernel_rfl) ?_ _;go_wp2;go_meet;exact ⟨rfl,rfl,hL⟩
       case rest=>
        obtain ⟨rfl,rfl,hL⟩:=hcut;obtain ⟨z,hz⟩:∃ q,Sk.jc g ek.x=q:=⟨_,rfl⟩;rw [hz] at HX;rw [hz];clear hz
        rcases hz2:(z != 0) with _ | _
        · have hz3:z=0:=by simpa using hz2
          subst hz3;have HX2:=hide (show Sk.abL g (bare l)=Sk.abL g (bare (l.drop (k+1))) by rw [HX.out];rfl);clear HX;go_wp2
          go_roundw
          case rel=>exact ⟨k+1,by omega,rfl,by go_num,HX2.out,hL⟩
          case measure=>simp [intOf];omega
        · have HX2:=hide (show z=Sk.aaT g (bare l) by rw [HR.out,HX.out,if_pos (by simpa using hz2)])
          clear HX;go_wp2;go_ret;exact ⟨bG HX2.out,hL.bw⟩
     · have HX:=hide (show (0:Int)=Sk.aaT g (bare l) by rw [HR.out,hx.out,List.drop_of_length_le (by omega)];rfl)
       clear hx;go_wp2;go_ret;exact ⟨bG HX.out,hL.bw⟩
theorem avT (l:List En) (k:Nat) (hk:k<l.length):tJ (l.take (k+1))=tJ (l.take k)++fC l[k]:=by
 rw [List.take_succ_eq_append_getElem hk,uo]
 simp [tJ]
end Go.Proofs.YtcbmedfongiojaaGreatDoor
