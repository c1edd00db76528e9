/- Parts of a proof. -/
import Derived.Test.YtjbbfmofpjflmaaGreatDoorKa2
import Derived.Test.YtjbbfmofpjflmaaGreatDoorKa3
import Derived.Test.YtjbbfmofpjflmaaGreatDoorKr22
set_option maxHeartbeats 3200000
set_option maxRecDepth 100000
set_option linter.unusedVariables false
set_option linter.unusedSimpArgs false
namespace Go.Proofs.YtjbbfmofpjflmaaGreatDoor
open Go.RowKit
theorem adf (g:Sk.Game) (l:List En) (C:List (Int × Int)):fst [Sk.iO g (bare l),jg ((C.length:Int) != (l.length:Int)) 2]=TS g l C:=by
 unfold TS
 have:((C.length:Int) != (l.length:Int))=decide (C.length≠l.length):=by rw [Bool.eq_iff_iff];simp;omega
 rw [this]
theorem aa8 (S S':Nat→Prop) (g:Sk.Game) (l:List En) (C:List (Int × Int)) (A A1:Option Addr) (c c1:Nat) (w:World) (hG:Glob w) (hl:ni w S A c l) (hn:l.length*88≤140737488355328) (hc:RdQ w S' A1 c1 C):
 Calls Tryz.prog 5 #[lX g,.slice A l.length c,.slice A1 C.length c1] w fun e w'=>e= .returned (.bool true)∧Below w.heap.size w w':=by
 have HG:=hide hG;clear hG;obtain ⟨b1,b2,b3⟩:=hl.bd;obtain ⟨b4,b5,b6⟩:=Reads.bd hc
 go_enter Tryz.func5,Tryz.ntmps5
 go_upto_region 0 with (fail)
 go_cut [3,6] (fun v3 v6 wx=>v3=ptr (w.heap.size)∧v6= .bool false∧Bx w wx [(w.heap.size,bK g,23)])
 case first=>
  go_wp2;go_meet;exact ⟨rfl,rfl,Bx.of ((aG.nil w).new (by simp) (bK g) 23) _ rfl⟩
 case rest=>
  obtain ⟨rfl,rfl,hL⟩:=hcut
  go_upto_region 1 with (fail)
  go_cut [7,8] from 12 to 15 (fun v7 v8 wx=>∃ B7 A8 c8,v7=ptr B7∧v8= .slice A8 l.length c8∧(∃ S8:Nat→Prop,ni wx S8 A8 c8 l)∧Bx w wx [(B7,bK g,28),(w.heap.size,bK g,23)])
  case first=>
   have aAU:=hL.bw.size;have adr:∀ W:World,Bx w W [(w.heap.size,bK g,23)]→W.rangeAt (w.heap.size) 0 ([.string g.kind,.int .i64 g.aY,.int .i64 g.target,.int .i64 g.turns]):=fun W h=>h.rng 0 rfl 0 _ rfl;have hL:=hL.drew;refine wp_region_held_drew (S:=(fun w':World=>Bx w w' [(w.heap.size,bK g,23)])) (by kernel_rfl) ?bg (fun hHeld=>?_)
   case bg=>exact hL
   refine wpAnyH_take (i:=0) (oi:=_) (v:=_) (ga rfl) (by kernel_rfl) (by kernel_rfl) (by kernel_rfl) (fun _ _ _ h=>h) (yieldsIf_load_mid (by rfl) _ _ (by rfl) _ _ (by rfl) _ _ adr Tryz.underlying23 rfl (by kernel_rfl)) (by assumption) ?_
   try simp only [Act.put,la,lz,ls]
   refine tk 1 ?_;refine wpAnyH_ready (rs:=[2,3]) (by kernel_rfl) (by simp) ?_;refine AllReadyH.cons (o:=_) (ga rfl) (fun K hK=>?_) (AllReadyH.cons (o:=_) (ga rfl) (fun K hK=>?_) AllReadyH.nil)
   · go_simp
     (go_at_call 15;refine (Di (fun b=>b<w.heap.size) l A c _ ((hl.more (S':=fun b=>b<w.heap.size) (fun b hb _=>hb)).below hL.bw) hn).mono ?_;rintro e Zb ⟨A8,c8,rfl,hE,PE⟩)
     have hL:=hL.call PE;have hE:=hE.lim;refine hK.out _ _ ?acG (fun hHeld=>?_)
     case acG=>(first | exact hL | exact hL.tail)
     clear hK K
     try simp only [Act.put,la,lz,ls]
     refine tr 3 fun K hK=>?_;go_simp;have hL:=hL.add (bK ⟨⟨#[]⟩,0,0,0⟩) 28
     try have hE:=hE.below ((Below.refl _ _).alloc (Nat.le_refl _) (.cells (bK ⟨⟨#[]⟩,0,0,0⟩).toArray 28))
     refine hK.out _ _ ?abS (fun hHeld=>?_)
     case abS=>(exact hL.tail)
     clear hK K
     try simp only [Act.put,la,lz,ls]
     refine tr 4 fun K hK=>?_;refine aQ hL.head (bK g) rfl dP (Ew _) (.tmp 7) (.tmp 12) rfl rfl rfl ?_;have aeo:=hL.bw.size;have hE:=hE.arB hL (by rintro b ⟨h1 | h1,h2⟩ <;> (intro h3;(try simp at h1);(try simp at h2);(try simp at h3);omega)) (bK g) 0;have hL:=hL.put (bK g) rfl;refine hK.out _ _ ?ab9 (fun hHeld=>?_)
     case ab9=>(exact hL.tail)
     clear hK K
     try simp only [Act.put,la,lz,ls]
     refine tk 5 ?_;refine wpAnyH_done (by kernel_rfl) ?_ _;go_wp2;go_meet;exact ⟨_,_,_,rfl,rfl,⟨_,hE⟩,hL⟩
   · go_simp
     have hL:=hL.add (bK ⟨⟨#[]⟩,0,0,0⟩) 28
     try have hE:=hE.below ((Below.refl _ _).alloc (Nat.le_refl _) (.cells (bK ⟨⟨#[]⟩,0,0,0⟩).toArray 28))
     refine hK.out _ _ ?ab1 (fun hHeld=>?_)
     case ab1=>(exact hL.tail)
     clear hK K
     try simp only [Act.put,la,lz,ls]
     refine tr 2 fun K hK=>?_;go_simp
     (go_at_call 15;refine (Di (fun b=>b<w.heap.size) l A c _ ((hl.more (S':=fun b=>b<w.heap.size) (fun b hb _=>hb)).below hL.bw) hn).mono ?_;rintro e Zb ⟨A8,c8,rfl,hE,PE⟩)
     have hL:=hL.call PE;have hE:=hE.lim;refine hK.out _ _ ?abJ (fun hHeld=>?_)
     case abJ=>(first | exact hL | exact hL.tail)
     clear hK K
     try simp only [Act.put,la,lz,ls]
     refine tr 4 fun K hK=>?_;refine aQ hL.head (bK g) rfl dP (Ew _) (.tmp 7) (.tmp 12) rfl rfl rfl ?_;have aeo:=hL.bw.size;have hE:=hE.arB hL (by rintro b ⟨h1 | h1,h2⟩ <;> (intro h3;(try simp at h1);(try simp at h2);(try simp at h3);omega)) (bK g) 0;have hL:=hL.put (bK g) rfl;refine hK.out _ _ ?acn (fun hHeld=>?_)
     case acn=>(exact hL.tail)
     clear hK K
     try simp only [Act.put,la,lz,ls]
     refine tk 5 ?_;refine wpAnyH_done (by kernel_rfl) ?_ _;go_wp2;go_meet;exact ⟨_,_,_,rfl,rfl,⟨_,hE⟩,hL⟩
  case rest=>
   obtain ⟨B7,A8,c8,rfl,rfl,⟨S8,hE⟩,hL⟩:=hcut;have k1:=(hL.get 1 rfl).cell (j:=0) rfl
   rename World=>W1
   have hb0:=hL.bw
   go_upto_region 2 with (fail)
   go_cut [32] from 15 to 33 (fun v32 wx=>∃ b,v32= .bool b∧ni wx S8 A8 c8 l∧Bx w wx [(B7,bK g,28),(w.heap.size,bK g,23)])
   case first=>
    rcases ha0:decide (20<(g.kind.size:Int)) with _ | _
    all_goals
     rcases ha1:decide (50<(C.length:Int)) with _ | _
     all_goals
      go_wp2_with (first | (go_at_call 12;refine (aw1 _ (HG.out.below hL.bw)).mono ?_;rintro e w1 ⟨rfl,hb1⟩;have hL:=hL.call hb1;have hE:=hE.below hb1;have k1:=(hL.get 1 rfl).cell (j:=0) rfl) | (go_at_call 14;refine (JX S8 A8 c8 l 40 _ hE).mono ?_;rintro e w4 ⟨⟨bs,rfl⟩,hb4⟩;have hL:=hL.call hb4;have hE:=hE.below hb4;cases bs))
      all_goals
       go_meet;exact ⟨_,rfl,hE,hL⟩
   case rest=>
    obtain ⟨b,rfl,hE,hL⟩:=hcut;clear k1 hb0
    cases b
    rotate_left
    · go_wp2_with (first | (go_at_call 12;refine (aw1 _ (HG.out.below hL.bw)).mono ?_;rintro e w1 ⟨rfl,hb1⟩;have hL:=hL.call hb1))
      go_ret;exact ⟨rfl,hL.bw⟩
    obtain ⟨E,hEE⟩:∃ q,TS g l C=q:=⟨_,rfl⟩;obtain ⟨V,hVV⟩:∃ q,Xo g l C=q:=⟨_,rfl⟩;have hau:=fun W h1 h2=>zD S S' g l C A A1 c c1 W h1 h2;rw [hEE,hVV] at hau;have hfi:=adf g l C;rw [hEE] at hfi;have HAU:=hide hau;have HFI:=hide hfi;have HEE:=hide hEE;have HVV:=hide hVV;clear hau hfi hEE hVV
    go_upto_region 5 with (first | ((with_reducible refine bJ 23 3 ?_);refine ig (hL.rn 1 0 ([.string g.kind,.int .i64 g.aY,.int .i64 g.target,.int .i64 g.turns])) Tryz.underlying23 dQ ?_) | ((with_reducible refine iy 23 3 ?_);refine kP (hL.rn 1 0 ([.string g.kind,.int .i64 g.aY,.int .i64 g.target,.int .i64 g.turns])) Tryz.underlying23 dQ ?_) | (go_at_call 34;refine (HAU.out _ (hl.below hL.bw) (Reads.below hc hL.bw)).mono ?_;rintro e w6 ⟨rfl,hb6⟩;have hL:=hL.call hb6;have hE:=hE.below hb6))
    go_cut [11] from 33 to 52 (fun v11 wx=>v11= .int .i64 E∧ni wx S8 A8 c8 l∧Bx w wx [(B7,bK g,28),(w.heap.size,bK g,23)])
    case first=>
     go_wp2_with (first | ((with_reducible refine bJ 28 7 ?_);refine ig (hL.rn 0 0 ([.string g.kind,.int .i64 g.aY,.int .i64 g.target,.int .i64 g.turns])) Tryz.underlying28 dP ?_) | ((with_reducible refine iy 28 7 ?_);refine kP (hL.rn 0 0 ([.string g.kind,.int .i64 g.aY,.int .i64 g.target,.int .i64 g.turns])) Tryz.underlying28 dP ?_) | (go_at_call 21;refine (JR S8 g l A8 c8 _ hE).mono ?_;rintro e w5 ⟨rfl,hb5⟩;have hL:=hL.call hb5;have hE:=hE.below hb5) | (go_at_call 28;refine (JB _ _ _).mono ?_;rintro e qK ⟨rfl,rfl⟩) | (go_at_call 27;refine (Gx (fun _=>True) _ _ [Sk.iO g (bare l),jg ((C.length:Int) != (l.length:Int)) 2] _ (nI.row _ _ [Sk.iO g (bare l),jg ((C.length:Int) != (l.length:Int)) 2] (by simp) _ trivial)).mono ?_;rintro e w98 ⟨rfl,rfl⟩))
     go_meet;exact ⟨congrArg _ HFI.out,hE.below ((Below.refl _ _).alloc (Nat.le_refl _) _),hL.alloc _⟩
    case rest=>
     obtain ⟨rfl,hE,hL⟩:=hcut
     by_cases h0:E=0
     · have hd:(E != 0)=false:=by simp [h0]
       obtain ⟨z1,z2⟩:=FI (HEE.out.trans h0);have HZ:=hide (And.intro z1 z2);have HI:=hide (show E=0∧V=if (0:Int)=0 then Sk.qN g (bare l) C else 0 from ⟨h0,by rw [← HVV.out];unfold Xo;rw [if_pos (HEE.out.trans h0)];rfl⟩);clear h0 z1 z2
       go_wp2_with (first | ((with_reducible refine bJ 28 7 ?_);refine ig (hL.rn 0 0 ([.string g.kind,.int .i64 g.aY,.int .i64 g.target,.int .i64 g.turns])) Tryz.underlying28 dP ?_) | ((with_reducible refine iy 28 7 ?_);refine kP (hL.rn 0 0 ([.string g.kind,.int .i64 g.aY,.int .i64 g.target,.int .i64 g.turns])) Tryz.underlying28 dP ?_) | (go_at_call 36;refine (abj S8 S' g l C A8 A1 c8 c1 _ hE (Reads.below hc hL.bw) HZ.out.1 HZ.out.2).mono ?_;rintro e w8 ⟨rfl,hb8⟩;have hL:=hL.call hb8) | (go_at_call 35;refine (MH _ _ _ _ HI.out.1 HI.out.2 _).mono ?_;rintro e w7 ⟨rfl,rfl⟩))
       go_ret;exact ⟨rfl,hL.bw⟩
     · have hd:(E != 0)=true:=by simp [h0]
       have HI:=hide (show E=E∧V=if E=0 then (0:Int) else 0 from ⟨rfl,by rw [← HVV.out];unfold Xo;rw [if_neg (by rw [HEE.out];exact h0),if_neg h0]⟩);clear h0
       go_wp2_with (first | (go_at_call 35;refine (MH _ _ _ _ HI.out.1 HI.out.2 _).mono ?_;rintro e w7 ⟨rfl,rfl⟩))
       go_ret;exact ⟨rfl,hL.bw⟩
end Go.Proofs.YtjbbfmofpjflmaaGreatDoor
