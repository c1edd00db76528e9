/- Parts of a proof. -/
import Derived.Test.YtjbbfmofpjflmaaGreatDoorKb23
import Derived.Test.YtjbbfmofpjflmaaGreatDoorKl5
import Derived.Test.YtjbbfmofpjflmaaGreatDoorKl6
set_option maxHeartbeats 3200000
set_option maxRecDepth 100000
set_option linter.unusedVariables false
set_option linter.unusedSimpArgs false
namespace Go.Proofs.YtjbbfmofpjflmaaGreatDoor
open Go.RowKit
def lfL (w:World) (B7 B8:Nat) (g:Sk.Game) (s:Sk.State):List (Nat × List Value × TypeId):=[(B7,bT g,28),(B8,aO s,39),(w.heap.size,bT g,23),(w.heap.size+1,aO s,26)]
theorem abr {W:World} {S:Nat→Prop} {A:Option Addr} {c:Nat} {l:List Int} (h:jV W S A c l):jV W.drew S A c l:=h
theorem agh (g:Sk.Game) (C:Int):fst [C,iL (!(g.kind.toList == [115,110,111,111,107,101,114])) 13]=fst [C,iL (decide (g.kind≠Sk.aW)) 13]:=by
 have:(!(g.kind.toList == [115,110,111,111,107,101,114]))=decide (g.kind≠Sk.aW):=by rw [gG,Bool.eq_iff_iff];simp
 rw [this]
theorem ah9 {g:Sk.Game} {s:Sk.State} {p:Int} (b1 b2 b3:Bool) (h1:b1=(p != 0 && p != 1)) (h2:b2= !(g.kind.toList == [115,110,111,111,107,101,114])) (h3:b3=decide (0≤s.aB)):fst [Sk.bP g s,iL b1 3,iL b2 13,iL b3 20]=Pq g s p:=by
 have e1:b1=Sk.out p 0 1:=by rw [h1];unfold Sk.out;rw [Bool.eq_iff_iff];simp;omega
 have e2:b2=decide (g.kind≠Sk.aW):=by rw [h2,gG,Bool.eq_iff_iff];simp
 rw [e1,e2,h3]
 rfl
theorem afa {g:Sk.Game} {s:Sk.State} (h:fst [Sk.bP g s,iL (decide (g.kind≠Sk.aW)) 13]=0):Sk.Ok g s∧g.kind=Sk.aW:=by
 rw [rQ] at h
 by_cases h1:Sk.bP g s=0
 · rw [if_neg (fun hh=>hh h1),G9 (by decide)] at h
   exact ⟨Sk.kG.1 h1,by simpa using h⟩
 · rw [if_pos h1] at h;exact absurd h h1
theorem abA {g:Sk.Game} {s:Sk.State} (h:Sk.Ok g s):0≤s.bI∧s.bI≤15:=by
 have h1:=h.inr.bI
 rcases Sk.iM h.game with ⟨_,a,_⟩ | ⟨_,a,_⟩ | ⟨_,a,_⟩ <;> omega
theorem adN (g:Sk.Game) (s:Sk.State) (p:Int) (w:World) (hG:Glob w):
 Calls Tryz.prog 6 #[lZ g,kW s,.int .i64 p] w fun e w'=>e= .returned (.bool true)∧Below w.heap.size w w':=by
 have HG:=hide hG;clear hG
 go_enter Tryz.func6,Tryz.ntmps6
 go_upto_region 0 with (fail)
 go_cut [3,4,6] (fun v3 v4 v6 wx=>v3=ptr (w.heap.size)∧v4=ptr (w.heap.size+1)∧v6= .bool false∧Bx w wx [(w.heap.size,bT g,23),(w.heap.size+1,aO s,26)])
 case first=>
  go_wp2;go_meet;exact ⟨rfl,rfl,rfl,Bx.of (((aJ.nil w).new (by simp) (bT g) 23).new (by simp) (aO s) 26) _ rfl⟩
 case rest=>
  obtain ⟨rfl,rfl,rfl,hL⟩:=hcut
  go_upto_region 1 with (fail)
  go_cut [7,8] from 18 to 20 (fun v7 v8 wx=>∃ B7 B8:Nat,v7=ptr B7∧v8=ptr B8∧Bx w wx (lfL w B7 B8 g s))
  case first=>
   as_aux_lemma=>
    have hL:=hL.drew;have Zz:∀ W:World,Bx w W [(w.heap.size,bT g,23),(w.heap.size+1,aO s,26)]→W.rangeAt (w.heap.size) 0 ([.string g.kind,.int .i64 g.bI,.int .i64 g.target,.int .i64 g.turns]):=fun W h=>h.rng 0 rfl 0 _ rfl;have ZA:∀ W:World,Bx w W [(w.heap.size,bT g,23),(w.heap.size+1,aO s,26)]→W.rangeAt (w.heap.size+1) 0 ([.int .i64 s.turn,.int .i64 s.s0,.int .i64 s.s1,.int .i64 s.brk,.string s.phase,.int .i64 s.bI,.int .i64 s.colour,.bool s.free,.bool s.aT,.int .i64 s.aP,.int .i64 s.t0,.int .i64 s.t1,.int .i64 s.aB]):=fun W h=>h.rng 1 rfl 0 _ rfl;refine wp_region_held_drew (S:=(fun w':World=>Bx w w' [(w.heap.size,bT g,23),(w.heap.size+1,aO s,26)])) (by kernel_rfl) ?bW (fun hHeld=>?_)
    case bW=>exact hL
    refine wpAnyH_take (i:=0) (oi:=_) (v:=_) (ga rfl) (by kernel_rfl) (by kernel_rfl) (by kernel_rfl) (fun _ _ _ h=>h) (yieldsIf_load_mid (by rfl) _ _ (by rfl) _ _ (by rfl) _ _ Zz Tryz.underlying23 rfl (by kernel_rfl)) (by assumption) ?_
    try simp only [Act.put,la,lz,ls]
    refine wpAnyH_take (i:=1) (oi:=_) (v:=_) (ga rfl) (by kernel_rfl) (by kernel_rfl) (by kernel_rfl) (fun _ _ _ h=>h) (yieldsIf_load_mid (by rfl) _ _ (by rfl) _ _ (by rfl) _ _ ZA Tryz.underlying26 rfl (by kernel_rfl)) (by assumption) ?_
    try simp only [Act.put,la,lz,ls]
    refine wpAnyH_ready (rs:=[2,3]) (by kernel_rfl) (by simp) ?_;refine AllReadyH.cons (o:=_) (ga rfl) (fun K hK=>?_) (AllReadyH.cons (o:=_) (ga rfl) (fun K hK=>?_) AllReadyH.nil)
    · go_simp
      first | have hL:=(hL:Bx _ (World.drew _) _).add (bT ⟨⟨#[]⟩,0,0,0⟩) 28 | have hL:=hL.JV (bT ⟨⟨#[]⟩,0,0,0⟩) 28 (g:=wc.heap.size+1) (by first | (simp;done) | (rw [setCells_size];simp))
      refine hK.out _ _ ?afq (fun hHeld=>?_)
      case afq=>(first | exact hL | exact hL.tail | exact hL.tail.tail)
      clear hK K
      try simp only [Act.put,la,lz,ls]
      refine tr 3 fun K hK=>?_;go_simp
      first | have hL:=(hL:Bx _ (World.drew _) _).add (aO Sk.zero) 39 | have hL:=hL.JV (aO Sk.zero) 39 (g:=wc.heap.size+1) (by first | (simp;done) | (rw [setCells_size];simp))
      refine hK.out _ _ ?aed (fun hHeld=>?_)
      case aed=>(first | exact hL | exact hL.tail | exact hL.tail.tail)
      clear hK K
      try simp only [Act.put,la,lz,ls]
      refine tr 4 fun K hK=>?_
      first | refine aU (t:=28) hL.head (bT g) rfl bY (D7 _) (.tmp 7) (.tmp 18) rfl rfl rfl ?_ | refine aU (t:=28) hL.tail.head (bT g) rfl bY (D7 _) (.tmp 7) (.tmp 18) rfl rfl rfl ?_
      first | have hL:=(hL:Bx _ _ ((_,bT ⟨⟨#[]⟩,0,0,0⟩,28)::_)).put (bT g) rfl | have hL:=((hL.swap:Bx _ _ ((_,bT ⟨⟨#[]⟩,0,0,0⟩,28)::_)).put (bT g) rfl).swap
      refine hK.out _ _ ?aev (fun hHeld=>?_)
      case aev=>(first | exact hL | exact hL.tail | exact hL.tail.tail)
      clear hK K
      try simp only [Act.put,la,lz,ls]
      refine tr 5 fun K hK=>?_
      first | refine aU (t:=39) hL.head (aO s) rfl iQ (bH _) (.tmp 8) (.tmp 19) rfl rfl rfl ?_ | refine aU (t:=39) hL.tail.head (aO s) rfl iQ (bH _) (.tmp 8) (.tmp 19) rfl rfl rfl ?_
      first | have hL:=(hL:Bx _ _ ((_,aO Sk.zero,39)::_)).put (aO s) rfl | have hL:=((hL.swap:Bx _ _ ((_,aO Sk.zero,39)::_)).put (aO s) rfl).swap
      refine hK.out _ _ ?aeL (fun hHeld=>?_)
      case aeL=>(first | exact hL | exact hL.tail | exact hL.tail.tail)
      clear hK K
      try simp only [Act.put,la,lz,ls]
      refine wpAnyH_done (by kernel_rfl) ?_ _;go_wp2;go_meet
      first | exact ⟨_,_,rfl,rfl,hL⟩ | exact ⟨_,_,rfl,rfl,hL.swap⟩
    · go_simp
      first | have hL:=(hL:Bx _ (World.drew _) _).add (aO Sk.zero) 39 | have hL:=hL.JV (aO Sk.zero) 39 (g:=wc.heap.size+1) (by first | (simp;done) | (rw [setCells_size];simp))
      refine hK.out _ _ ?ael (fun hHeld=>?_)
      case ael=>(first | exact hL | exact hL.tail | exact hL.tail.tail)
      clear hK K
      try simp only [Act.put,la,lz,ls]
      refine tr 2 fun K hK=>?_;go_simp
      first | have hL:=(hL:Bx _ (World.drew _) _).add (bT ⟨⟨#[]⟩,0,0,0⟩) 28 | have hL:=hL.JV (bT ⟨⟨#[]⟩,0,0,0⟩) 28 (g:=wc.heap.size+1) (by first | (simp;done) | (rw [setCells_size];simp))
      refine hK.out _ _ ?ad5 (fun hHeld=>?_)
      case ad5=>(first | exact hL | exact hL.tail | exact hL.tail.tail)
      clear hK K
      try simp only [Act.put,la,lz,ls]
      refine tr 4 fun K hK=>?_
      first | refine aU (t:=28) hL.head (bT g) rfl bY (D7 _) (.tmp 7) (.tmp 18) rfl rfl rfl ?_ | refine aU (t:=28) hL.tail.head (bT g) rfl bY (D7 _) (.tmp 7) (.tmp 18) rfl rfl rfl ?_
      first | have hL:=(hL:Bx _ _ ((_,bT ⟨⟨#[]⟩,0,0,0⟩,28)::_)).put (bT g) rfl | have hL:=((hL.swap:Bx _ _ ((_,bT ⟨⟨#[]⟩,0,0,0⟩,28)::_)).put (bT g) rfl).swap
      refine hK.out _ _ ?aeD (fun hHeld=>?_)
      case aeD=>(first | exact hL | exact hL.tail | exact hL.tail.tail)
      clear hK K
      try simp only [Act.put,la,lz,ls]
      refine tr 5 fun K hK=>?_
      first | refine aU (t:=39) hL.head (aO s) rfl iQ (bH _) (.tmp 8) (.tmp 19) rfl rfl rfl ?_ | refine aU (t:=39) hL.tail.head (aO s) rfl iQ (bH _) (.tmp 8) (.tmp 19) rfl rfl rfl ?_
      first | have hL:=(hL:Bx _ _ ((_,aO Sk.zero,39)::_)).put (aO s) rfl | have hL:=((hL.swap:Bx _ _ ((_,aO Sk.zero,39)::_)).put (aO s) rfl).swap
      refine hK.out _ _ ?aeU (fun hHeld=>?_)
      case aeU=>(first | exact hL | exact hL.tail | exact hL.tail.tail)
      clear hK K
      try simp only [Act.put,la,lz,ls]
      refine wpAnyH_done (by kernel_rfl) ?_ _;go_wp2;go_meet
      first | exact ⟨_,_,rfl,rfl,hL⟩ | exact ⟨_,_,rfl,rfl,hL.swap⟩
  case rest=>
   obtain ⟨B7,B8,rfl,rfl,hL⟩:=hcut
   go_upto_region 2 with (fail)
   go_cut [26] from 20 to 27 (fun v26 wx=>∃ b,v26= .bool b∧Bx w wx (lfL w B7 B8 g s))
   case first=>
    go_wp2_with (first | ((with_reducible refine isL 23 3 ?_);refine nLr (hL.rn 2 0 ([.string g.kind,.int .i64 g.bI,.int .i64 g.target,.int .i64 g.turns])) Tryz.underlying23 cZ ?_) | ((with_reducible refine isW 23 3 ?_);refine nWr (hL.rn 2 0 ([.string g.kind,.int .i64 g.bI,.int .i64 g.target,.int .i64 g.turns])) Tryz.underlying23 cZ ?_) | ((with_reducible refine isL 26 4 ?_);refine nLr (hL.rn 3 0 ([.int .i64 s.turn,.int .i64 s.s0,.int .i64 s.s1,.int .i64 s.brk,.string s.phase,.int .i64 s.bI,.int .i64 s.colour,.bool s.free,.bool s.aT,.int .i64 s.aP,.int .i64 s.t0,.int .i64 s.t1,.int .i64 s.aB])) Tryz.underlying26 ak ?_) | ((with_reducible refine isW 26 4 ?_);refine nWr (hL.rn 3 0 ([.int .i64 s.turn,.int .i64 s.s0,.int .i64 s.s1,.int .i64 s.brk,.string s.phase,.int .i64 s.bI,.int .i64 s.colour,.bool s.free,.bool s.aT,.int .i64 s.aP,.int .i64 s.t0,.int .i64 s.t1,.int .i64 s.aB])) Tryz.underlying26 ak ?_) | (go_at_call 12;refine (aw1 _ (HG.out.below hL.bw)).mono ?_;rintro e' w1 ⟨rfl,hb1⟩;have hL:=hL.call hb1) | (go_at_call 13;refine (Jm g s _).mono ?_;rintro e' w2 ⟨rfl,hb2⟩;have hL:=hL.call hb2))
    go_meet;exact ⟨_,rfl,hL⟩
   case rest=>
    obtain ⟨b,rfl,hL⟩:=hcut
    cases b
    rotate_left
    · go_wp2_with (first | (go_at_call 12;refine (aw1 _ (HG.out.below hL.bw)).mono ?_;rintro e' w1 ⟨rfl,hb1⟩;have hL:=hL.call hb1))
      go_ret;exact ⟨rfl,hL.bw⟩
    obtain ⟨C,hC⟩:∃ q,Sk.bP g s=q:=⟨_,rfl⟩;obtain ⟨O,hO⟩:∃ q,fst [C,iL (decide (g.kind≠Sk.aW)) 13]=q:=⟨_,rfl⟩;obtain ⟨V,hV⟩:∃ q,(if O=0 then Sk.left s else 0)=q:=⟨_,rfl⟩;obtain ⟨N,hN⟩:∃ q,Pq g s p=q:=⟨_,rfl⟩;obtain ⟨X,hX⟩:∃ q,YG g s p=q:=⟨_,rfl⟩;obtain ⟨TX,hT⟩:∃ q,Pn g s=q:=⟨_,rfl⟩;have c1:=fun W=>wB g s W;have c2:=fun W=>xG g s p W;have c3:=fun W h=>sD g s W h;have c4:=fun W=>EJ g s W;have hnd:=fun b1 b2 b3 h1 h2 h3=>ah9 (g:=g) (s:=s) (p:=p) b1 b2 b3 h1 h2 h3;have hlf:=@afa g s;rw [hC,hO,hV] at c1;rw [hN,hX] at c2;rw [hC,hT] at c3;rw [hC] at c4;rw [hC,hN] at hnd;rw [hC,hO] at hlf;have C1:=hide c1;have C2:=hide c2;have C3:=hide c3;have C4:=hide c4;have Wh:=hide hnd;have HLF:=hide hlf;have HC:=hide hC;have HO:=hide ((agh g C).trans hO);have HV:=hide hV;have HNX:=hide (And.intro hN hX);have HT:=hide hT;clear hC hO hV hN hX hT c1 c2 c3 c4 hnd hlf
    go_upto_region 7 with (first | ((with_reducible refine isL 23 3 ?_);refine nLr (hL.rn 2 0 ([.string g.kind,.int .i64 g.bI,.int .i64 g.target,.int .i64 g.turns])) Tryz.underlying23 cZ ?_) | ((with_reducible refine isL 26 4 ?_);refine nLr (hL.rn 3 0 ([.int .i64 s.turn,.int .i64 s.s0,.int .i64 s.s1,.int .i64 s.brk,.string s.phase,.int .i64 s.bI,.int .i64 s.colour,.bool s.free,.bool s.aT,.int .i64 s.aP,.int .i64 s.t0,.int .i64 s.t1,.int .i64 s.aB])) Tryz.underlying26 ak ?_) | (go_at_call 37;refine (C1.out _).mono ?_;rintro e' w3 ⟨rfl,hb3⟩;have hL:=hL.call hb3) | (go_at_call 38;refine (C2.out _).mono ?_;rintro e' w4 ⟨rfl,hb4⟩;have hL:=hL.call hb4) | (go_at_call 39;refine (C3.out _ (HG.out.below hL.bw)).mono ?_;rintro e' w5 ⟨rfl,hb5⟩;have hL:=hL.call hb5))
    go_cut [15] from 27 to 50 (fun v15 wx=>v15= .int .i64 C∧Bx w wx (lfL w B7 B8 g s))
    case first=>
     go_wp2_with (first | ((with_reducible refine isL 28 7 ?_);refine nLr (hL.rn 0 0 ([.string g.kind,.int .i64 g.bI,.int .i64 g.target,.int .i64 g.turns])) Tryz.underlying28 bY ?_) | ((with_reducible refine isL 39 8 ?_);refine nLr (hL.rn 1 0 ([.int .i64 s.turn,.int .i64 s.s0,.int .i64 s.s1,.int .i64 s.brk,.string s.phase,.int .i64 s.bI,.int .i64 s.colour,.bool s.free,.bool s.aT,.int .i64 s.aP,.int .i64 s.t0,.int .i64 s.t1,.int .i64 s.aB])) Tryz.underlying39 iQ ?_) | (go_at_call 19;refine (C4.out _).mono ?_;rintro e' w6 ⟨rfl,hb6⟩;have hL:=hL.call hb6))
     go_meet;exact ⟨rfl,hL⟩
    case rest=>
     obtain ⟨rfl,hL⟩:=hcut
     go_upto_region 8 with (fail)
     go_cut [75] from 50 to 76 (fun v75 wx=>v75= .bool false∧Bx w wx (lfL w B7 B8 g s))
     case first=>
      by_cases h0:C=0
      · have hd1:(C != 0)=false:=by simp [h0]
        have hd2:(C == 0)=true:=by simp [h0]
        have hok:=Sk.kG.1 (HC.out.trans h0)
        have htx:Jj g s=TX:=by rw [← HT.out];unfold Pn;rw [if_pos (HC.out.trans h0)]
        have c5:=fun W=>adp g s W hok;rw [htx] at c5;have C5:=hide c5;subst h0;clear hok htx c5
        go_wp2_with (first | ((with_reducible refine isL 28 7 ?_);refine nLr (hL.rn 0 0 ([.string g.kind,.int .i64 g.bI,.int .i64 g.target,.int .i64 g.turns])) Tryz.underlying28 bY ?_) | ((with_reducible refine isW 28 7 ?_);refine nWr (hL.rn 0 0 ([.string g.kind,.int .i64 g.bI,.int .i64 g.target,.int .i64 g.turns])) Tryz.underlying28 bY ?_) | ((with_reducible refine isL 39 8 ?_);refine nLr (hL.rn 1 0 ([.int .i64 s.turn,.int .i64 s.s0,.int .i64 s.s1,.int .i64 s.brk,.string s.phase,.int .i64 s.bI,.int .i64 s.colour,.bool s.free,.bool s.aT,.int .i64 s.aP,.int .i64 s.t0,.int .i64 s.t1,.int .i64 s.aB])) Tryz.underlying39 iQ ?_) | ((with_reducible refine isW 39 8 ?_);refine nWr (hL.rn 1 0 ([.int .i64 s.turn,.int .i64 s.s0,.int .i64 s.s1,.int .i64 s.brk,.string s.phase,.int .i64 s.bI,.int .i64 s.colour,.bool s.free,.bool s.aT,.int .i64 s.aP,.int .i64 s.t0,.int .i64 s.t1,.int .i64 s.aB])) Tryz.underlying39 iQ ?_) | (go_at_call 40;refine (C5.out _).mono ?_;rintro e' w7 ⟨rfl,hb7⟩;have hL:=hL.call hb7))
        go_meet;exact ⟨rfl,hL⟩
      · have hd1:(C != 0)=true:=by simp [h0]
        have hd2:(C == 0)=false:=by simp [h0]
        have htx:TX=[]:=by rw [← HT.out];unfold Pn;rw [if_neg (by rw [HC.out];exact h0)]
        subst htx;clear h0;go_wp2;go_meet;exact ⟨rfl,hL⟩
     case rest=>
      obtain ⟨rfl,hL⟩:=hcut;have kg:=(hL.get 2 rfl).cell (j:=0) rfl
      go_upto_region 10 with (fail)
      go_cut [16] from 76 to 83 (fun v16 wx=>v16= .int .i64 O∧Bx w wx (lfL w B7 B8 g s))
      case first=>
       go_wp2_with (first | (go_at_call 28;refine (Jl _ _ _).mono ?_;rintro e' pz ⟨rfl,rfl⟩) | (go_at_call 27;refine (Gh (fun _=>True) _ _ [_,_] _ (jV.row _ _ [_,_] (by simp) _ trivial)).mono ?_;rintro e' pz ⟨rfl,rfl⟩))
       go_meet;exact ⟨congrArg _ HO.out,hL.alloc _⟩
      case rest=>
       obtain ⟨rfl,hL⟩:=hcut;clear kg
       go_upto_region 11 with (fail)
       go_cut [17] from 83 to 101 (fun v17 wx=>v17= .int .i64 N∧Bx w wx (lfL w B7 B8 g s))
       case first=>
        rcases hp0:(p != 0) with _ | _
        · have hL:=hL.drew
          refine wp_region_held_drew (S:=(fun w':World=>Bx w w' (lfL w B7 B8 g s)∧w'.cell? ⟨w.heap.size,0,none⟩=some (.string g.kind)∧w'.cell? ⟨w.heap.size+1,12,none⟩=some (.int .i64 s.aB))) (by kernel_rfl) ?dI (fun hHeld=>?_)
          case dI=>exact ⟨hL,(hL.get 2 rfl).cell (j:=0) rfl,(hL.get 3 rfl).cell (j:=12) rfl⟩
          refine tk 0 ?_;refine tk 1 ?_;refine tk 2 ?_;refine tk 3 ?_;refine tu 4 ?_;refine tu 5 ?_;refine tk 6 ?_;refine tk 8 ?_;refine tk 9 ?_;refine tk 10 ?_;refine tk 12 ?_;refine tk 13 ?_;refine tk 14 ?_;refine tr 7 fun K hK=>?_;go_simp
          (go_at_call 28;refine (Jl _ _ _).mono ?_;rintro e amK ⟨rfl,rfl⟩)
          refine hK.out _ _ ?ae2 (fun hHeld=>?_)
          case ae2=>(exact ⟨hL,(hL.get 2 rfl).cell (j:=0) rfl,(hL.get 3 rfl).cell (j:=12) rfl⟩)
          clear hK K
          try simp only [Act.put,la,lz,ls]
          refine tr 11 fun K hK=>?_;go_simp
          (go_at_call 28;refine (Jl _ _ _).mono ?_;rintro e ae0 ⟨rfl,rfl⟩)
          refine hK.out _ _ ?XG (fun hHeld=>?_)
          case XG=>(exact ⟨hL,(hL.get 2 rfl).cell (j:=0) rfl,(hL.get 3 rfl).cell (j:=12) rfl⟩)
          clear hK K
          try simp only [Act.put,la,lz,ls]
          refine tr 15 fun K hK=>?_;go_simp
          (go_at_call 28;refine (Jl _ _ _).mono ?_;rintro e Yj ⟨rfl,rfl⟩)
          refine hK.out _ _ ?agq (fun hHeld=>?_)
          case agq=>(exact ⟨hL,(hL.get 2 rfl).cell (j:=0) rfl,(hL.get 3 rfl).cell (j:=12) rfl⟩)
          clear hK K
          try simp only [Act.put,la,lz,ls]
          refine tr 16 fun K hK=>?_;go_simp;refine hK.out _ _ ?agz (fun hHeld=>?_)
          case agz=>(exact ⟨hL.alloc _,(((hL.alloc _).get 2 rfl).cell (j:=0) rfl),(((hL.alloc _).get 3 rfl).cell (j:=12) rfl)⟩)
          clear hK K
          try simp only [Act.put,la,lz,ls]
          refine tr 17 fun K hK=>?_;go_simp
          (go_at_call 27;refine (Gh (fun _=>True) _ _ [_,_,_,_] _ (abr (jV.row _ _ [_,_,_,_] (by simp) _ trivial))).mono ?_;rintro e aiB ⟨rfl,rfl⟩)
          refine hK.out _ _ ?agH (fun hHeld=>?_)
          case agH=>(exact hHeld)
          clear hK K
          try simp only [Act.put,la,lz,ls]
          refine tk 18 ?_;refine wpAnyH_done (by kernel_rfl) ?_ _;go_wp2;go_meet;exact ⟨congrArg _ (Wh.out _ _ _ (by simp [hp0]) (by simp) (by simp)),hHeld.1⟩
        · rcases hp1:(p != 1) with _ | _
          · have hL:=hL.drew
            refine wp_region_held_drew (S:=(fun w':World=>Bx w w' (lfL w B7 B8 g s)∧w'.cell? ⟨w.heap.size,0,none⟩=some (.string g.kind)∧w'.cell? ⟨w.heap.size+1,12,none⟩=some (.int .i64 s.aB))) (by kernel_rfl) ?dS (fun hHeld=>?_)
            case dS=>exact ⟨hL,(hL.get 2 rfl).cell (j:=0) rfl,(hL.get 3 rfl).cell (j:=12) rfl⟩
            refine tk 0 ?_;refine tk 1 ?_;refine tk 2 ?_;refine tk 3 ?_;refine tk 4 ?_;refine tk 5 ?_;refine tk 6 ?_;refine tk 8 ?_;refine tk 9 ?_;refine tk 10 ?_;refine tk 12 ?_;refine tk 13 ?_;refine tk 14 ?_;refine tr 7 fun K hK=>?_;go_simp
            (go_at_call 28;refine (Jl _ _ _).mono ?_;rintro e amK ⟨rfl,rfl⟩)
            refine hK.out _ _ ?abK (fun hHeld=>?_)
            case abK=>(exact ⟨hL,(hL.get 2 rfl).cell (j:=0) rfl,(hL.get 3 rfl).cell (j:=12) rfl⟩)
            clear hK K
            try simp only [Act.put,la,lz,ls]
            refine tr 11 fun K hK=>?_;go_simp
            (go_at_call 28;refine (Jl _ _ _).mono ?_;rintro e ae0 ⟨rfl,rfl⟩)
            refine hK.out _ _ ?XI (fun hHeld=>?_)
            case XI=>(exact ⟨hL,(hL.get 2 rfl).cell (j:=0) rfl,(hL.get 3 rfl).cell (j:=12) rfl⟩)
            clear hK K
            try simp only [Act.put,la,lz,ls]
            refine tr 15 fun K hK=>?_;go_simp
            (go_at_call 28;refine (Jl _ _ _).mono ?_;rintro e Yj ⟨rfl,rfl⟩)
            refine hK.out _ _ ?agP (fun hHeld=>?_)
            case agP=>(exact ⟨hL,(hL.get 2 rfl).cell (j:=0) rfl,(hL.get 3 rfl).cell (j:=12) rfl⟩)
            clear hK K
            try simp only [Act.put,la,lz,ls]
            refine tr 16 fun K hK=>?_;go_simp;refine hK.out _ _ ?agX (fun hHeld=>?_)
            case agX=>(exact ⟨hL.alloc _,(((hL.alloc _).get 2 rfl).cell (j:=0) rfl),(((hL.alloc _).get 3 rfl).cell (j:=12) rfl)⟩)
            clear hK K
            try simp only [Act.put,la,lz,ls]
            refine tr 17 fun K hK=>?_;go_simp
            (go_at_call 27;refine (Gh (fun _=>True) _ _ [_,_,_,_] _ (abr (jV.row _ _ [_,_,_,_] (by simp) _ trivial))).mono ?_;rintro e aiB ⟨rfl,rfl⟩)
            refine hK.out _ _ ?ag5 (fun hHeld=>?_)
            case ag5=>(exact hHeld)
            clear hK K
            try simp only [Act.put,la,lz,ls]
            refine tk 18 ?_;refine wpAnyH_done (by kernel_rfl) ?_ _;go_wp2;go_meet;exact ⟨congrArg _ (Wh.out _ _ _ (by simp [hp0,hp1]) (by simp) (by simp)),hHeld.1⟩
          · have hL:=hL.drew
            refine wp_region_held_drew (S:=(fun w':World=>Bx w w' (lfL w B7 B8 g s)∧w'.cell? ⟨w.heap.size,0,none⟩=some (.string g.kind)∧w'.cell? ⟨w.heap.size+1,12,none⟩=some (.int .i64 s.aB))) (by kernel_rfl) ?iJ (fun hHeld=>?_)
            case iJ=>exact ⟨hL,(hL.get 2 rfl).cell (j:=0) rfl,(hL.get 3 rfl).cell (j:=12) rfl⟩
            refine tk 0 ?_;refine tk 1 ?_;refine tk 2 ?_;refine tk 3 ?_;refine tk 4 ?_;refine tk 5 ?_;refine tk 6 ?_;refine tk 8 ?_;refine tk 9 ?_;refine tk 10 ?_;refine tk 12 ?_;refine tk 13 ?_;refine tk 14 ?_;refine tr 7 fun K hK=>?_;go_simp
            (go_at_call 28;refine (Jl _ _ _).mono ?_;rintro e amK ⟨rfl,rfl⟩)
            refine hK.out _ _ ?ait (fun hHeld=>?_)
            case ait=>(exact ⟨hL,(hL.get 2 rfl).cell (j:=0) rfl,(hL.get 3 rfl).cell (j:=12) rfl⟩)
            clear hK K
            try simp only [Act.put,la,lz,ls]
            refine tr 11 fun K hK=>?_;go_simp
            (go_at_call 28;refine (Jl _ _ _).mono ?_;rintro e ae0 ⟨rfl,rfl⟩)
            refine hK.out _ _ ?ahd (fun hHeld=>?_)
            case ahd=>(exact ⟨hL,(hL.get 2 rfl).cell (j:=0) rfl,(hL.get 3 rfl).cell (j:=12) rfl⟩)
            clear hK K
            try simp only [Act.put,la,lz,ls]
            refine tr 15 fun K hK=>?_;go_simp
            (go_at_call 28;refine (Jl _ _ _).mono ?_;rintro e Yj ⟨rfl,rfl⟩)
            refine hK.out _ _ ?XL (fun hHeld=>?_)
            case XL=>(exact ⟨hL,(hL.get 2 rfl).cell (j:=0) rfl,(hL.get 3 rfl).cell (j:=12) rfl⟩)
            clear hK K
            try simp only [Act.put,la,lz,ls]
            refine tr 16 fun K hK=>?_;go_simp;refine hK.out _ _ ?JA (fun hHeld=>?_)
            case JA=>(exact ⟨hL.alloc _,(((hL.alloc _).get 2 rfl).cell (j:=0) rfl),(((hL.alloc _).get 3 rfl).cell (j:=12) rfl)⟩)
            clear hK K
            try simp only [Act.put,la,lz,ls]
            refine tr 17 fun K hK=>?_;go_simp
            (go_at_call 27;refine (Gh (fun _=>True) _ _ [_,_,_,_] _ (abr (jV.row _ _ [_,_,_,_] (by simp) _ trivial))).mono ?_;rintro e aiB ⟨rfl,rfl⟩)
            refine hK.out _ _ ?XM (fun hHeld=>?_)
            case XM=>(exact hHeld)
            clear hK K
            try simp only [Act.put,la,lz,ls]
            refine tk 18 ?_;refine wpAnyH_done (by kernel_rfl) ?_ _;go_wp2;go_meet;exact ⟨congrArg _ (Wh.out _ _ _ (by simp [hp0,hp1]) (by simp) (by simp)),hHeld.1⟩
       case rest=>
        obtain ⟨rfl,hL⟩:=hcut
        go_upto_region 12 with (fail)
        go_cut [121] from 101 to 122 (fun aiR wx=>aiR= .bool false∧Bx w wx (lfL w B7 B8 g s))
        case first=>
         by_cases h0:O=0
         · have hd1:(O != 0)=false:=by simp [h0]
           have hd2:(O == 0)=true:=by simp [h0]
           obtain ⟨hok,hg⟩:=HLF.out h0;have c6:=fun W=>abS s hok.inr.colour (abA hok) W;rw [Sk.acn hok hg] at c6;have C6:=hide c6;have HI:=hide (show O=0∧V=if (0:Int)=0 then Sk.left s else 0 from ⟨h0,by rw [← HV.out,if_pos h0];rfl⟩);clear h0 hok hg c6
           go_wp2_with (first | ((with_reducible refine isL 39 8 ?_);refine nLr (hL.rn 1 0 ([.int .i64 s.turn,.int .i64 s.s0,.int .i64 s.s1,.int .i64 s.brk,.string s.phase,.int .i64 s.bI,.int .i64 s.colour,.bool s.free,.bool s.aT,.int .i64 s.aP,.int .i64 s.t0,.int .i64 s.t1,.int .i64 s.aB])) Tryz.underlying39 iQ ?_) | ((with_reducible refine isW 39 8 ?_);refine nWr (hL.rn 1 0 ([.int .i64 s.turn,.int .i64 s.s0,.int .i64 s.s1,.int .i64 s.brk,.string s.phase,.int .i64 s.bI,.int .i64 s.colour,.bool s.free,.bool s.aT,.int .i64 s.aP,.int .i64 s.t0,.int .i64 s.t1,.int .i64 s.aB])) Tryz.underlying39 iQ ?_) | (go_at_call 41;refine (C6.out _).mono ?_;rintro e' w8 ⟨rfl,hb8⟩;have hL:=hL.call hb8) | (go_at_call 35;refine (LY _ _ _ _ (HI.out.1) (HI.out.2) _).mono ?_;rintro e' pz ⟨rfl,rfl⟩))
           go_meet;exact ⟨rfl,hL⟩
         · have hd1:(O != 0)=true:=by simp [h0]
           have hd2:(O == 0)=false:=by simp [h0]
           have HI:=hide (show V=if O=0 then (0:Int) else 0 by rw [← HV.out,if_neg h0,if_neg h0]);clear h0
           go_wp2_with (first | (go_at_call 35;refine (LY _ _ _ _ rfl HI.out _).mono ?_;rintro e' pz ⟨rfl,rfl⟩))
           go_meet;exact ⟨rfl,hL⟩
        case rest=>
         obtain ⟨rfl,hL⟩:=hcut
         by_cases h0:N=0
         · have hd1:(N != 0)=false:=by simp [h0]
           obtain ⟨z1,z2,z3,z4⟩:=Pv (HNX.out.1.trans h0);have hok:=Sk.kG.1 z1;have hlr:=Sk.Jh hok z3;have c7:=fun W=>acy s p z2 hok.inr.colour (abA hok) hok.inr.s0 hok.inr.s1 (Sk.acn hok z3) (by omega) W;have C7:=hide c7;have HI:=hide (show N=0∧X=if (0:Int)=0 then Sk.needed s p else 0 from ⟨h0,by rw [← HNX.out.2];unfold YG;rw [if_pos (HNX.out.1.trans h0)];rfl⟩);clear h0 z1 z2 z3 z4 hok hlr c7
           go_wp2_with (first | ((with_reducible refine isL 39 8 ?_);refine nLr (hL.rn 1 0 ([.int .i64 s.turn,.int .i64 s.s0,.int .i64 s.s1,.int .i64 s.brk,.string s.phase,.int .i64 s.bI,.int .i64 s.colour,.bool s.free,.bool s.aT,.int .i64 s.aP,.int .i64 s.t0,.int .i64 s.t1,.int .i64 s.aB])) Tryz.underlying39 iQ ?_) | (go_at_call 42;refine (C7.out _).mono ?_;rintro e' w9 ⟨rfl,yS⟩;have hL:=hL.call yS) | (go_at_call 35;refine (LY _ _ _ _ (HI.out.1) (HI.out.2) _).mono ?_;rintro e' pz ⟨rfl,rfl⟩))
           go_ret;exact ⟨rfl,hL.bw⟩
         · have hd1:(N != 0)=true:=by simp [h0]
           have HI:=hide (show X=if N=0 then (0:Int) else 0 by rw [← HNX.out.2];unfold YG;rw [if_neg (by rw [HNX.out.1];exact h0),if_neg h0]);clear h0
           go_wp2_with (first | (go_at_call 35;refine (LY _ _ _ _ rfl HI.out _).mono ?_;rintro e' pz ⟨rfl,rfl⟩))
           go_ret;exact ⟨rfl,hL.bw⟩
end Go.Proofs.YtjbbfmofpjflmaaGreatDoor
