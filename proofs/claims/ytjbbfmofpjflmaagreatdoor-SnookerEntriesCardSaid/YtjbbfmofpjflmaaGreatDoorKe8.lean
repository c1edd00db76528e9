/- Parts of a proof. -/
import Derived.Lib.ItoaNum
import Derived.Test.YtjbbfmofpjflmaaGreatDoorKe7
set_option maxHeartbeats 3200000
set_option maxRecDepth 100000
set_option linter.unusedVariables false
set_option linter.unusedSimpArgs false
namespace Go.Proofs.YtjbbfmofpjflmaaGreatDoor
open Go.RowKit
def etL (w:World) (B7 B8:Nat) (g:Sk.Game) (s:Sk.State) (e:En):List (Nat × List Value × TypeId):=[(B7,bT g,28),(B8,aO s,39),(w.heap.size,bT g,23),(w.heap.size+1,aO s,26),(w.heap.size+2,dU e,83)]
theorem agz {W:World} {S:Nat→Prop} {A:Option Addr} {c:Nat} {l:List ByteArray} (h:lT W S A c l):lT W.drew S A c l:=h
theorem ahd (v:Int):(if 0<v then (0:Int) else 10)=iL (decide (v<1)) 10∧(if 0<v then v else 0)=if iL (decide (v<1)) 10=0 then v else 0:=by
 by_cases h:0<v
 · rw [if_pos h,if_pos h,decide_eq_false (by omega)];exact ⟨rfl,rfl⟩
 · rw [if_neg h,if_neg h,decide_eq_true (by omega)];exact ⟨rfl,rfl⟩
theorem ahS {g:Sk.Game} {s:Sk.State} (h:onErr g s=0):Sk.Ok g s:=by
 unfold onErr at h
 rw [rQ] at h
 by_cases h1:Sk.bP g s=0
 · exact Sk.kG.1 h1
 · rw [if_pos h1] at h;exact absurd h h1
theorem acG (S:Nat→Prop) (g:Sk.Game) (s:Sk.State) (e:En) (w:World) (hG:Glob w) (he:iW w S e):
 Calls Tryz.prog 11 #[lZ g,kW s,wF e] w fun e' w'=>e'= .returned (.bool true)∧Below w.heap.size w w':=by
 have HG:=hide hG;clear hG
 go_enter Tryz.func11,Tryz.ntmps11
 go_upto_region 0 with (fail)
 go_cut [3,4,5,6] (fun v3 v4 v5 v6 wx=>v3=ptr (w.heap.size)∧v4=ptr (w.heap.size+1)∧v5=ptr (w.heap.size+2)∧v6= .bool false∧Bx w wx [(w.heap.size,bT g,23),(w.heap.size+1,aO s,26),(w.heap.size+2,dU e,83)])
 case first=>
  go_wp2;go_meet;exact ⟨rfl,rfl,rfl,rfl,Bx.of ((((aJ.nil w).new (by simp) (bT g) 23).new (by simp) (aO s) 26).new (by simp) (dU e) 83) _ rfl⟩
 case rest=>
  obtain ⟨rfl,rfl,rfl,rfl,hL⟩:=hcut
  go_upto_region 1 with (fail)
  go_cut [7,8] from 14 to 16 (fun v7 v8 wx=>∃ B7 B8:Nat,v7=ptr B7∧v8=ptr B8∧Bx w wx (etL w B7 B8 g s e))
  case first=>
   as_aux_lemma=>
    have hL:=hL.drew;have Zz:∀ W:World,Bx w W [(w.heap.size,bT g,23),(w.heap.size+1,aO s,26),(w.heap.size+2,dU e,83)]→W.rangeAt (w.heap.size) 0 ([.string g.kind,.int .i64 g.bI,.int .i64 g.target,.int .i64 g.turns]):=fun W h=>h.rng 0 rfl 0 _ rfl;have ZA:∀ W:World,Bx w W [(w.heap.size,bT g,23),(w.heap.size+1,aO s,26),(w.heap.size+2,dU e,83)]→W.rangeAt (w.heap.size+1) 0 ([.int .i64 s.turn,.int .i64 s.s0,.int .i64 s.s1,.int .i64 s.brk,.string s.phase,.int .i64 s.bI,.int .i64 s.colour,.bool s.free,.bool s.aT,.int .i64 s.aP,.int .i64 s.t0,.int .i64 s.t1,.int .i64 s.aB]):=fun W h=>h.rng 1 rfl 0 _ rfl;refine wp_region_held_drew (S:=(fun w':World=>Bx w w' [(w.heap.size,bT g,23),(w.heap.size+1,aO s,26),(w.heap.size+2,dU e,83)])) (by kernel_rfl) ?bW (fun hHeld=>?_)
    case bW=>exact hL
    refine wpAnyH_take (i:=0) (oi:=_) (v:=_) (ga rfl) (by kernel_rfl) (by kernel_rfl) (by kernel_rfl) (fun _ _ _ h=>h) (yieldsIf_load_mid (by rfl) _ _ (by rfl) _ _ (by rfl) _ _ Zz Tryz.underlying23 rfl (by kernel_rfl)) (by assumption) ?_
    try simp only [Act.put,la,lz,ls]
    refine wpAnyH_take (i:=1) (oi:=_) (v:=_) (ga rfl) (by kernel_rfl) (by kernel_rfl) (by kernel_rfl) (fun _ _ _ h=>h) (yieldsIf_load_mid (by rfl) _ _ (by rfl) _ _ (by rfl) _ _ ZA Tryz.underlying26 rfl (by kernel_rfl)) (by assumption) ?_
    try simp only [Act.put,la,lz,ls]
    refine wpAnyH_ready (rs:=[2,3]) (by kernel_rfl) (by simp) ?_;refine AllReadyH.cons (o:=_) (ga rfl) (fun K hK=>?_) (AllReadyH.cons (o:=_) (ga rfl) (fun K hK=>?_) AllReadyH.nil)
    · go_simp
      first | have hL:=(hL:Bx _ (World.drew _) _).add (bT ⟨⟨#[]⟩,0,0,0⟩) 28 | have hL:=hL.JV (bT ⟨⟨#[]⟩,0,0,0⟩) 28 (g:=wc.heap.size+1) (by first | (simp;done) | (rw [setCells_size];simp))
      refine hK.out _ _ ?agH (fun hHeld=>?_)
      case agH=>(first | exact hL | exact hL.tail | exact hL.tail.tail)
      clear hK K
      try simp only [Act.put,la,lz,ls]
      refine tr 3 fun K hK=>?_;go_simp
      first | have hL:=(hL:Bx _ (World.drew _) _).add (aO Sk.zero) 39 | have hL:=hL.JV (aO Sk.zero) 39 (g:=wc.heap.size+1) (by first | (simp;done) | (rw [setCells_size];simp))
      refine hK.out _ _ ?afa (fun hHeld=>?_)
      case afa=>(first | exact hL | exact hL.tail | exact hL.tail.tail)
      clear hK K
      try simp only [Act.put,la,lz,ls]
      refine tr 4 fun K hK=>?_
      first | refine aU (t:=28) hL.head (bT g) rfl bY (D7 _) (.tmp 7) (.tmp 14) rfl rfl rfl ?_ | refine aU (t:=28) hL.tail.head (bT g) rfl bY (D7 _) (.tmp 7) (.tmp 14) rfl rfl rfl ?_
      first | have hL:=(hL:Bx _ _ ((_,bT ⟨⟨#[]⟩,0,0,0⟩,28)::_)).put (bT g) rfl | have hL:=((hL.swap:Bx _ _ ((_,bT ⟨⟨#[]⟩,0,0,0⟩,28)::_)).put (bT g) rfl).swap
      refine hK.out _ _ ?afq (fun hHeld=>?_)
      case afq=>(first | exact hL | exact hL.tail | exact hL.tail.tail)
      clear hK K
      try simp only [Act.put,la,lz,ls]
      refine tr 5 fun K hK=>?_
      first | refine aU (t:=39) hL.head (aO s) rfl iQ (bH _) (.tmp 8) (.tmp 15) rfl rfl rfl ?_ | refine aU (t:=39) hL.tail.head (aO s) rfl iQ (bH _) (.tmp 8) (.tmp 15) rfl rfl rfl ?_
      first | have hL:=(hL:Bx _ _ ((_,aO Sk.zero,39)::_)).put (aO s) rfl | have hL:=((hL.swap:Bx _ _ ((_,aO Sk.zero,39)::_)).put (aO s) rfl).swap
      refine hK.out _ _ ?afH (fun hHeld=>?_)
      case afH=>(first | exact hL | exact hL.tail | exact hL.tail.tail)
      clear hK K
      try simp only [Act.put,la,lz,ls]
      refine wpAnyH_done (by kernel_rfl) ?_ _;go_wp2;go_meet
      first | exact ⟨_,_,rfl,rfl,hL⟩ | exact ⟨_,_,rfl,rfl,hL.swap⟩
    · go_simp
      first | have hL:=(hL:Bx _ (World.drew _) _).add (aO Sk.zero) 39 | have hL:=hL.JV (aO Sk.zero) 39 (g:=wc.heap.size+1) (by first | (simp;done) | (rw [setCells_size];simp))
      refine hK.out _ _ ?afi (fun hHeld=>?_)
      case afi=>(first | exact hL | exact hL.tail | exact hL.tail.tail)
      clear hK K
      try simp only [Act.put,la,lz,ls]
      refine tr 2 fun K hK=>?_;go_simp
      first | have hL:=(hL:Bx _ (World.drew _) _).add (bT ⟨⟨#[]⟩,0,0,0⟩) 28 | have hL:=hL.JV (bT ⟨⟨#[]⟩,0,0,0⟩) 28 (g:=wc.heap.size+1) (by first | (simp;done) | (rw [setCells_size];simp))
      refine hK.out _ _ ?ae2 (fun hHeld=>?_)
      case ae2=>(first | exact hL | exact hL.tail | exact hL.tail.tail)
      clear hK K
      try simp only [Act.put,la,lz,ls]
      refine tr 4 fun K hK=>?_
      first | refine aU (t:=28) hL.head (bT g) rfl bY (D7 _) (.tmp 7) (.tmp 14) rfl rfl rfl ?_ | refine aU (t:=28) hL.tail.head (bT g) rfl bY (D7 _) (.tmp 7) (.tmp 14) rfl rfl rfl ?_
      first | have hL:=(hL:Bx _ _ ((_,bT ⟨⟨#[]⟩,0,0,0⟩,28)::_)).put (bT g) rfl | have hL:=((hL.swap:Bx _ _ ((_,bT ⟨⟨#[]⟩,0,0,0⟩,28)::_)).put (bT g) rfl).swap
      refine hK.out _ _ ?afy (fun hHeld=>?_)
      case afy=>(first | exact hL | exact hL.tail | exact hL.tail.tail)
      clear hK K
      try simp only [Act.put,la,lz,ls]
      refine tr 5 fun K hK=>?_
      first | refine aU (t:=39) hL.head (aO s) rfl iQ (bH _) (.tmp 8) (.tmp 15) rfl rfl rfl ?_ | refine aU (t:=39) hL.tail.head (aO s) rfl iQ (bH _) (.tmp 8) (.tmp 15) rfl rfl rfl ?_
      first | have hL:=(hL:Bx _ _ ((_,aO Sk.zero,39)::_)).put (aO s) rfl | have hL:=((hL.swap:Bx _ _ ((_,aO Sk.zero,39)::_)).put (aO s) rfl).swap
      refine hK.out _ _ ?afP (fun hHeld=>?_)
      case afP=>(first | exact hL | exact hL.tail | exact hL.tail.tail)
      clear hK K
      try simp only [Act.put,la,lz,ls]
      refine wpAnyH_done (by kernel_rfl) ?_ _;go_wp2;go_meet
      first | exact ⟨_,_,rfl,rfl,hL⟩ | exact ⟨_,_,rfl,rfl,hL.swap⟩
  case rest=>
   obtain ⟨B7,B8,rfl,rfl,hL⟩:=hcut
   go_upto_region 2 with (fail)
   go_cut [27] from 16 to 28 (fun v27 wx=>∃ b,v27= .bool b∧Bx w wx (etL w B7 B8 g s e))
   case first=>
    have hw:=fun W=>Jm g s W;obtain ⟨bw,hbw⟩:∃ q,VZ g s=q:=⟨_,rfl⟩;rw [hbw] at hw;clear hbw
    cases bw
    · go_wp2_with (first | ((with_reducible refine isL 23 3 ?_);refine nLr (hL.rn 2 0 ([.string g.kind,.int .i64 g.bI,.int .i64 g.target,.int .i64 g.turns])) Tryz.underlying23 cZ ?_) | ((with_reducible refine isW 23 3 ?_);refine nWr (hL.rn 2 0 ([.string g.kind,.int .i64 g.bI,.int .i64 g.target,.int .i64 g.turns])) Tryz.underlying23 cZ ?_) | ((with_reducible refine isL 26 4 ?_);refine nLr (hL.rn 3 0 ([.int .i64 s.turn,.int .i64 s.s0,.int .i64 s.s1,.int .i64 s.brk,.string s.phase,.int .i64 s.bI,.int .i64 s.colour,.bool s.free,.bool s.aT,.int .i64 s.aP,.int .i64 s.t0,.int .i64 s.t1,.int .i64 s.aB])) Tryz.underlying26 ak ?_) | ((with_reducible refine isW 26 4 ?_);refine nWr (hL.rn 3 0 ([.int .i64 s.turn,.int .i64 s.s0,.int .i64 s.s1,.int .i64 s.brk,.string s.phase,.int .i64 s.bI,.int .i64 s.colour,.bool s.free,.bool s.aT,.int .i64 s.aP,.int .i64 s.t0,.int .i64 s.t1,.int .i64 s.aB])) Tryz.underlying26 ak ?_) | ((with_reducible refine isL 83 5 ?_);refine nLr (hL.rn 4 0 ([.string e.x.kind,.string e.x.called,.slice e.A e.x.hits.length e.a,.slice e.B e.x.aV.length e.b,.int .i64 e.x.bD])) Tryz.underlying83 bF ?_) | ((with_reducible refine isW 83 5 ?_);refine nWr (hL.rn 4 0 ([.string e.x.kind,.string e.x.called,.slice e.A e.x.hits.length e.a,.slice e.B e.x.aV.length e.b,.int .i64 e.x.bD])) Tryz.underlying83 bF ?_) | (go_at_call 12;refine (aw1 _ (HG.out.below hL.bw)).mono ?_;rintro e' w1 ⟨rfl,hb1⟩;have hL:=hL.call hb1) | (go_at_call 13;refine (hw _).mono ?_;rintro e' w2 ⟨rfl,hb2⟩;have hL:=hL.call hb2) | (go_at_call 44;refine (yY S e _ (he.below hL.bw)).mono ?_;rintro e' w3 ⟨⟨bs,rfl⟩,hb3⟩;have hL:=hL.call hb3))
      go_meet;exact ⟨_,rfl,hL⟩
    · go_wp2_with (first | ((with_reducible refine isL 23 3 ?_);refine nLr (hL.rn 2 0 ([.string g.kind,.int .i64 g.bI,.int .i64 g.target,.int .i64 g.turns])) Tryz.underlying23 cZ ?_) | ((with_reducible refine isW 23 3 ?_);refine nWr (hL.rn 2 0 ([.string g.kind,.int .i64 g.bI,.int .i64 g.target,.int .i64 g.turns])) Tryz.underlying23 cZ ?_) | ((with_reducible refine isL 26 4 ?_);refine nLr (hL.rn 3 0 ([.int .i64 s.turn,.int .i64 s.s0,.int .i64 s.s1,.int .i64 s.brk,.string s.phase,.int .i64 s.bI,.int .i64 s.colour,.bool s.free,.bool s.aT,.int .i64 s.aP,.int .i64 s.t0,.int .i64 s.t1,.int .i64 s.aB])) Tryz.underlying26 ak ?_) | ((with_reducible refine isW 26 4 ?_);refine nWr (hL.rn 3 0 ([.int .i64 s.turn,.int .i64 s.s0,.int .i64 s.s1,.int .i64 s.brk,.string s.phase,.int .i64 s.bI,.int .i64 s.colour,.bool s.free,.bool s.aT,.int .i64 s.aP,.int .i64 s.t0,.int .i64 s.t1,.int .i64 s.aB])) Tryz.underlying26 ak ?_) | (go_at_call 12;refine (aw1 _ (HG.out.below hL.bw)).mono ?_;rintro e' w1 ⟨rfl,hb1⟩;have hL:=hL.call hb1) | (go_at_call 13;refine (hw _).mono ?_;rintro e' w2 ⟨rfl,hb2⟩;have hL:=hL.call hb2))
      go_meet;exact ⟨_,rfl,hL⟩
   case rest=>
    obtain ⟨b,rfl,hL⟩:=hcut
    cases b
    rotate_left
    · go_wp2_with (first | (go_at_call 12;refine (aw1 _ (HG.out.below hL.bw)).mono ?_;rintro e' w1 ⟨rfl,hb1⟩;have hL:=hL.call hb1))
      go_ret;exact ⟨rfl,hL.bw⟩
    have c1:=fun W h=>acP S g e W h;have c2:=fun W h=>EH S g e W h;have c3:=fun W=>aed e.x.called W;have c4:=fun W=>iO e.x.called W;have c5:=fun W=>agh g s W;have c6:=fun W=>EJ g s W;obtain ⟨C,hC⟩:∃ q,Sk.wL g e.x=q:=⟨_,rfl⟩;obtain ⟨V,hV⟩:∃ q,Sk.value e.x.called=q:=⟨_,rfl⟩;obtain ⟨hi1,hi2⟩:=ahd V;obtain ⟨VE,hVE⟩:∃ q,(if 0<V then (0:Int) else 10)=q:=⟨_,rfl⟩;obtain ⟨VV,hVV⟩:∃ q,(if 0<V then V else 0)=q:=⟨_,rfl⟩;obtain ⟨K,hK⟩:∃ q,Sk.bP g s=q:=⟨_,rfl⟩;obtain ⟨O,hO⟩:∃ q,onErr g s=q:=⟨_,rfl⟩;obtain ⟨X,hX⟩:∃ q,adx g s=q:=⟨_,rfl⟩
    have hO2:fst [K,iL (decide (0≤s.aB)) 20]=O:=by rw [← hK];exact hO
    have hX2:X=if O=0 then Sk.aaB g s else []:=by rw [← hX, ← hO];rfl
    have hok:O=0→Sk.Ok g s:=fun h0=>ahS (hO.trans h0);rw [hC] at c1 c2;rw [hV] at c4;rw [hV,hVE,hVV] at c3;rw [hVE] at hi1;rw [hVV] at hi2;rw [hO,hX] at c5;rw [hK] at c6;have C1:=hide c1;have C2:=hide c2;have C3:=hide c3;have C4:=hide c4;have C5:=hide c5;have C6:=hide c6;have HI:=hide (And.intro hi1 hi2);have HO:=hide hO2;have HX:=hide hX2;have HOK:=hide hok;clear hC hV hVE hVV hK hO hX hi1 hi2 hO2 hX2 hok c1 c2 c3 c4 c5 c6
    go_upto_region 4 with (fail)
    go_cut [35] from 28 to 36 (fun v35 wx=>v35= .bool false∧Bx w wx (etL w B7 B8 g s e))
    case first=>
     have hcc:(C != C)=false:=by simp
     have ZE:∀ W:World,Bx w W (etL w B7 B8 g s e)→W.rangeAt (w.heap.size) 0 ([.string g.kind,.int .i64 g.bI,.int .i64 g.target,.int .i64 g.turns]):=fun W h=>h.rng 2 rfl 0 _ rfl;have ag5:∀ W:World,Bx w W (etL w B7 B8 g s e)→W.rangeAt (w.heap.size+2) 0 ([.string e.x.kind,.string e.x.called,.slice e.A e.x.hits.length e.a,.slice e.B e.x.aV.length e.b,.int .i64 e.x.bD]):=fun W h=>h.rng 4 rfl 0 _ rfl;have aiB:∀ W:World,Bx w W (etL w B7 B8 g s e)→W.rangeAt (B7) 0 ([.string g.kind,.int .i64 g.bI,.int .i64 g.target,.int .i64 g.turns]):=fun W h=>h.rng 0 rfl 0 _ rfl;have hL:=hL.drew;refine wp_region_held_drew (S:=(fun w':World=>Bx w w' (etL w B7 B8 g s e))) (by kernel_rfl) ?dI (fun hHeld=>?_)
     case dI=>exact hL
     refine wpAnyH_take (i:=0) (oi:=_) (v:=_) (ga rfl) (by kernel_rfl) (by kernel_rfl) (by kernel_rfl) (fun _ _ _ h=>h) (yieldsIf_load_mid (by rfl) _ _ (by rfl) _ _ (by rfl) _ _ ZE Tryz.underlying23 rfl (by kernel_rfl)) (by assumption) ?_
     try simp only [Act.put,la,lz,ls]
     refine wpAnyH_take (i:=1) (oi:=_) (v:=_) (ga rfl) (by kernel_rfl) (by kernel_rfl) (by kernel_rfl) (fun _ _ _ h=>h) (yieldsIf_load_mid (by rfl) _ _ (by rfl) _ _ (by rfl) _ _ ag5 Tryz.underlying83 rfl (by kernel_rfl)) (by assumption) ?_
     try simp only [Act.put,la,lz,ls]
     refine wpAnyH_take (i:=3) (oi:=_) (v:=_) (ga rfl) (by kernel_rfl) (by kernel_rfl) (by kernel_rfl) (fun _ _ _ h=>h) (yieldsIf_load_mid (by rfl) _ _ (by rfl) _ _ (by rfl) _ _ aiB Tryz.underlying28 rfl (by kernel_rfl)) (by assumption) ?_
     try simp only [Act.put,la,lz,ls]
     refine wpAnyH_take (i:=4) (oi:=_) (v:=_) (ga rfl) (by kernel_rfl) (by kernel_rfl) (by kernel_rfl) (fun _ _ _ h=>h) (yieldsIf_load_mid (by rfl) _ _ (by rfl) _ _ (by rfl) _ _ ag5 Tryz.underlying83 rfl (by kernel_rfl)) (by assumption) ?_
     try simp only [Act.put,la,lz,ls]
     refine tr 2 fun K hK=>?_;go_simp
     (go_at_call 53;refine (C1.out _ (he.below hL.bw)).mono ?_;rintro e w4a ⟨rfl,ah1⟩)
     have hL:=hL.call ah1;refine hK.out _ _ ?Qh (fun hHeld=>?_)
     case Qh=>(exact hL)
     clear hK K
     try simp only [Act.put,la,lz,ls]
     refine tr 5 fun K hK=>?_;go_simp
     (go_at_call 47;refine (C2.out _ (he.below hL.bw)).mono ?_;rintro e w4b ⟨rfl,ah8⟩)
     have hL:=hL.call ah8;refine hK.out _ _ ?aiR (fun hHeld=>?_)
     case aiR=>(exact hL)
     clear hK K
     try simp only [Act.put,la,lz,ls]
     refine tk 6 ?_;refine wpAnyH_done (by kernel_rfl) ?_ _;go_wp2;go_meet;exact ⟨rfl,hL⟩
    case rest=>
     obtain ⟨rfl,hL⟩:=hcut;have ke:=(hL.get 4 rfl).cell (j:=1) rfl
     go_upto_region 6 with (fail)
     go_cut [9,10] from 36 to 42 (fun v9 v10 wx=>v9= .int .i64 VV∧v10= .int .i64 VE∧Bx w wx (etL w B7 B8 g s e))
     case first=>
      go_wp2_with (first | (go_at_call 54;refine (C3.out _).mono ?_;rintro e' w4 ⟨rfl,hb4⟩;have hL:=hL.call hb4))
      go_meet;exact ⟨rfl,rfl,hL⟩
     case rest=>
      obtain ⟨rfl,rfl,hL⟩:=hcut;clear ke
      go_upto_region 7 with (fail)
      go_cut [53] from 42 to 54 (fun v53 wx=>v53= .bool false∧Bx w wx (etL w B7 B8 g s e))
      case first=>
       have hL:=hL.drew;refine wp_region_held_drew (S:=(fun w':World=>Bx w w' (etL w B7 B8 g s e)∧w'.cell? ⟨w.heap.size+2,1,none⟩=some (.string e.x.called))) (by kernel_rfl) ?dS (fun hHeld=>?_)
       case dS=>exact ⟨hL,(hL.get 4 rfl).cell (j:=1) rfl⟩
       refine tk 0 ?_;refine tk 1 ?_;refine tk 2 ?_;refine tk 3 ?_;refine tk 7 ?_;refine tk 8 ?_;refine tr 4 fun K hK=>?_;go_simp
       (go_at_call 55;refine (C4.out _).mono ?_;rintro e w7a ⟨rfl,aix⟩)
       have hL:=hL.call aix;refine hK.out _ _ ?abn (fun hHeld=>?_)
       case abn=>(exact ⟨hL,(hL.get 4 rfl).cell (j:=1) rfl⟩)
       clear hK K
       try simp only [Act.put,la,lz,ls]
       refine tk 5 ?_;refine tr 6 fun K hK=>?_;go_simp
       (go_at_call 28;refine (Jl _ _ _).mono ?_;rintro e w7b ⟨rfl,rfl⟩)
       refine hK.out _ _ ?abC (fun hHeld=>?_)
       case abC=>(exact ⟨hL,(hL.get 4 rfl).cell (j:=1) rfl⟩)
       clear hK K
       try simp only [Act.put,la,lz,ls]
       refine tr 9 fun K hK=>?_;go_simp
       (go_at_call 55;refine (C4.out _).mono ?_;rintro e w7c ⟨rfl,ajw⟩)
       have hL:=hL.call ajw;refine hK.out _ _ ?abR (fun hHeld=>?_)
       case abR=>(exact ⟨hL,(hL.get 4 rfl).cell (j:=1) rfl⟩)
       clear hK K
       try simp only [Act.put,la,lz,ls]
       refine tr 10 fun K hK=>?_;go_simp
       (go_at_call 35;refine (LY _ _ _ _ HI.out.1 HI.out.2 _).mono ?_;rintro e w7d ⟨rfl,rfl⟩)
       refine hK.out _ _ ?Jz (fun hHeld=>?_)
       case Jz=>(exact ⟨hL,(hL.get 4 rfl).cell (j:=1) rfl⟩)
       clear hK K
       try simp only [Act.put,la,lz,ls]
       refine tk 11 ?_;refine wpAnyH_done (by kernel_rfl) ?_ _;go_wp2;go_meet;exact ⟨rfl,hL⟩
      case rest=>
       obtain ⟨rfl,hL⟩:=hcut
       go_upto_region 9 with (fail)
       go_cut [11,12] from 54 to 60 (fun v11 v12 wx=>∃ A1 c1,v11= .slice A1 X.length c1∧v12= .int .i64 O∧lT wx (fun _=>True) A1 c1 X∧Bx w wx (etL w B7 B8 g s e))
       case first=>
        go_wp2_with (first | ((with_reducible refine isL 23 3 ?_);refine nLr (hL.rn 2 0 ([.string g.kind,.int .i64 g.bI,.int .i64 g.target,.int .i64 g.turns])) Tryz.underlying23 cZ ?_) | ((with_reducible refine isL 26 4 ?_);refine nLr (hL.rn 3 0 ([.int .i64 s.turn,.int .i64 s.s0,.int .i64 s.s1,.int .i64 s.brk,.string s.phase,.int .i64 s.bI,.int .i64 s.colour,.bool s.free,.bool s.aT,.int .i64 s.aP,.int .i64 s.t0,.int .i64 s.t1,.int .i64 s.aB])) Tryz.underlying26 ak ?_) | (go_at_call 56;refine (C5.out _).mono ?_;rintro e' w5 ⟨A1,c1,rfl,hr1,hb5⟩;have hL:=hL.call hb5))
        go_meet;exact ⟨_,_,rfl,rfl,hr1.more (fun _ _ _=>trivial),hL⟩
       case rest=>
        obtain ⟨A1,c1,rfl,rfl,hr1,hL⟩:=hcut
        go_upto_region 10 with (fail)
        go_cut [13] from 60 to 69 (fun v13 wx=>v13= .int .i64 O∧Bx w wx (etL w B7 B8 g s e)∧lT wx (fun _=>True) A1 c1 X)
        case first=>
         have hr1:=agz hr1;have ahm:∀ W:World,Bx w W (etL w B7 B8 g s e)∧W.cell? ⟨w.heap.size+1,12,none⟩=some (.int .i64 s.aB)→W.rangeAt (B7) 0 ([.string g.kind,.int .i64 g.bI,.int .i64 g.target,.int .i64 g.turns]):=fun W h=>h.1.rng 0 rfl 0 _ rfl;have ahu:∀ W:World,Bx w W (etL w B7 B8 g s e)∧W.cell? ⟨w.heap.size+1,12,none⟩=some (.int .i64 s.aB)→W.rangeAt (B8) 0 ([.int .i64 s.turn,.int .i64 s.s0,.int .i64 s.s1,.int .i64 s.brk,.string s.phase,.int .i64 s.bI,.int .i64 s.colour,.bool s.free,.bool s.aT,.int .i64 s.aP,.int .i64 s.t0,.int .i64 s.t1,.int .i64 s.aB]):=fun W h=>h.1.rng 1 rfl 0 _ rfl;have hL:=hL.drew;refine wp_region_held_drew (S:=(fun w':World=>Bx w w' (etL w B7 B8 g s e)∧w'.cell? ⟨w.heap.size+1,12,none⟩=some (.int .i64 s.aB))) (by kernel_rfl) ?iJ (fun hHeld=>?_)
         case iJ=>exact ⟨hL,(hL.get 3 rfl).cell (j:=12) rfl⟩
         refine wpAnyH_take (i:=0) (oi:=_) (v:=_) (ga rfl) (by kernel_rfl) (by kernel_rfl) (by kernel_rfl) (fun _ _ _ h=>h) (yieldsIf_load_mid (by rfl) _ _ (by rfl) _ _ (by rfl) _ _ ahm Tryz.underlying28 rfl (by kernel_rfl)) (by assumption) ?_
         try simp only [Act.put,la,lz,ls]
         refine wpAnyH_take (i:=1) (oi:=_) (v:=_) (ga rfl) (by kernel_rfl) (by kernel_rfl) (by kernel_rfl) (fun _ _ _ h=>h) (yieldsIf_load_mid (by rfl) _ _ (by rfl) _ _ (by rfl) _ _ ahu Tryz.underlying39 rfl (by kernel_rfl)) (by assumption) ?_
         try simp only [Act.put,la,lz,ls]
         refine tk 3 ?_;refine tk 4 ?_;refine tk 5 ?_;refine tr 2 fun K hK=>?_;go_simp
         (go_at_call 19;refine (C6.out _).mono ?_;rintro e ake ⟨rfl,agX⟩)
         have hL:=hL.call agX;have hr1:=hr1.below agX;refine hK.out _ _ ?ai0 (fun hHeld=>?_)
         case ai0=>(exact ⟨hL,(hL.get 3 rfl).cell (j:=12) rfl⟩)
         clear hK K
         try simp only [Act.put,la,lz,ls]
         refine tr 6 fun K hK=>?_;go_simp
         (go_at_call 28;refine (Jl _ _ _).mono ?_;rintro e akm ⟨rfl,rfl⟩)
         refine hK.out _ _ ?ai8 (fun hHeld=>?_)
         case ai8=>(exact ⟨hL,(hL.get 3 rfl).cell (j:=12) rfl⟩)
         clear hK K
         try simp only [Act.put,la,lz,ls]
         refine tr 7 fun K hK=>?_;go_simp;refine hK.out _ _ ?ajg (fun hHeld=>?_)
         case ajg=>(exact ⟨hL.alloc _,(((hL.alloc _).get 3 rfl).cell (j:=12) rfl)⟩)
         clear hK K
         try simp only [Act.put,la,lz,ls]
         refine tr 8 fun K hK=>?_;go_simp
         (go_at_call 27;refine (Gh (fun _=>True) _ _ [_,_] _ (jV.row _ _ [_,_] (by simp) _ trivial)).mono ?_;rintro e aku ⟨rfl,rfl⟩)
         refine hK.out _ _ ?ajo (fun hHeld=>?_)
         case ajo=>(exact hHeld)
         clear hK K
         try simp only [Act.put,la,lz,ls]
         refine tk 9 ?_;refine wpAnyH_done (by kernel_rfl) ?_ _;go_wp2;go_meet;exact ⟨congrArg _ HO.out,hHeld.1,hr1.alloc _⟩
        case rest=>
         obtain ⟨rfl,hL,hr1⟩:=hcut
         by_cases h0:O=0
         rotate_left
         · have hd:(O != 0)=true:=by simp [h0]
           have hXe:X=[]:=by rw [HX.out,if_neg h0]
           have Zu:(O == O)=true:=by simp
           subst hXe;clear h0;go_wp2;go_ret;exact ⟨rfl,hL.bw⟩
         have hd:(O != 0)=false:=by simp [h0]
         have hd2:(O == 0)=true:=by simp [h0]
         have hk:=HOK.out h0
         have hXe:X=Sk.aaB g s:=by rw [HX.out,if_pos h0]
         have c7:=fun W=>agP g s hk.inr.turn W;rw [Sk.ahK hk, ← hXe] at c7;have C7:=hide c7;clear h0 hk hXe c7
         go_wp2_with (first | ((with_reducible refine isL 28 7 ?_);refine nLr (hL.rn 0 0 ([.string g.kind,.int .i64 g.bI,.int .i64 g.target,.int .i64 g.turns])) Tryz.underlying28 bY ?_) | ((with_reducible refine isW 28 7 ?_);refine nWr (hL.rn 0 0 ([.string g.kind,.int .i64 g.bI,.int .i64 g.target,.int .i64 g.turns])) Tryz.underlying28 bY ?_) | ((with_reducible refine isL 39 8 ?_);refine nLr (hL.rn 1 0 ([.int .i64 s.turn,.int .i64 s.s0,.int .i64 s.s1,.int .i64 s.brk,.string s.phase,.int .i64 s.bI,.int .i64 s.colour,.bool s.free,.bool s.aT,.int .i64 s.aP,.int .i64 s.t0,.int .i64 s.t1,.int .i64 s.aB])) Tryz.underlying39 iQ ?_) | ((with_reducible refine isW 39 8 ?_);refine nWr (hL.rn 1 0 ([.int .i64 s.turn,.int .i64 s.s0,.int .i64 s.s1,.int .i64 s.brk,.string s.phase,.int .i64 s.bI,.int .i64 s.colour,.bool s.free,.bool s.aT,.int .i64 s.aP,.int .i64 s.t0,.int .i64 s.t1,.int .i64 s.aB])) Tryz.underlying39 iQ ?_) | (go_at_call 58;refine (C7.out _).mono ?_;rintro e' w6 ⟨A2,c2,rfl,hr2,hb6⟩;have hL:=hL.call hb6;have hr1:=hr1.below hb6) | (go_at_call 57;refine (ab1 _ _ X X _ _ _ _ _ hr1 hr2 rfl).mono ?_;rintro e' w7 ⟨rfl,hb7⟩;have hL:=hL.call hb7))
         go_ret;exact ⟨rfl,hL.bw⟩
end Go.Proofs.YtjbbfmofpjflmaaGreatDoor
