/- Parts of a proof. -/
import Derived.Test.YtjbbfmofpjflmaaGreatDoorKb23
import Derived.Test.YtjbbfmofpjflmaaGreatDoorKb35
import Derived.Test.YtjbbfmofpjflmaaGreatDoorKf0
set_option maxHeartbeats 6400000
set_option maxRecDepth 100000
set_option linter.unusedVariables false
set_option linter.unusedSimpArgs false
namespace Go.Proofs.YtjbbfmofpjflmaaGreatDoor
open Go.RowKit
theorem aa8 (S:Nat→Prop) (g:Sk.Game) (s:Sk.State) (l:List En) (A:Option Addr) (c:Nat) (w:World) (hG:Glob w) (hl:qh w S A c l) (hn:l.length*88≤140737488355328):
 Calls Tryz.prog 3 #[lZ g,kW s,.slice A l.length c] w fun e w'=>e= .returned (.bool true)∧Below w.heap.size w w':=by
 have HG:=hide hG;clear hG
 go_enter Tryz.func3,Tryz.ntmps3
 go_upto_region 0 with (fail)
 go_cut [3,4,6] (fun v3 v4 v6 wx=>v3=ptr (w.heap.size)∧v4=ptr (w.heap.size+1)∧v6= .bool false∧Bx w wx [(w.heap.size,bT g,23),(w.heap.size+1,aO s,26)])
 case first=>
  go_wp2;go_meet;exact ⟨rfl,rfl,rfl,Bx.of (((aJ.nil w).new (by simp) (bT g) 23).new (by simp) (aO s) 26) _ rfl⟩
 case rest=>
  obtain ⟨rfl,rfl,rfl,hL⟩:=hcut
  go_upto_region 1 with (fail)
  go_cut [7] from 7 to 11 (fun v7 wx=>∃ B7,v7=ptr B7∧Bx w wx [(B7,bT g,28),(w.heap.size,bT g,23),(w.heap.size+1,aO s,26)])
  case first=>
   have hZ:=hL.add (bT g) 28
   go_wp2_with (first | ((with_reducible (refine ah 23 (.tmp 3) ?lx ?_));(case lx=>rfl);refine aK (hL.rng 0 rfl 0 ([.string g.kind,.int .i64 g.bI,.int .i64 g.target,.int .i64 g.turns]) rfl) Tryz.underlying23 rfl cZ rfl (.tmp 3) rfl rfl ?_) | ((with_reducible (refine ah 23 (.tmp 3) ?lx ?_));(case lx=>rfl);refine fA (hL.rng 0 rfl 0 ([.string g.kind,.int .i64 g.bI,.int .i64 g.target,.int .i64 g.turns]) rfl) Tryz.underlying23 rfl cZ rfl (.tmp 3) rfl rfl ?_) | ((with_reducible (refine aI 23 (.tmp 3) ?lx ?_));(case lx=>rfl);refine eu (hL.rng 0 rfl 0 ([.string g.kind,.int .i64 g.bI,.int .i64 g.target,.int .i64 g.turns]) rfl) Tryz.underlying23 rfl cZ (.tmp 3) rfl rfl ?_))
   go_meet;exact ⟨_,rfl,hZ⟩
  case rest=>
   obtain ⟨B7,rfl,hL⟩:=hcut
   go_upto_region 2 with (fail)
   go_cut [23] from 11 to 24 (fun v23 wx=>∃ b,v23= .bool b∧Bx w wx [(B7,bT g,28),(w.heap.size,bT g,23),(w.heap.size+1,aO s,26)])
   case first=>
    have hw:=fun W=>Jm g s W;obtain ⟨bw,hbw⟩:∃ q,VZ g s=q:=⟨_,rfl⟩;rw [hbw] at hw;have HW:=hide hw;clear hw hbw
    cases bw
    all_goals
     go_wp2_with (first | ((with_reducible (refine ah 23 (.tmp 3) ?lx ?_));(case lx=>rfl);refine aK (hL.rng 1 rfl 0 ([.string g.kind,.int .i64 g.bI,.int .i64 g.target,.int .i64 g.turns]) rfl) Tryz.underlying23 rfl cZ rfl (.tmp 3) rfl rfl ?_) | ((with_reducible (refine ah 23 (.tmp 3) ?lx ?_));(case lx=>rfl);refine fA (hL.rng 1 rfl 0 ([.string g.kind,.int .i64 g.bI,.int .i64 g.target,.int .i64 g.turns]) rfl) Tryz.underlying23 rfl cZ rfl (.tmp 3) rfl rfl ?_) | ((with_reducible (refine aI 23 (.tmp 3) ?lx ?_));(case lx=>rfl);refine eu (hL.rng 1 rfl 0 ([.string g.kind,.int .i64 g.bI,.int .i64 g.target,.int .i64 g.turns]) rfl) Tryz.underlying23 rfl cZ (.tmp 3) rfl rfl ?_) | ((with_reducible (refine ah 26 (.tmp 4) ?lx ?_));(case lx=>rfl);refine aK (hL.rng 2 rfl 0 ([.int .i64 s.turn,.int .i64 s.s0,.int .i64 s.s1,.int .i64 s.brk,.string s.phase,.int .i64 s.bI,.int .i64 s.colour,.bool s.free,.bool s.aT,.int .i64 s.aP,.int .i64 s.t0,.int .i64 s.t1,.int .i64 s.aB]) rfl) Tryz.underlying26 rfl ak rfl (.tmp 4) rfl rfl ?_) | ((with_reducible (refine ah 26 (.tmp 4) ?lx ?_));(case lx=>rfl);refine fA (hL.rng 2 rfl 0 ([.int .i64 s.turn,.int .i64 s.s0,.int .i64 s.s1,.int .i64 s.brk,.string s.phase,.int .i64 s.bI,.int .i64 s.colour,.bool s.free,.bool s.aT,.int .i64 s.aP,.int .i64 s.t0,.int .i64 s.t1,.int .i64 s.aB]) rfl) Tryz.underlying26 rfl ak rfl (.tmp 4) rfl rfl ?_) | ((with_reducible (refine aI 26 (.tmp 4) ?lx ?_));(case lx=>rfl);refine eu (hL.rng 2 rfl 0 ([.int .i64 s.turn,.int .i64 s.s0,.int .i64 s.s1,.int .i64 s.brk,.string s.phase,.int .i64 s.bI,.int .i64 s.colour,.bool s.free,.bool s.aT,.int .i64 s.aP,.int .i64 s.t0,.int .i64 s.t1,.int .i64 s.aB]) rfl) Tryz.underlying26 rfl ak (.tmp 4) rfl rfl ?_) | (go_at_call 12;refine (aw1 _ (HG.out.below hL.bw)).mono ?_;rintro e w1 ⟨rfl,hb1⟩;have hL:=hL.call hb1) | (go_at_call 13;refine (HW.out _).mono ?_;rintro e w2 ⟨rfl,hb2⟩;have hL:=hL.call hb2) | (go_at_call 15;refine (Cc S l A c _ (hl.below hL.bw) hn).mono ?_;rintro e w3 ⟨A3,c3,rfl,hE,hb3⟩;have hL:=hL.call hb3) | (go_at_call 14;refine (JE _ A3 c3 l 20 _ hE).mono ?_;rintro e w4 ⟨⟨bs,rfl⟩,hb4⟩;have hL:=hL.call hb4))
     go_meet;exact ⟨_,rfl,hL⟩
   case rest=>
    obtain ⟨b,rfl,hL⟩:=hcut
    cases b
    rotate_left
    · go_wp2_with (first | (go_at_call 12;refine (aw1 _ (HG.out.below hL.bw)).mono ?_;rintro e w1 ⟨rfl,hb1⟩;have hL:=hL.call hb1))
      go_ret;exact ⟨rfl,hL.bw⟩
    go_upto_region 4 with (fail)
    go_cut [48] from 24 to 49 (fun v48 wx=>v48= .bool false∧Bx w wx [(B7,bT g,28),(w.heap.size,bT g,23),(w.heap.size+1,aO s,26)])
    case first=>
     have ZE:∀ W:World,Bx w W [(B7,bT g,28),(w.heap.size,bT g,23),(w.heap.size+1,aO s,26)]→W.rangeAt (w.heap.size) 0 ([.string g.kind,.int .i64 g.bI,.int .i64 g.target,.int .i64 g.turns]):=fun W h=>h.rng 1 rfl 0 _ rfl;have abj:∀ W:World,Bx w W [(B7,bT g,28),(w.heap.size,bT g,23),(w.heap.size+1,aO s,26)]→W.rangeAt (B7) 0 ([.string g.kind,.int .i64 g.bI,.int .i64 g.target,.int .i64 g.turns]):=fun W h=>h.rng 0 rfl 0 _ rfl;have abr:∀ W:World,Bx w W [(B7,bT g,28),(w.heap.size,bT g,23),(w.heap.size+1,aO s,26)]→W.rangeAt (w.heap.size+1) 0 ([.int .i64 s.turn,.int .i64 s.s0,.int .i64 s.s1,.int .i64 s.brk,.string s.phase,.int .i64 s.bI,.int .i64 s.colour,.bool s.free,.bool s.aT,.int .i64 s.aP,.int .i64 s.t0,.int .i64 s.t1,.int .i64 s.aB]):=fun W h=>h.rng 2 rfl 0 _ rfl;have hL:=hL.drew;refine wp_region_held_drew (S:=(fun w':World=>Bx w w' [(B7,bT g,28),(w.heap.size,bT g,23),(w.heap.size+1,aO s,26)])) (by kernel_rfl) ?bW (fun hHeld=>?_)
     case bW=>exact hL
     refine wpAnyH_take (i:=0) (oi:=_) (v:=_) (ga rfl) (by kernel_rfl) (by kernel_rfl) (by kernel_rfl) (fun _ _ _ h=>h) (yieldsIf_load_mid (by rfl) _ _ (by rfl) _ _ (by rfl) _ _ ZE Tryz.underlying23 rfl (by kernel_rfl)) (by assumption) ?_
     try simp only [Act.put,la,lz,ls]
     refine wpAnyH_take (i:=2) (oi:=_) (v:=_) (ga rfl) (by kernel_rfl) (by kernel_rfl) (by kernel_rfl) (fun _ _ _ h=>h) (yieldsIf_load_mid (by rfl) _ _ (by rfl) _ _ (by rfl) _ _ abj Tryz.underlying28 rfl (by kernel_rfl)) (by assumption) ?_
     try simp only [Act.put,la,lz,ls]
     refine tr 1 fun K hK=>?_;go_simp
     (go_at_call 16;refine (rH g _).mono ?_;rintro e w4a ⟨rfl,ah1⟩)
     have hL:=hL.call ah1;refine hK.out _ _ ?aaq (fun hHeld=>?_)
     case aaq=>(exact hL)
     clear hK K
     try simp only [Act.put,la,lz,ls]
     refine tr 3 fun K hK=>?_;go_simp
     (go_at_call 17;refine (pV g _).mono ?_;rintro e w4b ⟨rfl,ah8⟩)
     have hL:=hL.call ah8;refine hK.out _ _ ?Gx (fun hHeld=>?_)
     case Gx=>(exact hL)
     clear hK K
     try simp only [Act.put,la,lz,ls]
     refine tk 4 ?_;refine tk 5 ?_;refine wpAnyH_take (i:=6) (oi:=_) (v:=_) (ga rfl) (by kernel_rfl) (by kernel_rfl) (by kernel_rfl) (fun _ _ _ h=>h) (yieldsIf_load_mid (by rfl) _ _ (by rfl) _ _ (by rfl) _ _ ZE Tryz.underlying23 rfl (by kernel_rfl)) (by assumption) ?_
     try simp only [Act.put,la,lz,ls]
     refine wpAnyH_take (i:=7) (oi:=_) (v:=_) (ga rfl) (by kernel_rfl) (by kernel_rfl) (by kernel_rfl) (fun _ _ _ h=>h) (yieldsIf_load_mid (by rfl) _ _ (by rfl) _ _ (by rfl) _ _ abr Tryz.underlying26 rfl (by kernel_rfl)) (by assumption) ?_
     try simp only [Act.put,la,lz,ls]
     refine wpAnyH_take (i:=9) (oi:=_) (v:=_) (ga rfl) (by kernel_rfl) (by kernel_rfl) (by kernel_rfl) (fun _ _ _ h=>h) (yieldsIf_load_mid (by rfl) _ _ (by rfl) _ _ (by rfl) _ _ abj Tryz.underlying28 rfl (by kernel_rfl)) (by assumption) ?_
     try simp only [Act.put,la,lz,ls]
     refine wpAnyH_take (i:=10) (oi:=_) (v:=_) (ga rfl) (by kernel_rfl) (by kernel_rfl) (by kernel_rfl) (fun _ _ _ h=>h) (yieldsIf_load_mid (by rfl) _ _ (by rfl) _ _ (by rfl) _ _ abr Tryz.underlying26 rfl (by kernel_rfl)) (by assumption) ?_
     try simp only [Act.put,la,lz,ls]
     refine tr 8 fun K hK=>?_;go_simp
     (go_at_call 18;refine (CG g s _).mono ?_;rintro e w4c ⟨rfl,acG⟩)
     have hL:=hL.call acG;refine hK.out _ _ ?acn (fun hHeld=>?_)
     case acn=>(exact hL)
     clear hK K
     try simp only [Act.put,la,lz,ls]
     refine tr 11 fun K hK=>?_;go_simp
     (go_at_call 19;refine (EJ g s _).mono ?_;rintro e w4d ⟨rfl,acP⟩)
     have hL:=hL.call acP;refine hK.out _ _ ?XF (fun hHeld=>?_)
     case XF=>(exact hL)
     clear hK K
     try simp only [Act.put,la,lz,ls]
     refine tk 12 ?_;refine tk 13 ?_;refine tk 14 ?_;refine wpAnyH_take (i:=15) (oi:=_) (v:=_) (ga rfl) (by kernel_rfl) (by kernel_rfl) (by kernel_rfl) (fun _ _ _ h=>h) (yieldsIf_load_mid (by rfl) _ _ (by rfl) _ _ (by rfl) _ _ ZE Tryz.underlying23 rfl (by kernel_rfl)) (by assumption) ?_
     try simp only [Act.put,la,lz,ls]
     refine tk 16 ?_;refine wpAnyH_take (i:=18) (oi:=_) (v:=_) (ga rfl) (by kernel_rfl) (by kernel_rfl) (by kernel_rfl) (fun _ _ _ h=>h) (yieldsIf_load_mid (by rfl) _ _ (by rfl) _ _ (by rfl) _ _ abj Tryz.underlying28 rfl (by kernel_rfl)) (by assumption) ?_
     try simp only [Act.put,la,lz,ls]
     refine tk 19 ?_;refine tr 17 fun K hK=>?_;go_simp
     (go_at_call 20;refine (pW S g l A c _ (hl.below hL.bw)).mono ?_;rintro e w4e ⟨rfl,ab9⟩)
     have hL:=hL.call ab9
     try have hE:=hE.below ab9
     refine hK.out _ _ ?abJ (fun hHeld=>?_)
     case abJ=>(exact hL)
     clear hK K
     try simp only [Act.put,la,lz,ls]
     refine tr 20 fun K hK=>?_;go_simp
     (go_at_call 15;refine (Cc S l A c _ (hl.below hL.bw) hn).mono ?_;rintro e w4f ⟨A3,c3,rfl,hE,acX⟩)
     have hL:=hL.call acX;refine hK.out _ _ ?abS (fun hHeld=>?_)
     case abS=>(exact hL)
     clear hK K
     try simp only [Act.put,la,lz,ls]
     refine tr 21 fun K hK=>?_;go_simp
     (go_at_call 21;refine (JD _ g l A3 c3 _ hE).mono ?_;rintro e w4g ⟨rfl,ac5⟩)
     have hL:=hL.call ac5;refine hK.out _ _ ?ab1 (fun hHeld=>?_)
     case ab1=>(exact hL)
     clear hK K
     try simp only [Act.put,la,lz,ls]
     refine tk 22 ?_;refine tk 23 ?_;refine wpAnyH_done (by kernel_rfl) ?_ _;go_wp2;go_meet;exact ⟨by simp,hL⟩
    case rest=>
     obtain ⟨rfl,hL⟩:=hcut;obtain ⟨sx,hsx⟩:∃ q,(if Sk.dn g=0 then Sk.start g else Sk.zero)=q:=⟨_,rfl⟩;have HSX:=hide hsx.symm;have hst:=fun W=>uz g W;rw [hsx] at hst;have HST:=hide hst;clear hsx hst
     go_upto_region 6 with (fail)
     go_cut [8,9] from 49 to 54 (fun v8 v9 wx=>∃ B8,v8=ptr B8∧v9= .int .i64 (Sk.dn g)∧Bx w wx [(B8,aO sx,26),(B7,bT g,28),(w.heap.size,bT g,23),(w.heap.size+1,aO s,26)])
     case first=>
      go_wp2_with (first | ((with_reducible (refine ah 23 (.tmp 3) ?lx ?_));(case lx=>rfl);refine aK (hL.rng 1 rfl 0 ([.string g.kind,.int .i64 g.bI,.int .i64 g.target,.int .i64 g.turns]) rfl) Tryz.underlying23 rfl cZ rfl (.tmp 3) rfl rfl ?_) | ((with_reducible (refine ah 23 (.tmp 3) ?lx ?_));(case lx=>rfl);refine fA (hL.rng 1 rfl 0 ([.string g.kind,.int .i64 g.bI,.int .i64 g.target,.int .i64 g.turns]) rfl) Tryz.underlying23 rfl cZ rfl (.tmp 3) rfl rfl ?_) | ((with_reducible (refine aI 23 (.tmp 3) ?lx ?_));(case lx=>rfl);refine eu (hL.rng 1 rfl 0 ([.string g.kind,.int .i64 g.bI,.int .i64 g.target,.int .i64 g.turns]) rfl) Tryz.underlying23 rfl cZ (.tmp 3) rfl rfl ?_) | (go_at_call 22;refine (HST.out _).mono ?_;rintro e w5 ⟨rfl,hb5⟩;have hL:=hL.call hb5))
      have hZ:=hL.add (aO sx) 26;go_meet;exact ⟨_,rfl,rfl,hZ⟩
     case rest=>
      obtain ⟨B8,rfl,rfl,hL⟩:=hcut
      go_upto_region 7 with (fail)
      have ZK:∀ W:World,Bx w W [(B8,aO sx,26),(B7,bT g,28),(w.heap.size,bT g,23),(w.heap.size+1,aO s,26)]→W.rangeAt (B8) 0 ([.int .i64 sx.turn,.int .i64 sx.s0,.int .i64 sx.s1,.int .i64 sx.brk,.string sx.phase,.int .i64 sx.bI,.int .i64 sx.colour,.bool sx.free,.bool sx.aT,.int .i64 sx.aP,.int .i64 sx.t0,.int .i64 sx.t1,.int .i64 sx.aB]):=fun W h=>h.rng 0 rfl 0 _ rfl;have abA:∀ W:World,Bx w W [(B8,aO sx,26),(B7,bT g,28),(w.heap.size,bT g,23),(w.heap.size+1,aO s,26)]→W.rangeAt (B7) 0 ([.string g.kind,.int .i64 g.bI,.int .i64 g.target,.int .i64 g.turns]):=fun W h=>h.rng 1 rfl 0 _ rfl;have hL:=hL.drew;refine wp_region_held_drew (S:=(fun w':World=>Bx w w' [(B8,aO sx,26),(B7,bT g,28),(w.heap.size,bT g,23),(w.heap.size+1,aO s,26)])) (by kernel_rfl) ?dI (fun hHeld=>?_)
      case dI=>exact hL
      refine wpAnyH_take (i:=0) (oi:=_) (v:=_) (ga rfl) (by kernel_rfl) (by kernel_rfl) (by kernel_rfl) (fun _ _ _ h=>h) (yieldsIf_load_mid (by rfl) _ _ (by rfl) _ _ (by rfl) _ _ ZK Tryz.underlying26 rfl (by kernel_rfl)) (by assumption) ?_
      try simp only [Act.put,la,lz,ls]
      refine tk 1 ?_;refine wpAnyH_take (i:=2) (oi:=_) (v:=_) (ga rfl) (by kernel_rfl) (by kernel_rfl) (by kernel_rfl) (fun _ _ _ h=>h) (yieldsIf_load_mid (by rfl) _ _ (by rfl) _ _ (by rfl) _ _ abA Tryz.underlying28 rfl (by kernel_rfl)) (by assumption) ?_
      try simp only [Act.put,la,lz,ls]
      refine wpAnyH_take (i:=4) (oi:=_) (v:=_) (ga rfl) (by kernel_rfl) (by kernel_rfl) (by kernel_rfl) (fun _ _ _ h=>h) (yieldsIf_load_mid (by rfl) _ _ (by rfl) _ _ (by rfl) _ _ abA Tryz.underlying28 rfl (by kernel_rfl)) (by assumption) ?_
      try simp only [Act.put,la,lz,ls]
      refine tr 3 fun K hK=>?_;go_simp
      (go_at_call 17;refine (pV g _).mono ?_;rintro e w7a ⟨rfl,aix⟩)
      have hL:=hL.call aix;refine hK.out _ _ ?Ql (fun hHeld=>?_)
      case Ql=>(exact hL)
      clear hK K
      try simp only [Act.put,la,lz,ls]
      refine tr 5 fun K hK=>?_;go_simp
      (go_at_call 24;refine (JF g _).mono ?_;rintro e w7b ⟨rfl,aiE⟩)
      have hL:=hL.call aiE;refine hK.out _ _ ?acy (fun hHeld=>?_)
      case acy=>(exact hL)
      clear hK K
      try simp only [Act.put,la,lz,ls]
      refine tr 6 fun K hK=>?_;go_simp
      (go_at_call 23;refine (Jk sx (Sk.start g) _ _ rfl HSX.out _).mono ?_;rintro e w7c ⟨rfl,adf⟩)
      have hL:=hL.call adf;refine hK.out _ _ ?Qq (fun hHeld=>?_)
      case Qq=>(exact hL)
      clear hK K
      try simp only [Act.put,la,lz,ls]
      refine tk 7 ?_;refine wpAnyH_done (by kernel_rfl) ?_ _;go_wp2;go_ret;exact ⟨rfl,hL.bw⟩
end Go.Proofs.YtjbbfmofpjflmaaGreatDoor
