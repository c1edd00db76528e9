/- Parts of a proof. -/
import Derived.Test.YtjbbfmofpjflmaaGreatDoorKq3
import Derived.Test.YtjbbfmofpjflmaaGreatDoorKq5
import Derived.Test.YtjbbfmofpjflmaaGreatDoorKr22
import Derived.Test.YtjbbfmofpjflmaaGreatDoorKr35
set_option maxHeartbeats 4800000
set_option maxRecDepth 100000
set_option linter.unusedVariables false
set_option linter.unusedSimpArgs false
namespace Go.Proofs.YtjbbfmofpjflmaaGreatDoor
open Go.RowKit
def rlL (w:World) (B7 B8 B9:Nat) (g:Sk.Game) (s:Sk.State) (e:En):List (Nat × List Value × TypeId):=[(B7,bK g,28),(B8,aC s,39),(B9,dn e,85),(w.heap.size,bK g,23),(w.heap.size+1,aC s,26),(w.heap.size+2,dn e,83)]
theorem Bx.aaB {w W:World} {L:List (Nat × List Value × TypeId)} {P:Prop} (cs:List Value) (t:TypeId) (g:Nat) (h:Bx w W L) (hg:W.heap.size=g) (k:Bx w (W.alloc (.cells cs.toArray t)) ((g,cs,t)::L)→P):P:=by
 subst hg;exact k (h.add cs t)
theorem Bx.swap2 {w W:World} {p q r:Nat × List Value × TypeId} {L:List (Nat × List Value × TypeId)} (h:Bx w W (p::q::r::L)):Bx w W (p::r::q::L):=by
 have h1:=List.pairwise_cons.1 h.nd;refine ⟨h.bw,fun x hx=>h.bx x ?_,List.pairwise_cons.2 ⟨fun x hx=>h1.1 x ?_,h.tail.swap.nd⟩⟩
 · simp only [List.mem_cons] at hx ⊢
   rcases hx with h | h | h | h
   · exact .inl h
   · exact .inr (.inr (.inl h))
   · exact .inr (.inl h)
   · exact .inr (.inr (.inr h))
 · simp only [List.mem_cons] at hx ⊢
   rcases hx with h | h | h
   · exact .inr (.inl h)
   · exact .inl h
   · exact .inr (.inr h)
theorem aik {g:Sk.Game} {s:Sk.State} {e:Sk.Entry} (h:¬ pq g s e=0):lgN g s e=0∧Jp g s e=pq g s e∧Vl g s e=⟨0,0,0,false⟩∧nxE g s e=pq g s e∧nxS g s e=Sk.zero:=by
 have h1:P7 g s e=pq g s e:=by unfold P7;rw [xB,if_pos h]
 have h2:Jp g s e=pq g s e:=by unfold Jp;rw [h1,if_pos h]
 have h3:nxE g s e=pq g s e:=by unfold nxE;rw [xB,if_pos h]
 exact ⟨by unfold lgN;rw [if_neg h],h2,by unfold Vl;rw [if_neg (by rw [h2];exact h)],h3,by unfold nxS;rw [if_neg (by rw [h3];exact h)]⟩
theorem aiR {g:Sk.Game} {s:Sk.State} {e:Sk.Entry} (h:pq g s e=0):lgN g s e=Sk.legal g s e∧Jp g s e=fst [jg (!(e.kind.toList == [115,104,111,116])) 13,jg (Sk.legal g s e != 0) 18]∧nxE g s e=(if Sk.legal g s e=0 then 0 else 18)∧nxS g s e=(if Sk.legal g s e=0 then Sk.next g s e else Sk.zero):=by
 have h1:P7 g s e=jg (decide (e.kind≠Sk.cO)) 13:=by unfold P7;rw [xB,if_neg (fun hh=>hh h)]
 have hq:lgN g s e=Sk.legal g s e:=by unfold lgN;rw [if_pos h]
 have h3:nxE g s e=(if Sk.legal g s e=0 then 0 else 18):=by
  unfold nxE
  rw [xB,if_neg (fun hh=>hh h),hq]
  by_cases hl:Sk.legal g s e=0 <;> simp [hl,jg]
 refine ⟨hq,?_,h3,?_⟩
 · unfold Jp
   rw [h1,xB,fB]
   by_cases hk:e.kind=Sk.cO <;> by_cases hl:Sk.legal g s e=0 <;> simp [hk,hl,jg]
 · unfold nxS
   rw [h3]
   by_cases hl:Sk.legal g s e=0 <;> simp [hl]
def rlM (w:World) (B7 B8 B9 pW qx:Nat) (g:Sk.Game) (s:Sk.State) (e:En) (v:Sk.dI) (t:Sk.State):List (Nat × List Value × TypeId):=[(qx,aC t,26),(pW,dV v,78),(B7,bK g,28),(B8,aC s,39),(B9,dn e,85),(w.heap.size,bK g,23),(w.heap.size+1,aC s,26),(w.heap.size+2,dn e,83)]
theorem aeD (S:Nat→Prop) (g:Sk.Game) (s:Sk.State) (e:En) (w:World) (hG:Glob w) (he:iL w S e):
 Calls Tryz.prog 8 #[lX g,jE s,rU e] w fun e' w'=>e'= .returned (.bool true)∧Below w.heap.size w w':=by
 have HG:=hide hG;clear hG
 go_enter Tryz.func8,Tryz.ntmps8
 go_upto_region 0 with (fail)
 go_cut [3,4,5,6] (fun v3 v4 v5 v6 wx=>v3=ptr (w.heap.size)∧v4=ptr (w.heap.size+1)∧v5=ptr (w.heap.size+2)∧v6= .bool false∧Bx w wx [(w.heap.size,bK g,23),(w.heap.size+1,aC s,26),(w.heap.size+2,dn e,83)])
 case first=>
  go_wp2;go_meet;exact ⟨rfl,rfl,rfl,rfl,Bx.of ((((aG.nil w).new (by simp) (bK g) 23).new (by simp) (aC s) 26).new (by simp) (dn e) 83) _ rfl⟩
 case rest=>
  obtain ⟨rfl,rfl,rfl,rfl,hL⟩:=hcut
  go_upto_region 1 with (fail)
  go_cut [7,8,9] from 19 to 22 (fun v7 v8 v9 wx=>∃ B7 B8 B9:Nat,v7=ptr B7∧v8=ptr B8∧v9=ptr B9∧Bx w wx (rlL w B7 B8 B9 g s e))
  case first=>
   as_aux_lemma=>
    have hL:=hL.drew;have h1a:∀ W:World,Bx w W [(w.heap.size,bK g,23),(w.heap.size+1,aC s,26),(w.heap.size+2,dn e,83)]→W.rangeAt (w.heap.size) 0 ([.string g.kind,.int .i64 g.aY,.int .i64 g.target,.int .i64 g.turns]):=fun W h=>h.rng 0 rfl 0 _ rfl;have h1b:∀ W:World,Bx w W [(w.heap.size,bK g,23),(w.heap.size+1,aC s,26),(w.heap.size+2,dn e,83)]→W.rangeAt (w.heap.size+1) 0 ([.int .i64 s.turn,.int .i64 s.s0,.int .i64 s.s1,.int .i64 s.brk,.string s.phase,.int .i64 s.aY,.int .i64 s.colour,.bool s.free,.bool s.aN,.int .i64 s.aO,.int .i64 s.t0,.int .i64 s.t1,.int .i64 s.ay]):=fun W h=>h.rng 1 rfl 0 _ rfl;have h1c:∀ W:World,Bx w W [(w.heap.size,bK g,23),(w.heap.size+1,aC s,26),(w.heap.size+2,dn e,83)]→W.rangeAt (w.heap.size+2) 0 ([.string e.x.kind,.string e.x.called,.slice e.A e.x.hits.length e.a,.slice e.B e.x.aF.length e.b,.int .i64 e.x.aX]):=fun W h=>h.rng 2 rfl 0 _ rfl;refine wp_region_held_drew (S:=(fun w':World=>Bx w w' [(w.heap.size,bK g,23),(w.heap.size+1,aC s,26),(w.heap.size+2,dn e,83)])) (by kernel_rfl) ?gW (fun hHeld=>?_)
    case gW=>exact hL
    refine ae2 (fun f hf=>?_)
    have J:∀ (p7 p8 p9:Nat) (wx:World),Bx w wx [(p7,bK ⟨⟨#[]⟩,0,0,0⟩,28),(p8,aC Sk.zero,39),(p9,[.string ⟨#[]⟩,.string ⟨#[]⟩,.slice none 0 0,.slice none 0 0,.int .i64 0],85),(w.heap.size,bK g,23),(w.heap.size+1,aC s,26),(w.heap.size+2,dn e,83)]→f 3 #[true,true,true,true,true,true,false,false,false] {tmps:= #[lX g,jE s,rU e,ptr w.heap.size,ptr (w.heap.size+1),ptr (w.heap.size+2),.bool false,ptr p7,ptr p8,ptr p9,undef,undef,undef,undef,undef,undef,undef,undef,undef,.agg ([.string g.kind,.int .i64 g.aY,.int .i64 g.target,.int .i64 g.turns]:List Value).toArray,.agg ([.int .i64 s.turn,.int .i64 s.s0,.int .i64 s.s1,.int .i64 s.brk,.string s.phase,.int .i64 s.aY,.int .i64 s.colour,.bool s.free,.bool s.aN,.int .i64 s.aO,.int .i64 s.t0,.int .i64 s.t1,.int .i64 s.ay]:List Value).toArray,.agg ([.string e.x.kind,.string e.x.called,.slice e.A e.x.hits.length e.a,.slice e.B e.x.aF.length e.b,.int .i64 e.x.aX]:List Value).toArray,u22,u23,u24,u25,u26,u27,u28,u29,u30,u31,u32,u33,u34,u35,u36,u37,u38,u39,u40,u41,u42,u43,u44,u45,u46,u47,u48,u49,u50,u51,u52,u53,u54,u55,u56,u57,u58,u59,u60,u61,u62,u63,u64,u65,u66,u67,u68,u69,u70,u71,u72,u73,u74,u75,u76,u77,u78,u79,u80,u81,u82,u83,u84,u85,u86,u87,u88,u89,u90,u91,u92,u93,u94,u95,u96,u97,u98,u99,u100,u101,u102,u103,u104,u105,u106,u107,u108,u109,u110,u111,u112,u113,u114,u115,u116,u117,u118,u119,u120,u121,u122,u123,u124,u125,u126,u127,u128,u129,u130,u131,u132,u133,u134,u135,u136,u137,u138,u139,u140,u141,u142,u143,u144,u145],defers:=[] } wx:=by
     intro p7 p8 p9 wx hL;subst hf;have hL2:=hL.put (bK g) rfl;refine wpAnyH_ready (rs:=[6]) (by kernel_rfl) (by simp) ?_;refine aa0 (o:=_) (ga rfl) (by kernel_rfl) (hL.get 0 rfl) (bK g) rfl dP (Ew _) (.tmp 7) (.tmp 19) rfl rfl rfl hL2.tail.tail.tail ?_;replace hL:=hL2;clear hL2
     try simp only [Act.put,la,lz,ls]
     have hL2:=hL.swap.put (aC s) rfl;refine wpAnyH_ready (rs:=[7]) (by kernel_rfl) (by simp) ?_;refine aa0 (o:=_) (ga rfl) (by kernel_rfl) (hL.get 1 rfl) (aC s) rfl aJ (aT _) (.tmp 8) (.tmp 20) rfl rfl rfl hL2.tail.tail.tail ?_;replace hL:=hL2.swap;clear hL2
     try simp only [Act.put,la,lz,ls]
     have hL2:=(hL.swap2.swap).put (dn e) rfl;refine wpAnyH_ready (rs:=[8]) (by kernel_rfl) (by simp) ?_;refine aa0 (o:=_) (ga rfl) (by kernel_rfl) (hL.get 2 rfl) (dn e) rfl fE (IG _) (.tmp 9) (.tmp 21) rfl rfl rfl hL2.tail.tail.tail ?_;replace hL:=hL2.swap.swap2;clear hL2
     try simp only [Act.put,la,lz,ls]
     refine wpAnyH_done (by kernel_rfl) ?_ _;go_wp2;go_meet;exact ⟨_,_,_,rfl,rfl,rfl,hL⟩
    rw [hf] at J;subst hf;refine wpAnyH_take (i:=0) (oi:=_) (v:=_) (ga rfl) (by kernel_rfl) (by kernel_rfl) (by kernel_rfl) (fun _ _ _ h=>h) (yieldsIf_load_mid (by rfl) _ _ (by rfl) _ _ (by rfl) _ _ h1a Tryz.underlying23 rfl (by kernel_rfl)) (by assumption) ?_
    try simp only [Act.put,la,lz,ls]
    refine wpAnyH_take (i:=1) (oi:=_) (v:=_) (ga rfl) (by kernel_rfl) (by kernel_rfl) (by kernel_rfl) (fun _ _ _ h=>h) (yieldsIf_load_mid (by rfl) _ _ (by rfl) _ _ (by rfl) _ _ h1b Tryz.underlying26 rfl (by kernel_rfl)) (by assumption) ?_
    try simp only [Act.put,la,lz,ls]
    refine wpAnyH_take (i:=2) (oi:=_) (v:=_) (ga rfl) (by kernel_rfl) (by kernel_rfl) (by kernel_rfl) (fun _ _ _ h=>h) (yieldsIf_load_mid (by rfl) _ _ (by rfl) _ _ (by rfl) _ _ h1c Tryz.underlying83 rfl (by kernel_rfl)) (by assumption) ?_
    try simp only [Act.put,la,lz,ls]
    refine wpAnyH_ready (rs:=[3,4,5]) (by kernel_rfl) (by simp) ?_;refine AllReadyH.cons (o:=_) (ga rfl) (fun K hK=>?_) (AllReadyH.cons (o:=_) (ga rfl) (fun K hK=>?_) (AllReadyH.cons (o:=_) (ga rfl) (fun K hK=>?_) AllReadyH.nil))
    · go_simp
      first | have hL:=(hL:Bx _ (World.drew _) _).add (bK ⟨⟨#[]⟩,0,0,0⟩) 28 | (refine Bx.aaB (bK ⟨⟨#[]⟩,0,0,0⟩) 28 (wc.heap.size+1) hL ?_ fun hL=>?_;· simp) | (refine Bx.aaB (bK ⟨⟨#[]⟩,0,0,0⟩) 28 (wc.heap.size+2) hL ?_ fun hL=>?_;· simp)
      refine hK.out _ _ ?af7 (fun hHeld=>?_)
      case af7=>(first | exact hL | exact hL.tail | exact hL.tail.tail | exact hL.tail.tail.tail)
      clear hK K
      try simp only [Act.put,la,lz,ls]
      refine wpAnyH_ready (rs:=[4,5]) (by kernel_rfl) (by simp) ?_;refine AllReadyH.cons (o:=_) (ga rfl) (fun K hK=>?_) (AllReadyH.cons (o:=_) (ga rfl) (fun K hK=>?_) AllReadyH.nil)
      · go_simp
        first | have hL:=(hL:Bx _ (World.drew _) _).add (aC Sk.zero) 39 | (refine Bx.aaB (aC Sk.zero) 39 (wc.heap.size+1) hL ?_ fun hL=>?_;· simp) | (refine Bx.aaB (aC Sk.zero) 39 (wc.heap.size+2) hL ?_ fun hL=>?_;· simp)
        refine hK.out _ _ ?agP (fun hHeld=>?_)
        case agP=>(first | exact hL | exact hL.tail | exact hL.tail.tail | exact hL.tail.tail.tail)
        clear hK K
        try simp only [Act.put,la,lz,ls]
        refine tr 5 fun K hK=>?_;go_simp
        first | have hL:=(hL:Bx _ (World.drew _) _).add ([.string ⟨#[]⟩,.string ⟨#[]⟩,.slice none 0 0,.slice none 0 0,.int .i64 0]) 85 | (refine Bx.aaB ([.string ⟨#[]⟩,.string ⟨#[]⟩,.slice none 0 0,.slice none 0 0,.int .i64 0]) 85 (wc.heap.size+1) hL ?_ fun hL=>?_;· simp) | (refine Bx.aaB ([.string ⟨#[]⟩,.string ⟨#[]⟩,.slice none 0 0,.slice none 0 0,.int .i64 0]) 85 (wc.heap.size+2) hL ?_ fun hL=>?_;· simp)
        refine hK.out _ _ ?ahu (fun hHeld=>?_)
        case ahu=>(first | exact hL | exact hL.tail | exact hL.tail.tail | exact hL.tail.tail.tail)
        clear hK K
        try simp only [Act.put,la,lz,ls]
        exact J _ _ _ _ (hL.swap.swap2.swap)
      · go_simp
        first | have hL:=(hL:Bx _ (World.drew _) _).add ([.string ⟨#[]⟩,.string ⟨#[]⟩,.slice none 0 0,.slice none 0 0,.int .i64 0]) 85 | (refine Bx.aaB ([.string ⟨#[]⟩,.string ⟨#[]⟩,.slice none 0 0,.slice none 0 0,.int .i64 0]) 85 (wc.heap.size+1) hL ?_ fun hL=>?_;· simp) | (refine Bx.aaB ([.string ⟨#[]⟩,.string ⟨#[]⟩,.slice none 0 0,.slice none 0 0,.int .i64 0]) 85 (wc.heap.size+2) hL ?_ fun hL=>?_;· simp)
        refine hK.out _ _ ?ahC (fun hHeld=>?_)
        case ahC=>(first | exact hL | exact hL.tail | exact hL.tail.tail | exact hL.tail.tail.tail)
        clear hK K
        try simp only [Act.put,la,lz,ls]
        refine tr 4 fun K hK=>?_;go_simp
        first | have hL:=(hL:Bx _ (World.drew _) _).add (aC Sk.zero) 39 | (refine Bx.aaB (aC Sk.zero) 39 (wc.heap.size+1) hL ?_ fun hL=>?_;· simp) | (refine Bx.aaB (aC Sk.zero) 39 (wc.heap.size+2) hL ?_ fun hL=>?_;· simp)
        refine hK.out _ _ ?agX (fun hHeld=>?_)
        case agX=>(first | exact hL | exact hL.tail | exact hL.tail.tail | exact hL.tail.tail.tail)
        clear hK K
        try simp only [Act.put,la,lz,ls]
        exact J _ _ _ _ (hL.swap2.swap)
    · go_simp
      first | have hL:=(hL:Bx _ (World.drew _) _).add (aC Sk.zero) 39 | (refine Bx.aaB (aC Sk.zero) 39 (wc.heap.size+1) hL ?_ fun hL=>?_;· simp) | (refine Bx.aaB (aC Sk.zero) 39 (wc.heap.size+2) hL ?_ fun hL=>?_;· simp)
      refine hK.out _ _ ?ag5 (fun hHeld=>?_)
      case ag5=>(first | exact hL | exact hL.tail | exact hL.tail.tail | exact hL.tail.tail.tail)
      clear hK K
      try simp only [Act.put,la,lz,ls]
      refine wpAnyH_ready (rs:=[3,5]) (by kernel_rfl) (by simp) ?_;refine AllReadyH.cons (o:=_) (ga rfl) (fun K hK=>?_) (AllReadyH.cons (o:=_) (ga rfl) (fun K hK=>?_) AllReadyH.nil)
      · go_simp
        first | have hL:=(hL:Bx _ (World.drew _) _).add (bK ⟨⟨#[]⟩,0,0,0⟩) 28 | (refine Bx.aaB (bK ⟨⟨#[]⟩,0,0,0⟩) 28 (wc.heap.size+1) hL ?_ fun hL=>?_;· simp) | (refine Bx.aaB (bK ⟨⟨#[]⟩,0,0,0⟩) 28 (wc.heap.size+2) hL ?_ fun hL=>?_;· simp)
        refine hK.out _ _ ?agh (fun hHeld=>?_)
        case agh=>(first | exact hL | exact hL.tail | exact hL.tail.tail | exact hL.tail.tail.tail)
        clear hK K
        try simp only [Act.put,la,lz,ls]
        refine tr 5 fun K hK=>?_;go_simp
        first | have hL:=(hL:Bx _ (World.drew _) _).add ([.string ⟨#[]⟩,.string ⟨#[]⟩,.slice none 0 0,.slice none 0 0,.int .i64 0]) 85 | (refine Bx.aaB ([.string ⟨#[]⟩,.string ⟨#[]⟩,.slice none 0 0,.slice none 0 0,.int .i64 0]) 85 (wc.heap.size+1) hL ?_ fun hL=>?_;· simp) | (refine Bx.aaB ([.string ⟨#[]⟩,.string ⟨#[]⟩,.slice none 0 0,.slice none 0 0,.int .i64 0]) 85 (wc.heap.size+2) hL ?_ fun hL=>?_;· simp)
        refine hK.out _ _ ?ahK (fun hHeld=>?_)
        case ahK=>(first | exact hL | exact hL.tail | exact hL.tail.tail | exact hL.tail.tail.tail)
        clear hK K
        try simp only [Act.put,la,lz,ls]
        exact J _ _ _ _ (hL.swap.swap2)
      · go_simp
        first | have hL:=(hL:Bx _ (World.drew _) _).add ([.string ⟨#[]⟩,.string ⟨#[]⟩,.slice none 0 0,.slice none 0 0,.int .i64 0]) 85 | (refine Bx.aaB ([.string ⟨#[]⟩,.string ⟨#[]⟩,.slice none 0 0,.slice none 0 0,.int .i64 0]) 85 (wc.heap.size+1) hL ?_ fun hL=>?_;· simp) | (refine Bx.aaB ([.string ⟨#[]⟩,.string ⟨#[]⟩,.slice none 0 0,.slice none 0 0,.int .i64 0]) 85 (wc.heap.size+2) hL ?_ fun hL=>?_;· simp)
        refine hK.out _ _ ?ahS (fun hHeld=>?_)
        case ahS=>(first | exact hL | exact hL.tail | exact hL.tail.tail | exact hL.tail.tail.tail)
        clear hK K
        try simp only [Act.put,la,lz,ls]
        refine tr 3 fun K hK=>?_;go_simp
        first | have hL:=(hL:Bx _ (World.drew _) _).add (bK ⟨⟨#[]⟩,0,0,0⟩) 28 | (refine Bx.aaB (bK ⟨⟨#[]⟩,0,0,0⟩) 28 (wc.heap.size+1) hL ?_ fun hL=>?_;· simp) | (refine Bx.aaB (bK ⟨⟨#[]⟩,0,0,0⟩) 28 (wc.heap.size+2) hL ?_ fun hL=>?_;· simp)
        refine hK.out _ _ ?agq (fun hHeld=>?_)
        case agq=>(first | exact hL | exact hL.tail | exact hL.tail.tail | exact hL.tail.tail.tail)
        clear hK K
        try simp only [Act.put,la,lz,ls]
        exact J _ _ _ _ (hL.swap2)
    · go_simp
      first | have hL:=(hL:Bx _ (World.drew _) _).add ([.string ⟨#[]⟩,.string ⟨#[]⟩,.slice none 0 0,.slice none 0 0,.int .i64 0]) 85 | (refine Bx.aaB ([.string ⟨#[]⟩,.string ⟨#[]⟩,.slice none 0 0,.slice none 0 0,.int .i64 0]) 85 (wc.heap.size+1) hL ?_ fun hL=>?_;· simp) | (refine Bx.aaB ([.string ⟨#[]⟩,.string ⟨#[]⟩,.slice none 0 0,.slice none 0 0,.int .i64 0]) 85 (wc.heap.size+2) hL ?_ fun hL=>?_;· simp)
      refine hK.out _ _ ?ah0 (fun hHeld=>?_)
      case ah0=>(first | exact hL | exact hL.tail | exact hL.tail.tail | exact hL.tail.tail.tail)
      clear hK K
      try simp only [Act.put,la,lz,ls]
      refine wpAnyH_ready (rs:=[3,4]) (by kernel_rfl) (by simp) ?_;refine AllReadyH.cons (o:=_) (ga rfl) (fun K hK=>?_) (AllReadyH.cons (o:=_) (ga rfl) (fun K hK=>?_) AllReadyH.nil)
      · go_simp
        first | have hL:=(hL:Bx _ (World.drew _) _).add (bK ⟨⟨#[]⟩,0,0,0⟩) 28 | (refine Bx.aaB (bK ⟨⟨#[]⟩,0,0,0⟩) 28 (wc.heap.size+1) hL ?_ fun hL=>?_;· simp) | (refine Bx.aaB (bK ⟨⟨#[]⟩,0,0,0⟩) 28 (wc.heap.size+2) hL ?_ fun hL=>?_;· simp)
        refine hK.out _ _ ?agz (fun hHeld=>?_)
        case agz=>(first | exact hL | exact hL.tail | exact hL.tail.tail | exact hL.tail.tail.tail)
        clear hK K
        try simp only [Act.put,la,lz,ls]
        refine tr 4 fun K hK=>?_;go_simp
        first | have hL:=(hL:Bx _ (World.drew _) _).add (aC Sk.zero) 39 | (refine Bx.aaB (aC Sk.zero) 39 (wc.heap.size+1) hL ?_ fun hL=>?_;· simp) | (refine Bx.aaB (aC Sk.zero) 39 (wc.heap.size+2) hL ?_ fun hL=>?_;· simp)
        refine hK.out _ _ ?ahd (fun hHeld=>?_)
        case ahd=>(first | exact hL | exact hL.tail | exact hL.tail.tail | exact hL.tail.tail.tail)
        clear hK K
        try simp only [Act.put,la,lz,ls]
        exact J _ _ _ _ (hL.swap)
      · go_simp
        first | have hL:=(hL:Bx _ (World.drew _) _).add (aC Sk.zero) 39 | (refine Bx.aaB (aC Sk.zero) 39 (wc.heap.size+1) hL ?_ fun hL=>?_;· simp) | (refine Bx.aaB (aC Sk.zero) 39 (wc.heap.size+2) hL ?_ fun hL=>?_;· simp)
        refine hK.out _ _ ?ahm (fun hHeld=>?_)
        case ahm=>(first | exact hL | exact hL.tail | exact hL.tail.tail | exact hL.tail.tail.tail)
        clear hK K
        try simp only [Act.put,la,lz,ls]
        refine tr 3 fun K hK=>?_;go_simp
        first | have hL:=(hL:Bx _ (World.drew _) _).add (bK ⟨⟨#[]⟩,0,0,0⟩) 28 | (refine Bx.aaB (bK ⟨⟨#[]⟩,0,0,0⟩) 28 (wc.heap.size+1) hL ?_ fun hL=>?_;· simp) | (refine Bx.aaB (bK ⟨⟨#[]⟩,0,0,0⟩) 28 (wc.heap.size+2) hL ?_ fun hL=>?_;· simp)
        refine hK.out _ _ ?agH (fun hHeld=>?_)
        case agH=>(first | exact hL | exact hL.tail | exact hL.tail.tail | exact hL.tail.tail.tail)
        clear hK K
        try simp only [Act.put,la,lz,ls]
        exact J _ _ _ _ (hL)
  case rest=>
   obtain ⟨B7,B8,B9,rfl,rfl,rfl,hL⟩:=hcut
   go_upto_region 2 with (fail)
   go_cut [33] from 22 to 34 (fun v33 wx=>∃ b,v33= .bool b∧Bx w wx (rlL w B7 B8 B9 g s e))
   case first=>
    have hw:=fun W=>aev g s W;obtain ⟨bw,hbw⟩:∃ q,ait g s=q:=⟨_,rfl⟩;rw [hbw] at hw;have HW:=hide hw;clear hw hbw
    cases bw
    all_goals
     go_wp2_with (first | ((with_reducible refine bJ 23 3 ?_);refine ig (hL.rn 3 0 ([.string g.kind,.int .i64 g.aY,.int .i64 g.target,.int .i64 g.turns])) Tryz.underlying23 dQ ?_) | ((with_reducible refine iy 23 3 ?_);refine kP (hL.rn 3 0 ([.string g.kind,.int .i64 g.aY,.int .i64 g.target,.int .i64 g.turns])) Tryz.underlying23 dQ ?_) | ((with_reducible refine bJ 26 4 ?_);refine ig (hL.rn 4 0 ([.int .i64 s.turn,.int .i64 s.s0,.int .i64 s.s1,.int .i64 s.brk,.string s.phase,.int .i64 s.aY,.int .i64 s.colour,.bool s.free,.bool s.aN,.int .i64 s.aO,.int .i64 s.t0,.int .i64 s.t1,.int .i64 s.ay])) Tryz.underlying26 aj ?_) | ((with_reducible refine iy 26 4 ?_);refine kP (hL.rn 4 0 ([.int .i64 s.turn,.int .i64 s.s0,.int .i64 s.s1,.int .i64 s.brk,.string s.phase,.int .i64 s.aY,.int .i64 s.colour,.bool s.free,.bool s.aN,.int .i64 s.aO,.int .i64 s.t0,.int .i64 s.t1,.int .i64 s.ay])) Tryz.underlying26 aj ?_) | ((with_reducible refine bJ 85 9 ?_);refine ig (hL.rn 2 0 ([.string e.x.kind,.string e.x.called,.slice e.A e.x.hits.length e.a,.slice e.B e.x.aF.length e.b,.int .i64 e.x.aX])) Tryz.underlying85 fE ?_) | ((with_reducible refine iy 85 9 ?_);refine kP (hL.rn 2 0 ([.string e.x.kind,.string e.x.called,.slice e.A e.x.hits.length e.a,.slice e.B e.x.aF.length e.b,.int .i64 e.x.aX])) Tryz.underlying85 fE ?_) | (go_at_call 12;refine (aw1 _ (HG.out.below hL.bw)).mono ?_;rintro e' w1 ⟨rfl,hb1⟩;have hL:=hL.call hb1) | (go_at_call 13;refine (HW.out _).mono ?_;rintro e' w2 ⟨rfl,hb2⟩;have hL:=hL.call hb2) | (go_at_call 44;refine (He S e _ (he.below hL.bw)).mono ?_;rintro e' w3 ⟨⟨bs,rfl⟩,hb3⟩;have hL:=hL.call hb3))
     go_meet;exact ⟨_,rfl,hL⟩
   case rest=>
    obtain ⟨b,rfl,hL⟩:=hcut
    cases b
    rotate_left
    · go_wp2_with (first | (go_at_call 12;refine (aw1 _ (HG.out.below hL.bw)).mono ?_;rintro e' w1 ⟨rfl,hb1⟩;have hL:=hL.call hb1))
      go_ret;exact ⟨rfl,hL.bw⟩
    obtain ⟨C,hC⟩:∃ q,pq g s e.x=q:=⟨_,rfl⟩;obtain ⟨n,hn⟩:∃ q,lgN g s e.x=q:=⟨_,rfl⟩;obtain ⟨v,hv⟩:∃ q,Vl g s e.x=q:=⟨_,rfl⟩;obtain ⟨J,hJ⟩:∃ q,Jp g s e.x=q:=⟨_,rfl⟩;obtain ⟨t,ht⟩:∃ q,nxS g s e.x=q:=⟨_,rfl⟩;obtain ⟨N,hN⟩:∃ q,nxE g s e.x=q:=⟨_,rfl⟩;have c1:=fun W h=>abj S g s e W h;have c2:=fun W h=>zF S g s e W h;have c3:=fun W h=>adN S g s e W h;rw [hn,hC] at c1;rw [hv,hJ] at c2;rw [ht,hN] at c3;have HB:=hide (@aik g s e.x);have HI:=hide (@aiR g s e.x);have HC:=hide hC;have HQ:=hide (And.intro hn (And.intro hv (And.intro hJ (And.intro ht hN))));have C1:=hide c1;have C2:=hide c2;have C3:=hide c3;clear hC hn hv hJ ht hN c1 c2 c3
    go_upto_region 5 with (first | ((with_reducible refine bJ 23 3 ?_);refine ig (hL.rn 3 0 ([.string g.kind,.int .i64 g.aY,.int .i64 g.target,.int .i64 g.turns])) Tryz.underlying23 dQ ?_) | ((with_reducible refine bJ 26 4 ?_);refine ig (hL.rn 4 0 ([.int .i64 s.turn,.int .i64 s.s0,.int .i64 s.s1,.int .i64 s.brk,.string s.phase,.int .i64 s.aY,.int .i64 s.colour,.bool s.free,.bool s.aN,.int .i64 s.aO,.int .i64 s.t0,.int .i64 s.t1,.int .i64 s.ay])) Tryz.underlying26 aj ?_) | ((with_reducible refine bJ 83 5 ?_);refine ig (hL.rn 5 0 ([.string e.x.kind,.string e.x.called,.slice e.A e.x.hits.length e.a,.slice e.B e.x.aF.length e.b,.int .i64 e.x.aX])) Tryz.underlying83 bI ?_) | (go_at_call 45;refine (C1.out _ (he.below hL.bw)).mono ?_;rintro e' w4 ⟨rfl,hb4⟩;have hL:=hL.call hb4))
    go_cut [12,13] from 34 to 49 (fun v12 v13 wx=>∃ pW:Nat,v12=ptr pW∧v13= .int .i64 J∧Bx w wx [(pW,dV v,78),(B7,bK g,28),(B8,aC s,39),(B9,dn e,85),(w.heap.size,bK g,23),(w.heap.size+1,aC s,26),(w.heap.size+2,dn e,83)])
    case first=>
     go_wp2_with (first | ((with_reducible refine bJ 23 3 ?_);refine ig (hL.rn 3 0 ([.string g.kind,.int .i64 g.aY,.int .i64 g.target,.int .i64 g.turns])) Tryz.underlying23 dQ ?_) | ((with_reducible refine bJ 26 4 ?_);refine ig (hL.rn 4 0 ([.int .i64 s.turn,.int .i64 s.s0,.int .i64 s.s1,.int .i64 s.brk,.string s.phase,.int .i64 s.aY,.int .i64 s.colour,.bool s.free,.bool s.aN,.int .i64 s.aO,.int .i64 s.t0,.int .i64 s.t1,.int .i64 s.ay])) Tryz.underlying26 aj ?_) | ((with_reducible refine bJ 83 5 ?_);refine ig (hL.rn 5 0 ([.string e.x.kind,.string e.x.called,.slice e.A e.x.hits.length e.a,.slice e.B e.x.aF.length e.b,.int .i64 e.x.aX])) Tryz.underlying83 bI ?_) | (go_at_call 43;refine (C2.out _ (he.below hL.bw)).mono ?_;rintro e' w5 ⟨rfl,hb5⟩;have hL:=hL.call hb5;have hZ:=hL.add (dV ⟨0,0,0,false⟩) 78) | ((with_reducible refine isS 78 12 47 ?_);refine fU (hZ.get 0 rfl) (dV v) dS (fZ _) ?_))
     go_meet;exact ⟨_,rfl,rfl,hZ.put (dV v) rfl⟩
    case rest=>
     obtain ⟨pW,rfl,rfl,hL⟩:=hcut
     go_upto_region 6 with (fail)
     go_cut [14,15] from 49 to 56 (fun v14 v15 wx=>∃ qx:Nat,v14=ptr qx∧v15= .int .i64 N∧Bx w wx (rlM w B7 B8 B9 pW qx g s e v t))
     case first=>
      go_wp2_with (first | ((with_reducible refine bJ 23 3 ?_);refine ig (hL.rn 4 0 ([.string g.kind,.int .i64 g.aY,.int .i64 g.target,.int .i64 g.turns])) Tryz.underlying23 dQ ?_) | ((with_reducible refine bJ 26 4 ?_);refine ig (hL.rn 5 0 ([.int .i64 s.turn,.int .i64 s.s0,.int .i64 s.s1,.int .i64 s.brk,.string s.phase,.int .i64 s.aY,.int .i64 s.colour,.bool s.free,.bool s.aN,.int .i64 s.aO,.int .i64 s.t0,.int .i64 s.t1,.int .i64 s.ay])) Tryz.underlying26 aj ?_) | ((with_reducible refine bJ 83 5 ?_);refine ig (hL.rn 6 0 ([.string e.x.kind,.string e.x.called,.slice e.A e.x.hits.length e.a,.slice e.B e.x.aF.length e.b,.int .i64 e.x.aX])) Tryz.underlying83 bI ?_) | (go_at_call 46;refine (C3.out _ (he.below hL.bw)).mono ?_;rintro e' w6 ⟨rfl,hb6⟩;have hL:=hL.call hb6;have hZ:=hL.add (aC Sk.zero) 26) | ((with_reducible refine isS 26 14 54 ?_);refine fU (hZ.get 0 rfl) (aC t) aj (aT _) ?_))
      go_meet;exact ⟨_,rfl,rfl,hZ.put (aC t) rfl⟩
     case rest=>
      obtain ⟨qx,rfl,rfl,hL⟩:=hcut;obtain ⟨C0,hC0⟩:∃ q,Sk.dh g s=q:=⟨_,rfl⟩;have c4:=fun W=>acX g s W
      have hca:C=if C0=0 then Sk.dH g e.x else C0:=by rw [← HC.out, ← hC0];unfold pq;by_cases h:Sk.dh g s=0 <;> simp [h]
      rw [hC0] at c4;have C4:=hide c4;have TQ:=hide hca;have Oo:=hide hC0;clear c4 hca hC0
      go_upto_region 7 with (fail)
      go_cut [16] from 56 to 59 (fun v16 wx=>v16= .int .i64 C0∧Bx w wx (rlM w B7 B8 B9 pW qx g s e v t))
      case first=>
       go_wp2_with (first | ((with_reducible refine bJ 28 7 ?_);refine ig (hL.rn 2 0 ([.string g.kind,.int .i64 g.aY,.int .i64 g.target,.int .i64 g.turns])) Tryz.underlying28 dP ?_) | ((with_reducible refine bJ 39 8 ?_);refine ig (hL.rn 3 0 ([.int .i64 s.turn,.int .i64 s.s0,.int .i64 s.s1,.int .i64 s.brk,.string s.phase,.int .i64 s.aY,.int .i64 s.colour,.bool s.free,.bool s.aN,.int .i64 s.aO,.int .i64 s.t0,.int .i64 s.t1,.int .i64 s.ay])) Tryz.underlying39 aJ ?_) | (go_at_call 19;refine (C4.out _).mono ?_;rintro e' w7 ⟨rfl,hb7⟩;have hL:=hL.call hb7))
       go_meet;exact ⟨rfl,hL⟩
      case rest=>
       obtain ⟨rfl,hL⟩:=hcut;obtain ⟨bz,hbz⟩:∃ q,(C0 == 0)=q:=⟨_,rfl⟩;have HBZ:=hide hbz
       go_upto_if 60 with (fail)
       go_cut [16] from 61 to 64 (fun v16 wx=>v16= .int .i64 C∧Bx w wx (rlM w B7 B8 B9 pW qx g s e v t))
       case first=>
        cases bz
        · have h0:¬ C0=0:=by have h:=HBZ.out;simpa using h
          have HX:=hide (show C0=C by rw [TQ.out,if_neg h0]);clear h0;go_wp2;go_meet;exact ⟨congrArg _ HX.out,hL⟩
        · have h0:C0=0:=by have h:=HBZ.out;simpa using h
          have hg:=(Sk.kG.1 (Oo.out.trans h0)).game;have c5:=fun W h=>acP S g e W h
          have e5:Sk.aaJ g e.x=C:=by rw [TQ.out,if_pos h0];unfold Sk.aaJ;rw [if_neg (fun hh=>hh hg)]
          rw [e5] at c5;have C5:=hide c5;clear c5 e5 hg h0
          go_wp2_with (first | ((with_reducible refine bJ 28 7 ?_);refine ig (hL.rn 2 0 ([.string g.kind,.int .i64 g.aY,.int .i64 g.target,.int .i64 g.turns])) Tryz.underlying28 dP ?_) | ((with_reducible refine bJ 85 9 ?_);refine ig (hL.rn 4 0 ([.string e.x.kind,.string e.x.called,.slice e.A e.x.hits.length e.a,.slice e.B e.x.aF.length e.b,.int .i64 e.x.aX])) Tryz.underlying85 fE ?_) | (go_at_call 47;refine (C5.out _ (he.below hL.bw)).mono ?_;rintro e' w8 ⟨rfl,hb8⟩;have hL:=hL.call hb8))
          go_meet;exact ⟨rfl,hL⟩
       case rest=>
        obtain ⟨rfl,hL⟩:=hcut;clear hbz;obtain ⟨p,f,q,st⟩:=v;obtain ⟨q1,q2,q3,q4,q5⟩:=HQ.out
        by_cases h0:C=0
        · have hd:(C != 0)=false:=by simp [h0]
          obtain ⟨z1,z2,z3,z4⟩:=HI.out (HC.out.trans h0)
          have hcs:C0=0:=by
           rcases Decidable.em (C0=0) with h | h
           · exact h
           · have:=TQ.out;rw [if_neg h] at this;omega
          have hok:=Sk.kG.1 (Oo.out.trans hcs)
          have hce:Sk.dH g e.x=0:=by have:=TQ.out;rw [if_pos hcs] at this;omega
          rw [q1] at z1;rw [q3] at z2;rw [q5] at z3;rw [q4] at z4;obtain ⟨ru,Yb⟩:∃ q,Sk.legal g s e.x=q:=⟨_,rfl⟩;have c6:=fun W h=>G8 S g s e W hok hce h;have c7:=fun W (h:iL W S e) h0=>JV S g s e W hok hce h0 h;have c8:=fun W (h:iL W S e) h0 hk=>G7 S g s e W hok hce h0 hk h;have hji:=@afP g s e.x hok hce;have q2':=q2;rw [Yb] at c6 c7 c8 z1 z2 z3 z4 hji;have C6:=hide c6;have HZ:=hide (And.intro z2 (And.intro z3 z4));have HK:=hide (And.intro c7 (And.intro c8 hji));have HV:=hide q2;subst h0 z1;clear c6 c7 c8 z2 z3 z4 q1 q2 q2' q3 q4 q5 hcs hok hce Yb hji
          go_upto_region 12 with (fail)
          go_cut [17] from 66 to 91 (fun v17 wx=>v17= .int .i64 n∧Bx w wx (rlM w B7 B8 B9 pW qx g s e ⟨p,f,q,st⟩ t))
          case first=>
           go_wp2_with (first | ((with_reducible refine bJ 28 7 ?_);refine ig (hL.rn 2 0 ([.string g.kind,.int .i64 g.aY,.int .i64 g.target,.int .i64 g.turns])) Tryz.underlying28 dP ?_) | ((with_reducible refine bJ 39 8 ?_);refine ig (hL.rn 3 0 ([.int .i64 s.turn,.int .i64 s.s0,.int .i64 s.s1,.int .i64 s.brk,.string s.phase,.int .i64 s.aY,.int .i64 s.colour,.bool s.free,.bool s.aN,.int .i64 s.aO,.int .i64 s.t0,.int .i64 s.t1,.int .i64 s.ay])) Tryz.underlying39 aJ ?_) | ((with_reducible refine bJ 85 9 ?_);refine ig (hL.rn 4 0 ([.string e.x.kind,.string e.x.called,.slice e.A e.x.hits.length e.a,.slice e.B e.x.aF.length e.b,.int .i64 e.x.aX])) Tryz.underlying85 fE ?_) | (go_at_call 48;refine (C6.out _ (he.below hL.bw)).mono ?_;rintro e' w9 ⟨rfl,zq⟩;have hL:=hL.call zq))
           go_meet;exact ⟨rfl,hL⟩
          case rest=>
           obtain ⟨rfl,hL⟩:=hcut;have HN0:=hide (show n=if (0:Int)=0 then n else 0 from rfl);have ks:=(hL.get 7 rfl).cell (j:=0) rfl
           go_upto_region 15 with (first | (go_at_call 35;refine (MH _ _ _ _ (rfl) (HN0.out) _).mono ?_;rintro e' qK ⟨rfl,rfl⟩))
           go_cut [18] from 91 to 105 (fun v18 wx=>v18= .int .i64 J∧Bx w wx (rlM w B7 B8 B9 pW qx g s e ⟨p,f,q,st⟩ t))
           case first=>
            rcases hk1:(e.x.kind.toList == [115,104,111,116]) with _ | _
            all_goals
             rcases hk2:(n != 0) with _ | _
             all_goals
              have hz:=HZ.out.1;rw [hk1,hk2] at hz;have HF:=hide hz;clear hz
              go_wp2_with (first | (go_at_call 28;refine (JB _ _ _).mono ?_;rintro e' qK ⟨rfl,rfl⟩) | (go_at_call 27;refine (Gx (fun _=>True) _ _ [_,_] _ (nI.row _ _ [_,_] (by simp) _ trivial)).mono ?_;rintro e' w98 ⟨rfl,rfl⟩))
              go_meet;exact ⟨congrArg _ HF.out.symm,hL.alloc _⟩
           case rest=>
            obtain ⟨rfl,hL⟩:=hcut;clear ks
            go_upto_region 16 with (fail)
            go_cut [132] from 105 to 133 (fun amX wx=>amX= .bool false∧Bx w wx (rlM w B7 B8 B9 pW qx g s e ⟨p,f,q,st⟩ t))
            case first=>
             by_cases hJ0:J=0
             · have hd1:(J != 0)=false:=by simp [hJ0]
               have hd2:(J == 0)=true:=by simp [hJ0]
               have hkn:e.x.kind=Sk.cO∧n=0:=by
                have h:=HZ.out.1;rw [hJ0,xB] at h
                by_cases hk:e.x.kind=Sk.cO <;> by_cases hn0:n=0
                · exact ⟨hk,hn0⟩
                · rw [wt hk] at h;simp [hn0,jg] at h
                · rw [wf hk] at h;simp [jg] at h
                · rw [wf hk] at h;simp [jg] at h
               obtain ⟨-,c8,hji⟩:=HK.out;have hv2:=(hji hkn.2 hkn.1).2.symm.trans HV.out;have c9:=fun W h=>c8 W h hkn.2 hkn.1;rw [hv2] at c9;have HRJ:=hide c9;subst hJ0;clear hkn c8 hji c9 hv2
               as_aux_lemma=>
                have aed:∀ W:World,Bx w W (rlM w B7 B8 B9 pW qx g s e ⟨p,f,q,st⟩ t)→W.rangeAt (pW) 0 ([.int .i64 p,.int .i64 f,.int .i64 q,.bool st]):=fun W h=>h.rng 1 rfl 0 _ rfl;have ajw:∀ W:World,Bx w W (rlM w B7 B8 B9 pW qx g s e ⟨p,f,q,st⟩ t)→W.rangeAt (B7) 0 ([.string g.kind,.int .i64 g.aY,.int .i64 g.target,.int .i64 g.turns]):=fun W h=>h.rng 2 rfl 0 _ rfl;have ajE:∀ W:World,Bx w W (rlM w B7 B8 B9 pW qx g s e ⟨p,f,q,st⟩ t)→W.rangeAt (B8) 0 ([.int .i64 s.turn,.int .i64 s.s0,.int .i64 s.s1,.int .i64 s.brk,.string s.phase,.int .i64 s.aY,.int .i64 s.colour,.bool s.free,.bool s.aN,.int .i64 s.aO,.int .i64 s.t0,.int .i64 s.t1,.int .i64 s.ay]):=fun W h=>h.rng 3 rfl 0 _ rfl;have ajN:∀ W:World,Bx w W (rlM w B7 B8 B9 pW qx g s e ⟨p,f,q,st⟩ t)→W.rangeAt (B9) 0 ([.string e.x.kind,.string e.x.called,.slice e.A e.x.hits.length e.a,.slice e.B e.x.aF.length e.b,.int .i64 e.x.aX]):=fun W h=>h.rng 4 rfl 0 _ rfl;have hL:=hL.drew;refine wp_region_held_drew (S:=(fun w':World=>Bx w w' (rlM w B7 B8 B9 pW qx g s e ⟨p,f,q,st⟩ t))) (by kernel_rfl) ?bg (fun hHeld=>?_)
                case bg=>exact hL
                refine tk 0 ?_;refine tk 1 ?_;refine tk 2 ?_;refine tu 3 ?_;refine tu 4 ?_;refine tu 5 ?_;refine tu 6 ?_;refine tu 7 ?_;refine tu 8 ?_;refine tu 9 ?_;refine tu 10 ?_;refine tk 11 ?_;refine tk 12 ?_;refine tk 13 ?_;refine tk 14 ?_;refine tk 15 ?_;refine tk 16 ?_;refine tk 17 ?_;refine tk 18 ?_;refine wpAnyH_take (i:=19) (oi:=_) (v:=_) (ga rfl) (by kernel_rfl) (by kernel_rfl) (by kernel_rfl) (fun _ _ _ h=>h) (yieldsIf_load_mid (by rfl) _ _ (by rfl) _ _ (by rfl) _ _ aed Tryz.underlying78 rfl (by kernel_rfl)) (by assumption) ?_
                try simp only [Act.put,la,lz,ls]
                refine wpAnyH_take (i:=20) (oi:=_) (v:=_) (ga rfl) (by kernel_rfl) (by kernel_rfl) (by kernel_rfl) (fun _ _ _ h=>h) (yieldsIf_load_mid (by rfl) _ _ (by rfl) _ _ (by rfl) _ _ ajw Tryz.underlying28 rfl (by kernel_rfl)) (by assumption) ?_
                try simp only [Act.put,la,lz,ls]
                refine wpAnyH_take (i:=21) (oi:=_) (v:=_) (ga rfl) (by kernel_rfl) (by kernel_rfl) (by kernel_rfl) (fun _ _ _ h=>h) (yieldsIf_load_mid (by rfl) _ _ (by rfl) _ _ (by rfl) _ _ ajE Tryz.underlying39 rfl (by kernel_rfl)) (by assumption) ?_
                try simp only [Act.put,la,lz,ls]
                refine wpAnyH_take (i:=22) (oi:=_) (v:=_) (ga rfl) (by kernel_rfl) (by kernel_rfl) (by kernel_rfl) (fun _ _ _ h=>h) (yieldsIf_load_mid (by rfl) _ _ (by rfl) _ _ (by rfl) _ _ ajN Tryz.underlying85 rfl (by kernel_rfl)) (by assumption) ?_
                try simp only [Act.put,la,lz,ls]
                refine tr 23 fun K hK=>?_;go_simp
                (go_at_call 49;refine (HRJ.out _ (he.below hL.bw)).mono ?_;rintro e am6 ⟨rfl,ak1⟩)
                have hL:=hL.call ak1;refine hK.out _ _ ?akL (fun hHeld=>?_)
                case akL=>(exact hL)
                clear hK K
                try simp only [Act.put,la,lz,ls]
                refine tk 24 ?_;refine tk 25 ?_;refine tk 26 ?_;refine tk 27 ?_;refine wpAnyH_done (by kernel_rfl) ?_ _;go_wp2;go_meet;exact ⟨rfl,hL⟩
             · have hd1:(J != 0)=true:=by simp [hJ0]
               have hd2:(J == 0)=false:=by simp [hJ0]
               have hjz:(⟨p,f,q,st⟩:Sk.dI)=⟨0,0,0,false⟩:=by
                have h:=HQ.out;rw [← h.2.1]
                unfold Vl
                rw [if_neg (by rw [h.2.2.1];exact hJ0)]
               cases hjz
               clear hJ0
               as_aux_lemma=>
                have aed:∀ W:World,Bx w W (rlM w B7 B8 B9 pW qx g s e ⟨0,0,0,false⟩ t)→W.rangeAt (pW) 0 ([.int .i64 0,.int .i64 0,.int .i64 0,.bool false]):=fun W h=>h.rng 1 rfl 0 _ rfl;have hL:=hL.drew;refine wp_region_held_drew (S:=(fun w':World=>Bx w w' (rlM w B7 B8 B9 pW qx g s e ⟨0,0,0,false⟩ t))) (by kernel_rfl) ?bV (fun hHeld=>?_)
                case bV=>exact hL
                refine tk 0 ?_;refine tk 1 ?_;refine tk 2 ?_;refine wpAnyH_take (i:=3) (oi:=_) (v:=_) (ga rfl) (by kernel_rfl) (by kernel_rfl) (by kernel_rfl) (fun _ _ _ h=>h) (yieldsIf_load_mid (by rfl) _ _ (by rfl) _ _ (by rfl) _ _ aed Tryz.underlying78 rfl (by kernel_rfl)) (by assumption) ?_
                try simp only [Act.put,la,lz,ls]
                refine tk 4 ?_;refine tk 5 ?_;refine tk 6 ?_;refine tk 7 ?_;refine tk 8 ?_;refine tk 9 ?_;refine tk 10 ?_;refine tk 11 ?_;refine tk 12 ?_;refine tk 13 ?_;refine tk 14 ?_;refine tk 15 ?_;refine tu 16 ?_;refine tu 17 ?_;refine tu 18 ?_;refine tu 19 ?_;refine tu 20 ?_;refine tu 21 ?_;refine tu 22 ?_;refine tu 23 ?_;refine tu 24 ?_;refine tu 25 ?_;refine tk 26 ?_;refine tk 27 ?_;refine wpAnyH_done (by kernel_rfl) ?_ _;go_wp2;go_meet;exact ⟨rfl,hL⟩
            case rest=>
             obtain ⟨rfl,hL⟩:=hcut
             by_cases hn0:n=0
             · have hdn:(n != 0)=false:=by simp [hn0]
               obtain ⟨c7, -, -⟩:=HK.out;have c10:=fun W h=>c7 W h hn0
               have hNz:N=0:=by rw [HZ.out.2.1,if_pos hn0]
               have htz:t=Sk.next g s e.x:=by rw [HZ.out.2.2,if_pos hn0]
               rw [← htz] at c10;have HRN:=hide c10;have HSM:=hide (show N=0∧t=if (0:Int)=0 then t else Sk.zero from ⟨hNz,rfl⟩);clear c7 c10 hNz htz hn0
               go_upto_region 20 with (fail)
               have ajV:∀ W:World,Bx w W (rlM w B7 B8 B9 pW qx g s e ⟨p,f,q,st⟩ t)→W.rangeAt (qx) 0 ([.int .i64 t.turn,.int .i64 t.s0,.int .i64 t.s1,.int .i64 t.brk,.string t.phase,.int .i64 t.aY,.int .i64 t.colour,.bool t.free,.bool t.aN,.int .i64 t.aO,.int .i64 t.t0,.int .i64 t.t1,.int .i64 t.ay]):=fun W h=>h.rng 0 rfl 0 _ rfl;have aj3:∀ W:World,Bx w W (rlM w B7 B8 B9 pW qx g s e ⟨p,f,q,st⟩ t)→W.rangeAt (B7) 0 ([.string g.kind,.int .i64 g.aY,.int .i64 g.target,.int .i64 g.turns]):=fun W h=>h.rng 2 rfl 0 _ rfl;have ake:∀ W:World,Bx w W (rlM w B7 B8 B9 pW qx g s e ⟨p,f,q,st⟩ t)→W.rangeAt (B8) 0 ([.int .i64 s.turn,.int .i64 s.s0,.int .i64 s.s1,.int .i64 s.brk,.string s.phase,.int .i64 s.aY,.int .i64 s.colour,.bool s.free,.bool s.aN,.int .i64 s.aO,.int .i64 s.t0,.int .i64 s.t1,.int .i64 s.ay]):=fun W h=>h.rng 3 rfl 0 _ rfl;have akm:∀ W:World,Bx w W (rlM w B7 B8 B9 pW qx g s e ⟨p,f,q,st⟩ t)→W.rangeAt (B9) 0 ([.string e.x.kind,.string e.x.called,.slice e.A e.x.hits.length e.a,.slice e.B e.x.aF.length e.b,.int .i64 e.x.aX]):=fun W h=>h.rng 4 rfl 0 _ rfl;have hL:=hL.drew;refine wp_region_held_drew (S:=(fun w':World=>Bx w w' (rlM w B7 B8 B9 pW qx g s e ⟨p,f,q,st⟩ t))) (by kernel_rfl) ?dJ (fun hHeld=>?_)
               case dJ=>exact hL
               refine wpAnyH_take (i:=0) (oi:=_) (v:=_) (ga rfl) (by kernel_rfl) (by kernel_rfl) (by kernel_rfl) (fun _ _ _ h=>h) (yieldsIf_load_mid (by rfl) _ _ (by rfl) _ _ (by rfl) _ _ ajV Tryz.underlying26 rfl (by kernel_rfl)) (by assumption) ?_
               try simp only [Act.put,la,lz,ls]
               refine tk 1 ?_;refine wpAnyH_take (i:=2) (oi:=_) (v:=_) (ga rfl) (by kernel_rfl) (by kernel_rfl) (by kernel_rfl) (fun _ _ _ h=>h) (yieldsIf_load_mid (by rfl) _ _ (by rfl) _ _ (by rfl) _ _ aj3 Tryz.underlying28 rfl (by kernel_rfl)) (by assumption) ?_
               try simp only [Act.put,la,lz,ls]
               refine wpAnyH_take (i:=3) (oi:=_) (v:=_) (ga rfl) (by kernel_rfl) (by kernel_rfl) (by kernel_rfl) (fun _ _ _ h=>h) (yieldsIf_load_mid (by rfl) _ _ (by rfl) _ _ (by rfl) _ _ ake Tryz.underlying39 rfl (by kernel_rfl)) (by assumption) ?_
               try simp only [Act.put,la,lz,ls]
               refine wpAnyH_take (i:=4) (oi:=_) (v:=_) (ga rfl) (by kernel_rfl) (by kernel_rfl) (by kernel_rfl) (fun _ _ _ h=>h) (yieldsIf_load_mid (by rfl) _ _ (by rfl) _ _ (by rfl) _ _ akm Tryz.underlying85 rfl (by kernel_rfl)) (by assumption) ?_
               try simp only [Act.put,la,lz,ls]
               refine tr 5 fun K hK=>?_;go_simp
               (go_at_call 50;refine (HRN.out _ (he.below hL.bw)).mono ?_;rintro e anf ⟨rfl,ak9⟩)
               have hL:=hL.call ak9;refine hK.out _ _ ?ahl (fun hHeld=>?_)
               case ahl=>(exact hL)
               clear hK K
               try simp only [Act.put,la,lz,ls]
               refine tr 6 fun K hK=>?_;go_simp
               (go_at_call 23;refine (JA _ _ _ _ HSM.out.1 HSM.out.2 _).mono ?_;rintro e ano ⟨rfl,alh⟩)
               have hL:=hL.call alh;refine hK.out _ _ ?ahs (fun hHeld=>?_)
               case ahs=>(exact hL)
               clear hK K
               try simp only [Act.put,la,lz,ls]
               refine tk 7 ?_;refine wpAnyH_done (by kernel_rfl) ?_ _;go_wp2;go_ret;exact ⟨rfl,hL.bw⟩
             · have hdn:(n != 0)=true:=by simp [hn0]
               have HSM:=hide (show N=18∧t=if (18:Int)=0 then s else Sk.zero from ⟨by rw [HZ.out.2.1,if_neg hn0],by rw [HZ.out.2.2,if_neg hn0];rfl⟩);clear hn0
               go_wp2_with (first | ((with_reducible refine bJ 26 14 ?_);refine ig (hL.rn 0 0 ([.int .i64 t.turn,.int .i64 t.s0,.int .i64 t.s1,.int .i64 t.brk,.string t.phase,.int .i64 t.aY,.int .i64 t.colour,.bool t.free,.bool t.aN,.int .i64 t.aO,.int .i64 t.t0,.int .i64 t.t1,.int .i64 t.ay])) Tryz.underlying26 aj ?_) | ((with_reducible refine bJ 39 8 ?_);refine ig (hL.rn 3 0 ([.int .i64 s.turn,.int .i64 s.s0,.int .i64 s.s1,.int .i64 s.brk,.string s.phase,.int .i64 s.aY,.int .i64 s.colour,.bool s.free,.bool s.aN,.int .i64 s.aO,.int .i64 s.t0,.int .i64 s.t1,.int .i64 s.ay])) Tryz.underlying39 aJ ?_) | (go_at_call 23;refine (JA _ _ _ _ HSM.out.1 HSM.out.2 _).mono ?_;rintro e' w11 ⟨rfl,Pv⟩;have hL:=hL.call Pv))
               go_ret;exact ⟨rfl,hL.bw⟩
        · have hd:(C != 0)=true:=by simp [h0]
          obtain ⟨z1,z2,z3,z4,z5⟩:=HB.out (by rw [HC.out];exact h0);rw [q1] at z1;rw [q3,HC.out] at z2;rw [q2] at z3;rw [q5,HC.out] at z4;rw [q4] at z5
          cases z3
          clear q1 q2 q3 q4 q5;have HSM:=hide (show t=if C=0 then s else Sk.zero by rw [if_neg h0,z5]);have HNM:=hide (show (0:Int)=if C=0 then 0 else 0 by split <;> rfl);subst z1 z2 z4;clear h0 z5
          go_wp2_with (first | ((with_reducible refine bJ 78 12 ?_);refine ig (hL.rn 1 0 ([.int .i64 0,.int .i64 0,.int .i64 0,.bool false])) Tryz.underlying78 dS ?_) | ((with_reducible refine iy 78 12 ?_);refine kP (hL.rn 1 0 ([.int .i64 0,.int .i64 0,.int .i64 0,.bool false])) Tryz.underlying78 dS ?_) | ((with_reducible refine bJ 26 14 ?_);refine ig (hL.rn 0 0 ([.int .i64 t.turn,.int .i64 t.s0,.int .i64 t.s1,.int .i64 t.brk,.string t.phase,.int .i64 t.aY,.int .i64 t.colour,.bool t.free,.bool t.aN,.int .i64 t.aO,.int .i64 t.t0,.int .i64 t.t1,.int .i64 t.ay])) Tryz.underlying26 aj ?_) | ((with_reducible refine iy 26 14 ?_);refine kP (hL.rn 0 0 ([.int .i64 t.turn,.int .i64 t.s0,.int .i64 t.s1,.int .i64 t.brk,.string t.phase,.int .i64 t.aY,.int .i64 t.colour,.bool t.free,.bool t.aN,.int .i64 t.aO,.int .i64 t.t0,.int .i64 t.t1,.int .i64 t.ay])) Tryz.underlying26 aj ?_) | ((with_reducible refine bJ 39 8 ?_);refine ig (hL.rn 3 0 ([.int .i64 s.turn,.int .i64 s.s0,.int .i64 s.s1,.int .i64 s.brk,.string s.phase,.int .i64 s.aY,.int .i64 s.colour,.bool s.free,.bool s.aN,.int .i64 s.aO,.int .i64 s.t0,.int .i64 s.t1,.int .i64 s.ay])) Tryz.underlying39 aJ ?_) | ((with_reducible refine iy 39 8 ?_);refine kP (hL.rn 3 0 ([.int .i64 s.turn,.int .i64 s.s0,.int .i64 s.s1,.int .i64 s.brk,.string s.phase,.int .i64 s.aY,.int .i64 s.colour,.bool s.free,.bool s.aN,.int .i64 s.aO,.int .i64 s.t0,.int .i64 s.t1,.int .i64 s.ay])) Tryz.underlying39 aJ ?_) | (go_at_call 35;refine (MH _ _ _ _ (rfl) (HNM.out) _).mono ?_;rintro e' qK ⟨rfl,rfl⟩) | (go_at_call 23;refine (JA _ _ _ _ rfl HSM.out _).mono ?_;rintro e' w12 ⟨rfl,kN⟩;have hL:=hL.call kN))
          go_ret;exact ⟨rfl,hL.bw⟩
end Go.Proofs.YtjbbfmofpjflmaaGreatDoor
