/- Parts of a proof. -/
import Derived.Test.YtjbbfmofpjflmaaGreatDoorKb34
set_option maxHeartbeats 16000000
set_option maxRecDepth 100000
set_option linter.unusedVariables false
set_option linter.unusedSimpArgs false
namespace Go.Proofs.YtjbbfmofpjflmaaGreatDoor
open Go.RowKit
theorem Bx.JV {w W:World} {L:List (Nat × List Value × TypeId)} (h:Bx w W L) (cs:List Value) (t:TypeId) {g:Nat} (hg:W.heap.size=g):Bx w (W.alloc (.cells cs.toArray t)) ((g,cs,t)::L):=by subst hg;exact h.add cs t
theorem Reads.Ro {W:World} {S:Nat→Prop} {size n c g:Nat} {A:Option Addr} {xs:List Value} {cs vs:List Value} {t:TypeId} (h:Reads W S size A n c xs) (hg:W.heap.size=g):Reads ((W.alloc (.cells cs.toArray t)).setCells g 0 vs) S size A n c xs:=by
 subst hg;exact h.keep (by rw [setCells_size];simp) fun b o _ hb=>(World.cell?_of_block (Held.nH (Nat.ne_of_lt hb) vs 0 _)).trans (World.cell?_alloc_lt W _ ⟨b,o,none⟩ hb)
theorem Yc (W:World) (t1 t2:TypeId) (v1 v2:List Value) (h:v2.length=4):Reads ((W.alloc (.cells v1.toArray t1)).alloc (.cells v2.toArray t2)) (fun _=>True) 2 (some ⟨W.heap.size+1,0,none⟩) 2 2 v2:=by
 have h1:=Reads.lit (W.alloc (.cells v1.toArray t1)) t2 (fun _=>True) 2 2 v2 (by omega) (by omega) trivial
 rwa [show (W.alloc (.cells v1.toArray t1)).heap.size=W.heap.size+1 by simp] at h1
theorem Yb (W:World) (t1 t2:TypeId) (v1 v2:List Value) (h:v2.length=2):Reads ((W.alloc (.cells v1.toArray t1)).alloc (.cells v2.toArray t2)) (fun _=>True) 1 (some ⟨W.heap.size+1,0,none⟩) 2 2 v2:=by
 have h1:=Reads.lit (W.alloc (.cells v1.toArray t1)) t2 (fun _=>True) 1 2 v2 (by omega) (by omega) trivial
 rwa [show (W.alloc (.cells v1.toArray t1)).heap.size=W.heap.size+1 by simp] at h1
theorem Reads.lts {W:World} {S:Nat→Prop} {size n c:Nat} {A:Option Addr} {xs:List Value} (h:Reads W S size A n c xs):Reads W (fun b=>b<W.heap.size) size A n c xs:=
 h.more fun b hb _=>hb
theorem Reads.VR {w W:World} {S:Nat→Prop} {size n c:Nat} {A:Option Addr} {xs:List Value} {L:List (Nat × List Value × TypeId)} {cs vs:List Value} {t:TypeId} (h:Reads W S size A n c xs) (_:Bx w W L):Reads ((W.alloc (.cells cs.toArray t)).setCells W.heap.size 0 vs) S size A n c xs:=
 h.keep (by rw [setCells_size];simp) fun b o _ hb=>(World.cell?_of_block (Held.nH (Nat.ne_of_lt hb) vs 0 _)).trans (World.cell?_alloc_lt W _ ⟨b,o,none⟩ hb)
def vU (g:Nat):En:=⟨⟨Sk.dJ,Sk.dH,[Sk.jZ],[],0⟩,some ⟨g,0,none⟩,1,none,0⟩
theorem World.qx {W W':World} {b o:Nat} {cs:List Value} (h:W.rangeAt b o cs) (hb:Below W.heap.size W W') (hl:b<W.heap.size):W'.rangeAt b o cs:=fun j v hj=>(hb.cell (p:=⟨b,o+j,none⟩) hl).trans (h j v hj)
theorem qh.lt {W:World} {S:Nat→Prop} {b o c:Nat} {l:List En} (h:qh W S (some ⟨b,o,none⟩) c l) (hl:0<l.length):b<W.heap.size:=by
 obtain ⟨b',o',e,_,hlt,_⟩:=Reads.at_ h.1 hl
 injection e with e
 injection e with e1 e2
 subst e1;exact hlt
theorem A8 {W:World} {S:Nat→Prop} {b o c:Nat} {l:List En} (h:qh W S (some ⟨b,o,none⟩) c l) (k:Nat) (hk:k<l.length):W.rangeAt b (o+k*5) (dU l[k]):=fun j v hj=>by
 obtain ⟨b',o',e,_,_,hc⟩:=Reads.at_ h.1 (by omega)
 injection e with e
 injection e with e1 e2
 subst e1;subst e2;have hl:j<5:=(List.getElem?_eq_some_iff.1 hj).1
 have:=hc (k*5+j) v (by rw [rM l k hk j hl];exact hj)
 rwa [← Nat.add_assoc] at this
theorem aw1 (w:World) (hg:Glob w):Calls Tryz.prog 12 #[] w fun e w'=>e= .returned (.bool true)∧Below w.heap.size w w':=by
 go_enter Tryz.func12,Tryz.ntmps12
 have hL:=Bx.nil w
 go_upto_region 1 with (fail)
 go_cut [1,2] from 39 to 44 (fun v1 v2 wx=>∃ (B1:Nat),v1=ptr B1∧v2= .int .i64 0∧Bx w wx [(B1,aO kN,26)])
 case first=>
  go_wp2_with (first | (go_at_call 59;refine (iZ _).mono ?_;rintro e w1 ⟨rfl,hb1⟩;have hL:=hL.call hb1) | (go_at_call 22;refine (Tc _).mono ?_;rintro e w2 ⟨rfl,hb2⟩;have hL:=hL.call hb2) | ((with_reducible (refine aH 26 (.tmp 1) (.tmp 42) ?lx ?_));(case lx=>rfl);refine aC ((hL.add [.int .i64 0,.int .i64 0,.int .i64 0,.int .i64 0,.string ⟨#[]⟩,.int .i64 0,.int .i64 0,.bool false,.bool false,.int .i64 0,.int .i64 0,.int .i64 0,.int .i64 0] 26).head) (aO kN) rfl ak (bH _) rfl (.tmp 1) (.tmp 42) rfl rfl rfl ?_))
  go_meet;exact ⟨_,rfl,rfl,(hL.add [.int .i64 0,.int .i64 0,.int .i64 0,.int .i64 0,.string ⟨#[]⟩,.int .i64 0,.int .i64 0,.bool false,.bool false,.int .i64 0,.int .i64 0,.int .i64 0,.int .i64 0] 26).put (aO kN) rfl⟩
 case rest=>
  obtain ⟨B1,rfl,rfl,hL⟩:=hcut
  go_upto_region 2 with (fail)
  go_cut [3,4] from 44 to 50 (fun v3 v4 wx=>v3= .int .i64 35∧v4= .int .i64 0∧Bx w wx [(B1,aO kN,26)])
  case first=>
   have ZC:∀ W:World,Bx w W [(B1,aO kN,26)]→W.rangeAt (B1) 0 (aO kN):=fun W h=>h.rng 0 rfl 0 _ rfl;have hL:=hL.drew;refine wp_region_held_drew (S:=(fun w':World=>Bx w w' [(B1,aO kN,26)])) (by kernel_rfl) ?bW (fun hHeld=>?_)
   case bW=>exact hL
   refine bJ 1 ZC Tryz.underlying26 ?_;refine aG 0 fun K hK=>?_;go_simp
   (go_at_call 59;refine (iZ _).mono ?_;rintro e w2a ⟨rfl,OE⟩)
   have hL:=hL.call OE;refine ay hK (hL) fun hHeld=>?_;clear hK K;refine aG 2 fun K hK=>?_;go_simp
   (go_at_call 37;refine (SS _).mono ?_;rintro e w2b ⟨rfl,OG⟩)
   have hL:=hL.call OG;refine ay hK (hL) fun hHeld=>?_;clear hK K;refine aF 3 ?_;refine aF 4 ?_;refine aF 5 ?_;refine aF 6 ?_;refine aF 7 ?_;refine wpAnyH_done (by kernel_rfl) ?_ _;go_wp2;go_meet;exact ⟨rfl,rfl,hL⟩
  case rest=>
   obtain ⟨rfl,rfl,hL⟩:=hcut
   go_upto_region 3 with (fail)
   go_cut [5,6,7] from 50 to 58 (fun v5 v6 v7 wx=>∃ (B5:Nat) (A5:Option Addr) (c5:Nat),v5=ptr B5∧v6= .slice A5 0 c5∧v7= .int .i64 0∧Bx w wx [(B5,aO jw,26),(B1,aO kN,26)])
   case first=>
    go_wp2_with (first | (go_at_call 59;refine (iZ _).mono ?_;rintro e w1 ⟨rfl,hb1⟩;have hL:=hL.call hb1) | (go_at_call 60;refine (jM _).mono ?_;rintro e w2 ⟨l,g,rfl,hfl,hrd,hb2⟩;have hL:=hL.call hb2) | (go_at_call 25;refine (NY eH (mF.take 2) jw 2 DX.1 KU J7.1 _ (l.take 2) _ 6 (by unfold bare;rw [List.map_take];exact congrArg (List.take 2) hfl.bare) (by rw [List.length_take,hfl.len];rfl) _ (hrd.take 2 (by rw [hfl.len];omega))).mono ?_;rintro e w3 ⟨⟨A2,c2,rfl⟩,hb3⟩;have hL:=hL.call hb3) | ((with_reducible (refine aH 26 (.tmp 5) (.tmp 55) ?lx ?_));(case lx=>rfl);refine aC ((hL.add [.int .i64 0,.int .i64 0,.int .i64 0,.int .i64 0,.string ⟨#[]⟩,.int .i64 0,.int .i64 0,.bool false,.bool false,.int .i64 0,.int .i64 0,.int .i64 0,.int .i64 0] 26).head) (aO jw) rfl ak (bH _) rfl (.tmp 5) (.tmp 55) rfl rfl rfl ?_))
    go_meet;exact ⟨_,A2,c2,rfl,rfl,rfl,(hL.add [.int .i64 0,.int .i64 0,.int .i64 0,.int .i64 0,.string ⟨#[]⟩,.int .i64 0,.int .i64 0,.bool false,.bool false,.int .i64 0,.int .i64 0,.int .i64 0,.int .i64 0] 26).put (aO jw) rfl⟩
   case rest=>
    obtain ⟨B5,A5,c5,rfl,rfl,rfl,hL⟩:=hcut
    go_upto_region 4 with (fail)
    go_cut [8,9] from 58 to 64 (fun v8 v9 wx=>v8= .string ⟨#[56,58,48,32,102,105,110,97,108,32,50]⟩∧v9= .int .i64 0∧Bx w wx [(B5,aO jw,26),(B1,aO kN,26)])
    case first=>
     have ZE:∀ W:World,Bx w W [(B5,aO jw,26),(B1,aO kN,26)]→W.rangeAt (B5) 0 (aO jw):=fun W h=>h.rng 0 rfl 0 _ rfl;have hL:=hL.drew;refine wp_region_held_drew (S:=(fun w':World=>Bx w w' [(B5,aO jw,26),(B1,aO kN,26)])) (by kernel_rfl) ?dI (fun hHeld=>?_)
     case dI=>exact hL
     refine bJ 1 ZE Tryz.underlying26 ?_;refine aG 0 fun K hK=>?_;go_simp
     (go_at_call 59;refine (iZ _).mono ?_;rintro e w4a ⟨rfl,ah1⟩)
     have hL:=hL.call ah1;refine ay hK (hL) fun hHeld=>?_;clear hK K;refine aG 2 fun K hK=>?_;go_simp
     (go_at_call 39;refine (SX _ (hg.below hL.bw)).mono ?_;rintro e w4b ⟨rfl,ah8⟩)
     have hL:=hL.call ah8;refine ay hK (hL) fun hHeld=>?_;clear hK K;refine aF 3 ?_;refine aF 4 ?_;refine aF 5 ?_;refine aF 6 ?_;refine aF 7 ?_;refine wpAnyH_done (by kernel_rfl) ?_ _;go_wp2;go_meet;exact ⟨rfl,rfl,hL⟩
    case rest=>
     obtain ⟨rfl,rfl,hL⟩:=hcut
     go_upto_region 5 with (fail)
     go_cut [10,11] from 64 to 73 (fun v10 v11 wx=>∃ (B10:Nat),v10=ptr B10∧v11= .int .i64 0∧Bx w wx [(B10,fG ⟨0,2,4,false⟩,78),(B5,aO jw,26),(B1,aO kN,26)])
     case first=>
      have ZF:∀ W:World,Bx w W [(B5,aO jw,26),(B1,aO kN,26)]→W.rangeAt (B5) 0 (aO jw):=fun W h=>h.rng 0 rfl 0 _ rfl;have hL:=hL.drew;refine wp_region_held_drew (S:=(fun w':World=>Bx w w' [(B5,aO jw,26),(B1,aO kN,26)])) (by kernel_rfl) ?dS (fun hHeld=>?_)
      case dS=>exact hL
      refine bJ 1 ZF Tryz.underlying26 ?_;refine iF 0 9 (fun K hK=>?_) fun K hK=>?_
      · go_simp
        (go_at_call 59;refine (iZ _).mono ?_;rintro e w5a ⟨rfl,Iw⟩)
        have hL:=hL.call Iw;refine ay hK (by first | exact hL | exact hL.tail) fun hHeld=>?_;clear hK K;refine iF 2 9 (fun K hK=>?_) fun K hK=>?_
        · go_simp
          (go_at_call 60;refine (jM _).mono ?_;rintro e RJ ⟨l,g,rfl,hfl,hrd,Ae⟩)
          have hL:=hL.call Ae;obtain ⟨x1,x2,x5,x6,gg,rfl,_⟩:=hfl;have hF:=fun W (h:Below (RJ).heap.size RJ W)=>And.intro ((hrd.2 (vU gg) (by simp [vU])).below h) (World.qx (A8 hrd 2 (by simp)) h (hrd.lt (by simp)));refine ay hK (by first | exact hL | exact hL.tail) fun hHeld=>?_;clear hK K;refine aF 3 ?_;refine iF 4 9 (fun K hK=>?_) fun K hK=>?_
          · (refine eu (cs:=dU (vU gg)) (hF _ (by first | exact Below.refl _ _ | exact (Below.refl _ _).alloc (Nat.le_refl _) _)).2 Tryz.underlying83 rfl bF (.tmp 68) rfl rfl ?_)
            refine ay hK (by first | exact hL | exact hL.tail) fun hHeld=>?_;clear hK K;refine iF 5 9 (fun K hK=>?_) fun K hK=>?_
            · go_simp
              (go_at_call 43;refine (CV eH jw _ _ ng.1 ng.2 _ (vU gg) rfl _ (hF _ (by first | exact Below.refl _ _ | exact (Below.refl _ _).alloc (Nat.le_refl _) _)).1).mono ?_;rintro e VU ⟨rfl,tK⟩)
              have hL:=hL.call tK;refine ay hK (by first | exact hL | exact hL.tail) fun hHeld=>?_;clear hK K;refine aF 6 ?_;refine aF 7 ?_;refine aF 8 ?_;refine aG 9 fun K hK=>?_;go_simp;have hL:=hL.add (fG ⟨0,0,0,false⟩) 78;refine ay hK (hL.tail) fun hHeld=>?_;clear hK K;refine aG 10 fun K hK=>?_;refine aU hL.head (fG ⟨0,2,4,false⟩) rfl dQ (jd _) (.tmp 10) (.tmp 71) rfl rfl rfl ?_;have hL:=hL.put (fG ⟨0,2,4,false⟩) rfl;refine ay hK (hL.tail) fun hHeld=>?_;clear hK K;refine aF 11 ?_;refine wpAnyH_done (by kernel_rfl) ?_ _;go_wp2;go_meet;exact ⟨_,rfl,rfl,hL⟩
            · go_simp
              have hL:=hL.add (fG ⟨0,0,0,false⟩) 78;refine ay hK (hL.tail) fun hHeld=>?_;clear hK K;refine aG 5 fun K hK=>?_;go_simp
              (go_at_call 43;refine (CV eH jw _ _ ng.1 ng.2 _ (vU gg) rfl _ (hF _ (by first | exact Below.refl _ _ | exact (Below.refl _ _).alloc (Nat.le_refl _) _)).1).mono ?_;rintro e VU ⟨rfl,tK⟩)
              have hL:=hL.call tK;refine ay hK (by first | exact hL | exact hL.tail) fun hHeld=>?_;clear hK K;refine aF 6 ?_;refine aF 7 ?_;refine aF 8 ?_;refine aG 10 fun K hK=>?_;refine aU hL.head (fG ⟨0,2,4,false⟩) rfl dQ (jd _) (.tmp 10) (.tmp 71) rfl rfl rfl ?_;have hL:=hL.put (fG ⟨0,2,4,false⟩) rfl;refine ay hK (hL.tail) fun hHeld=>?_;clear hK K;refine aF 11 ?_;refine wpAnyH_done (by kernel_rfl) ?_ _;go_wp2;go_meet;exact ⟨_,rfl,rfl,hL⟩
          · go_simp
            have hL:=hL.add (fG ⟨0,0,0,false⟩) 78;refine ay hK (hL.tail) fun hHeld=>?_;clear hK K;refine aG 4 fun K hK=>?_
            (refine eu (cs:=dU (vU gg)) (hF _ (by first | exact Below.refl _ _ | exact (Below.refl _ _).alloc (Nat.le_refl _) _)).2 Tryz.underlying83 rfl bF (.tmp 68) rfl rfl ?_)
            refine ay hK (by first | exact hL | exact hL.tail) fun hHeld=>?_;clear hK K;refine aG 5 fun K hK=>?_;go_simp
            (go_at_call 43;refine (CV eH jw _ _ ng.1 ng.2 _ (vU gg) rfl _ (hF _ (by first | exact Below.refl _ _ | exact (Below.refl _ _).alloc (Nat.le_refl _) _)).1).mono ?_;rintro e VU ⟨rfl,tK⟩)
            have hL:=hL.call tK;refine ay hK (by first | exact hL | exact hL.tail) fun hHeld=>?_;clear hK K;refine aF 6 ?_;refine aF 7 ?_;refine aF 8 ?_;refine aG 10 fun K hK=>?_;refine aU hL.head (fG ⟨0,2,4,false⟩) rfl dQ (jd _) (.tmp 10) (.tmp 71) rfl rfl rfl ?_;have hL:=hL.put (fG ⟨0,2,4,false⟩) rfl;refine ay hK (hL.tail) fun hHeld=>?_;clear hK K;refine aF 11 ?_;refine wpAnyH_done (by kernel_rfl) ?_ _;go_wp2;go_meet;exact ⟨_,rfl,rfl,hL⟩
        · go_simp
          have hL:=hL.add (fG ⟨0,0,0,false⟩) 78;refine ay hK (hL.tail) fun hHeld=>?_;clear hK K;refine aG 2 fun K hK=>?_;go_simp
          (go_at_call 60;refine (jM _).mono ?_;rintro e RJ ⟨l,g,rfl,hfl,hrd,Ae⟩)
          have hL:=hL.call Ae;obtain ⟨x1,x2,x5,x6,gg,rfl,_⟩:=hfl;have hF:=fun W (h:Below (RJ).heap.size RJ W)=>And.intro ((hrd.2 (vU gg) (by simp [vU])).below h) (World.qx (A8 hrd 2 (by simp)) h (hrd.lt (by simp)));refine ay hK (by first | exact hL | exact hL.tail) fun hHeld=>?_;clear hK K;refine aF 3 ?_;refine aG 4 fun K hK=>?_
          (refine eu (cs:=dU (vU gg)) (hF _ (by first | exact Below.refl _ _ | exact (Below.refl _ _).alloc (Nat.le_refl _) _)).2 Tryz.underlying83 rfl bF (.tmp 68) rfl rfl ?_)
          refine ay hK (by first | exact hL | exact hL.tail) fun hHeld=>?_;clear hK K;refine aG 5 fun K hK=>?_;go_simp
          (go_at_call 43;refine (CV eH jw _ _ ng.1 ng.2 _ (vU gg) rfl _ (hF _ (by first | exact Below.refl _ _ | exact (Below.refl _ _).alloc (Nat.le_refl _) _)).1).mono ?_;rintro e VU ⟨rfl,tK⟩)
          have hL:=hL.call tK;refine ay hK (by first | exact hL | exact hL.tail) fun hHeld=>?_;clear hK K;refine aF 6 ?_;refine aF 7 ?_;refine aF 8 ?_;refine aG 10 fun K hK=>?_;refine aU hL.head (fG ⟨0,2,4,false⟩) rfl dQ (jd _) (.tmp 10) (.tmp 71) rfl rfl rfl ?_;have hL:=hL.put (fG ⟨0,2,4,false⟩) rfl;refine ay hK (hL.tail) fun hHeld=>?_;clear hK K;refine aF 11 ?_;refine wpAnyH_done (by kernel_rfl) ?_ _;go_wp2;go_meet;exact ⟨_,rfl,rfl,hL⟩
      · go_simp
        have hL:=hL.add (fG ⟨0,0,0,false⟩) 78;refine ay hK (hL.tail) fun hHeld=>?_;clear hK K;refine aG 0 fun K hK=>?_;go_simp
        (go_at_call 59;refine (iZ _).mono ?_;rintro e w5a ⟨rfl,Iw⟩)
        have hL:=hL.call Iw;refine ay hK (by first | exact hL | exact hL.tail) fun hHeld=>?_;clear hK K;refine aG 2 fun K hK=>?_;go_simp
        (go_at_call 60;refine (jM _).mono ?_;rintro e RJ ⟨l,g,rfl,hfl,hrd,Ae⟩)
        have hL:=hL.call Ae;obtain ⟨x1,x2,x5,x6,gg,rfl,_⟩:=hfl;have hF:=fun W (h:Below (RJ).heap.size RJ W)=>And.intro ((hrd.2 (vU gg) (by simp [vU])).below h) (World.qx (A8 hrd 2 (by simp)) h (hrd.lt (by simp)));refine ay hK (by first | exact hL | exact hL.tail) fun hHeld=>?_;clear hK K;refine aF 3 ?_;refine aG 4 fun K hK=>?_
        (refine eu (cs:=dU (vU gg)) (hF _ (by first | exact Below.refl _ _ | exact (Below.refl _ _).alloc (Nat.le_refl _) _)).2 Tryz.underlying83 rfl bF (.tmp 68) rfl rfl ?_)
        refine ay hK (by first | exact hL | exact hL.tail) fun hHeld=>?_;clear hK K;refine aG 5 fun K hK=>?_;go_simp
        (go_at_call 43;refine (CV eH jw _ _ ng.1 ng.2 _ (vU gg) rfl _ (hF _ (by first | exact Below.refl _ _ | exact (Below.refl _ _).alloc (Nat.le_refl _) _)).1).mono ?_;rintro e VU ⟨rfl,tK⟩)
        have hL:=hL.call tK;refine ay hK (by first | exact hL | exact hL.tail) fun hHeld=>?_;clear hK K;refine aF 6 ?_;refine aF 7 ?_;refine aF 8 ?_;refine aG 10 fun K hK=>?_;refine aU hL.head (fG ⟨0,2,4,false⟩) rfl dQ (jd _) (.tmp 10) (.tmp 71) rfl rfl rfl ?_;have hL:=hL.put (fG ⟨0,2,4,false⟩) rfl;refine ay hK (hL.tail) fun hHeld=>?_;clear hK K;refine aF 11 ?_;refine wpAnyH_done (by kernel_rfl) ?_ _;go_wp2;go_meet;exact ⟨_,rfl,rfl,hL⟩
     case rest=>
      obtain ⟨B10,rfl,rfl,hL⟩:=hcut
      go_upto_region 6 with (fail)
      go_cut [12,13,14] from 73 to 80 (fun v12 v13 v14 wx=>∃ (pF:Nat) (A13:Option Addr) (c13:Nat),v12=ptr pF∧v13= .slice A13 0 c13∧v14= .int .i64 0∧Bx w wx [(pF,aO jK,26),(B10,fG ⟨0,2,4,false⟩,78),(B5,aO jw,26),(B1,aO kN,26)])
      case first=>
       go_wp2_with (first | (go_at_call 59;refine (iZ _).mono ?_;rintro e w1 ⟨rfl,hb1⟩;have hL:=hL.call hb1) | (go_at_call 60;refine (jM _).mono ?_;rintro e w2 ⟨l,g,rfl,hfl,hrd,hb2⟩;have hL:=hL.call hb2) | (go_at_call 25;refine (NY eH mF jK 6 DX.2 KW J7.2 _ l _ 6 hfl.bare hfl.len _ hrd).mono ?_;rintro e w3 ⟨⟨A2,c2,rfl⟩,hb3⟩;have hL:=hL.call hb3) | ((with_reducible (refine aH 26 (.tmp 12) (.tmp 77) ?lx ?_));(case lx=>rfl);refine aC ((hL.add [.int .i64 0,.int .i64 0,.int .i64 0,.int .i64 0,.string ⟨#[]⟩,.int .i64 0,.int .i64 0,.bool false,.bool false,.int .i64 0,.int .i64 0,.int .i64 0,.int .i64 0] 26).head) (aO jK) rfl ak (bH _) rfl (.tmp 12) (.tmp 77) rfl rfl rfl ?_))
       go_meet;exact ⟨_,A2,c2,rfl,rfl,rfl,(hL.add [.int .i64 0,.int .i64 0,.int .i64 0,.int .i64 0,.string ⟨#[]⟩,.int .i64 0,.int .i64 0,.bool false,.bool false,.int .i64 0,.int .i64 0,.int .i64 0,.int .i64 0] 26).put (aO jK) rfl⟩
      case rest=>
       obtain ⟨pF,A13,c13,rfl,rfl,rfl,hL⟩:=hcut
       go_upto_region 7 with (fail)
       go_cut [15,16] from 80 to 86 (fun v15 v16 wx=>v15= .string ⟨#[56,58,56,32,102,105,110,97,108,32,51]⟩∧v16= .int .i64 0∧Bx w wx [(pF,aO jK,26),(B10,fG ⟨0,2,4,false⟩,78),(B5,aO jw,26),(B1,aO kN,26)])
       case first=>
        have ZK:∀ W:World,Bx w W [(pF,aO jK,26),(B10,fG ⟨0,2,4,false⟩,78),(B5,aO jw,26),(B1,aO kN,26)]→W.rangeAt (pF) 0 (aO jK):=fun W h=>h.rng 0 rfl 0 _ rfl;have hL:=hL.drew;refine wp_region_held_drew (S:=(fun w':World=>Bx w w' [(pF,aO jK,26),(B10,fG ⟨0,2,4,false⟩,78),(B5,aO jw,26),(B1,aO kN,26)])) (by kernel_rfl) ?iJ (fun hHeld=>?_)
        case iJ=>exact hL
        refine bJ 1 ZK Tryz.underlying26 ?_;refine aG 0 fun K hK=>?_;go_simp
        (go_at_call 59;refine (iZ _).mono ?_;rintro e w7a ⟨rfl,aix⟩)
        have hL:=hL.call aix;refine ay hK (hL) fun hHeld=>?_;clear hK K;refine aG 2 fun K hK=>?_;go_simp
        (go_at_call 39;refine (SY _ (hg.below hL.bw)).mono ?_;rintro e w7b ⟨rfl,aiE⟩)
        have hL:=hL.call aiE;refine ay hK (hL) fun hHeld=>?_;clear hK K;refine aF 3 ?_;refine aF 4 ?_;refine aF 5 ?_;refine aF 6 ?_;refine aF 7 ?_;refine wpAnyH_done (by kernel_rfl) ?_ _;go_wp2;go_meet;exact ⟨rfl,rfl,hL⟩
       case rest=>
        obtain ⟨rfl,rfl,hL⟩:=hcut
        go_upto_region 8 with (fail)
        go_cut [17,18] from 86 to 92 (fun v17 v18 wx=>v17= .int .i64 25∧v18= .int .i64 0∧Bx w wx [(pF,aO jK,26),(B10,fG ⟨0,2,4,false⟩,78),(B5,aO jw,26),(B1,aO kN,26)])
        case first=>
         have ZM:∀ W:World,Bx w W [(pF,aO jK,26),(B10,fG ⟨0,2,4,false⟩,78),(B5,aO jw,26),(B1,aO kN,26)]→W.rangeAt (pF) 0 (aO jK):=fun W h=>h.rng 0 rfl 0 _ rfl;have hL:=hL.drew;refine wp_region_held_drew (S:=(fun w':World=>Bx w w' [(pF,aO jK,26),(B10,fG ⟨0,2,4,false⟩,78),(B5,aO jw,26),(B1,aO kN,26)])) (by kernel_rfl) ?mJ (fun hHeld=>?_)
         case mJ=>exact hL
         refine bJ 1 ZM Tryz.underlying26 ?_;refine aG 0 fun K hK=>?_;go_simp
         (go_at_call 59;refine (iZ _).mono ?_;rintro e w8a ⟨rfl,OH⟩)
         have hL:=hL.call OH;refine ay hK (hL) fun hHeld=>?_;clear hK K;refine aG 2 fun K hK=>?_;go_simp
         (go_at_call 37;refine (SV _).mono ?_;rintro e w8b ⟨rfl,Iy⟩)
         have hL:=hL.call Iy;refine ay hK (hL) fun hHeld=>?_;clear hK K;refine aF 3 ?_;refine aF 4 ?_;refine aF 5 ?_;refine aF 6 ?_;refine aF 7 ?_;refine wpAnyH_done (by kernel_rfl) ?_ _;go_wp2;go_meet;exact ⟨rfl,rfl,hL⟩
        case rest=>
         obtain ⟨rfl,rfl,hL⟩:=hcut
         go_upto_region 9 with (fail)
         go_cut [19,20] from 92 to 98 (fun v19 v20 wx=>∃ (U5:Option Addr) (c19:Nat),v19= .slice U5 1 c19∧v20= .int .i64 0∧Bx w wx [(pF,aO jK,26),(B10,fG ⟨0,2,4,false⟩,78),(B5,aO jw,26),(B1,aO kN,26)]∧jV wx (fun _=>True) U5 c19 [8])
         case first=>
          go_wp2_with (first | (go_at_call 59;refine (iZ _).mono ?_;rintro e w1 ⟨rfl,hb1⟩;have hL:=hL.call hb1) | (go_at_call 60;refine (jM _).mono ?_;rintro e w2 ⟨l,g,rfl,hfl,hrd,hb2⟩;have hL:=hL.call hb2) | (go_at_call 26;refine (Vg 0 8 (by kernel_rfl) (by kernel_rfl) _ l _ 6 hfl _ hrd).mono ?_;rintro e w3 ⟨A3,c3,rfl,hr3,hb3⟩;have hL:=hL.call hb3))
          go_meet;exact ⟨A3,c3,rfl,rfl,hL,hr3⟩
         case rest=>
          obtain ⟨U5,c19,rfl,rfl,hL,h19⟩:=hcut
          go_upto_region 10 with (fail)
          go_cut [21,22] from 98 to 104 (fun v21 v22 wx=>∃ (V4:Option Addr) (c21:Nat),v21= .slice V4 1 c21∧v22= .int .i64 0∧Bx w wx [(pF,aO jK,26),(B10,fG ⟨0,2,4,false⟩,78),(B5,aO jw,26),(B1,aO kN,26)]∧jV wx (fun _=>True) V4 c21 [4]∧jV wx (fun _=>True) U5 c19 [8])
          case first=>
           go_wp2_with (first | (go_at_call 59;refine (iZ _).mono ?_;rintro e w1 ⟨rfl,hb1⟩;have hL:=hL.call hb1;have h19:=Reads.below h19 hb1) | (go_at_call 60;refine (jM _).mono ?_;rintro e w2 ⟨l,g,rfl,hfl,hrd,hb2⟩;have hL:=hL.call hb2;have h19:=Reads.below h19 hb2) | (go_at_call 26;refine (Vg 1 4 (by kernel_rfl) (by kernel_rfl) _ l _ 6 hfl _ hrd).mono ?_;rintro e w3 ⟨A3,c3,rfl,hr3,hb3⟩;have hL:=hL.call hb3;have h19:=Reads.below h19 hb3))
           go_meet;exact ⟨A3,c3,rfl,rfl,hL,hr3,h19⟩
          case rest=>
           obtain ⟨V4,c21,rfl,rfl,hL,h21,h19⟩:=hcut
           go_upto_region 11 with (fail)
           go_cut [23,24] from 104 to 114 (fun v23 v24 wx=>v23= .int .i64 2∧v24= .int .i64 0∧Bx w wx [(pF,aO jK,26),(B10,fG ⟨0,2,4,false⟩,78),(B5,aO jw,26),(B1,aO kN,26)]∧jV wx (fun _=>True) U5 c19 [8]∧jV wx (fun _=>True) V4 c21 [4])
           case first=>
            go_wp2_with (first | (go_at_call 59;refine (iZ _).mono ?_;rintro e w1 ⟨rfl,hb1⟩;have hL:=hL.call hb1;have h19:=Reads.below h19 hb1;have h21:=Reads.below h21 hb1) | (go_at_call 60;refine (jM _).mono ?_;rintro e w2 ⟨l,g,rfl,hfl,hrd,hb2⟩;have hL:=hL.call hb2;have h19:=Reads.below h19 hb2;have h21:=Reads.below h21 hb2) | (go_at_call 34;refine (YS _ (fun _:Nat=>True) (l.take 2) _ _ 6 2 (by unfold bare;rw [List.map_take];exact congrArg (List.take 2) hfl.bare) _ (qh.below (hrd.take 2 (by rw [hfl.len];omega)) ((Below.refl _ _).alloc (Nat.le_refl _) _)) (Reads.lit w2 24 (fun _:Nat=>True) 2 2 [.int .i64 1,.int .i64 0,.int .i64 7,.int .i64 0] (by omega) rfl trivial)).mono ?_;rintro e w3 ⟨rfl,hb3⟩;have hL:=(hL.alloc _).call hb3;have h19:=Reads.below (Reads.alloc h19 _) hb3;have h21:=Reads.below (Reads.alloc h21 _) hb3))
            go_meet;exact ⟨rfl,rfl,hL,h19,h21⟩
           case rest=>
            obtain ⟨rfl,rfl,hL,h19,h21⟩:=hcut
            go_upto_region 12 with (fail)
            go_cut [25] from 114 to 115 (fun v25 wx=>∃ (BK:Nat),v25=ptr BK∧Bx w wx [(BK,aO jK,26),(pF,aO jK,26),(B10,fG ⟨0,2,4,false⟩,78),(B5,aO jw,26),(B1,aO kN,26)]∧jV wx (fun b=>b<BK) U5 c19 [8]∧jV wx (fun b=>b<BK) V4 c21 [4])
            case first=>
             go_wp2_with (first | ((with_reducible (refine ah 26 (.tmp 12) ?lx ?_));(case lx=>rfl);refine aK (hL.rng 0 rfl 0 (aO jK) rfl) Tryz.underlying26 rfl ak rfl (.tmp 12) rfl rfl ?_) | ((with_reducible (refine ah 26 (.tmp 12) ?lx ?_));(case lx=>rfl);refine fA (hL.rng 0 rfl 0 (aO jK) rfl) Tryz.underlying26 rfl ak rfl (.tmp 12) rfl rfl ?_) | ((with_reducible (refine aI 26 (.tmp 12) ?lx ?_));(case lx=>rfl);refine eu (hL.rng 0 rfl 0 (aO jK) rfl) Tryz.underlying26 rfl ak (.tmp 12) rfl rfl ?_) | ((with_reducible (refine aH 26 (.tmp 25) (.tmp 114) ?lx ?_));(case lx=>rfl);refine aC ((hL.add [.int .i64 0,.int .i64 0,.int .i64 0,.int .i64 0,.string ⟨#[]⟩,.int .i64 0,.int .i64 0,.bool false,.bool false,.int .i64 0,.int .i64 0,.int .i64 0,.int .i64 0] 26).head) (aO jK) rfl ak (bH _) rfl (.tmp 25) (.tmp 114) rfl rfl rfl ?_))
             go_meet;exact ⟨_,rfl,(hL.add [.int .i64 0,.int .i64 0,.int .i64 0,.int .i64 0,.string ⟨#[]⟩,.int .i64 0,.int .i64 0,.bool false,.bool false,.int .i64 0,.int .i64 0,.int .i64 0,.int .i64 0] 26).put (aO jK) rfl,Reads.VR (Reads.lts h19) hL,Reads.VR (Reads.lts h21) hL⟩
            case rest=>
             obtain ⟨BK,rfl,hL,h19,h21⟩:=hcut;have k1:=hL.head.cell (j:=1) rfl;have VI:=hL.head.frozen 1;have k2:=hL.head.cell (j:=2) rfl;have kf2:=hL.head.frozen 2;have k3:=hL.head.cell (j:=3) rfl;have Z7:=hL.head.frozen 3;have hS:=((hL.set 1 (.int .i64 40)).set 2 (.int .i64 0)).set 3 (.int .i64 0)
             go_upto_region 13 with (fail)
             go_cut [] from 115 to 118 (fun wx=>Bx w wx [(BK,aO wS,26),(pF,aO jK,26),(B10,fG ⟨0,2,4,false⟩,78),(B5,aO jw,26),(B1,aO kN,26)]∧jV wx (fun b=>b<BK) U5 c19 [8]∧jV wx (fun b=>b<BK) V4 c21 [4])
             case first=>
              go_wp2;go_meet;exact ⟨hS,Reads.setCell (Reads.setCell (Reads.setCell h19 (p:=⟨BK,1,none⟩) (Nat.lt_irrefl _) _) (p:=⟨BK,2,none⟩) (Nat.lt_irrefl _) _) (p:=⟨BK,3,none⟩) (Nat.lt_irrefl _) _,Reads.setCell (Reads.setCell (Reads.setCell h21 (p:=⟨BK,1,none⟩) (Nat.lt_irrefl _) _) (p:=⟨BK,2,none⟩) (Nat.lt_irrefl _) _) (p:=⟨BK,3,none⟩) (Nat.lt_irrefl _) _⟩
             case rest=>
              obtain ⟨hL,h19,h21⟩:=hcut
              go_upto_region 14 with (fail)
              go_cut [26,27] from 118 to 124 (fun v26 v27 wx=>v26= .int .i64 4∧v27= .int .i64 0∧Bx w wx [(BK,aO wS,26),(pF,aO jK,26),(B10,fG ⟨0,2,4,false⟩,78),(B5,aO jw,26),(B1,aO kN,26)]∧jV wx (fun b=>b<BK) U5 c19 [8]∧jV wx (fun b=>b<BK) V4 c21 [4])
              case first=>
               have h19:=Reads.drew h19;have h21:=Reads.drew h21;have Xk:∀ W:World,Bx w W [(BK,aO wS,26),(pF,aO jK,26),(B10,fG ⟨0,2,4,false⟩,78),(B5,aO jw,26),(B1,aO kN,26)]→W.rangeAt (BK) 0 (aO wS):=fun W h=>h.rng 0 rfl 0 _ rfl;have hL:=hL.drew;refine wp_region_held_drew (S:=(fun w':World=>Bx w w' [(BK,aO wS,26),(pF,aO jK,26),(B10,fG ⟨0,2,4,false⟩,78),(B5,aO jw,26),(B1,aO kN,26)])) (by kernel_rfl) ?mM (fun hHeld=>?_)
               case mM=>exact hL
               refine bJ 1 Xk Tryz.underlying26 ?_;refine aG 0 fun K hK=>?_;go_simp
               (go_at_call 59;refine (iZ _).mono ?_;rintro e avF ⟨rfl,OA⟩)
               have hL:=hL.call OA;have h19:=Reads.below h19 OA;have h21:=Reads.below h21 OA;refine ay hK (hL) fun hHeld=>?_;clear hK K;refine aG 2 fun K hK=>?_;go_simp
               (go_at_call 38;refine (WC _).mono ?_;rintro e avM ⟨rfl,OB⟩)
               have hL:=hL.call OB;have h19:=Reads.below h19 OB;have h21:=Reads.below h21 OB;refine ay hK (hL) fun hHeld=>?_;clear hK K;refine aF 3 ?_;refine aF 4 ?_;refine aF 5 ?_;refine aF 6 ?_;refine aF 7 ?_;refine wpAnyH_done (by kernel_rfl) ?_ _;go_wp2;go_meet;exact ⟨rfl,rfl,hL,h19,h21⟩
              case rest=>
               obtain ⟨rfl,rfl,hL,h19,h21⟩:=hcut
               have he1:((⟨#[56,58,48,32,102,105,110,97,108,32,50]⟩:ByteArray).toList == [56,58,48,32,102,105,110,97,108,32,50])=true:=by rw [ByteArray.toList_eq];rfl
               have he2:((⟨#[56,58,56,32,102,105,110,97,108,32,51]⟩:ByteArray).toList == [56,58,56,32,102,105,110,97,108,32,51])=true:=by rw [ByteArray.toList_eq];rfl
               have hv1:∀ W,(binOp .neq 78 (.agg #[.int .i64 0,.int .i64 2,.int .i64 4,.bool false]) (.agg #[.int .i64 0,.int .i64 2,.int .i64 4,.bool false])).run Tryz.prog W= .ok (.bool false) W:=fun W=>by kernel_rfl
               have dd8:decide (([8]:List Int)=[8])=true:=rfl;have dd4:decide (([4]:List Int)=[4])=true:=rfl;have tk1:=hide True.intro;have kv0:=(hL.get 2 rfl).cell (j:=0) rfl;have kv1:=(hL.get 2 rfl).cell (j:=1) rfl;have kv2:=(hL.get 2 rfl).cell (j:=2) rfl;have kv3:=(hL.get 2 rfl).cell (j:=3) rfl
               go_upto_region 17 with (first | (clear tk1;go_at_call 61;refine (uy (fun b=>b<BK) (fun _:Nat=>True) [8] [8] _ _ _ 1 _ (Reads.alloc h19 _) (jV.lit _ _ [8] (by simp) (fun _:Nat=>True) trivial)).mono ?_;rintro e w5 ⟨rfl,hb5⟩;have h21:=Reads.below (Reads.alloc h21 _) hb5;have hL:=(hL.alloc _).call hb5) | (go_at_call 61;refine (uy (fun b=>b<BK) (fun _:Nat=>True) [4] [4] _ _ _ 1 _ (Reads.alloc h21 _) (jV.lit _ _ [4] (by simp) (fun _:Nat=>True) trivial)).mono ?_;rintro e w6 ⟨rfl,hb6⟩;have hL:=(hL.alloc _).call hb6))
               replace hL:Bx w _ []:=⟨hL.bw,fun p h=>(nomatch h),List.Pairwise.nil⟩;clear he1 he2 hv1 dd8 dd4
               go_upto_region 17 with (fail)
               go_cut [28] from 194 to 195 (fun v28 wx=>∃ (Ns:Nat),v28=ptr Ns∧Bx w wx [(Ns,bT jR,23)])
               case first=>
                go_wp2_with (first | ((with_reducible (refine aH 23 (.tmp 28) (.tmp 194) ?lx ?_));(case lx=>rfl);refine aC ((hL.add [.string ⟨#[]⟩,.int .i64 0,.int .i64 0,.int .i64 0] 23).head) (bT jR) rfl cZ (D7 _) rfl (.tmp 28) (.tmp 194) rfl rfl rfl ?_))
                go_meet;exact ⟨_,rfl,(hL.add [.string ⟨#[]⟩,.int .i64 0,.int .i64 0,.int .i64 0] 23).put (bT jR) rfl⟩
               case rest=>
                obtain ⟨Ns,rfl,hL⟩:=hcut
                go_upto_region 18 with (fail)
                go_cut [2,29] from 195 to 200 (fun v2 v29 wx=>∃ (RX:Nat),v2= .int .i64 0∧v29=ptr RX∧Bx w wx [(RX,aO sN,26),(Ns,bT jR,23)])
                case first=>
                 go_wp2_with (first | ((with_reducible (refine ah 23 (.tmp 28) ?lx ?_));(case lx=>rfl);refine aK (hL.rng 0 rfl 0 (bT jR) rfl) Tryz.underlying23 rfl cZ rfl (.tmp 28) rfl rfl ?_) | ((with_reducible (refine ah 23 (.tmp 28) ?lx ?_));(case lx=>rfl);refine fA (hL.rng 0 rfl 0 (bT jR) rfl) Tryz.underlying23 rfl cZ rfl (.tmp 28) rfl rfl ?_) | ((with_reducible (refine aI 23 (.tmp 28) ?lx ?_));(case lx=>rfl);refine eu (hL.rng 0 rfl 0 (bT jR) rfl) Tryz.underlying23 rfl cZ (.tmp 28) rfl rfl ?_) | (go_at_call 22;refine (NZ _).mono ?_;rintro e w2 ⟨rfl,hb2⟩;have hL:=hL.call hb2) | ((with_reducible (refine aH 26 (.tmp 29) (.tmp 198) ?lx ?_));(case lx=>rfl);refine aC ((hL.add [.int .i64 0,.int .i64 0,.int .i64 0,.int .i64 0,.string ⟨#[]⟩,.int .i64 0,.int .i64 0,.bool false,.bool false,.int .i64 0,.int .i64 0,.int .i64 0,.int .i64 0] 26).head) (aO sN) rfl ak (bH _) rfl (.tmp 29) (.tmp 198) rfl rfl rfl ?_))
                 go_meet;exact ⟨_,rfl,rfl,(hL.add [.int .i64 0,.int .i64 0,.int .i64 0,.int .i64 0,.string ⟨#[]⟩,.int .i64 0,.int .i64 0,.bool false,.bool false,.int .i64 0,.int .i64 0,.int .i64 0,.int .i64 0] 26).put (aO sN) rfl⟩
                case rest=>
                 obtain ⟨RX,rfl,rfl,hL⟩:=hcut
                 go_upto_region 19 with (fail)
                 go_cut [4,30] from 200 to 209 (fun v4 v30 wx=>∃ (SB:Nat),v4= .int .i64 0∧v30=ptr SB∧Bx w wx [(SB,fG ⟨8,0,0,true⟩,78),(RX,aO sN,26),(Ns,bT jR,23)])
                 case first=>
                  go_wp2_with (first | ((with_reducible (refine ah 23 (.tmp 28) ?lx ?_));(case lx=>rfl);refine aK (hL.rng 1 rfl 0 (bT jR) rfl) Tryz.underlying23 rfl cZ rfl (.tmp 28) rfl rfl ?_) | ((with_reducible (refine ah 23 (.tmp 28) ?lx ?_));(case lx=>rfl);refine fA (hL.rng 1 rfl 0 (bT jR) rfl) Tryz.underlying23 rfl cZ rfl (.tmp 28) rfl rfl ?_) | ((with_reducible (refine aI 23 (.tmp 28) ?lx ?_));(case lx=>rfl);refine eu (hL.rng 1 rfl 0 (bT jR) rfl) Tryz.underlying23 rfl cZ (.tmp 28) rfl rfl ?_) | ((with_reducible (refine ah 26 (.tmp 29) ?lx ?_));(case lx=>rfl);refine aK (hL.rng 0 rfl 0 (aO sN) rfl) Tryz.underlying26 rfl ak rfl (.tmp 29) rfl rfl ?_) | ((with_reducible (refine ah 26 (.tmp 29) ?lx ?_));(case lx=>rfl);refine fA (hL.rng 0 rfl 0 (aO sN) rfl) Tryz.underlying26 rfl ak rfl (.tmp 29) rfl rfl ?_) | ((with_reducible (refine aI 26 (.tmp 29) ?lx ?_));(case lx=>rfl);refine eu (hL.rng 0 rfl 0 (aO sN) rfl) Tryz.underlying26 rfl ak (.tmp 29) rfl rfl ?_) | (go_at_call 43;refine (CV jR sN zB ⟨8,0,0,true⟩ J6.1 J6.2 (fun _:Nat=>True) ⟨zB,some ⟨wc.heap.size,0,none⟩,2,some ⟨wc.heap.size+1,0,none⟩,2⟩ rfl _ ⟨Reads.alloc (Reads.lit wc 9 (fun _:Nat=>True) 1 2 [.string Sk.dw,.string Sk.cu] (by omega) rfl trivial) _,Yb wc 9 9 [.string Sk.dw,.string Sk.cu] [.string Sk.dw,.string Sk.bQ] rfl⟩).mono ?_;rintro e w3 ⟨rfl,hb3⟩;have hL:=((hL.alloc _).alloc _).call hb3) | ((with_reducible (refine aH 78 (.tmp 30) (.tmp 207) ?lx ?_));(case lx=>rfl);refine aC ((hL.add (fG ⟨0,0,0,false⟩) 78).head) (fG ⟨8,0,0,true⟩) rfl dQ (jd _) rfl (.tmp 30) (.tmp 207) rfl rfl rfl ?_))
                  go_meet;exact ⟨_,rfl,rfl,(hL.add (fG ⟨0,0,0,false⟩) 78).put (fG ⟨8,0,0,true⟩) rfl⟩
                 case rest=>
                  obtain ⟨SB,rfl,rfl,hL⟩:=hcut
                  go_upto_region 20 with (fail)
                  go_cut [31] from 209 to 210 (fun v31 wx=>∃ (U7:Nat),v31=ptr U7∧Bx w wx [(U7,bT kK,23),(SB,fG ⟨8,0,0,true⟩,78),(RX,aO sN,26),(Ns,bT jR,23)])
                  case first=>
                   go_wp2_with (first | ((with_reducible (refine aH 23 (.tmp 31) (.tmp 209) ?lx ?_));(case lx=>rfl);refine aC ((hL.add [.string ⟨#[]⟩,.int .i64 0,.int .i64 0,.int .i64 0] 23).head) (bT kK) rfl cZ (D7 _) rfl (.tmp 31) (.tmp 209) rfl rfl rfl ?_))
                   go_meet;exact ⟨_,rfl,(hL.add [.string ⟨#[]⟩,.int .i64 0,.int .i64 0,.int .i64 0] 23).put (bT kK) rfl⟩
                  case rest=>
                   obtain ⟨U7,rfl,hL⟩:=hcut
                   go_upto_region 21 with (fail)
                   go_cut [32] from 210 to 212 (fun v32 wx=>∃ (V6:Nat) (Iq:Nat),v32=ptr V6∧Bx w wx [(V6,(dU ⟨iT,some ⟨Iq,0,none⟩,2,none,0⟩),83),(U7,bT kK,23),(SB,fG ⟨8,0,0,true⟩,78),(RX,aO sN,26),(Ns,bT jR,23)]∧Reads wx (fun _:Nat=>True) 1 (some ⟨Iq,0,none⟩) 2 2 [.string Sk.dw,.string Sk.cu])
                   case first=>
                    go_wp2_with (first | ((with_reducible (refine aH 83 (.tmp 32) (.tmp 211) ?lx ?_));(case lx=>rfl);refine aC (((hL.alloc (.cells ([.string Sk.dw,.string Sk.cu]:List Value).toArray 9)).JV [.string ⟨#[]⟩,.string ⟨#[]⟩,.slice none 0 0,.slice none 0 0,.int .i64 0] 83 (g:=wc.heap.size+1) (by simp)).head) ((dU ⟨iT,some ⟨wc.heap.size,0,none⟩,2,none,0⟩)) rfl bF (zy _) rfl (.tmp 32) (.tmp 211) rfl rfl rfl ?_))
                    go_meet;exact ⟨_,wc.heap.size,rfl,((hL.alloc (.cells ([.string Sk.dw,.string Sk.cu]:List Value).toArray 9)).JV [.string ⟨#[]⟩,.string ⟨#[]⟩,.slice none 0 0,.slice none 0 0,.int .i64 0] 83 (g:=wc.heap.size+1) (by simp)).put (dU ⟨iT,some ⟨wc.heap.size,0,none⟩,2,none,0⟩) rfl,Reads.Ro (Reads.lit wc 9 (fun _:Nat=>True) 1 2 [.string Sk.dw,.string Sk.cu] (by omega) rfl trivial) (by simp)⟩
                   case rest=>
                    obtain ⟨V6,Iq,rfl,hL,h32⟩:=hcut
                    go_upto_region 22 with (fail)
                    go_cut [33] from 212 to 214 (fun v33 wx=>∃ (Ym:Nat) (KZ:Nat),v33=ptr Ym∧Bx w wx [(Ym,(dU ⟨je,some ⟨KZ,0,none⟩,2,none,0⟩),83),(V6,(dU ⟨iT,some ⟨Iq,0,none⟩,2,none,0⟩),83),(U7,bT kK,23),(SB,fG ⟨8,0,0,true⟩,78),(RX,aO sN,26),(Ns,bT jR,23)]∧Reads wx (fun _:Nat=>True) 1 (some ⟨KZ,0,none⟩) 2 2 [.string Sk.bQ,.string Sk.dw]∧Reads wx (fun _:Nat=>True) 1 (some ⟨Iq,0,none⟩) 2 2 [.string Sk.dw,.string Sk.cu])
                    case first=>
                     go_wp2_with (first | ((with_reducible (refine aH 83 (.tmp 33) (.tmp 213) ?lx ?_));(case lx=>rfl);refine aC (((hL.alloc (.cells ([.string Sk.bQ,.string Sk.dw]:List Value).toArray 9)).JV [.string ⟨#[]⟩,.string ⟨#[]⟩,.slice none 0 0,.slice none 0 0,.int .i64 0] 83 (g:=wc.heap.size+1) (by simp)).head) ((dU ⟨je,some ⟨wc.heap.size,0,none⟩,2,none,0⟩)) rfl bF (zy _) rfl (.tmp 33) (.tmp 213) rfl rfl rfl ?_))
                     go_meet;exact ⟨_,wc.heap.size,rfl,((hL.alloc (.cells ([.string Sk.bQ,.string Sk.dw]:List Value).toArray 9)).JV [.string ⟨#[]⟩,.string ⟨#[]⟩,.slice none 0 0,.slice none 0 0,.int .i64 0] 83 (g:=wc.heap.size+1) (by simp)).put (dU ⟨je,some ⟨wc.heap.size,0,none⟩,2,none,0⟩) rfl,Reads.Ro (Reads.lit wc 9 (fun _:Nat=>True) 1 2 [.string Sk.bQ,.string Sk.dw] (by omega) rfl trivial) (by simp),Reads.Ro (Reads.alloc h32 _) (by simp)⟩
                    case rest=>
                     obtain ⟨Ym,KZ,rfl,hL,h33,h32⟩:=hcut
                     go_upto_region 23 with (fail)
                     go_cut [7,34,35] from 214 to 225 (fun v7 v34 v35 wx=>∃ (YN:Nat) (A35:Option Addr) (c35:Nat),v7= .int .i64 0∧v34=ptr YN∧v35= .slice A35 0 c35∧Bx w wx [(YN,aO tH,26),(Ym,(dU ⟨je,some ⟨KZ,0,none⟩,2,none,0⟩),83),(V6,(dU ⟨iT,some ⟨Iq,0,none⟩,2,none,0⟩),83),(U7,bT kK,23),(SB,fG ⟨8,0,0,true⟩,78),(RX,aO sN,26),(Ns,bT jR,23)])
                     case first=>
                      go_wp2_with (first | ((with_reducible (refine ah 23 (.tmp 31) ?lx ?_));(case lx=>rfl);refine aK (hL.rng 2 rfl 0 (bT kK) rfl) Tryz.underlying23 rfl cZ rfl (.tmp 31) rfl rfl ?_) | ((with_reducible (refine ah 23 (.tmp 31) ?lx ?_));(case lx=>rfl);refine fA (hL.rng 2 rfl 0 (bT kK) rfl) Tryz.underlying23 rfl cZ rfl (.tmp 31) rfl rfl ?_) | ((with_reducible (refine aI 23 (.tmp 31) ?lx ?_));(case lx=>rfl);refine eu (hL.rng 2 rfl 0 (bT kK) rfl) Tryz.underlying23 rfl cZ (.tmp 31) rfl rfl ?_) | ((with_reducible (refine ah 83 (.tmp 32) ?lx ?_));(case lx=>rfl);refine aK (hL.rng 1 rfl 0 ([.string Sk.dJ,.string Sk.dH,.slice (some ⟨Iq,0,none⟩) 2 2,.slice none 0 0,.int .i64 3]) rfl) Tryz.underlying83 rfl bF rfl (.tmp 32) rfl rfl ?_) | ((with_reducible (refine ah 83 (.tmp 32) ?lx ?_));(case lx=>rfl);refine fA (hL.rng 1 rfl 0 ([.string Sk.dJ,.string Sk.dH,.slice (some ⟨Iq,0,none⟩) 2 2,.slice none 0 0,.int .i64 3]) rfl) Tryz.underlying83 rfl bF rfl (.tmp 32) rfl rfl ?_) | ((with_reducible (refine aI 83 (.tmp 32) ?lx ?_));(case lx=>rfl);refine eu (hL.rng 1 rfl 0 ([.string Sk.dJ,.string Sk.dH,.slice (some ⟨Iq,0,none⟩) 2 2,.slice none 0 0,.int .i64 3]) rfl) Tryz.underlying83 rfl bF (.tmp 32) rfl rfl ?_) | ((with_reducible (refine ah 83 (.tmp 33) ?lx ?_));(case lx=>rfl);refine aK (hL.rng 0 rfl 0 ([.string Sk.dJ,.string Sk.dH,.slice (some ⟨KZ,0,none⟩) 2 2,.slice none 0 0,.int .i64 3]) rfl) Tryz.underlying83 rfl bF rfl (.tmp 33) rfl rfl ?_) | ((with_reducible (refine ah 83 (.tmp 33) ?lx ?_));(case lx=>rfl);refine fA (hL.rng 0 rfl 0 ([.string Sk.dJ,.string Sk.dH,.slice (some ⟨KZ,0,none⟩) 2 2,.slice none 0 0,.int .i64 3]) rfl) Tryz.underlying83 rfl bF rfl (.tmp 33) rfl rfl ?_) | ((with_reducible (refine aI 83 (.tmp 33) ?lx ?_));(case lx=>rfl);refine eu (hL.rng 0 rfl 0 ([.string Sk.dJ,.string Sk.dH,.slice (some ⟨KZ,0,none⟩) 2 2,.slice none 0 0,.int .i64 3]) rfl) Tryz.underlying83 rfl bF (.tmp 33) rfl rfl ?_) | (go_at_call 25;refine (NY kK [iT,iT,je,je] tH 4 xR.2.2 xR.1 xR.2.1 (fun _:Nat=>True) [⟨iT,some ⟨Iq,0,none⟩,2,none,0⟩,⟨iT,some ⟨Iq,0,none⟩,2,none,0⟩,⟨je,some ⟨KZ,0,none⟩,2,none,0⟩,⟨je,some ⟨KZ,0,none⟩,2,none,0⟩] _ 4 rfl rfl _ ⟨Reads.lit wc 83 (fun _:Nat=>True) 5 4 (yQ [⟨iT,some ⟨Iq,0,none⟩,2,none,0⟩,⟨iT,some ⟨Iq,0,none⟩,2,none,0⟩,⟨je,some ⟨KZ,0,none⟩,2,none,0⟩,⟨je,some ⟨KZ,0,none⟩,2,none,0⟩]) (by omega) rfl trivial,fun e he=>by simp only [List.mem_cons,List.not_mem_nil,or_false] at he;rcases he with rfl | rfl | rfl | rfl;exact ⟨Reads.alloc h32 _,Reads.none_ _ _ _⟩;exact ⟨Reads.alloc h32 _,Reads.none_ _ _ _⟩;exact ⟨Reads.alloc h33 _,Reads.none_ _ _ _⟩;exact ⟨Reads.alloc h33 _,Reads.none_ _ _ _⟩⟩).mono ?_;rintro e w3 ⟨⟨A2,c2,rfl⟩,hb3⟩;have hL:=(hL.alloc _).call hb3) | ((with_reducible (refine aH 26 (.tmp 34) (.tmp 222) ?lx ?_));(case lx=>rfl);refine aC ((hL.add [.int .i64 0,.int .i64 0,.int .i64 0,.int .i64 0,.string ⟨#[]⟩,.int .i64 0,.int .i64 0,.bool false,.bool false,.int .i64 0,.int .i64 0,.int .i64 0,.int .i64 0] 26).head) (aO tH) rfl ak (bH _) rfl (.tmp 34) (.tmp 222) rfl rfl rfl ?_))
                      go_meet;exact ⟨_,A2,c2,rfl,rfl,rfl,(hL.add [.int .i64 0,.int .i64 0,.int .i64 0,.int .i64 0,.string ⟨#[]⟩,.int .i64 0,.int .i64 0,.bool false,.bool false,.int .i64 0,.int .i64 0,.int .i64 0,.int .i64 0] 26).put (aO tH) rfl⟩
                     case rest=>
                      obtain ⟨YN,A35,c35,rfl,rfl,rfl,hL⟩:=hcut
                      go_upto_region 24 with (fail)
                      go_cut [9,36] from 225 to 231 (fun v9 v36 wx=>v9= .int .i64 0∧v36= .string ⟨#[50,58,50,32,100,114,97,119,110]⟩∧Bx w wx [(YN,aO tH,26),(Ym,(dU ⟨je,some ⟨KZ,0,none⟩,2,none,0⟩),83),(V6,(dU ⟨iT,some ⟨Iq,0,none⟩,2,none,0⟩),83),(U7,bT kK,23),(SB,fG ⟨8,0,0,true⟩,78),(RX,aO sN,26),(Ns,bT jR,23)])
                      case first=>
                       go_wp2_with (first | ((with_reducible (refine ah 23 (.tmp 31) ?lx ?_));(case lx=>rfl);refine aK (hL.rng 3 rfl 0 (bT kK) rfl) Tryz.underlying23 rfl cZ rfl (.tmp 31) rfl rfl ?_) | ((with_reducible (refine ah 23 (.tmp 31) ?lx ?_));(case lx=>rfl);refine fA (hL.rng 3 rfl 0 (bT kK) rfl) Tryz.underlying23 rfl cZ rfl (.tmp 31) rfl rfl ?_) | ((with_reducible (refine aI 23 (.tmp 31) ?lx ?_));(case lx=>rfl);refine eu (hL.rng 3 rfl 0 (bT kK) rfl) Tryz.underlying23 rfl cZ (.tmp 31) rfl rfl ?_) | ((with_reducible (refine ah 26 (.tmp 34) ?lx ?_));(case lx=>rfl);refine aK (hL.rng 0 rfl 0 (aO tH) rfl) Tryz.underlying26 rfl ak rfl (.tmp 34) rfl rfl ?_) | ((with_reducible (refine ah 26 (.tmp 34) ?lx ?_));(case lx=>rfl);refine fA (hL.rng 0 rfl 0 (aO tH) rfl) Tryz.underlying26 rfl ak rfl (.tmp 34) rfl rfl ?_) | ((with_reducible (refine aI 26 (.tmp 34) ?lx ?_));(case lx=>rfl);refine eu (hL.rng 0 rfl 0 (aO tH) rfl) Tryz.underlying26 rfl ak (.tmp 34) rfl rfl ?_) | (go_at_call 39;refine (S9 _ (hg.below hL.bw)).mono ?_;rintro e w2 ⟨rfl,hb2⟩;have hL:=hL.call hb2))
                       go_meet;exact ⟨rfl,rfl,hL⟩
                      case rest=>
                       obtain ⟨rfl,rfl,hL⟩:=hcut
                       go_upto_region 25 with (fail)
                       go_cut [11,37,38] from 231 to 242 (fun v11 v37 v38 wx=>∃ (B38:Nat),v11= .int .i64 0∧v37= .int .i64 0∧v38=ptr B38∧Bx w wx [(B38,[.string s4,.string s1,.string s4],110),(YN,aO tH,26),(Ym,(dU ⟨je,some ⟨KZ,0,none⟩,2,none,0⟩),83),(V6,(dU ⟨iT,some ⟨Iq,0,none⟩,2,none,0⟩),83),(U7,bT kK,23),(SB,fG ⟨8,0,0,true⟩,78),(RX,aO sN,26),(Ns,bT jR,23)])
                       case first=>
                        go_wp2_with (first | (go_at_call 62;refine (MH (fun _:Nat=>True) (fun _:Nat=>True) _ _ 1 2 _ (hg.below ((hL.alloc _).alloc _).bw) (Reads.alloc (Reads.lit wc 114 (fun _:Nat=>True) 2 1 [.string s0,.string s0] (by omega) rfl trivial) _) (Yc wc 114 114 [.string s0,.string s0] [.string s1,.string s0,.string s4,.string s0] rfl)).mono ?_;rintro e w3 ⟨rfl,hb3⟩;have hL:=((hL.alloc _).alloc _).call hb3) | ((with_reducible (refine aH 110 (.tmp 38) (.tmp 240) ?lx ?_));(case lx=>rfl);refine aC ((hL.add [.string ⟨#[]⟩,.string ⟨#[]⟩,.string ⟨#[]⟩] 110).head) ([.string s4,.string s1,.string s4]) rfl zu (H7 _ _ _) rfl (.tmp 38) (.tmp 240) rfl rfl rfl ?_))
                        go_meet;exact ⟨_,rfl,rfl,rfl,(hL.add [.string ⟨#[]⟩,.string ⟨#[]⟩,.string ⟨#[]⟩] 110).put [.string s4,.string s1,.string s4] rfl⟩
                       case rest=>
                        obtain ⟨B38,rfl,rfl,rfl,hL⟩:=hcut
                        have he3:((⟨#[50,58,50,32,100,114,97,119,110]⟩:ByteArray).toList == [50,58,50,32,100,114,97,119,110])=true:=by rw [ByteArray.toList_eq];rfl
                        have hv2:∀ W,(binOp .eql 78 (.agg #[.int .i64 8,.int .i64 0,.int .i64 0,.bool true]) (.agg #[.int .i64 8,.int .i64 0,.int .i64 0,.bool true])).run Tryz.prog W= .ok (.bool true) W:=fun W=>by kernel_rfl
                        have hv3:∀ W,(binOp .eql 110 (.agg #[.string s4,.string s1,.string s4]) (.agg #[.string s4,.string s1,.string s4])).run Tryz.prog W= .ok (.bool true) W:=fun W=>by kernel_rfl
                        have kv0:=(hL.get 5 rfl).cell (j:=0) rfl;have kv1:=(hL.get 5 rfl).cell (j:=1) rfl;have kv2:=(hL.get 5 rfl).cell (j:=2) rfl;have kv3:=(hL.get 5 rfl).cell (j:=3) rfl;have kw0:=(hL.get 0 rfl).cell (j:=0) rfl;have kw1:=(hL.get 0 rfl).cell (j:=1) rfl;have kw2:=(hL.get 0 rfl).cell (j:=2) rfl;go_wp2;go_ret;exact ⟨aN rfl,hL.bw⟩
end Go.Proofs.YtjbbfmofpjflmaaGreatDoor
