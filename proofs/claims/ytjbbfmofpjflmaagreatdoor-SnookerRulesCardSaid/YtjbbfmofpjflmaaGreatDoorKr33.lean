/- Parts of a proof. -/
import Derived.Test.YtjbbfmofpjflmaaGreatDoorKr32
set_option maxHeartbeats 16000000
set_option maxRecDepth 100000
set_option linter.unusedVariables false
set_option linter.unusedSimpArgs false
namespace Go.Proofs.YtjbbfmofpjflmaaGreatDoor
open Go.RowKit
theorem Bx.Kw {w W:World} {L:List (Nat × List Value × TypeId)} (h:Bx w W L) (cs:List Value) (t:TypeId) {g:Nat} (hg:W.heap.size=g):Bx w (W.alloc (.cells cs.toArray t)) ((g,cs,t)::L):=by subst hg;exact h.add cs t
theorem Reads.S9 {W:World} {S:Nat→Prop} {size n c g:Nat} {A:Option Addr} {xs:List Value} {cs vs:List Value} {t:TypeId} (h:Reads W S size A n c xs) (hg:W.heap.size=g):Reads ((W.alloc (.cells cs.toArray t)).setCells g 0 vs) S size A n c xs:=by
 subst hg;exact h.keep (by rw [setCells_size];simp) fun b o _ hb=>(World.cell?_of_block (Held.lY (Nat.ne_of_lt hb) vs 0 _)).trans (World.cell?_alloc_lt W _ ⟨b,o,none⟩ hb)
theorem Y2 (W:World) (t1 t2:TypeId) (v1 v2:List Value) (h:v2.length=4):Reads ((W.alloc (.cells v1.toArray t1)).alloc (.cells v2.toArray t2)) (fun _=>True) 2 (some ⟨W.heap.size+1,0,none⟩) 2 2 v2:=by
 have h1:=Reads.lit (W.alloc (.cells v1.toArray t1)) t2 (fun _=>True) 2 2 v2 (by omega) (by omega) trivial
 rwa [show (W.alloc (.cells v1.toArray t1)).heap.size=W.heap.size+1 by simp] at h1
theorem Y1 (W:World) (t1 t2:TypeId) (v1 v2:List Value) (h:v2.length=2):Reads ((W.alloc (.cells v1.toArray t1)).alloc (.cells v2.toArray t2)) (fun _=>True) 1 (some ⟨W.heap.size+1,0,none⟩) 2 2 v2:=by
 have h1:=Reads.lit (W.alloc (.cells v1.toArray t1)) t2 (fun _=>True) 1 2 v2 (by omega) (by omega) trivial
 rwa [show (W.alloc (.cells v1.toArray t1)).heap.size=W.heap.size+1 by simp] at h1
theorem Reads.lts {W:World} {S:Nat→Prop} {size n c:Nat} {A:Option Addr} {xs:List Value} (h:Reads W S size A n c xs):Reads W (fun b=>b<W.heap.size) size A n c xs:=
 h.more fun b hb _=>hb
theorem Reads.WX {w W:World} {S:Nat→Prop} {size n c:Nat} {A:Option Addr} {xs:List Value} {L:List (Nat × List Value × TypeId)} {cs vs:List Value} {t:TypeId} (h:Reads W S size A n c xs) (_:Bx w W L):Reads ((W.alloc (.cells cs.toArray t)).setCells W.heap.size 0 vs) S size A n c xs:=
 h.keep (by rw [setCells_size];simp) fun b o _ hb=>(World.cell?_of_block (Held.lY (Nat.ne_of_lt hb) vs 0 _)).trans (World.cell?_alloc_lt W _ ⟨b,o,none⟩ hb)
def vZ (g:Nat):En:=⟨⟨Sk.cO,Sk.bU,[Sk.jJ],[],0⟩,some ⟨g,0,none⟩,1,none,0⟩
theorem World.qF {W W':World} {b o:Nat} {cs:List Value} (h:W.rangeAt b o cs) (hb:Below W.heap.size W W') (hl:b<W.heap.size):W'.rangeAt b o cs:=fun j v hj=>(hb.cell (p:=⟨b,o+j,none⟩) hl).trans (h j v hj)
theorem ni.lt {W:World} {S:Nat→Prop} {b o c:Nat} {l:List En} (h:ni W S (some ⟨b,o,none⟩) c l) (hl:0<l.length):b<W.heap.size:=by
 obtain ⟨b',o',e,_,hlt,_⟩:=Reads.at_ h.1 hl
 injection e with e
 injection e with e1 e2
 subst e1;exact hlt
theorem BQ {W:World} {S:Nat→Prop} {b o c:Nat} {l:List En} (h:ni W S (some ⟨b,o,none⟩) c l) (k:Nat) (hk:k<l.length):W.rangeAt b (o+k*5) (dn l[k]):=fun j v hj=>by
 obtain ⟨b',o',e,_,_,hc⟩:=Reads.at_ h.1 (by omega)
 injection e with e
 injection e with e1 e2
 subst e1;subst e2;have hl:j<5:=(List.getElem?_eq_some_iff.1 hj).1
 have:=hc (k*5+j) v (by rw [rZ l k hk j hl];exact hj)
 rwa [← Nat.add_assoc] at this
theorem aw1 (w:World) (hg:Glob w):Calls Tryz.prog 12 #[] w fun e w'=>e= .returned (.bool true)∧Below w.heap.size w w':=by
 go_enter Tryz.func12,Tryz.ntmps12
 have hL:=Bx.nil w
 go_upto_region 1 with (fail)
 go_cut [1,2] from 39 to 44 (fun v1 v2 wx=>∃ (B1:Nat),v1=ptr B1∧v2= .int .i64 0∧Bx w wx [(B1,aC kM,26)])
 case first=>
  go_wp2_with (first | (go_at_call 59;refine (je _).mono ?_;rintro e w1 ⟨rfl,hb1⟩;have hL:=hL.call hb1) | (go_at_call 22;refine (Uw _).mono ?_;rintro e w2 ⟨rfl,hb2⟩;have hL:=hL.call hb2) | ((with_reducible refine isS 26 1 42 ?_);refine fU ((hL.add [.int .i64 0,.int .i64 0,.int .i64 0,.int .i64 0,.string ⟨#[]⟩,.int .i64 0,.int .i64 0,.bool false,.bool false,.int .i64 0,.int .i64 0,.int .i64 0,.int .i64 0] 26).head) (aC kM) aj (aT _) ?_))
  go_meet;exact ⟨_,rfl,rfl,(hL.add [.int .i64 0,.int .i64 0,.int .i64 0,.int .i64 0,.string ⟨#[]⟩,.int .i64 0,.int .i64 0,.bool false,.bool false,.int .i64 0,.int .i64 0,.int .i64 0,.int .i64 0] 26).put (aC kM) rfl⟩
 case rest=>
  obtain ⟨B1,rfl,rfl,hL⟩:=hcut
  go_upto_region 2 with (fail)
  go_cut [3,4] from 44 to 50 (fun v3 v4 wx=>v3= .int .i64 35∧v4= .int .i64 0∧Bx w wx [(B1,aC kM,26)])
  case first=>
   have adO:∀ W:World,Bx w W [(B1,aC kM,26)]→W.rangeAt (B1) 0 (aC kM):=fun W h=>h.rng 0 rfl 0 _ rfl;have hL:=hL.drew;refine wp_region_held_drew (S:=(fun w':World=>Bx w w' [(B1,aC kM,26)])) (by kernel_rfl) ?bg (fun hHeld=>?_)
   case bg=>exact hL
   refine bD 1 adO Tryz.underlying26 ?_;refine aB 0 fun K hK=>?_;go_simp
   (go_at_call 59;refine (je _).mono ?_;rintro e w2a ⟨rfl,PI⟩)
   have hL:=hL.call PI;refine ak hK (hL) fun hHeld=>?_;clear hK K;refine aB 2 fun K hK=>?_;go_simp
   (go_at_call 37;refine (Uo _).mono ?_;rintro e w2b ⟨rfl,PK⟩)
   have hL:=hL.call PK;refine ak hK (hL) fun hHeld=>?_;clear hK K;refine aA 3 ?_;refine aA 4 ?_;refine aA 5 ?_;refine aA 6 ?_;refine aA 7 ?_;refine wpAnyH_done (by kernel_rfl) ?_ _;go_wp2;go_meet;exact ⟨rfl,rfl,hL⟩
  case rest=>
   obtain ⟨rfl,rfl,hL⟩:=hcut
   go_upto_region 3 with (fail)
   go_cut [5,6,7] from 50 to 58 (fun v5 v6 v7 wx=>∃ (B5:Nat) (A5:Option Addr) (c5:Nat),v5=ptr B5∧v6= .slice A5 0 c5∧v7= .int .i64 0∧Bx w wx [(B5,aC jy,26),(B1,aC kM,26)])
   case first=>
    go_wp2_with (first | (go_at_call 59;refine (je _).mono ?_;rintro e w1 ⟨rfl,hb1⟩;have hL:=hL.call hb1) | (go_at_call 60;refine (jP _).mono ?_;rintro e w2 ⟨l,g,rfl,hfl,hrd,hb2⟩;have hL:=hL.call hb2) | (go_at_call 25;refine (OQ eP (l9.take 2) jy 2 Ep.1 LC KE.1 _ (l.take 2) _ 6 (by unfold bare;rw [List.map_take];exact congrArg (List.take 2) hfl.bare) (by rw [List.length_take,hfl.len];rfl) _ (hrd.take 2 (by rw [hfl.len];omega))).mono ?_;rintro e w3 ⟨⟨A2,c2,rfl⟩,hb3⟩;have hL:=hL.call hb3) | ((with_reducible refine isS 26 5 55 ?_);refine fU ((hL.add [.int .i64 0,.int .i64 0,.int .i64 0,.int .i64 0,.string ⟨#[]⟩,.int .i64 0,.int .i64 0,.bool false,.bool false,.int .i64 0,.int .i64 0,.int .i64 0,.int .i64 0] 26).head) (aC jy) aj (aT _) ?_))
    go_meet;exact ⟨_,A2,c2,rfl,rfl,rfl,(hL.add [.int .i64 0,.int .i64 0,.int .i64 0,.int .i64 0,.string ⟨#[]⟩,.int .i64 0,.int .i64 0,.bool false,.bool false,.int .i64 0,.int .i64 0,.int .i64 0,.int .i64 0] 26).put (aC jy) rfl⟩
   case rest=>
    obtain ⟨B5,A5,c5,rfl,rfl,rfl,hL⟩:=hcut
    go_upto_region 4 with (fail)
    go_cut [8,9] from 58 to 64 (fun v8 v9 wx=>v8= .string ⟨#[56,58,48,32,102,105,110,97,108,32,50]⟩∧v9= .int .i64 0∧Bx w wx [(B5,aC jy,26),(B1,aC kM,26)])
    case first=>
     have adW:∀ W:World,Bx w W [(B5,aC jy,26),(B1,aC kM,26)]→W.rangeAt (B5) 0 (aC jy):=fun W h=>h.rng 0 rfl 0 _ rfl;have hL:=hL.drew;refine wp_region_held_drew (S:=(fun w':World=>Bx w w' [(B5,aC jy,26),(B1,aC kM,26)])) (by kernel_rfl) ?bV (fun hHeld=>?_)
     case bV=>exact hL
     refine bD 1 adW Tryz.underlying26 ?_;refine aB 0 fun K hK=>?_;go_simp
     (go_at_call 59;refine (je _).mono ?_;rintro e w4a ⟨rfl,ank⟩)
     have hL:=hL.call ank;refine ak hK (hL) fun hHeld=>?_;clear hK K;refine aB 2 fun K hK=>?_;go_simp
     (go_at_call 39;refine (Us _ (hg.below hL.bw)).mono ?_;rintro e w4b ⟨rfl,ant⟩)
     have hL:=hL.call ant;refine ak hK (hL) fun hHeld=>?_;clear hK K;refine aA 3 ?_;refine aA 4 ?_;refine aA 5 ?_;refine aA 6 ?_;refine aA 7 ?_;refine wpAnyH_done (by kernel_rfl) ?_ _;go_wp2;go_meet;exact ⟨rfl,rfl,hL⟩
    case rest=>
     obtain ⟨rfl,rfl,hL⟩:=hcut
     go_upto_region 5 with (fail)
     go_cut [10,11] from 64 to 73 (fun v10 v11 wx=>∃ (B10:Nat),v10=ptr B10∧v11= .int .i64 0∧Bx w wx [(B10,dV ⟨0,2,4,false⟩,78),(B5,aC jy,26),(B1,aC kM,26)])
     case first=>
      have ad4:∀ W:World,Bx w W [(B5,aC jy,26),(B1,aC kM,26)]→W.rangeAt (B5) 0 (aC jy):=fun W h=>h.rng 0 rfl 0 _ rfl;have hL:=hL.drew;refine wp_region_held_drew (S:=(fun w':World=>Bx w w' [(B5,aC jy,26),(B1,aC kM,26)])) (by kernel_rfl) ?dJ (fun hHeld=>?_)
      case dJ=>exact hL
      refine bD 1 ad4 Tryz.underlying26 ?_;refine iR 0 9 (fun K hK=>?_) fun K hK=>?_
      · go_simp
        (go_at_call 59;refine (je _).mono ?_;rintro e ZI ⟨rfl,IV⟩)
        have hL:=hL.call IV;refine ak hK (by first | exact hL | exact hL.tail) fun hHeld=>?_;clear hK K;refine iR 2 9 (fun K hK=>?_) fun K hK=>?_
        · go_simp
          (go_at_call 60;refine (jP _).mono ?_;rintro e Lm ⟨l,g,rfl,hfl,hrd,AU⟩)
          have hL:=hL.call AU;obtain ⟨x1,x2,x5,x6,gg,rfl,_⟩:=hfl;have hF:=fun W (h:Below (Lm).heap.size Lm W)=>And.intro ((hrd.2 (vZ gg) (by simp [vZ])).below h) (World.qF (BQ hrd 2 (by simp)) h (hrd.lt (by simp)));refine ak hK (by first | exact hL | exact hL.tail) fun hHeld=>?_;clear hK K;refine aA 3 ?_;refine iR 4 9 (fun K hK=>?_) fun K hK=>?_
          · (refine Lh (cs:=dn (vZ gg)) (hF _ (by first | exact Below.refl _ _ | exact (Below.refl _ _).alloc (Nat.le_refl _) _)).2 Tryz.underlying83 rfl bI (.tmp 68) rfl rfl ?_)
            refine ak hK (by first | exact hL | exact hL.tail) fun hHeld=>?_;clear hK K;refine iR 5 9 (fun K hK=>?_) fun K hK=>?_
            · go_simp
              (go_at_call 43;refine (DI eP jy _ _ ny.1 ny.2 _ (vZ gg) rfl _ (hF _ (by first | exact Below.refl _ _ | exact (Below.refl _ _).alloc (Nat.le_refl _) _)).1).mono ?_;rintro e Xa ⟨rfl,tZ⟩)
              have hL:=hL.call tZ;refine ak hK (by first | exact hL | exact hL.tail) fun hHeld=>?_;clear hK K;refine aA 6 ?_;refine aA 7 ?_;refine aA 8 ?_;refine aB 9 fun K hK=>?_;go_simp;have hL:=hL.add (dV ⟨0,0,0,false⟩) 78;refine ak hK (hL.tail) fun hHeld=>?_;clear hK K;refine aB 10 fun K hK=>?_;refine aQ hL.head (dV ⟨0,2,4,false⟩) rfl dS (fZ _) (.tmp 10) (.tmp 71) rfl rfl rfl ?_;have hL:=hL.put (dV ⟨0,2,4,false⟩) rfl;refine ak hK (hL.tail) fun hHeld=>?_;clear hK K;refine aA 11 ?_;refine wpAnyH_done (by kernel_rfl) ?_ _;go_wp2;go_meet;exact ⟨_,rfl,rfl,hL⟩
            · go_simp
              have hL:=hL.add (dV ⟨0,0,0,false⟩) 78;refine ak hK (hL.tail) fun hHeld=>?_;clear hK K;refine aB 5 fun K hK=>?_;go_simp
              (go_at_call 43;refine (DI eP jy _ _ ny.1 ny.2 _ (vZ gg) rfl _ (hF _ (by first | exact Below.refl _ _ | exact (Below.refl _ _).alloc (Nat.le_refl _) _)).1).mono ?_;rintro e Xa ⟨rfl,tZ⟩)
              have hL:=hL.call tZ;refine ak hK (by first | exact hL | exact hL.tail) fun hHeld=>?_;clear hK K;refine aA 6 ?_;refine aA 7 ?_;refine aA 8 ?_;refine aB 10 fun K hK=>?_;refine aQ hL.head (dV ⟨0,2,4,false⟩) rfl dS (fZ _) (.tmp 10) (.tmp 71) rfl rfl rfl ?_;have hL:=hL.put (dV ⟨0,2,4,false⟩) rfl;refine ak hK (hL.tail) fun hHeld=>?_;clear hK K;refine aA 11 ?_;refine wpAnyH_done (by kernel_rfl) ?_ _;go_wp2;go_meet;exact ⟨_,rfl,rfl,hL⟩
          · go_simp
            have hL:=hL.add (dV ⟨0,0,0,false⟩) 78;refine ak hK (hL.tail) fun hHeld=>?_;clear hK K;refine aB 4 fun K hK=>?_
            (refine Lh (cs:=dn (vZ gg)) (hF _ (by first | exact Below.refl _ _ | exact (Below.refl _ _).alloc (Nat.le_refl _) _)).2 Tryz.underlying83 rfl bI (.tmp 68) rfl rfl ?_)
            refine ak hK (by first | exact hL | exact hL.tail) fun hHeld=>?_;clear hK K;refine aB 5 fun K hK=>?_;go_simp
            (go_at_call 43;refine (DI eP jy _ _ ny.1 ny.2 _ (vZ gg) rfl _ (hF _ (by first | exact Below.refl _ _ | exact (Below.refl _ _).alloc (Nat.le_refl _) _)).1).mono ?_;rintro e Xa ⟨rfl,tZ⟩)
            have hL:=hL.call tZ;refine ak hK (by first | exact hL | exact hL.tail) fun hHeld=>?_;clear hK K;refine aA 6 ?_;refine aA 7 ?_;refine aA 8 ?_;refine aB 10 fun K hK=>?_;refine aQ hL.head (dV ⟨0,2,4,false⟩) rfl dS (fZ _) (.tmp 10) (.tmp 71) rfl rfl rfl ?_;have hL:=hL.put (dV ⟨0,2,4,false⟩) rfl;refine ak hK (hL.tail) fun hHeld=>?_;clear hK K;refine aA 11 ?_;refine wpAnyH_done (by kernel_rfl) ?_ _;go_wp2;go_meet;exact ⟨_,rfl,rfl,hL⟩
        · go_simp
          have hL:=hL.add (dV ⟨0,0,0,false⟩) 78;refine ak hK (hL.tail) fun hHeld=>?_;clear hK K;refine aB 2 fun K hK=>?_;go_simp
          (go_at_call 60;refine (jP _).mono ?_;rintro e Lm ⟨l,g,rfl,hfl,hrd,AU⟩)
          have hL:=hL.call AU;obtain ⟨x1,x2,x5,x6,gg,rfl,_⟩:=hfl;have hF:=fun W (h:Below (Lm).heap.size Lm W)=>And.intro ((hrd.2 (vZ gg) (by simp [vZ])).below h) (World.qF (BQ hrd 2 (by simp)) h (hrd.lt (by simp)));refine ak hK (by first | exact hL | exact hL.tail) fun hHeld=>?_;clear hK K;refine aA 3 ?_;refine aB 4 fun K hK=>?_
          (refine Lh (cs:=dn (vZ gg)) (hF _ (by first | exact Below.refl _ _ | exact (Below.refl _ _).alloc (Nat.le_refl _) _)).2 Tryz.underlying83 rfl bI (.tmp 68) rfl rfl ?_)
          refine ak hK (by first | exact hL | exact hL.tail) fun hHeld=>?_;clear hK K;refine aB 5 fun K hK=>?_;go_simp
          (go_at_call 43;refine (DI eP jy _ _ ny.1 ny.2 _ (vZ gg) rfl _ (hF _ (by first | exact Below.refl _ _ | exact (Below.refl _ _).alloc (Nat.le_refl _) _)).1).mono ?_;rintro e Xa ⟨rfl,tZ⟩)
          have hL:=hL.call tZ;refine ak hK (by first | exact hL | exact hL.tail) fun hHeld=>?_;clear hK K;refine aA 6 ?_;refine aA 7 ?_;refine aA 8 ?_;refine aB 10 fun K hK=>?_;refine aQ hL.head (dV ⟨0,2,4,false⟩) rfl dS (fZ _) (.tmp 10) (.tmp 71) rfl rfl rfl ?_;have hL:=hL.put (dV ⟨0,2,4,false⟩) rfl;refine ak hK (hL.tail) fun hHeld=>?_;clear hK K;refine aA 11 ?_;refine wpAnyH_done (by kernel_rfl) ?_ _;go_wp2;go_meet;exact ⟨_,rfl,rfl,hL⟩
      · go_simp
        have hL:=hL.add (dV ⟨0,0,0,false⟩) 78;refine ak hK (hL.tail) fun hHeld=>?_;clear hK K;refine aB 0 fun K hK=>?_;go_simp
        (go_at_call 59;refine (je _).mono ?_;rintro e ZI ⟨rfl,IV⟩)
        have hL:=hL.call IV;refine ak hK (by first | exact hL | exact hL.tail) fun hHeld=>?_;clear hK K;refine aB 2 fun K hK=>?_;go_simp
        (go_at_call 60;refine (jP _).mono ?_;rintro e Lm ⟨l,g,rfl,hfl,hrd,AU⟩)
        have hL:=hL.call AU;obtain ⟨x1,x2,x5,x6,gg,rfl,_⟩:=hfl;have hF:=fun W (h:Below (Lm).heap.size Lm W)=>And.intro ((hrd.2 (vZ gg) (by simp [vZ])).below h) (World.qF (BQ hrd 2 (by simp)) h (hrd.lt (by simp)));refine ak hK (by first | exact hL | exact hL.tail) fun hHeld=>?_;clear hK K;refine aA 3 ?_;refine aB 4 fun K hK=>?_
        (refine Lh (cs:=dn (vZ gg)) (hF _ (by first | exact Below.refl _ _ | exact (Below.refl _ _).alloc (Nat.le_refl _) _)).2 Tryz.underlying83 rfl bI (.tmp 68) rfl rfl ?_)
        refine ak hK (by first | exact hL | exact hL.tail) fun hHeld=>?_;clear hK K;refine aB 5 fun K hK=>?_;go_simp
        (go_at_call 43;refine (DI eP jy _ _ ny.1 ny.2 _ (vZ gg) rfl _ (hF _ (by first | exact Below.refl _ _ | exact (Below.refl _ _).alloc (Nat.le_refl _) _)).1).mono ?_;rintro e Xa ⟨rfl,tZ⟩)
        have hL:=hL.call tZ;refine ak hK (by first | exact hL | exact hL.tail) fun hHeld=>?_;clear hK K;refine aA 6 ?_;refine aA 7 ?_;refine aA 8 ?_;refine aB 10 fun K hK=>?_;refine aQ hL.head (dV ⟨0,2,4,false⟩) rfl dS (fZ _) (.tmp 10) (.tmp 71) rfl rfl rfl ?_;have hL:=hL.put (dV ⟨0,2,4,false⟩) rfl;refine ak hK (hL.tail) fun hHeld=>?_;clear hK K;refine aA 11 ?_;refine wpAnyH_done (by kernel_rfl) ?_ _;go_wp2;go_meet;exact ⟨_,rfl,rfl,hL⟩
     case rest=>
      obtain ⟨B10,rfl,rfl,hL⟩:=hcut
      go_upto_region 6 with (fail)
      go_cut [12,13,14] from 73 to 80 (fun v12 v13 v14 wx=>∃ (pW:Nat) (A13:Option Addr) (c13:Nat),v12=ptr pW∧v13= .slice A13 0 c13∧v14= .int .i64 0∧Bx w wx [(pW,aC jR,26),(B10,dV ⟨0,2,4,false⟩,78),(B5,aC jy,26),(B1,aC kM,26)])
      case first=>
       go_wp2_with (first | (go_at_call 59;refine (je _).mono ?_;rintro e w1 ⟨rfl,hb1⟩;have hL:=hL.call hb1) | (go_at_call 60;refine (jP _).mono ?_;rintro e w2 ⟨l,g,rfl,hfl,hrd,hb2⟩;have hL:=hL.call hb2) | (go_at_call 25;refine (OQ eP l9 jR 6 Ep.2 LD KE.2 _ l _ 6 hfl.bare hfl.len _ hrd).mono ?_;rintro e w3 ⟨⟨A2,c2,rfl⟩,hb3⟩;have hL:=hL.call hb3) | ((with_reducible refine isS 26 12 77 ?_);refine fU ((hL.add [.int .i64 0,.int .i64 0,.int .i64 0,.int .i64 0,.string ⟨#[]⟩,.int .i64 0,.int .i64 0,.bool false,.bool false,.int .i64 0,.int .i64 0,.int .i64 0,.int .i64 0] 26).head) (aC jR) aj (aT _) ?_))
       go_meet;exact ⟨_,A2,c2,rfl,rfl,rfl,(hL.add [.int .i64 0,.int .i64 0,.int .i64 0,.int .i64 0,.string ⟨#[]⟩,.int .i64 0,.int .i64 0,.bool false,.bool false,.int .i64 0,.int .i64 0,.int .i64 0,.int .i64 0] 26).put (aC jR) rfl⟩
      case rest=>
       obtain ⟨pW,A13,c13,rfl,rfl,rfl,hL⟩:=hcut
       go_upto_region 7 with (fail)
       go_cut [15,16] from 80 to 86 (fun v15 v16 wx=>v15= .string ⟨#[56,58,56,32,102,105,110,97,108,32,51]⟩∧v16= .int .i64 0∧Bx w wx [(pW,aC jR,26),(B10,dV ⟨0,2,4,false⟩,78),(B5,aC jy,26),(B1,aC kM,26)])
       case first=>
        have aeF:∀ W:World,Bx w W [(pW,aC jR,26),(B10,dV ⟨0,2,4,false⟩,78),(B5,aC jy,26),(B1,aC kM,26)]→W.rangeAt (pW) 0 (aC jR):=fun W h=>h.rng 0 rfl 0 _ rfl;have hL:=hL.drew;refine wp_region_held_drew (S:=(fun w':World=>Bx w w' [(pW,aC jR,26),(B10,dV ⟨0,2,4,false⟩,78),(B5,aC jy,26),(B1,aC kM,26)])) (by kernel_rfl) ?gW (fun hHeld=>?_)
        case gW=>exact hL
        refine bD 1 aeF Tryz.underlying26 ?_;refine aB 0 fun K hK=>?_;go_simp
        (go_at_call 59;refine (je _).mono ?_;rintro e w7a ⟨rfl,anP⟩)
        have hL:=hL.call anP;refine ak hK (hL) fun hHeld=>?_;clear hK K;refine aB 2 fun K hK=>?_;go_simp
        (go_at_call 39;refine (Ut _ (hg.below hL.bw)).mono ?_;rintro e w7b ⟨rfl,anW⟩)
        have hL:=hL.call anW;refine ak hK (hL) fun hHeld=>?_;clear hK K;refine aA 3 ?_;refine aA 4 ?_;refine aA 5 ?_;refine aA 6 ?_;refine aA 7 ?_;refine wpAnyH_done (by kernel_rfl) ?_ _;go_wp2;go_meet;exact ⟨rfl,rfl,hL⟩
       case rest=>
        obtain ⟨rfl,rfl,hL⟩:=hcut
        go_upto_region 8 with (fail)
        go_cut [17,18] from 86 to 92 (fun v17 v18 wx=>v17= .int .i64 25∧v18= .int .i64 0∧Bx w wx [(pW,aC jR,26),(B10,dV ⟨0,2,4,false⟩,78),(B5,aC jy,26),(B1,aC kM,26)])
        case first=>
         have aeT:∀ W:World,Bx w W [(pW,aC jR,26),(B10,dV ⟨0,2,4,false⟩,78),(B5,aC jy,26),(B1,aC kM,26)]→W.rangeAt (pW) 0 (aC jR):=fun W h=>h.rng 0 rfl 0 _ rfl;have hL:=hL.drew;refine wp_region_held_drew (S:=(fun w':World=>Bx w w' [(pW,aC jR,26),(B10,dV ⟨0,2,4,false⟩,78),(B5,aC jy,26),(B1,aC kM,26)])) (by kernel_rfl) ?mG (fun hHeld=>?_)
         case mG=>exact hL
         refine bD 1 aeT Tryz.underlying26 ?_;refine aB 0 fun K hK=>?_;go_simp
         (go_at_call 59;refine (je _).mono ?_;rintro e w8a ⟨rfl,PL⟩)
         have hL:=hL.call PL;refine ak hK (hL) fun hHeld=>?_;clear hK K;refine aB 2 fun K hK=>?_;go_simp
         (go_at_call 37;refine (Ur _).mono ?_;rintro e w8b ⟨rfl,IX⟩)
         have hL:=hL.call IX;refine ak hK (hL) fun hHeld=>?_;clear hK K;refine aA 3 ?_;refine aA 4 ?_;refine aA 5 ?_;refine aA 6 ?_;refine aA 7 ?_;refine wpAnyH_done (by kernel_rfl) ?_ _;go_wp2;go_meet;exact ⟨rfl,rfl,hL⟩
        case rest=>
         obtain ⟨rfl,rfl,hL⟩:=hcut
         go_upto_region 9 with (fail)
         go_cut [19,20] from 92 to 98 (fun v19 v20 wx=>∃ (VU:Option Addr) (c19:Nat),v19= .slice VU 1 c19∧v20= .int .i64 0∧Bx w wx [(pW,aC jR,26),(B10,dV ⟨0,2,4,false⟩,78),(B5,aC jy,26),(B1,aC kM,26)]∧nI wx (fun _=>True) VU c19 [8])
         case first=>
          go_wp2_with (first | (go_at_call 59;refine (je _).mono ?_;rintro e w1 ⟨rfl,hb1⟩;have hL:=hL.call hb1) | (go_at_call 60;refine (jP _).mono ?_;rintro e w2 ⟨l,g,rfl,hfl,hrd,hb2⟩;have hL:=hL.call hb2) | (go_at_call 26;refine (Wh 0 8 (by kernel_rfl) (by kernel_rfl) _ l _ 6 hfl _ hrd).mono ?_;rintro e w3 ⟨A3,c3,rfl,hr3,hb3⟩;have hL:=hL.call hb3))
          go_meet;exact ⟨A3,c3,rfl,rfl,hL,hr3⟩
         case rest=>
          obtain ⟨VU,c19,rfl,rfl,hL,h19⟩:=hcut
          go_upto_region 10 with (fail)
          go_cut [21,22] from 98 to 104 (fun v21 v22 wx=>∃ (Xe:Option Addr) (c21:Nat),v21= .slice Xe 1 c21∧v22= .int .i64 0∧Bx w wx [(pW,aC jR,26),(B10,dV ⟨0,2,4,false⟩,78),(B5,aC jy,26),(B1,aC kM,26)]∧nI wx (fun _=>True) Xe c21 [4]∧nI wx (fun _=>True) VU c19 [8])
          case first=>
           go_wp2_with (first | (go_at_call 59;refine (je _).mono ?_;rintro e w1 ⟨rfl,hb1⟩;have hL:=hL.call hb1;have h19:=Reads.below h19 hb1) | (go_at_call 60;refine (jP _).mono ?_;rintro e w2 ⟨l,g,rfl,hfl,hrd,hb2⟩;have hL:=hL.call hb2;have h19:=Reads.below h19 hb2) | (go_at_call 26;refine (Wh 1 4 (by kernel_rfl) (by kernel_rfl) _ l _ 6 hfl _ hrd).mono ?_;rintro e w3 ⟨A3,c3,rfl,hr3,hb3⟩;have hL:=hL.call hb3;have h19:=Reads.below h19 hb3))
           go_meet;exact ⟨A3,c3,rfl,rfl,hL,hr3,h19⟩
          case rest=>
           obtain ⟨Xe,c21,rfl,rfl,hL,h21,h19⟩:=hcut
           go_upto_region 11 with (fail)
           go_cut [23,24] from 104 to 114 (fun v23 v24 wx=>v23= .int .i64 2∧v24= .int .i64 0∧Bx w wx [(pW,aC jR,26),(B10,dV ⟨0,2,4,false⟩,78),(B5,aC jy,26),(B1,aC kM,26)]∧nI wx (fun _=>True) VU c19 [8]∧nI wx (fun _=>True) Xe c21 [4])
           case first=>
            go_wp2_with (first | (go_at_call 59;refine (je _).mono ?_;rintro e w1 ⟨rfl,hb1⟩;have hL:=hL.call hb1;have h19:=Reads.below h19 hb1;have h21:=Reads.below h21 hb1) | (go_at_call 60;refine (jP _).mono ?_;rintro e w2 ⟨l,g,rfl,hfl,hrd,hb2⟩;have hL:=hL.call hb2;have h19:=Reads.below h19 hb2;have h21:=Reads.below h21 hb2) | (go_at_call 34;refine (ZW _ (fun _:Nat=>True) (l.take 2) _ _ 6 2 (by unfold bare;rw [List.map_take];exact congrArg (List.take 2) hfl.bare) _ (ni.below (hrd.take 2 (by rw [hfl.len];omega)) ((Below.refl _ _).alloc (Nat.le_refl _) _)) (Reads.lit w2 24 (fun _:Nat=>True) 2 2 [.int .i64 1,.int .i64 0,.int .i64 7,.int .i64 0] (by omega) rfl trivial)).mono ?_;rintro e w3 ⟨rfl,hb3⟩;have hL:=(hL.alloc _).call hb3;have h19:=Reads.below (Reads.alloc h19 _) hb3;have h21:=Reads.below (Reads.alloc h21 _) hb3))
            go_meet;exact ⟨rfl,rfl,hL,h19,h21⟩
           case rest=>
            obtain ⟨rfl,rfl,hL,h19,h21⟩:=hcut
            go_upto_region 12 with (fail)
            go_cut [25] from 114 to 115 (fun v25 wx=>∃ (CP:Nat),v25=ptr CP∧Bx w wx [(CP,aC jR,26),(pW,aC jR,26),(B10,dV ⟨0,2,4,false⟩,78),(B5,aC jy,26),(B1,aC kM,26)]∧nI wx (fun b=>b<CP) VU c19 [8]∧nI wx (fun b=>b<CP) Xe c21 [4])
            case first=>
             go_wp2_with (first | ((with_reducible refine bJ 26 12 ?_);refine ig (hL.rn 0 0 (aC jR)) Tryz.underlying26 aj ?_) | ((with_reducible refine iy 26 12 ?_);refine kP (hL.rn 0 0 (aC jR)) Tryz.underlying26 aj ?_) | ((with_reducible refine isS 26 25 114 ?_);refine fU ((hL.add [.int .i64 0,.int .i64 0,.int .i64 0,.int .i64 0,.string ⟨#[]⟩,.int .i64 0,.int .i64 0,.bool false,.bool false,.int .i64 0,.int .i64 0,.int .i64 0,.int .i64 0] 26).head) (aC jR) aj (aT _) ?_))
             go_meet;exact ⟨_,rfl,(hL.add [.int .i64 0,.int .i64 0,.int .i64 0,.int .i64 0,.string ⟨#[]⟩,.int .i64 0,.int .i64 0,.bool false,.bool false,.int .i64 0,.int .i64 0,.int .i64 0,.int .i64 0] 26).put (aC jR) rfl,Reads.WX (Reads.lts h19) hL,Reads.WX (Reads.lts h21) hL⟩
            case rest=>
             obtain ⟨CP,rfl,hL,h19,h21⟩:=hcut;have k1:=hL.head.cell (j:=1) rfl;have WO:=hL.head.frozen 1;have k2:=hL.head.cell (j:=2) rfl;have kf2:=hL.head.frozen 2;have k3:=hL.head.cell (j:=3) rfl;have kf3:=hL.head.frozen 3;have hS:=((hL.set 1 (.int .i64 40)).set 2 (.int .i64 0)).set 3 (.int .i64 0)
             go_upto_region 13 with (fail)
             go_cut [] from 115 to 118 (fun wx=>Bx w wx [(CP,aC xk,26),(pW,aC jR,26),(B10,dV ⟨0,2,4,false⟩,78),(B5,aC jy,26),(B1,aC kM,26)]∧nI wx (fun b=>b<CP) VU c19 [8]∧nI wx (fun b=>b<CP) Xe c21 [4])
             case first=>
              go_wp2;go_meet;exact ⟨hS,Reads.setCell (Reads.setCell (Reads.setCell h19 (p:=⟨CP,1,none⟩) (Nat.lt_irrefl _) _) (p:=⟨CP,2,none⟩) (Nat.lt_irrefl _) _) (p:=⟨CP,3,none⟩) (Nat.lt_irrefl _) _,Reads.setCell (Reads.setCell (Reads.setCell h21 (p:=⟨CP,1,none⟩) (Nat.lt_irrefl _) _) (p:=⟨CP,2,none⟩) (Nat.lt_irrefl _) _) (p:=⟨CP,3,none⟩) (Nat.lt_irrefl _) _⟩
             case rest=>
              obtain ⟨hL,h19,h21⟩:=hcut
              go_upto_region 14 with (fail)
              go_cut [26,27] from 118 to 124 (fun v26 v27 wx=>v26= .int .i64 4∧v27= .int .i64 0∧Bx w wx [(CP,aC xk,26),(pW,aC jR,26),(B10,dV ⟨0,2,4,false⟩,78),(B5,aC jy,26),(B1,aC kM,26)]∧nI wx (fun b=>b<CP) VU c19 [8]∧nI wx (fun b=>b<CP) Xe c21 [4])
              case first=>
               have h19:=Reads.drew h19;have h21:=Reads.drew h21;have X8:∀ W:World,Bx w W [(CP,aC xk,26),(pW,aC jR,26),(B10,dV ⟨0,2,4,false⟩,78),(B5,aC jy,26),(B1,aC kM,26)]→W.rangeAt (CP) 0 (aC xk):=fun W h=>h.rng 0 rfl 0 _ rfl;have hL:=hL.drew;refine wp_region_held_drew (S:=(fun w':World=>Bx w w' [(CP,aC xk,26),(pW,aC jR,26),(B10,dV ⟨0,2,4,false⟩,78),(B5,aC jy,26),(B1,aC kM,26)])) (by kernel_rfl) ?mJ (fun hHeld=>?_)
               case mJ=>exact hL
               refine bD 1 X8 Tryz.underlying26 ?_;refine aB 0 fun K hK=>?_;go_simp
               (go_at_call 59;refine (je _).mono ?_;rintro e aCv ⟨rfl,Pz⟩)
               have hL:=hL.call Pz;have h19:=Reads.below h19 Pz;have h21:=Reads.below h21 Pz;refine ak hK (hL) fun hHeld=>?_;clear hK K;refine aB 2 fun K hK=>?_;go_simp
               (go_at_call 38;refine (Xv _).mono ?_;rintro e aCC ⟨rfl,PD⟩)
               have hL:=hL.call PD;have h19:=Reads.below h19 PD;have h21:=Reads.below h21 PD;refine ak hK (hL) fun hHeld=>?_;clear hK K;refine aA 3 ?_;refine aA 4 ?_;refine aA 5 ?_;refine aA 6 ?_;refine aA 7 ?_;refine wpAnyH_done (by kernel_rfl) ?_ _;go_wp2;go_meet;exact ⟨rfl,rfl,hL,h19,h21⟩
              case rest=>
               obtain ⟨rfl,rfl,hL,h19,h21⟩:=hcut
               have he1:((⟨#[56,58,48,32,102,105,110,97,108,32,50]⟩:ByteArray).toList == [56,58,48,32,102,105,110,97,108,32,50])=true:=by rw [ByteArray.toList_eq];rfl
               have he2:((⟨#[56,58,56,32,102,105,110,97,108,32,51]⟩:ByteArray).toList == [56,58,56,32,102,105,110,97,108,32,51])=true:=by rw [ByteArray.toList_eq];rfl
               have hv1:∀ W,(binOp .neq 78 (.agg #[.int .i64 0,.int .i64 2,.int .i64 4,.bool false]) (.agg #[.int .i64 0,.int .i64 2,.int .i64 4,.bool false])).run Tryz.prog W= .ok (.bool false) W:=fun W=>by kernel_rfl
               have dd8:decide (([8]:List Int)=[8])=true:=rfl;have dd4:decide (([4]:List Int)=[4])=true:=rfl;have tk1:=hide True.intro;have kv0:=(hL.get 2 rfl).cell (j:=0) rfl;have kv1:=(hL.get 2 rfl).cell (j:=1) rfl;have TV:=(hL.get 2 rfl).cell (j:=2) rfl;have kv3:=(hL.get 2 rfl).cell (j:=3) rfl
               go_upto_region 17 with (first | (clear tk1;go_at_call 61;refine (uH (fun b=>b<CP) (fun _:Nat=>True) [8] [8] _ _ _ 1 _ (Reads.alloc h19 _) (nI.lit _ _ [8] (by simp) (fun _:Nat=>True) trivial)).mono ?_;rintro e w5 ⟨rfl,hb5⟩;have h21:=Reads.below (Reads.alloc h21 _) hb5;have hL:=(hL.alloc _).call hb5) | (go_at_call 61;refine (uH (fun b=>b<CP) (fun _:Nat=>True) [4] [4] _ _ _ 1 _ (Reads.alloc h21 _) (nI.lit _ _ [4] (by simp) (fun _:Nat=>True) trivial)).mono ?_;rintro e w6 ⟨rfl,hb6⟩;have hL:=(hL.alloc _).call hb6))
               replace hL:Bx w _ []:=⟨hL.bw,fun p h=>(nomatch h),List.Pairwise.nil⟩;clear he1 he2 hv1 dd8 dd4
               go_upto_region 17 with (fail)
               go_cut [28] from 194 to 195 (fun v28 wx=>∃ (Om:Nat),v28=ptr Om∧Bx w wx [(Om,bK kR,23)])
               case first=>
                go_wp2_with (first | ((with_reducible refine isS 23 28 194 ?_);refine fU ((hL.add [.string ⟨#[]⟩,.int .i64 0,.int .i64 0,.int .i64 0] 23).head) (bK kR) dQ (Ew _) ?_))
                go_meet;exact ⟨_,rfl,(hL.add [.string ⟨#[]⟩,.int .i64 0,.int .i64 0,.int .i64 0] 23).put (bK kR) rfl⟩
               case rest=>
                obtain ⟨Om,rfl,hL⟩:=hcut
                go_upto_region 18 with (fail)
                go_cut [2,29] from 195 to 200 (fun v2 v29 wx=>∃ (TN:Nat),v2= .int .i64 0∧v29=ptr TN∧Bx w wx [(TN,aC tX,26),(Om,bK kR,23)])
                case first=>
                 go_wp2_with (first | ((with_reducible refine bJ 23 28 ?_);refine ig (hL.rn 0 0 (bK kR)) Tryz.underlying23 dQ ?_) | ((with_reducible refine iy 23 28 ?_);refine kP (hL.rn 0 0 (bK kR)) Tryz.underlying23 dQ ?_) | (go_at_call 22;refine (OT _).mono ?_;rintro e w2 ⟨rfl,hb2⟩;have hL:=hL.call hb2) | ((with_reducible refine isS 26 29 198 ?_);refine fU ((hL.add [.int .i64 0,.int .i64 0,.int .i64 0,.int .i64 0,.string ⟨#[]⟩,.int .i64 0,.int .i64 0,.bool false,.bool false,.int .i64 0,.int .i64 0,.int .i64 0,.int .i64 0] 26).head) (aC tX) aj (aT _) ?_))
                 go_meet;exact ⟨_,rfl,rfl,(hL.add [.int .i64 0,.int .i64 0,.int .i64 0,.int .i64 0,.string ⟨#[]⟩,.int .i64 0,.int .i64 0,.bool false,.bool false,.int .i64 0,.int .i64 0,.int .i64 0,.int .i64 0] 26).put (aC tX) rfl⟩
                case rest=>
                 obtain ⟨TN,rfl,rfl,hL⟩:=hcut
                 go_upto_region 19 with (fail)
                 go_cut [4,30] from 200 to 209 (fun v4 v30 wx=>∃ (Ud:Nat),v4= .int .i64 0∧v30=ptr Ud∧Bx w wx [(Ud,dV ⟨8,0,0,true⟩,78),(TN,aC tX,26),(Om,bK kR,23)])
                 case first=>
                  go_wp2_with (first | ((with_reducible refine bJ 23 28 ?_);refine ig (hL.rn 1 0 (bK kR)) Tryz.underlying23 dQ ?_) | ((with_reducible refine iy 23 28 ?_);refine kP (hL.rn 1 0 (bK kR)) Tryz.underlying23 dQ ?_) | ((with_reducible refine bJ 26 29 ?_);refine ig (hL.rn 0 0 (aC tX)) Tryz.underlying26 aj ?_) | ((with_reducible refine iy 26 29 ?_);refine kP (hL.rn 0 0 (aC tX)) Tryz.underlying26 aj ?_) | (go_at_call 43;refine (DI kR tX zU ⟨8,0,0,true⟩ KD.1 KD.2 (fun _:Nat=>True) ⟨zU,some ⟨wc.heap.size,0,none⟩,2,some ⟨wc.heap.size+1,0,none⟩,2⟩ rfl _ ⟨Reads.alloc (Reads.lit wc 9 (fun _:Nat=>True) 1 2 [.string Sk.bG,.string Sk.bM] (by omega) rfl trivial) _,Y1 wc 9 9 [.string Sk.bG,.string Sk.bM] [.string Sk.bG,.string Sk.bf] rfl⟩).mono ?_;rintro e w3 ⟨rfl,hb3⟩;have hL:=((hL.alloc _).alloc _).call hb3) | ((with_reducible refine isS 78 30 207 ?_);refine fU ((hL.add (dV ⟨0,0,0,false⟩) 78).head) (dV ⟨8,0,0,true⟩) dS (fZ _) ?_))
                  go_meet;exact ⟨_,rfl,rfl,(hL.add (dV ⟨0,0,0,false⟩) 78).put (dV ⟨8,0,0,true⟩) rfl⟩
                 case rest=>
                  obtain ⟨Ud,rfl,rfl,hL⟩:=hcut
                  go_upto_region 20 with (fail)
                  go_cut [31] from 209 to 210 (fun v31 wx=>∃ (VX:Nat),v31=ptr VX∧Bx w wx [(VX,bK kX,23),(Ud,dV ⟨8,0,0,true⟩,78),(TN,aC tX,26),(Om,bK kR,23)])
                  case first=>
                   go_wp2_with (first | ((with_reducible refine isS 23 31 209 ?_);refine fU ((hL.add [.string ⟨#[]⟩,.int .i64 0,.int .i64 0,.int .i64 0] 23).head) (bK kX) dQ (Ew _) ?_))
                   go_meet;exact ⟨_,rfl,(hL.add [.string ⟨#[]⟩,.int .i64 0,.int .i64 0,.int .i64 0] 23).put (bK kX) rfl⟩
                  case rest=>
                   obtain ⟨VX,rfl,hL⟩:=hcut
                   go_upto_region 21 with (fail)
                   go_cut [32] from 210 to 212 (fun v32 wx=>∃ (Xg:Nat) (KG:Nat),v32=ptr Xg∧Bx w wx [(Xg,(dn ⟨iZ,some ⟨KG,0,none⟩,2,none,0⟩),83),(VX,bK kX,23),(Ud,dV ⟨8,0,0,true⟩,78),(TN,aC tX,26),(Om,bK kR,23)]∧Reads wx (fun _:Nat=>True) 1 (some ⟨KG,0,none⟩) 2 2 [.string Sk.bG,.string Sk.bM])
                   case first=>
                    go_wp2_with (first | ((with_reducible refine isS 83 32 211 ?_);refine fU (((hL.alloc (.cells ([.string Sk.bG,.string Sk.bM]:List Value).toArray 9)).Kw [.string ⟨#[]⟩,.string ⟨#[]⟩,.slice none 0 0,.slice none 0 0,.int .i64 0] 83 (g:=wc.heap.size+1) (by simp)).head) ((dn ⟨iZ,some ⟨wc.heap.size,0,none⟩,2,none,0⟩)) bI (zT _) ?_))
                    go_meet;exact ⟨_,wc.heap.size,rfl,((hL.alloc (.cells ([.string Sk.bG,.string Sk.bM]:List Value).toArray 9)).Kw [.string ⟨#[]⟩,.string ⟨#[]⟩,.slice none 0 0,.slice none 0 0,.int .i64 0] 83 (g:=wc.heap.size+1) (by simp)).put (dn ⟨iZ,some ⟨wc.heap.size,0,none⟩,2,none,0⟩) rfl,Reads.S9 (Reads.lit wc 9 (fun _:Nat=>True) 1 2 [.string Sk.bG,.string Sk.bM] (by omega) rfl trivial) (by simp)⟩
                   case rest=>
                    obtain ⟨Xg,KG,rfl,hL,h32⟩:=hcut
                    go_upto_region 22 with (fail)
                    go_cut [33] from 212 to 214 (fun v33 wx=>∃ (Zd:Nat) (Oc:Nat),v33=ptr Zd∧Bx w wx [(Zd,(dn ⟨jh,some ⟨Oc,0,none⟩,2,none,0⟩),83),(Xg,(dn ⟨iZ,some ⟨KG,0,none⟩,2,none,0⟩),83),(VX,bK kX,23),(Ud,dV ⟨8,0,0,true⟩,78),(TN,aC tX,26),(Om,bK kR,23)]∧Reads wx (fun _:Nat=>True) 1 (some ⟨Oc,0,none⟩) 2 2 [.string Sk.bf,.string Sk.bG]∧Reads wx (fun _:Nat=>True) 1 (some ⟨KG,0,none⟩) 2 2 [.string Sk.bG,.string Sk.bM])
                    case first=>
                     go_wp2_with (first | ((with_reducible refine isS 83 33 213 ?_);refine fU (((hL.alloc (.cells ([.string Sk.bf,.string Sk.bG]:List Value).toArray 9)).Kw [.string ⟨#[]⟩,.string ⟨#[]⟩,.slice none 0 0,.slice none 0 0,.int .i64 0] 83 (g:=wc.heap.size+1) (by simp)).head) ((dn ⟨jh,some ⟨wc.heap.size,0,none⟩,2,none,0⟩)) bI (zT _) ?_))
                     go_meet;exact ⟨_,wc.heap.size,rfl,((hL.alloc (.cells ([.string Sk.bf,.string Sk.bG]:List Value).toArray 9)).Kw [.string ⟨#[]⟩,.string ⟨#[]⟩,.slice none 0 0,.slice none 0 0,.int .i64 0] 83 (g:=wc.heap.size+1) (by simp)).put (dn ⟨jh,some ⟨wc.heap.size,0,none⟩,2,none,0⟩) rfl,Reads.S9 (Reads.lit wc 9 (fun _:Nat=>True) 1 2 [.string Sk.bf,.string Sk.bG] (by omega) rfl trivial) (by simp),Reads.S9 (Reads.alloc h32 _) (by simp)⟩
                    case rest=>
                     obtain ⟨Zd,Oc,rfl,hL,h33,h32⟩:=hcut
                     go_upto_region 23 with (fail)
                     go_cut [7,34,35] from 214 to 225 (fun v7 v34 v35 wx=>∃ (ZN:Nat) (A35:Option Addr) (c35:Nat),v7= .int .i64 0∧v34=ptr ZN∧v35= .slice A35 0 c35∧Bx w wx [(ZN,aC vJ,26),(Zd,(dn ⟨jh,some ⟨Oc,0,none⟩,2,none,0⟩),83),(Xg,(dn ⟨iZ,some ⟨KG,0,none⟩,2,none,0⟩),83),(VX,bK kX,23),(Ud,dV ⟨8,0,0,true⟩,78),(TN,aC tX,26),(Om,bK kR,23)])
                     case first=>
                      go_wp2_with (first | ((with_reducible refine bJ 23 31 ?_);refine ig (hL.rn 2 0 (bK kX)) Tryz.underlying23 dQ ?_) | ((with_reducible refine iy 23 31 ?_);refine kP (hL.rn 2 0 (bK kX)) Tryz.underlying23 dQ ?_) | ((with_reducible refine bJ 83 32 ?_);refine ig (hL.rn 1 0 ([.string Sk.cO,.string Sk.bU,.slice (some ⟨KG,0,none⟩) 2 2,.slice none 0 0,.int .i64 3])) Tryz.underlying83 bI ?_) | ((with_reducible refine iy 83 32 ?_);refine kP (hL.rn 1 0 ([.string Sk.cO,.string Sk.bU,.slice (some ⟨KG,0,none⟩) 2 2,.slice none 0 0,.int .i64 3])) Tryz.underlying83 bI ?_) | ((with_reducible refine bJ 83 33 ?_);refine ig (hL.rn 0 0 ([.string Sk.cO,.string Sk.bU,.slice (some ⟨Oc,0,none⟩) 2 2,.slice none 0 0,.int .i64 3])) Tryz.underlying83 bI ?_) | ((with_reducible refine iy 83 33 ?_);refine kP (hL.rn 0 0 ([.string Sk.cO,.string Sk.bU,.slice (some ⟨Oc,0,none⟩) 2 2,.slice none 0 0,.int .i64 3])) Tryz.underlying83 bI ?_) | (go_at_call 25;refine (OQ kX [iZ,iZ,jh,jh] vJ 4 yF.2.2 yF.1 yF.2.1 (fun _:Nat=>True) [⟨iZ,some ⟨KG,0,none⟩,2,none,0⟩,⟨iZ,some ⟨KG,0,none⟩,2,none,0⟩,⟨jh,some ⟨Oc,0,none⟩,2,none,0⟩,⟨jh,some ⟨Oc,0,none⟩,2,none,0⟩] _ 4 rfl rfl _ ⟨Reads.lit wc 83 (fun _:Nat=>True) 5 4 (zn [⟨iZ,some ⟨KG,0,none⟩,2,none,0⟩,⟨iZ,some ⟨KG,0,none⟩,2,none,0⟩,⟨jh,some ⟨Oc,0,none⟩,2,none,0⟩,⟨jh,some ⟨Oc,0,none⟩,2,none,0⟩]) (by omega) rfl trivial,fun e he=>by simp only [List.mem_cons,List.not_mem_nil,or_false] at he;rcases he with rfl | rfl | rfl | rfl;exact ⟨Reads.alloc h32 _,Reads.none_ _ _ _⟩;exact ⟨Reads.alloc h32 _,Reads.none_ _ _ _⟩;exact ⟨Reads.alloc h33 _,Reads.none_ _ _ _⟩;exact ⟨Reads.alloc h33 _,Reads.none_ _ _ _⟩⟩).mono ?_;rintro e w3 ⟨⟨A2,c2,rfl⟩,hb3⟩;have hL:=(hL.alloc _).call hb3) | ((with_reducible refine isS 26 34 222 ?_);refine fU ((hL.add [.int .i64 0,.int .i64 0,.int .i64 0,.int .i64 0,.string ⟨#[]⟩,.int .i64 0,.int .i64 0,.bool false,.bool false,.int .i64 0,.int .i64 0,.int .i64 0,.int .i64 0] 26).head) (aC vJ) aj (aT _) ?_))
                      go_meet;exact ⟨_,A2,c2,rfl,rfl,rfl,(hL.add [.int .i64 0,.int .i64 0,.int .i64 0,.int .i64 0,.string ⟨#[]⟩,.int .i64 0,.int .i64 0,.bool false,.bool false,.int .i64 0,.int .i64 0,.int .i64 0,.int .i64 0] 26).put (aC vJ) rfl⟩
                     case rest=>
                      obtain ⟨ZN,A35,c35,rfl,rfl,rfl,hL⟩:=hcut
                      go_upto_region 24 with (fail)
                      go_cut [9,36] from 225 to 231 (fun v9 v36 wx=>v9= .int .i64 0∧v36= .string ⟨#[50,58,50,32,100,114,97,119,110]⟩∧Bx w wx [(ZN,aC vJ,26),(Zd,(dn ⟨jh,some ⟨Oc,0,none⟩,2,none,0⟩),83),(Xg,(dn ⟨iZ,some ⟨KG,0,none⟩,2,none,0⟩),83),(VX,bK kX,23),(Ud,dV ⟨8,0,0,true⟩,78),(TN,aC tX,26),(Om,bK kR,23)])
                      case first=>
                       go_wp2_with (first | ((with_reducible refine bJ 23 31 ?_);refine ig (hL.rn 3 0 (bK kX)) Tryz.underlying23 dQ ?_) | ((with_reducible refine iy 23 31 ?_);refine kP (hL.rn 3 0 (bK kX)) Tryz.underlying23 dQ ?_) | ((with_reducible refine bJ 26 34 ?_);refine ig (hL.rn 0 0 (aC vJ)) Tryz.underlying26 aj ?_) | ((with_reducible refine iy 26 34 ?_);refine kP (hL.rn 0 0 (aC vJ)) Tryz.underlying26 aj ?_) | (go_at_call 39;refine (Uu _ (hg.below hL.bw)).mono ?_;rintro e w2 ⟨rfl,hb2⟩;have hL:=hL.call hb2))
                       go_meet;exact ⟨rfl,rfl,hL⟩
                      case rest=>
                       obtain ⟨rfl,rfl,hL⟩:=hcut
                       go_upto_region 25 with (fail)
                       go_cut [11,37,38] from 231 to 242 (fun v11 v37 v38 wx=>∃ (B38:Nat),v11= .int .i64 0∧v37= .int .i64 0∧v38=ptr B38∧Bx w wx [(B38,[.string s4,.string s1,.string s4],110),(ZN,aC vJ,26),(Zd,(dn ⟨jh,some ⟨Oc,0,none⟩,2,none,0⟩),83),(Xg,(dn ⟨iZ,some ⟨KG,0,none⟩,2,none,0⟩),83),(VX,bK kX,23),(Ud,dV ⟨8,0,0,true⟩,78),(TN,aC tX,26),(Om,bK kR,23)])
                       case first=>
                        go_wp2_with (first | (go_at_call 62;refine (NP (fun _:Nat=>True) (fun _:Nat=>True) _ _ 1 2 _ (hg.below ((hL.alloc _).alloc _).bw) (Reads.alloc (Reads.lit wc 114 (fun _:Nat=>True) 2 1 [.string s0,.string s0] (by omega) rfl trivial) _) (Y2 wc 114 114 [.string s0,.string s0] [.string s1,.string s0,.string s4,.string s0] rfl)).mono ?_;rintro e w3 ⟨rfl,hb3⟩;have hL:=((hL.alloc _).alloc _).call hb3) | ((with_reducible refine isS 110 38 240 ?_);refine fU ((hL.add [.string ⟨#[]⟩,.string ⟨#[]⟩,.string ⟨#[]⟩] 110).head) ([.string s4,.string s1,.string s4]) zQ (Iu _ _ _) ?_))
                        go_meet;exact ⟨_,rfl,rfl,rfl,(hL.add [.string ⟨#[]⟩,.string ⟨#[]⟩,.string ⟨#[]⟩] 110).put [.string s4,.string s1,.string s4] rfl⟩
                       case rest=>
                        obtain ⟨B38,rfl,rfl,rfl,hL⟩:=hcut
                        have he3:((⟨#[50,58,50,32,100,114,97,119,110]⟩:ByteArray).toList == [50,58,50,32,100,114,97,119,110])=true:=by rw [ByteArray.toList_eq];rfl
                        have hv2:∀ W,(binOp .eql 78 (.agg #[.int .i64 8,.int .i64 0,.int .i64 0,.bool true]) (.agg #[.int .i64 8,.int .i64 0,.int .i64 0,.bool true])).run Tryz.prog W= .ok (.bool true) W:=fun W=>by kernel_rfl
                        have hv3:∀ W,(binOp .eql 110 (.agg #[.string s4,.string s1,.string s4]) (.agg #[.string s4,.string s1,.string s4])).run Tryz.prog W= .ok (.bool true) W:=fun W=>by kernel_rfl
                        have kv0:=(hL.get 5 rfl).cell (j:=0) rfl;have kv1:=(hL.get 5 rfl).cell (j:=1) rfl;have TV:=(hL.get 5 rfl).cell (j:=2) rfl;have kv3:=(hL.get 5 rfl).cell (j:=3) rfl;have kw0:=(hL.get 0 rfl).cell (j:=0) rfl;have kw1:=(hL.get 0 rfl).cell (j:=1) rfl;have kw2:=(hL.get 0 rfl).cell (j:=2) rfl;go_wp2;go_ret;exact ⟨aH rfl,hL.bw⟩
section
variable {w W W':World} {L:List (Nat × List Value × TypeId)} {B e size k g:Nat} {v:Value} {xs:List Value} {cs:List Value} {t:TypeId}
theorem Bx.grow {row:Option Nat} (h:Bx w W L) (hg:W.grownBy W' row) (hr:∀ b,row=some b→w.heap.size≤b) (hL:∀ p∈L,row≠some p.1):Bx w W' L:=
 ⟨h.bw.grown hg h.bw.size hr,fun p hp=>⟨(h.bx p hp).1,(h.bx p hp).2.blk (hg.block p.1 (h.bx p hp).2.lt (fun e=>hL p hp e.symm))⟩,h.nd⟩
end
section
variable {w W W':World} {L L':List (Nat × List Value × TypeId)} {B e size k:Nat} {v:Value} {xs:List Value}
end
end Go.Proofs.YtjbbfmofpjflmaaGreatDoor
