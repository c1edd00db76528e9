/- Parts of a proof. -/
import Derived.Test.YtjbbfmofpjflmaaGreatDoorKr18
import Derived.Test.YtjbbfmofpjflmaaGreatDoorKr27
import Derived.Test.YtjbbfmofpjflmaaGreatDoorKr31
set_option maxHeartbeats 8000000
set_option maxRecDepth 100000
set_option linter.unusedVariables false
set_option linter.unusedSimpArgs false
namespace Go.Proofs.YtjbbfmofpjflmaaGreatDoor
open Go.RowKit
abbrev Nm.nU:=Nm.Fr × Nm.Fr × Nm.Fr
@[reducible] def ZC (x:Nm.nU):Value:= .agg #[.int .i64 x.1.n,.slice none 0 0,.int .i64 x.1.d,.slice none 0 0,.int .i64 x.2.1.n,.slice none 0 0,.int .i64 x.2.1.d,.slice none 0 0,.int .i64 x.2.2.n,.slice none 0 0,.int .i64 x.2.2.d,.slice none 0 0]
def aU (x:Nm.nU):List Value:=[.int .i64 x.1.n,.slice none 0 0,.int .i64 x.1.d,.slice none 0 0,.int .i64 x.2.1.n,.slice none 0 0,.int .i64 x.2.1.d,.slice none 0 0,.int .i64 x.2.2.n,.slice none 0 0,.int .i64 x.2.2.d,.slice none 0 0]
theorem BO (x:Nm.nU):∀ v∈aU x,v.oneCell'=true:=by simp [aU,Value.oneCell']
theorem gQ:(Tryz.prog.info? 173).map (·.size)=some 12:=by kernel_rfl
def Nm.SS (x y:Nm.nU):Nm.Fr:=Nm.sub x.1 y.1
def Nm.ZB (x y:Nm.nU):Nm.Fr:=Nm.mul (Nm.SS x y) (Nm.SS x y)
def Nm.SV (x:Nm.nU):Nm.Fr:=Nm.mul x.2.1 x.2.1
def Nm.Oi (x:Nm.nU):Nm.Fr:=Nm.mul (Nm.SV x) x.2.2
def Nm.NS (x y:Nm.nU):Nm.Fr:=Nm.add (Nm.ZB x y) (Nm.Oi x)
def Nm.YW (x y:Nm.nU):Nm.Fr:=Nm.sub (Nm.NS x y) (Nm.Oi y)
def Nm.ZE (x y:Nm.nU):Nm.Fr:=Nm.mul ⟨2,1⟩ (Nm.SS x y)
def Nm.YX (x y:Nm.nU):Nm.Fr:=Nm.mul (Nm.ZE x y) x.2.1
def Nm.Oj (x y:Nm.nU):Int:=Nm.qp (Nm.SS x y) x.2.1 x.2.2
def Nm.Uc (y:Nm.nU):Int:=Nm.oG y.2.1.n*Nm.oG y.2.2.n
def Nm.Fa (x y:Nm.nU):Int:=if Nm.Oj x y≠Nm.Uc y then max (-1) (min 1 (Nm.Oj x y - Nm.Uc y)) else Nm.Oj x y*Nm.qp (Nm.YW x y) (Nm.YX x y) x.2.2
def Nm.SX (x:Nm.nU):Bool:=Nm.ok x.1 && Nm.ok x.2.1 && Nm.ok x.2.2
def Nm.VI (x y:Nm.nU):Bool:=Nm.SX x && Nm.SX y && Nm.ok (Nm.SS x y) && Nm.VJ (Nm.SS x y) x.2.1 x.2.2 && (decide (Nm.Oj x y≠Nm.Uc y) ||
 (Nm.ok (Nm.ZB x y) && Nm.ok (Nm.SV x) && Nm.ok (Nm.Oi x) && Nm.ok (Nm.NS x y) && Nm.ok (Nm.SV y) && Nm.ok (Nm.Oi y) && Nm.ok (Nm.ZE x y) && Nm.VJ (Nm.YW x y) (Nm.YX x y) x.2.2))
theorem Hq (x y:Nm.nU) (w:World) (h:Nm.VI x y=true):Calls Tryz.prog 105 #[ZC x,ZC y] w fun e w'=>e= .returned (.int .i64 (Nm.Fa x y))∧Below w.heap.size w w':=by
 unfold Nm.VI Nm.SX at h
 simp only [Bool.and_eq_true,Bool.or_eq_true,decide_eq_true_eq] at h
 obtain ⟨⟨⟨⟨⟨⟨x1,x2⟩,x3⟩,⟨y1,y2⟩,y3⟩,hP⟩,hU⟩,h⟩:=h;have HU:=fun W=>vC (Nm.SS x y) x.2.1 x.2.2 W hU;have HP:=fun W=>qV x.1 y.1 W x1 y1;have c1:=zI (Nm.SS x y) x.2.1 x.2.2;have c2:=mW (lV y.2.1.n) (lV y.2.2.n);have hv:Nm.Uc y=Nm.oG y.2.1.n*Nm.oG y.2.2.n:=rfl;have hu:Nm.Oj x y=Nm.qp (Nm.SS x y) x.2.1 x.2.2:=rfl;have w2:=wrap_one c2;rw [← hu] at c1;rw [← hv] at c2 w2
 simp only [← hu] at HU
 rw [show Nm.sub x.1 y.1=Nm.SS x y from rfl] at HP;clear hu hv;have T:=fun (hne:Nm.Oj x y=Nm.Uc y)=>h.resolve_left (by simpa using hne);have Ig:=fun (hne:Nm.Oj x y≠Nm.Uc y)=>(show Nm.Fa x y=max (-1) (min 1 (Nm.Oj x y - Nm.Uc y)) by unfold Nm.Fa;rw [if_pos hne]);have HS2:=fun (hne:Nm.Oj x y=Nm.Uc y)=>(show Nm.Fa x y=Nm.Oj x y*Nm.qp (Nm.YW x y) (Nm.YX x y) x.2.2 by unfold Nm.Fa;rw [if_neg (by simpa using hne)]);have HT:=hide T;have Ig:=hide Ig;have HS2:=hide HS2;clear T h;obtain ⟨P,XH⟩:∃ q,Nm.SS x y=q:=⟨_,rfl⟩;obtain ⟨U,hUU⟩:∃ q,Nm.Oj x y=q:=⟨_,rfl⟩;obtain ⟨V,hVV⟩:∃ q,Nm.Uc y=q:=⟨_,rfl⟩
 simp only [XH] at HP HU hP
 simp only [hUU] at HU c1
 have XP:Nm.oG y.2.1.n*Nm.oG y.2.2.n=V:=hVV
 simp only [hVV] at c2 w2
 have EV:=hide hVV;have EU:=hide hUU;have EP:=hide XH;have HP:=hide HP;have HU:=hide HU;clear XH hUU hVV hU
 go_enter Tryz.func105,Tryz.ntmps105
 go_upto_region 0 with (fail)
 go_cut [2,3] (fun v2 v3 wx=>v2=ptr (w.heap.size)∧v3=ptr (w.heap.size+1)∧Bx w wx [(w.heap.size,aU x,173),(w.heap.size+1,aU y,173)])
 case first=>
  go_wp2;go_meet;exact ⟨rfl,rfl,Bx.of (((aG.nil w).new (by simp) (aU x) 173).new (by simp) (aU y) 173) _ rfl⟩
 case rest=>
  obtain ⟨rfl,rfl,hL⟩:=hcut
  go_upto_region 1 with (fail)
  have rx:=hL.rng 0 rfl 0 (ah x.1) rfl;have ry:=hL.rng 1 rfl 0 (ah y.1) rfl
  go_cut [5] (fun v5 wx=>∃ B5,v5=ptr B5∧Bx w wx [(B5,ah (P),164),(w.heap.size,aU x,173),(w.heap.size+1,aU y,173)])
  case first=>
   go_wp2_with (first | ((with_reducible (refine dw 164 (.tmp 9) ?lx ?_));(case lx=>rfl);refine fH rx Tryz.underlying164 rfl aW rfl (.tmp 9) rfl rfl ?_) | ((with_reducible (refine dw 164 (.tmp 11) ?lx ?_));(case lx=>rfl);refine fH ry Tryz.underlying164 rfl aW rfl (.tmp 11) rfl rfl ?_) | (go_at_call 157;refine (HP.out _).mono ?_;rintro e w1 ⟨rfl,hb1⟩;have hL:=hL.call hb1) | ((with_reducible refine isS 164 5 13 ?_);refine fU ((hL.add (ah ⟨0,0⟩) 164).head) (ah (P)) aW (fO _) ?_))
   go_meet;exact ⟨_,rfl,(hL.add (ah ⟨0,0⟩) 164).put (ah (P)) rfl⟩
  case rest=>
   obtain ⟨B5,rfl,hL⟩:=hcut;clear rx ry
   go_upto_region 2 with (fail)
   go_cut [6,7] from 9 to 27 (fun v6 v7 wx=>v6= .int .i64 U∧v7= .int .i64 V∧Bx w wx [(B5,ah (P),164),(w.heap.size,aU x,173),(w.heap.size+1,aU y,173)])
   case first=>
    have W2:=hide (show IntKind.i64.wrap (Nm.oG y.2.1.n*Nm.oG y.2.2.n)=V by rw [XP];exact w2);clear XP w2
    go_upto_region 2 with (fail)
    have zV:∀ W:World,Bx w W [(B5,ah (P),164),(w.heap.size,aU x,173),(w.heap.size+1,aU y,173)]→W.rangeAt (B5) 0 (ah (P)):=fun W h=>h.rng 0 rfl 0 _ rfl;have U5:∀ W:World,Bx w W [(B5,ah (P),164),(w.heap.size,aU x,173),(w.heap.size+1,aU y,173)]→W.rangeAt (w.heap.size) 4 (ah (x.2.1)):=fun W h=>h.rng 1 rfl 4 _ rfl;have U6:∀ W:World,Bx w W [(B5,ah (P),164),(w.heap.size,aU x,173),(w.heap.size+1,aU y,173)]→W.rangeAt (w.heap.size) 8 (ah (x.2.2)):=fun W h=>h.rng 1 rfl 8 _ rfl;have U7:∀ W:World,Bx w W [(B5,ah (P),164),(w.heap.size,aU x,173),(w.heap.size+1,aU y,173)]→W.rangeAt (w.heap.size+1) 4 (ah (y.2.1)):=fun W h=>h.rng 2 rfl 4 _ rfl;have U8:∀ W:World,Bx w W [(B5,ah (P),164),(w.heap.size,aU x,173),(w.heap.size+1,aU y,173)]→W.rangeAt (w.heap.size+1) 8 (ah (y.2.2)):=fun W h=>h.rng 2 rfl 8 _ rfl;have hL:=hL.drew;refine wp_region_held_drew (S:=(fun w':World=>Bx w w' [(B5,ah (P),164),(w.heap.size,aU x,173),(w.heap.size+1,aU y,173)])) (by kernel_rfl) ?bg (fun hHeld=>?_)
    case bg=>exact hL
    refine bD 0 zV Tryz.underlying164 ?_;refine aA 1 ?_;refine bD 2 U5 Tryz.underlying164 ?_;refine aA 3 ?_;refine bD 4 U6 Tryz.underlying164 ?_;refine aA 6 ?_;refine bD 7 U7 Tryz.underlying164 ?_;refine aA 9 ?_;refine bD 10 U8 Tryz.underlying164 ?_;refine aB 5 fun K hK=>?_;go_simp
    (go_at_call 103;refine (HU.out _).mono ?_;rintro e w2a ⟨rfl,PI⟩)
    have hL:=hL.call PI;refine ak hK (hL) fun hHeld=>?_;clear hK K;refine aB 8 fun K hK=>?_;go_simp
    (go_at_call 147;refine (jY y.2.1 _).mono ?_;rintro e w2b ⟨rfl,PK⟩)
    have hL:=hL.call PK;refine ak hK (hL) fun hHeld=>?_;clear hK K;refine aB 11 fun K hK=>?_;go_simp
    (go_at_call 147;refine (jY y.2.2 _).mono ?_;rintro e w2c ⟨rfl,XR⟩)
    have hL:=hL.call XR;refine ak hK (hL) fun hHeld=>?_;clear hK K;refine aA 12 ?_;refine aA 13 ?_;refine aA 14 ?_;refine wpAnyH_done (by kernel_rfl) ?_ _;go_wp2;go_meet;exact ⟨rfl,congrArg (Value.int .i64) W2.out,hL⟩
   case rest=>
    obtain ⟨rfl,rfl,hL⟩:=hcut;clear XP w2
    by_cases huv:U=V
    rotate_left
    · have apy:(U != V)=true:=by simp [huv]
      have HS:=hide (Ig.out (by rw [EU.out,EV.out];exact huv))
      have wd:IntKind.i64.wrap (U - V)=U - V:=by rw [IntKind.wrap_i64];omega
      go_wp2
      all_goals
       go_ret;exact ⟨aV (by rw [HS.out,EU.out,EV.out];first | done | omega),hL.bw⟩
    · have apy:(U != V)=false:=by simp [huv]
      have hq:Nm.Oj x y=Nm.Uc y:=by rw [EU.out,EV.out];exact huv
      have HS:=HS2.out hq;have hT:=HT.out hq;rw [EU.out] at HS;obtain ⟨⟨⟨⟨⟨⟨⟨oA,oX⟩,oB⟩,oAB⟩,oY⟩,oC⟩,oW⟩,oS⟩:=hT;have M1:=fun W=>iU P P W hP hP;have M2:=fun W=>iU x.2.1 x.2.1 W x2 x2;have M3:=fun W=>iU (Nm.SV x) x.2.2 W oX x3;have M4:=fun W=>Au (Nm.ZB x y) (Nm.Oi x) W oA oB;have M5:=fun W=>iU y.2.1 y.2.1 W y2 y2;have M6:=fun W=>iU (Nm.SV y) y.2.2 W oY y3;have M7:=fun W=>qV (Nm.NS x y) (Nm.Oi y) W oAB oC;have M8:=fun W=>iU ⟨2,1⟩ P W rfl hP;have M9:=fun W=>iU (Nm.ZE x y) x.2.1 W oW x2;have HS2:=fun W=>vC (Nm.YW x y) (Nm.YX x y) x.2.2 W oS;have c3:=zI (Nm.YW x y) (Nm.YX x y) x.2.2;have wd:=wrap_one (mW c1 c3)
      have eA:Nm.mul P P=Nm.ZB x y:=by rw [← EP.out];rfl
      have eX:Nm.mul x.2.1 x.2.1=Nm.SV x:=rfl;have eB:Nm.mul (Nm.SV x) x.2.2=Nm.Oi x:=rfl;have eAB:Nm.add (Nm.ZB x y) (Nm.Oi x)=Nm.NS x y:=rfl;have eY:Nm.mul y.2.1 y.2.1=Nm.SV y:=rfl;have eC:Nm.mul (Nm.SV y) y.2.2=Nm.Oi y:=rfl;have eR:Nm.sub (Nm.NS x y) (Nm.Oi y)=Nm.YW x y:=rfl
      have eW:Nm.mul ⟨2,1⟩ P=Nm.ZE x y:=by rw [← EP.out];rfl
      have eT:Nm.mul (Nm.ZE x y) x.2.1=Nm.YX x y:=rfl
      simp only [eA,eX,eB,eAB,eY,eC,eR,eW,eT] at M1 M2 M3 M4 M5 M6 M7 M8 M9
      clear eA eX eB eAB eY eC eR eW eT oA oX oB oAB oY oC oW oS hq huv c3;obtain ⟨A,hA⟩:∃ q,Nm.ZB x y=q:=⟨_,rfl⟩
      simp only [hA] at M1 M4
      obtain ⟨Xq,hXq⟩:∃ q,Nm.SV x=q:=⟨_,rfl⟩
      simp only [hXq] at M2 M3
      obtain ⟨Bq,hBq⟩:∃ q,Nm.Oi x=q:=⟨_,rfl⟩
      simp only [hBq] at M3 M4
      obtain ⟨AB,hAB⟩:∃ q,Nm.NS x y=q:=⟨_,rfl⟩
      simp only [hAB] at M4 M7
      obtain ⟨Yq,hYq⟩:∃ q,Nm.SV y=q:=⟨_,rfl⟩
      simp only [hYq] at M5 M6
      obtain ⟨Cq,hCq⟩:∃ q,Nm.Oi y=q:=⟨_,rfl⟩
      simp only [hCq] at M6 M7
      obtain ⟨Rv,hRv⟩:∃ q,Nm.YW x y=q:=⟨_,rfl⟩
      simp only [hRv] at M7 HS2 HS wd
      obtain ⟨Wv,hWv⟩:∃ q,Nm.ZE x y=q:=⟨_,rfl⟩
      simp only [hWv] at M8 M9
      obtain ⟨Tv,hTv⟩:∃ q,Nm.YX x y=q:=⟨_,rfl⟩
      simp only [hTv] at M9 HS2 HS wd
      obtain ⟨Sv,hSv⟩:∃ q,Nm.qp Rv Tv x.2.2=q:=⟨_,rfl⟩
      simp only [hSv] at HS2 HS wd
      clear hA hXq hBq hAB hYq hCq hRv hWv hTv hSv;have M1:=hide M1;have M2:=hide M2;have M3:=hide M3;have M4:=hide M4;have M5:=hide M5;have M6:=hide M6;have M7:=hide M7;have M8:=hide M8;have M9:=hide M9;have HS2:=hide HS2;have HS:=hide HS
      go_upto_region 5 with (fail)
      go_cut [8] from 35 to 56 (fun v8 wx=>∃ B8,v8=ptr B8∧Bx w wx [(B8,ah (Rv),164),(B5,ah (P),164),(w.heap.size,aU x,173),(w.heap.size+1,aU y,173)])
      case first=>
       have KP:∀ W:World,Bx w W [(B5,ah (P),164),(w.heap.size,aU x,173),(w.heap.size+1,aU y,173)]→W.rangeAt (B5) 0 (ah (P)):=fun W h=>h.rng 0 rfl 0 _ rfl;have KR:∀ W:World,Bx w W [(B5,ah (P),164),(w.heap.size,aU x,173),(w.heap.size+1,aU y,173)]→W.rangeAt (w.heap.size) 4 (ah (x.2.1)):=fun W h=>h.rng 1 rfl 4 _ rfl;have U9:∀ W:World,Bx w W [(B5,ah (P),164),(w.heap.size,aU x,173),(w.heap.size+1,aU y,173)]→W.rangeAt (w.heap.size) 8 (ah (x.2.2)):=fun W h=>h.rng 1 rfl 8 _ rfl;have KT:∀ W:World,Bx w W [(B5,ah (P),164),(w.heap.size,aU x,173),(w.heap.size+1,aU y,173)]→W.rangeAt (w.heap.size+1) 4 (ah (y.2.1)):=fun W h=>h.rng 2 rfl 4 _ rfl;have Va:∀ W:World,Bx w W [(B5,ah (P),164),(w.heap.size,aU x,173),(w.heap.size+1,aU y,173)]→W.rangeAt (w.heap.size+1) 8 (ah (y.2.2)):=fun W h=>h.rng 2 rfl 8 _ rfl;have hL:=hL.drew;refine wp_region_held_drew (S:=(fun w':World=>Bx w w' [(B5,ah (P),164),(w.heap.size,aU x,173),(w.heap.size+1,aU y,173)])) (by kernel_rfl) ?bV (fun hHeld=>?_)
       case bV=>exact hL
       refine bD 0 KP Tryz.underlying164 ?_;refine bD 1 KP Tryz.underlying164 ?_;refine aA 3 ?_;refine bD 4 KR Tryz.underlying164 ?_;refine aA 5 ?_;refine bD 6 KR Tryz.underlying164 ?_;refine aA 8 ?_;refine bD 9 U9 Tryz.underlying164 ?_;refine aA 12 ?_;refine bD 13 KT Tryz.underlying164 ?_;refine aA 14 ?_;refine bD 15 KT Tryz.underlying164 ?_;refine aA 17 ?_;refine bD 18 Va Tryz.underlying164 ?_;refine iR 2 21 (fun K hK=>?_) fun K hK=>?_
       · go_simp
         (go_at_call 156;refine (M1.out _).mono ?_;rintro e ZI ⟨rfl,IV⟩)
         have hL:=hL.call IV;refine ak hK (by first | exact hL | exact hL.tail) fun hHeld=>?_;clear hK K;refine iR 7 21 (fun K hK=>?_) fun K hK=>?_
         · go_simp
           (go_at_call 156;refine (M2.out _).mono ?_;rintro e Lm ⟨rfl,AU⟩)
           have hL:=hL.call AU;refine ak hK (by first | exact hL | exact hL.tail) fun hHeld=>?_;clear hK K;refine iR 10 21 (fun K hK=>?_) fun K hK=>?_
           · go_simp
             (go_at_call 156;refine (M3.out _).mono ?_;rintro e Xa ⟨rfl,tZ⟩)
             have hL:=hL.call tZ;refine ak hK (by first | exact hL | exact hL.tail) fun hHeld=>?_;clear hK K;refine iR 11 21 (fun K hK=>?_) fun K hK=>?_
             · go_simp
               (go_at_call 164;refine (M4.out _).mono ?_;rintro e w5d ⟨rfl,ED⟩)
               have hL:=hL.call ED;refine ak hK (by first | exact hL | exact hL.tail) fun hHeld=>?_;clear hK K;refine iR 16 21 (fun K hK=>?_) fun K hK=>?_
               · go_simp
                 (go_at_call 156;refine (M5.out _).mono ?_;rintro e w5e ⟨rfl,AV⟩)
                 have hL:=hL.call AV;refine ak hK (by first | exact hL | exact hL.tail) fun hHeld=>?_;clear hK K;refine iR 19 21 (fun K hK=>?_) fun K hK=>?_
                 · go_simp
                   (go_at_call 156;refine (M6.out _).mono ?_;rintro e ZJ ⟨rfl,yH⟩)
                   have hL:=hL.call yH;refine ak hK (by first | exact hL | exact hL.tail) fun hHeld=>?_;clear hK K;refine iR 20 21 (fun K hK=>?_) fun K hK=>?_
                   · go_simp
                     (go_at_call 157;refine (M7.out _).mono ?_;rintro e Zc ⟨rfl,wu⟩)
                     have hL:=hL.call wu;refine ak hK (by first | exact hL | exact hL.tail) fun hHeld=>?_;clear hK K;refine aB 21 fun K hK=>?_;go_simp;have hL:=hL.add (ah ⟨0,0⟩) 164;refine ak hK (hL.tail) fun hHeld=>?_;clear hK K;refine aB 22 fun K hK=>?_;refine aQ hL.head (ah (Rv)) rfl aW (fO _) (.tmp 8) (.tmp 55) rfl rfl rfl ?_;have hL:=hL.put (ah (Rv)) rfl;refine ak hK (hL.tail) fun hHeld=>?_;clear hK K;refine wpAnyH_done (by kernel_rfl) ?_ _;go_wp2;go_meet;exact ⟨_,rfl,hL⟩
                   · go_simp
                     have hL:=hL.add (ah ⟨0,0⟩) 164;refine ak hK (hL.tail) fun hHeld=>?_;clear hK K;refine aB 20 fun K hK=>?_;go_simp
                     (go_at_call 157;refine (M7.out _).mono ?_;rintro e Zc ⟨rfl,wu⟩)
                     have hL:=hL.call wu;refine ak hK (by first | exact hL | exact hL.tail) fun hHeld=>?_;clear hK K;refine aB 22 fun K hK=>?_;refine aQ hL.head (ah (Rv)) rfl aW (fO _) (.tmp 8) (.tmp 55) rfl rfl rfl ?_;have hL:=hL.put (ah (Rv)) rfl;refine ak hK (hL.tail) fun hHeld=>?_;clear hK K;refine wpAnyH_done (by kernel_rfl) ?_ _;go_wp2;go_meet;exact ⟨_,rfl,hL⟩
                 · go_simp
                   have hL:=hL.add (ah ⟨0,0⟩) 164;refine ak hK (hL.tail) fun hHeld=>?_;clear hK K;refine aB 19 fun K hK=>?_;go_simp
                   (go_at_call 156;refine (M6.out _).mono ?_;rintro e ZJ ⟨rfl,yH⟩)
                   have hL:=hL.call yH;refine ak hK (by first | exact hL | exact hL.tail) fun hHeld=>?_;clear hK K;refine aB 20 fun K hK=>?_;go_simp
                   (go_at_call 157;refine (M7.out _).mono ?_;rintro e Zc ⟨rfl,wu⟩)
                   have hL:=hL.call wu;refine ak hK (by first | exact hL | exact hL.tail) fun hHeld=>?_;clear hK K;refine aB 22 fun K hK=>?_;refine aQ hL.head (ah (Rv)) rfl aW (fO _) (.tmp 8) (.tmp 55) rfl rfl rfl ?_;have hL:=hL.put (ah (Rv)) rfl;refine ak hK (hL.tail) fun hHeld=>?_;clear hK K;refine wpAnyH_done (by kernel_rfl) ?_ _;go_wp2;go_meet;exact ⟨_,rfl,hL⟩
               · go_simp
                 have hL:=hL.add (ah ⟨0,0⟩) 164;refine ak hK (hL.tail) fun hHeld=>?_;clear hK K;refine aB 16 fun K hK=>?_;go_simp
                 (go_at_call 156;refine (M5.out _).mono ?_;rintro e w5e ⟨rfl,AV⟩)
                 have hL:=hL.call AV;refine ak hK (by first | exact hL | exact hL.tail) fun hHeld=>?_;clear hK K;refine aB 19 fun K hK=>?_;go_simp
                 (go_at_call 156;refine (M6.out _).mono ?_;rintro e ZJ ⟨rfl,yH⟩)
                 have hL:=hL.call yH;refine ak hK (by first | exact hL | exact hL.tail) fun hHeld=>?_;clear hK K;refine aB 20 fun K hK=>?_;go_simp
                 (go_at_call 157;refine (M7.out _).mono ?_;rintro e Zc ⟨rfl,wu⟩)
                 have hL:=hL.call wu;refine ak hK (by first | exact hL | exact hL.tail) fun hHeld=>?_;clear hK K;refine aB 22 fun K hK=>?_;refine aQ hL.head (ah (Rv)) rfl aW (fO _) (.tmp 8) (.tmp 55) rfl rfl rfl ?_;have hL:=hL.put (ah (Rv)) rfl;refine ak hK (hL.tail) fun hHeld=>?_;clear hK K;refine wpAnyH_done (by kernel_rfl) ?_ _;go_wp2;go_meet;exact ⟨_,rfl,hL⟩
             · go_simp
               have hL:=hL.add (ah ⟨0,0⟩) 164;refine ak hK (hL.tail) fun hHeld=>?_;clear hK K;refine aB 11 fun K hK=>?_;go_simp
               (go_at_call 164;refine (M4.out _).mono ?_;rintro e w5d ⟨rfl,ED⟩)
               have hL:=hL.call ED;refine ak hK (by first | exact hL | exact hL.tail) fun hHeld=>?_;clear hK K;refine aB 16 fun K hK=>?_;go_simp
               (go_at_call 156;refine (M5.out _).mono ?_;rintro e w5e ⟨rfl,AV⟩)
               have hL:=hL.call AV;refine ak hK (by first | exact hL | exact hL.tail) fun hHeld=>?_;clear hK K;refine aB 19 fun K hK=>?_;go_simp
               (go_at_call 156;refine (M6.out _).mono ?_;rintro e ZJ ⟨rfl,yH⟩)
               have hL:=hL.call yH;refine ak hK (by first | exact hL | exact hL.tail) fun hHeld=>?_;clear hK K;refine aB 20 fun K hK=>?_;go_simp
               (go_at_call 157;refine (M7.out _).mono ?_;rintro e Zc ⟨rfl,wu⟩)
               have hL:=hL.call wu;refine ak hK (by first | exact hL | exact hL.tail) fun hHeld=>?_;clear hK K;refine aB 22 fun K hK=>?_;refine aQ hL.head (ah (Rv)) rfl aW (fO _) (.tmp 8) (.tmp 55) rfl rfl rfl ?_;have hL:=hL.put (ah (Rv)) rfl;refine ak hK (hL.tail) fun hHeld=>?_;clear hK K;refine wpAnyH_done (by kernel_rfl) ?_ _;go_wp2;go_meet;exact ⟨_,rfl,hL⟩
           · go_simp
             have hL:=hL.add (ah ⟨0,0⟩) 164;refine ak hK (hL.tail) fun hHeld=>?_;clear hK K;refine aB 10 fun K hK=>?_;go_simp
             (go_at_call 156;refine (M3.out _).mono ?_;rintro e Xa ⟨rfl,tZ⟩)
             have hL:=hL.call tZ;refine ak hK (by first | exact hL | exact hL.tail) fun hHeld=>?_;clear hK K;refine aB 11 fun K hK=>?_;go_simp
             (go_at_call 164;refine (M4.out _).mono ?_;rintro e w5d ⟨rfl,ED⟩)
             have hL:=hL.call ED;refine ak hK (by first | exact hL | exact hL.tail) fun hHeld=>?_;clear hK K;refine aB 16 fun K hK=>?_;go_simp
             (go_at_call 156;refine (M5.out _).mono ?_;rintro e w5e ⟨rfl,AV⟩)
             have hL:=hL.call AV;refine ak hK (by first | exact hL | exact hL.tail) fun hHeld=>?_;clear hK K;refine aB 19 fun K hK=>?_;go_simp
             (go_at_call 156;refine (M6.out _).mono ?_;rintro e ZJ ⟨rfl,yH⟩)
             have hL:=hL.call yH;refine ak hK (by first | exact hL | exact hL.tail) fun hHeld=>?_;clear hK K;refine aB 20 fun K hK=>?_;go_simp
             (go_at_call 157;refine (M7.out _).mono ?_;rintro e Zc ⟨rfl,wu⟩)
             have hL:=hL.call wu;refine ak hK (by first | exact hL | exact hL.tail) fun hHeld=>?_;clear hK K;refine aB 22 fun K hK=>?_;refine aQ hL.head (ah (Rv)) rfl aW (fO _) (.tmp 8) (.tmp 55) rfl rfl rfl ?_;have hL:=hL.put (ah (Rv)) rfl;refine ak hK (hL.tail) fun hHeld=>?_;clear hK K;refine wpAnyH_done (by kernel_rfl) ?_ _;go_wp2;go_meet;exact ⟨_,rfl,hL⟩
         · go_simp
           have hL:=hL.add (ah ⟨0,0⟩) 164;refine ak hK (hL.tail) fun hHeld=>?_;clear hK K;refine aB 7 fun K hK=>?_;go_simp
           (go_at_call 156;refine (M2.out _).mono ?_;rintro e Lm ⟨rfl,AU⟩)
           have hL:=hL.call AU;refine ak hK (by first | exact hL | exact hL.tail) fun hHeld=>?_;clear hK K;refine aB 10 fun K hK=>?_;go_simp
           (go_at_call 156;refine (M3.out _).mono ?_;rintro e Xa ⟨rfl,tZ⟩)
           have hL:=hL.call tZ;refine ak hK (by first | exact hL | exact hL.tail) fun hHeld=>?_;clear hK K;refine aB 11 fun K hK=>?_;go_simp
           (go_at_call 164;refine (M4.out _).mono ?_;rintro e w5d ⟨rfl,ED⟩)
           have hL:=hL.call ED;refine ak hK (by first | exact hL | exact hL.tail) fun hHeld=>?_;clear hK K;refine aB 16 fun K hK=>?_;go_simp
           (go_at_call 156;refine (M5.out _).mono ?_;rintro e w5e ⟨rfl,AV⟩)
           have hL:=hL.call AV;refine ak hK (by first | exact hL | exact hL.tail) fun hHeld=>?_;clear hK K;refine aB 19 fun K hK=>?_;go_simp
           (go_at_call 156;refine (M6.out _).mono ?_;rintro e ZJ ⟨rfl,yH⟩)
           have hL:=hL.call yH;refine ak hK (by first | exact hL | exact hL.tail) fun hHeld=>?_;clear hK K;refine aB 20 fun K hK=>?_;go_simp
           (go_at_call 157;refine (M7.out _).mono ?_;rintro e Zc ⟨rfl,wu⟩)
           have hL:=hL.call wu;refine ak hK (by first | exact hL | exact hL.tail) fun hHeld=>?_;clear hK K;refine aB 22 fun K hK=>?_;refine aQ hL.head (ah (Rv)) rfl aW (fO _) (.tmp 8) (.tmp 55) rfl rfl rfl ?_;have hL:=hL.put (ah (Rv)) rfl;refine ak hK (hL.tail) fun hHeld=>?_;clear hK K;refine wpAnyH_done (by kernel_rfl) ?_ _;go_wp2;go_meet;exact ⟨_,rfl,hL⟩
       · go_simp
         have hL:=hL.add (ah ⟨0,0⟩) 164;refine ak hK (hL.tail) fun hHeld=>?_;clear hK K;refine aB 2 fun K hK=>?_;go_simp
         (go_at_call 156;refine (M1.out _).mono ?_;rintro e ZI ⟨rfl,IV⟩)
         have hL:=hL.call IV;refine ak hK (by first | exact hL | exact hL.tail) fun hHeld=>?_;clear hK K;refine aB 7 fun K hK=>?_;go_simp
         (go_at_call 156;refine (M2.out _).mono ?_;rintro e Lm ⟨rfl,AU⟩)
         have hL:=hL.call AU;refine ak hK (by first | exact hL | exact hL.tail) fun hHeld=>?_;clear hK K;refine aB 10 fun K hK=>?_;go_simp
         (go_at_call 156;refine (M3.out _).mono ?_;rintro e Xa ⟨rfl,tZ⟩)
         have hL:=hL.call tZ;refine ak hK (by first | exact hL | exact hL.tail) fun hHeld=>?_;clear hK K;refine aB 11 fun K hK=>?_;go_simp
         (go_at_call 164;refine (M4.out _).mono ?_;rintro e w5d ⟨rfl,ED⟩)
         have hL:=hL.call ED;refine ak hK (by first | exact hL | exact hL.tail) fun hHeld=>?_;clear hK K;refine aB 16 fun K hK=>?_;go_simp
         (go_at_call 156;refine (M5.out _).mono ?_;rintro e w5e ⟨rfl,AV⟩)
         have hL:=hL.call AV;refine ak hK (by first | exact hL | exact hL.tail) fun hHeld=>?_;clear hK K;refine aB 19 fun K hK=>?_;go_simp
         (go_at_call 156;refine (M6.out _).mono ?_;rintro e ZJ ⟨rfl,yH⟩)
         have hL:=hL.call yH;refine ak hK (by first | exact hL | exact hL.tail) fun hHeld=>?_;clear hK K;refine aB 20 fun K hK=>?_;go_simp
         (go_at_call 157;refine (M7.out _).mono ?_;rintro e Zc ⟨rfl,wu⟩)
         have hL:=hL.call wu;refine ak hK (by first | exact hL | exact hL.tail) fun hHeld=>?_;clear hK K;refine aB 22 fun K hK=>?_;refine aQ hL.head (ah (Rv)) rfl aW (fO _) (.tmp 8) (.tmp 55) rfl rfl rfl ?_;have hL:=hL.put (ah (Rv)) rfl;refine ak hK (hL.tail) fun hHeld=>?_;clear hK K;refine wpAnyH_done (by kernel_rfl) ?_ _;go_wp2;go_meet;exact ⟨_,rfl,hL⟩
      case rest=>
       obtain ⟨B8,rfl,hL⟩:=hcut
       go_upto_region 6 with (fail)
       have Vb:∀ W:World,Bx w W [(B8,ah (Rv),164),(B5,ah (P),164),(w.heap.size,aU x,173),(w.heap.size+1,aU y,173)]→W.rangeAt (B8) 0 (ah (Rv)):=fun W h=>h.rng 0 rfl 0 _ rfl;have Vd:∀ W:World,Bx w W [(B8,ah (Rv),164),(B5,ah (P),164),(w.heap.size,aU x,173),(w.heap.size+1,aU y,173)]→W.rangeAt (B5) 0 (ah (P)):=fun W h=>h.rng 1 rfl 0 _ rfl;have Ve:∀ W:World,Bx w W [(B8,ah (Rv),164),(B5,ah (P),164),(w.heap.size,aU x,173),(w.heap.size+1,aU y,173)]→W.rangeAt (w.heap.size) 4 (ah (x.2.1)):=fun W h=>h.rng 2 rfl 4 _ rfl;have Vf:∀ W:World,Bx w W [(B8,ah (Rv),164),(B5,ah (P),164),(w.heap.size,aU x,173),(w.heap.size+1,aU y,173)]→W.rangeAt (w.heap.size) 8 (ah (x.2.2)):=fun W h=>h.rng 2 rfl 8 _ rfl;have hL:=hL.drew;refine wp_region_held_drew (S:=(fun w':World=>Bx w w' [(B8,ah (Rv),164),(B5,ah (P),164),(w.heap.size,aU x,173),(w.heap.size+1,aU y,173)])) (by kernel_rfl) ?dJ (fun hHeld=>?_)
       case dJ=>exact hL
       refine aA 0 ?_;refine bD 1 Vb Tryz.underlying164 ?_;refine bD 3 Vd Tryz.underlying164 ?_;refine aA 5 ?_;refine bD 6 Ve Tryz.underlying164 ?_;refine aA 8 ?_;refine bD 9 Vf Tryz.underlying164 ?_;refine aB 2 fun K hK=>?_;go_simp
       (go_at_call 159;refine (f_any 2 _).mono ?_;rintro e w6a ⟨rfl,AX⟩)
       have hL:=hL.call AX;refine ak hK (hL) fun hHeld=>?_;clear hK K;refine aB 4 fun K hK=>?_;go_simp
       (go_at_call 156;refine (M8.out _).mono ?_;rintro e w6b ⟨rfl,EF⟩)
       have hL:=hL.call EF;refine ak hK (hL) fun hHeld=>?_;clear hK K;refine aB 7 fun K hK=>?_;go_simp
       (go_at_call 156;refine (M9.out _).mono ?_;rintro e w6c ⟨rfl,anB⟩)
       have hL:=hL.call anB;refine ak hK (hL) fun hHeld=>?_;clear hK K;refine aB 10 fun K hK=>?_;go_simp
       (go_at_call 103;refine (HS2.out _).mono ?_;rintro e w6d ⟨rfl,anI⟩)
       have hL:=hL.call anI;refine ak hK (hL) fun hHeld=>?_;clear hK K;refine aA 11 ?_;refine aA 12 ?_;refine wpAnyH_done (by kernel_rfl) ?_ _;go_wp2;go_ret;exact ⟨aV HS.out.symm,hL.bw⟩
abbrev Nm.Io:=Nm.nU × Nm.nU
@[reducible] def gpV (g:Nm.Io):Value:= .agg #[.int .i64 g.1.1.n,.slice none 0 0,.int .i64 g.1.1.d,.slice none 0 0,.int .i64 g.1.2.1.n,.slice none 0 0,.int .i64 g.1.2.1.d,.slice none 0 0,.int .i64 g.1.2.2.n,.slice none 0 0,.int .i64 g.1.2.2.d,.slice none 0 0,.int .i64 g.2.1.n,.slice none 0 0,.int .i64 g.2.1.d,.slice none 0 0,.int .i64 g.2.2.1.n,.slice none 0 0,.int .i64 g.2.2.1.d,.slice none 0 0,.int .i64 g.2.2.2.n,.slice none 0 0,.int .i64 g.2.2.2.d,.slice none 0 0,.bool false]
def dR (g:Nm.Io):List Value:=[.int .i64 g.1.1.n,.slice none 0 0,.int .i64 g.1.1.d,.slice none 0 0,.int .i64 g.1.2.1.n,.slice none 0 0,.int .i64 g.1.2.1.d,.slice none 0 0,.int .i64 g.1.2.2.n,.slice none 0 0,.int .i64 g.1.2.2.d,.slice none 0 0,.int .i64 g.2.1.n,.slice none 0 0,.int .i64 g.2.1.d,.slice none 0 0,.int .i64 g.2.2.1.n,.slice none 0 0,.int .i64 g.2.2.1.d,.slice none 0 0,.int .i64 g.2.2.2.n,.slice none 0 0,.int .i64 g.2.2.2.d,.slice none 0 0,.bool false]
theorem Ez (g:Nm.Io):∀ v∈dR g,v.oneCell'=true:=by simp [dR,Value.oneCell']
theorem mD:(Tryz.prog.info? 175).map (·.size)=some 25:=by kernel_rfl
theorem Qn (a b:ByteArray):∀ v∈[Value.string a,.string b],v.oneCell'=true:=by simp [Value.oneCell']
def Nm.has (g:Nm.Io) (x:Nm.nU):Bool:=decide (Nm.Fa g.1 x<0) && decide (Nm.Fa x g.2<0)
def Nm.Po (x:Nm.nU) (g:Nm.Io):Bool:=Nm.VI g.1 x && Nm.VI x g.2
theorem NV (g:Nm.Io) (x:Nm.nU) (w:World) (h:Nm.Po x g=true):Calls Tryz.prog 163 #[gpV g,ZC x] w fun e w'=>e= .returned (.bool (Nm.has g x))∧Below w.heap.size w w':=by
 obtain ⟨h1,h2⟩:=Bool.and_eq_true_iff.1 h;have C1:=fun W=>Hq g.1 x W h1;have C2:=fun W=>Hq x g.2 W h2
 unfold Nm.has
 obtain ⟨a,ha⟩:∃ q,Nm.Fa g.1 x=q:=⟨_,rfl⟩;obtain ⟨b,hb⟩:∃ q,Nm.Fa x g.2=q:=⟨_,rfl⟩
 simp only [ha] at C1 ⊢
 simp only [hb] at C2 ⊢
 clear ha hb h h1 h2;have C1:=hide C1;have C2:=hide C2
 by_cases n1:a<0
 · have m1:decide (a<0)=true:=decide_eq_true n1
   have m2:decide (b<0)=decide (b<0):=rfl;clear n1;rw [m1];obtain ⟨q,hq⟩:∃ q,decide (b<0)=q:=⟨_,rfl⟩;clear m2
   go_enter Tryz.func163,Tryz.ntmps163
   go_upto_region 0 with (fail)
   go_cut [2,3] (fun v2 v3 wx=>v2=ptr (w.heap.size)∧v3=ptr (w.heap.size+1)∧Bx w wx [(w.heap.size,dR g,175),(w.heap.size+1,aU x,173)])
   case first=>
    go_wp2;go_meet;exact ⟨rfl,rfl,Bx.of (((aG.nil w).new (by simp) (dR g) 175).new (by simp) (aU x) 173) _ rfl⟩
   case rest=>
    obtain ⟨rfl,rfl,hL⟩:=hcut;have k24:=(hL.get 0 rfl).cell (j:=24) rfl;have tok:=hide True.intro
    go_wp2_with (first | ((with_reducible refine bJ 173 9 ?_);refine ig (hL.rn 0 0 (aU g.1)) Tryz.underlying173 gQ ?_) | ((with_reducible refine iy 173 9 ?_);refine kP (hL.rn 0 0 (aU g.1)) Tryz.underlying173 gQ ?_) | ((with_reducible refine bJ 173 3 ?_);refine ig (hL.rn 1 0 (aU x)) Tryz.underlying173 gQ ?_) | ((with_reducible refine iy 173 3 ?_);refine kP (hL.rn 1 0 (aU x)) Tryz.underlying173 gQ ?_) | ((with_reducible refine bJ 173 17 ?_);refine ig (hL.rn 0 12 (aU g.2)) Tryz.underlying173 gQ ?_) | ((with_reducible refine iy 173 17 ?_);refine kP (hL.rn 0 12 (aU g.2)) Tryz.underlying173 gQ ?_) | (clear tok;go_at_call 105;refine (C1.out _).mono ?_;rintro e w1 ⟨rfl,hb1⟩;have hL:=hL.call hb1) | (go_at_call 105;refine (C2.out _).mono ?_;rintro e w2 ⟨rfl,hb2⟩;have hL:=hL.call hb2))
    go_ret;exact ⟨aH (by rw [← hq];simp),hL.bw⟩
 · have m1:decide (a<0)=false:=decide_eq_false n1
   clear n1;rw [m1]
   go_enter Tryz.func163,Tryz.ntmps163
   go_upto_region 0 with (fail)
   go_cut [2,3] (fun v2 v3 wx=>v2=ptr (w.heap.size)∧v3=ptr (w.heap.size+1)∧Bx w wx [(w.heap.size,dR g,175),(w.heap.size+1,aU x,173)])
   case first=>
    go_wp2;go_meet;exact ⟨rfl,rfl,Bx.of (((aG.nil w).new (by simp) (dR g) 175).new (by simp) (aU x) 173) _ rfl⟩
   case rest=>
    obtain ⟨rfl,rfl,hL⟩:=hcut;have k24:=(hL.get 0 rfl).cell (j:=24) rfl;have tok:=hide True.intro
    go_wp2_with (first | ((with_reducible refine bJ 173 9 ?_);refine ig (hL.rn 0 0 (aU g.1)) Tryz.underlying173 gQ ?_) | ((with_reducible refine iy 173 9 ?_);refine kP (hL.rn 0 0 (aU g.1)) Tryz.underlying173 gQ ?_) | ((with_reducible refine bJ 173 3 ?_);refine ig (hL.rn 1 0 (aU x)) Tryz.underlying173 gQ ?_) | ((with_reducible refine iy 173 3 ?_);refine kP (hL.rn 1 0 (aU x)) Tryz.underlying173 gQ ?_) | ((with_reducible refine bJ 173 17 ?_);refine ig (hL.rn 0 12 (aU g.2)) Tryz.underlying173 gQ ?_) | ((with_reducible refine iy 173 17 ?_);refine kP (hL.rn 0 12 (aU g.2)) Tryz.underlying173 gQ ?_) | (clear tok;go_at_call 105;refine (C1.out _).mono ?_;rintro e w1 ⟨rfl,hb1⟩;have hL:=hL.call hb1) | (go_at_call 105;refine (C2.out _).mono ?_;rintro e w2 ⟨rfl,hb2⟩;have hL:=hL.call hb2))
    go_ret;exact ⟨aH (by simp),hL.bw⟩
theorem Hw (g:Nm.Io) (x:Nm.nU) (Bx0:Nat) (w:World) (hx:Held w Bx0 (aU x) 173) (h:Nm.Po x g=true):Calls Tryz.prog 162 #[gpV g,ptr Bx0] w fun e w'=>e= .returned (.bool (Nm.has g x))∧Below w.heap.size w w':=by
 have HH:=hide (fun W=>NV g x W h)
 go_enter Tryz.func162,Tryz.ntmps162
 go_upto_region 0 with (fail)
 go_cut [2,3] (fun v2 v3 wx=>v2=ptr (w.heap.size)∧v3= .bool false∧Bx w wx [(w.heap.size,dR g,175)])
 case first=>
  go_wp2;go_meet;exact ⟨rfl,rfl,Bx.of ((aG.nil w).new (by simp) (dR g) 175) _ rfl⟩
 case rest=>
  obtain ⟨rfl,rfl,hL⟩:=hcut;have hx1:=hx.below hL.bw
  go_wp2_with (first | ((with_reducible refine bJ 175 2 ?_);refine ig (hL.rn 0 0 (dR g)) Tryz.underlying175 mD ?_) | ((with_reducible refine iy 175 2 ?_);refine kP (hL.rn 0 0 (dR g)) Tryz.underlying175 mD ?_) | ((with_reducible refine bJ 173 1 ?_);refine dW (hx1) Tryz.underlying173 gQ ?_) | (go_at_call 163;refine (HH.out _).mono ?_;rintro e w1 ⟨rfl,hb1⟩;have hL:=hL.call hb1))
  go_ret;exact ⟨rfl,hL.bw⟩
def zf {α:Type} (enc:α→List Value) (g:Nat) (lb:Array Value) (l:List α) (p:α→Bool) (w:World):Prop:=
 (∀ args w,(callFunc g args).run Tryz.prog w= .ok (.enter g args) w)∧∀ W x,x∈l→Below w.heap.size w W→Calls Tryz.prog g (#[.agg (enc x).toArray]++lb) W fun e w'=>e= .returned (.bool (p x))∧Below w.heap.size w w'
theorem BN {α:Type} {l:List α} {p:α→Bool} {k:Nat} (hk:k<l.length) (h:(l.take k).any p=false) (hx:p l[k]=false):(l.take (k+1)).any p=false:=by
 rw [List.take_succ_eq_append_getElem hk,List.any_append,h];simp [hx]
theorem D7 {α:Type} {l:List α} {p:α→Bool} {k:Nat} (hk:k<l.length) (hx:p l[k]=true):l.any p=true:=
 List.any_eq_true.2 ⟨l[k],List.getElem_mem hk,hx⟩
theorem IL (S:Nat→Prop) (A:Option Addr) (c:Nat) (l:List Nm.Io) (g:Nat) (lb:Array Value) (p:Nm.Io→Bool) (w:World) (h:Reads w S 25 A l.length c (l.flatMap dR)) (hg:zf dR g lb l p w):
 Calls Tryz.prog 203 #[.slice A l.length c,.func (.func g) #[] lb] w fun e w'=>(∃ i:Int,e= .returned (.int .i64 i)∧decide (0≤i)=l.any p)∧Below w.heap.size w w':=by
 obtain ⟨b1,b2,b3⟩:=h.bd;obtain ⟨eg,hq⟩:=hg
 go_enter Tryz.func203,Tryz.ntmps203
 go_wp2
 go_loopw [8] (fun i wr=>∃ k:Nat,k≤l.length∧i= .int .i64 k∧Aside ((l.take k).any p=false)∧Aside (Below w.heap.size w wr)) (fun i _=>l.length - (intOf i).toNat)
 case atStart=>exact ⟨0,Nat.zero_le _,rfl,by simp [Aside],Below.refl _ _⟩
 case round=>
  obtain ⟨k,hk,rfl,hall,hbw⟩:=hrel
  by_cases hlt:k<l.length
  · obtain ⟨b,o,rfl,_,hbl,hc⟩:=Reads.at_ h (by omega)
    have hrg:wr.rangeAt b (o+k*25) (dR l[k]):=fun j v hj=>by
     have h2:=hc _ _ (uJ (f:=dR) (n:=25) (fun _=>rfl) k hlt (j:=j) (v:=v) hj);rw [← Nat.add_assoc] at h2;exact (hbw.out.cell (p:=⟨b,o+k*25+j,none⟩) hbl).trans h2
    have hcall:=hq wr l[k] (List.getElem_mem hlt) hbw.out;clear hc hq
    cases hp:p l[k] with
    | true=>
      rw [hp] at hcall;have HP:=hide (D7 hlt hp);clear hp
      go_wp2_with (first | ((with_reducible (refine dw 175 (.tmp 14) ?lx ?_));(case lx=>rfl);refine fH hrg Tryz.underlying175 rfl mD rfl (.tmp 14) rfl rfl ?_) | (go_at_fn g;refine hcall.mono ?_;rintro e w2 ⟨rfl,hb2⟩))
      go_ret;exact ⟨⟨k,rfl,by rw [HP.out];simp⟩,hb2⟩
    | false=>
      rw [hp] at hcall;have HP:=hide (BN hlt hall.out hp);clear hp
      go_wp2_with (first | ((with_reducible (refine dw 175 (.tmp 14) ?lx ?_));(case lx=>rfl);refine fH hrg Tryz.underlying175 rfl mD rfl (.tmp 14) rfl rfl ?_) | (go_at_fn g;refine hcall.mono ?_;rintro e w2 ⟨rfl,hb2⟩))
      go_roundw
      case rel=>exact ⟨k+1,by omega,by go_num,HP.out,hb2⟩
      case measure=>simp [intOf];omega
  · have HA:=hide (show l.any p=false by have:=hall.out;rwa [List.take_of_length_le (by omega)] at this)
    go_wp2;go_ret;exact ⟨⟨-1,rfl,by rw [HA.out];rfl⟩,hbw.out⟩
theorem CY (S:Nat→Prop) (A:Option Addr) (c:Nat) (l:List Nm.Io) (g:Nat) (lb:Array Value) (p:Nm.Io→Bool) (w:World) (h:Reads w S 25 A l.length c (l.flatMap dR)) (hg:zf dR g lb l p w):
 Calls Tryz.prog 161 #[.slice A l.length c,.func (.func g) #[] lb] w fun e w'=>e= .returned (.bool (l.any p))∧Below w.heap.size w w':=by
 have HI:=hide (IL S A c l g lb p w h hg)
 go_enter Tryz.func161,Tryz.ntmps161
 go_wp2_with (go_at_call 203;refine HI.out.mono ?_;rintro e w1 ⟨⟨i,rfl,hi⟩,hb1⟩)
 go_ret;exact ⟨aH (by first | rfl | exact hi),hb1⟩
abbrev Nm.Pl:=ByteArray × ByteArray
def jv (p:Nm.Pl):List Value:=[.string p.1,.string p.2]
@[reducible] def plV (p:Nm.Pl):Value:= .agg #[.string p.1,.string p.2]
theorem EX (S:Nat→Prop) (A:Option Addr) (c:Nat) (l:List Nm.Pl) (g:Nat) (lb:Array Value) (p:Nm.Pl→Bool) (w:World) (h:Reads w S 2 A l.length c (l.flatMap jv)) (hg:zf jv g lb l p w):
 Calls Tryz.prog 200 #[.slice A l.length c,.func (.func g) #[] lb] w fun e w'=>(∃ i:Int,e= .returned (.int .i64 i)∧decide (0≤i)=l.any p)∧Below w.heap.size w w':=by
 obtain ⟨b1,b2,b3⟩:=h.bd;obtain ⟨eg,hq⟩:=hg
 go_enter Tryz.func200,Tryz.ntmps200
 go_wp2
 go_loopw [8] (fun i wr=>∃ k:Nat,k≤l.length∧i= .int .i64 k∧Aside ((l.take k).any p=false)∧Aside (Below w.heap.size w wr)) (fun i _=>l.length - (intOf i).toNat)
 case atStart=>exact ⟨0,Nat.zero_le _,rfl,by simp [Aside],Below.refl _ _⟩
 case round=>
  obtain ⟨k,hk,rfl,hall,hbw⟩:=hrel
  by_cases hlt:k<l.length
  · obtain ⟨b,o,rfl,_,hbl,hc⟩:=Reads.at_ h (by omega)
    have hrg:wr.rangeAt b (o+k*2) (jv l[k]):=fun j v hj=>by
     have h2:=hc _ _ (uJ (f:=jv) (n:=2) (fun _=>rfl) k hlt (j:=j) (v:=v) hj);rw [← Nat.add_assoc] at h2;exact (hbw.out.cell (p:=⟨b,o+k*2+j,none⟩) hbl).trans h2
    have hcall:=hq wr l[k] (List.getElem_mem hlt) hbw.out;clear hc hq
    cases hp:p l[k] with
    | true=>
      rw [hp] at hcall;have HP:=hide (D7 hlt hp);clear hp
      go_wp2_with (first | ((with_reducible (refine dw 114 (.tmp 14) ?lx ?_));(case lx=>rfl);refine fH hrg Tryz.underlying114 rfl nO rfl (.tmp 14) rfl rfl ?_) | (go_at_fn g;refine hcall.mono ?_;rintro e w2 ⟨rfl,hb2⟩))
      go_ret;exact ⟨⟨k,rfl,by rw [HP.out];simp⟩,hb2⟩
    | false=>
      rw [hp] at hcall;have HP:=hide (BN hlt hall.out hp);clear hp
      go_wp2_with (first | ((with_reducible (refine dw 114 (.tmp 14) ?lx ?_));(case lx=>rfl);refine fH hrg Tryz.underlying114 rfl nO rfl (.tmp 14) rfl rfl ?_) | (go_at_fn g;refine hcall.mono ?_;rintro e w2 ⟨rfl,hb2⟩))
      go_roundw
      case rel=>exact ⟨k+1,by omega,by go_num,HP.out,hb2⟩
      case measure=>simp [intOf];omega
  · have HA:=hide (show l.any p=false by have:=hall.out;rwa [List.take_of_length_le (by omega)] at this)
    go_wp2;go_ret;exact ⟨⟨-1,rfl,by rw [HA.out];rfl⟩,hbw.out⟩
theorem zL (S:Nat→Prop) (A:Option Addr) (c:Nat) (l:List Nm.Pl) (g:Nat) (lb:Array Value) (p:Nm.Pl→Bool) (w:World) (h:Reads w S 2 A l.length c (l.flatMap jv)) (hg:zf jv g lb l p w):
 Calls Tryz.prog 151 #[.slice A l.length c,.func (.func g) #[] lb] w fun e w'=>e= .returned (.bool (l.any p))∧Below w.heap.size w w':=by
 have HI:=hide (EX S A c l g lb p w h hg)
 go_enter Tryz.func151,Tryz.ntmps151
 go_wp2_with (go_at_call 200;refine HI.out.mono ?_;rintro e w1 ⟨⟨i,rfl,hi⟩,hb1⟩)
 go_ret;exact ⟨aH (by first | rfl | exact hi),hb1⟩
theorem BU (S:Nat→Prop) (A:Option Addr) (c:Nat) (l:List Nm.Io) (x:Nm.nU) (w:World) (h:Reads w S 25 A l.length c (l.flatMap dR)) (hk:∀ g∈l,Nm.Po x g=true):
 Calls Tryz.prog 104 #[.slice A l.length c,ZC x] w fun e w'=>e= .returned (.bool (!(l.any fun g=>Nm.has g x)))∧Below w.heap.size w w':=by
 obtain ⟨z,hz⟩:∃ q,(l.any fun g=>Nm.has g x)=q:=⟨_,rfl⟩;have hcon:=fun (g:Nat) (lb:Array Value) (W:World) (hr:Reads W S 25 A l.length c (l.flatMap dR)) (hs:zf dR g lb l (fun g=>Nm.has g x) W)=>CY S A c l g lb _ W hr hs
 simp only [hz] at hcon ⊢
 clear hz;have HC:=hide hcon;clear hcon
 go_enter Tryz.func104,Tryz.ntmps104
 go_upto_region 0 with (fail)
 go_cut [3,4] (fun v3 v4 wx=>v3=ptr (w.heap.size)∧v4= .bool false∧Bx w wx [(w.heap.size,aU x,173)])
 case first=>
  go_wp2;go_meet;exact ⟨rfl,rfl,Bx.of ((aG.nil w).new (by simp) (aU x) 173) _ rfl⟩
 case rest=>
  obtain ⟨rfl,rfl,hL⟩:=hcut;have hrd:=Reads.below h hL.bw;have HS:=hide (show zf dR 162 #[ptr w.heap.size] l (fun g=>Nm.has g x) wc from ⟨fun _ _=>rfl,fun W g hg hb=>(Hw g x w.heap.size W ((hL.get 0 rfl).below hb) (hk g hg)).mono (fun e w' ⟨e1,e2⟩=>⟨e1,hb.trans (e2.mono hb.size)⟩)⟩);clear hk
  go_wp2_with (go_at_call 161;refine (HC.out _ _ _ hrd HS.out).mono ?_;rintro e w1 ⟨rfl,hb1⟩;have hL:=hL.call hb1)
  go_ret;exact ⟨rfl,hL.bw⟩
theorem aG.turn {w W W':World} {L:List (List Value × TypeId)} {X:Nat→Prop} (h:aG w W L) (ht:Turn X W W') (hX:∀ b,X b→w.heap.size+L.length≤b) (hs:w.heap.size≤W.heap.size):aG w W' L:=
 ⟨fun i e he=>(ht.block _ (h.at_ i e he).lt (fun hx=>by have:=hX _ hx;have:=(List.getElem?_eq_some_iff.1 he).1;omega)).trans (h.at_ i e he),vT h.bw ht (fun b hb=>by have:=hX b hb;omega) hs⟩
theorem aG.putObj {w W:World} {L:List (List Value × TypeId)} {l:Nat} {o:Obj} (h:aG w W L) (hw:w.heap.size≤l) (hl:W.heap[l]? =some o) (ho:o.isCells=false) (o':Obj):aG w (W.putObj l o') L:=
 ⟨fun i e he=>(h.at_ i e he).putObj hl ho o',jQ h.bw hw _⟩
theorem uN {P:Program} {w w':World} {n:String} {cs:Array Value} (h:w.var? P n=some cs) (hb:∀ b,b<w.heap.size→w'.heap[b]? =w.heap[b]?):w'.var? P n=some cs:=by
 unfold World.var? at h ⊢
 cases hg:P.globalNamed n with
 | none=>rw [hg] at h;cases h
 | some g=>
   rw [hg] at h
   simp only [Option.bind_some] at h ⊢
   cases ho:w.heap[g]? with
   | none=>rw [ho] at h;cases h
   | some o=>
     have hlt:g<w.heap.size:=(Array.getElem?_eq_some_iff.1 ho).1;rw [hb g hlt];exact h
theorem Glob.MN {w w':World} (h:Glob w) (hb:∀ b,b<w.heap.size→w'.heap[b]? =w.heap[b]?):Glob w':=by
 obtain ⟨m,hm⟩:=h.n;obtain ⟨t1,p1,h1⟩:=h.es;obtain ⟨t2,p2,h2⟩:=h.er;have hlt:1<w.heap.size:=Lib.lt_of_cell hm;exact ⟨⟨m,(World.cell?_of_block (hb 1 hlt)).trans hm⟩,⟨t1,p1,uN h1 hb⟩,⟨t2,p2,uN h2 hb⟩,uN h.tab hb⟩
def Valid (s:ByteArray):Prop:=∀ W,Glob W→Calls Tryz.prog 146 #[.string s] W fun e w'=>e= .returned (.int .i64 0)∧Below W.heap.size W w'
def JG (_:Nat):Array Value:= #[.int .i64 0]
theorem Lu (S:Nat→Prop) (A:Option Addr) (c:Nat) (xs:List ByteArray) (Bt n:Nat) (w:World) (hn:1≤n) (hg:Glob w) (hBt:Held w Bt [.slice A xs.length c] 284) (hL:Reads w S 1 A xs.length c (xs.map Value.string)) (hV:∀ s∈xs,Valid s):
 Ee (jT none) n Tryz.prog 277 #[ptr Bt] JG (fun b=>b<w.heap.size) (fun _ _ pre x _=>x=pre.length∧x<xs.length) (fun ys=>ys=List.range xs.length) (fun _=>True) xs.length w:=by
 intro l0 J Jx W hW hJ hJx hY h0;refine lZ ?_;have hBW:=hBt.below hW;have hL':Reads w (fun b=>b<w.heap.size) 1 A xs.length c (xs.map Value.string):=hL.more (fun b h _=>h);have hKb:∀ b,b<w.heap.size→W.heap[b]? =w.heap[b]? :=fun b h=>hW.block b h;have HY:=hide hY;have hbt:=hBt.lt;clear hY;have k0:=hBW.cell (j:=0) rfl;have Yl:=hBW.frozen 0
 go_enter Tryz.func277,Tryz.ntmps277
 go_wp2
 go_loopw [7] (fun i wr=>∃ k:Nat,k≤xs.length∧i= .int .i64 k∧J (fun _=>False) (fun _=>False) (List.range k) wr∧W.heap.size≤wr.heap.size∧∀ b,b<w.heap.size→wr.heap[b]? =w.heap[b]?) (fun i _=>xs.length - (intOf i).toNat)
 case atStart=>exact ⟨0,by omega,rfl,h0,Nat.le_refl _,hKb⟩
 case round=>
  obtain ⟨k,hk,rfl,hj,hsz,hkp⟩:=hrel
  by_cases hlt:k<xs.length
  · have hgr:Glob wr:=hg.MN hkp
    have hLr:=hL'.keep (Nat.le_trans hW.size hsz) (fun b o hb _=>World.cell?_of_block (hkp b hb));obtain ⟨b1,b2,b3⟩:=hLr.bd;obtain ⟨b,o,rfl,_,hbl,hc⟩:=hLr.at_ (by omega);have hck:=hc k (.string xs[k]) (by rw [List.getElem?_map,List.getElem?_eq_getElem hlt];rfl);have hv:=hV _ (List.getElem_mem hlt);obtain ⟨s,hs⟩:∃ s,xs[k]=s:=⟨_,rfl⟩;rw [hs] at hck hv;have HV:=hide (hv wr hgr);clear hc hs hv k0 Yl hL hL' hLr hBt;have aAz:decide ((k:Int)<(xs.length:Int))=true:=decide_eq_true (by omega)
    go_upto_region 3 with (fail)
    go_cut [15] from 10 to 15 (fun v wx=>(v= .bool false∧J (fun _=>False) (fun _=>False) (List.range (k+1)) wx∧wr.heap.size≤wx.heap.size∧∀ b,b<w.heap.size→wx.heap[b]? =w.heap[b]?)∨(v= .bool true∧Jx (fun _=>False) (fun _=>False) (List.range (k+1)) wx))
    case first=>
     refine (wpIn_wide (n:=n)).1 ?_;have apr:(jT none).round=none:=rfl;have aoo:(jT none).depth=none:=rfl;have aoJ:∀ f,(jT none).fn f=True:=fun _=>rfl;have aAN:Fence.wide.round=none:=rfl;have aAe:Fence.wide.depth=none:=rfl;have aAl:∀ f,Fence.wide.fn f=True:=fun _=>rfl;refine wpIn_region_lit ?_
     gi_wp2_with (gi_at_call 146;refine (lZ HV.out).mono ?_;rintro e w2 ⟨rfl,hb2⟩;obtain ⟨fn',akh,assign',body',hy,hR⟩:=HY.out (fun _=>False) (fun _=>False) (List.range k) k w2 (hJ _ _ _ _ _ _ _ hj (Turn.of_below hb2) (fun b h=>h.elim) (fun b h=>h.elim)) (fun b h=>h.elim (fun h=>h.elim) (fun h=>h.elim)) (by rw [List.length_range];exact hlt) ⟨List.length_range.symm,hlt⟩;rw [show JG k= #[.int .i64 0] from rfl] at hy)
     refine hR.mono ?_
     rintro e4 W4 (⟨rfl,XF,hk4⟩ | ⟨rfl,F5⟩)
     · gi_wp2
       go_meet;exact .inl ⟨rfl,by rw [List.range_succ];exact XF,Nat.le_trans hb2.size hk4.size,fun b hb=>(hk4.keep b hb).trans ((hb2.block b (Nat.lt_of_lt_of_le hb (Nat.le_trans hW.size hsz))).trans (hkp b hb))⟩
     · gi_wp2
       go_meet;exact .inr ⟨rfl,by rw [List.range_succ];exact F5⟩
    case rest=>
     rcases hcut with ⟨rfl,XF,hs4,hk4⟩ | ⟨rfl,F5⟩
     · go_wp2
       go_roundw
       case rel=>exact ⟨k+1,by omega,by go_num,XF,Nat.le_trans hsz hs4,hk4⟩
       case measure=>simp [intOf];omega
     · go_wp2
       refine bodyPost_ret (results_none rfl _ _ _) rfl ?_
       first | exact ⟨⟨_,rfl⟩,.inr ⟨_,_,_,trivial,F5⟩⟩ | exact ⟨⟨_,rfl⟩,.inr ⟨_,_,_,F5⟩⟩
  · obtain rfl:k=xs.length:=by omega
    go_wp2
    go_end0
    first | exact ⟨⟨_,rfl⟩,.inl ⟨_,_,hj⟩⟩ | exact ⟨⟨_,rfl⟩,.inl ⟨_,_,_,rfl,hj⟩⟩
theorem IJ (A:Option Addr) (n c:Nat) (w:World):
 Calls Tryz.prog 253 #[.slice A n c] w fun e w'=>e= .returned (.func (.func 277) #[] #[ptr w.heap.size])∧aG w w' [([.slice A n c],284)]:=by
 go_enter Tryz.func253,Tryz.ntmps253
 go_wp2;go_ret;exact ⟨rfl,(aG.nil w).new (by simp) ([.slice A n c]) _⟩
structure VY (w:World) (D:Nat) (X Y:Nat→Prop) (pre:List Nat) (W:World):Prop where
 b:aG w W [([.int .i64 0],34)]
 sz:D≤W.heap.size
 sep:∀ b,X b∨Y b→D≤b
theorem VY.abides (w:World) (D:Nat) (hD:w.heap.size+1≤D):qc (VY w D):=by
 intro X Y pre W X' Y' W' h ht hX hY;refine ⟨h.b.turn ht (fun b hb=>by have:=h.sep b (.inl hb);simp;omega) (by have:=h.sz;omega),Nat.le_trans h.sz ht.size,?_⟩
 rintro b (hb | hb)
 · rcases hX b hb with h2 | h2
   · exact h.sep b (.inl h2)
   · exact Nat.le_trans h.sz h2
 · rcases hY b hb with h2 | h2
   · exact h.sep b (.inr h2)
   · exact Nat.le_trans h.sz h2
theorem VY.putObj {w:World} {D:Nat} {X Y:Nat→Prop} {pre:List Nat} {W:World} {lp:Nat} {o:Obj} (h:VY w D X Y pre W) (hD:w.heap.size≤D) (hlp:D≤lp) (hl:W.heap[lp]? =some o) (ho:o.isCells=false) (o':Obj):VY w D X Y pre (W.putObj lp o'):=
 ⟨h.b.putObj (by omega) hl ho o',by simpa using h.sz,h.sep⟩
theorem OH {W:World} {g:Nat} {u:Value} {t1 t3:TypeId} {d1:TypeDesc} {fn:Func} {p:Tmp} (hg:Held W g [u] t1) (hu:Tryz.prog.underlying t3=some d1) (h1:d1.isRow=false)
 (hr:fn.results= #[.cell p t3]) (tmps:Array Value) (hp:tmps.getD p undef=ptr g):(results fn tmps).run Tryz.prog W= .ok u W:=by
 have e:(results fn tmps).run Tryz.prog W=((asAddr (tmps.getD p undef)).run Tryz.prog W).andThen fun a w₁=>(loadVar t3 a).run Tryz.prog w₁:=by
  simp only [results,hr]
  simp [Sem.run_bind,Result.andThen]
 rw [e,hp]
 simp only [ptr,asAddr,Sem.run_pure,Result.andThen_ok,pR hg hu h1]
theorem Eo (S:Nat→Prop) (A:Option Addr) (c:Nat) (xs:List ByteArray) (w:World) (hg:Glob w) (hL:Reads w S 1 A xs.length c (xs.map Value.string)) (hV:∀ s∈xs,Valid s):
 Calls Tryz.prog 218 #[.slice A xs.length c] w fun e w'=>e= .returned (.int .i64 0)∧Below w.heap.size w w':=by
 refine callsIn_wide.1 (callsIn_of_wp_marks (F:=Fence.wide) (n:=5) Tryz.func218 rfl trivial ?_ rfl)
 simp only [Tryz.ntmps218,List.size_toArray,List.length_cons,List.length_nil,Nat.reduceAdd,Nat.reduceSub,Array.replicate_succ,
  Array.replicate_zero,List.push_toArray,List.append_toArray,List.nil_append,List.cons_append]
 refine wpIn_wide.2 ?_
 generalize hQ':bodyPostM Fence.wide 5 Tryz.prog _ _=Q'
 have HQ:=hide hQ';clear hQ';obtain ⟨n0,hn0⟩:∃ n,xs.length=n:=⟨_,rfl⟩;have HN:=hide hn0;rw [hn0];clear hn0
 go_upto_region 0 with (fail)
 go_cut [2] from 2 to 3 (fun v2 w1=>v2=ptr w.heap.size∧aG w w1 [([.int .i64 0],34)])
 case first=>
  go_wp2;go_meet;exact ⟨rfl,((aG.nil w).new (by simp) ([.int .i64 0]) _)⟩
 case rest=>
  obtain ⟨rfl,hB⟩:=hcut
  rename World=>w1
  have hs1:=hB.size (by simp)
  simp only [List.length_cons,List.length_nil] at hs1
  go_wp2_with (go_at_call 253;refine (IJ A n0 c _).mono ?_;rintro e w3 ⟨rfl,hC⟩)
  have hs3:=hC.size (by simp)
  simp only [List.length_cons,List.length_nil] at hs3
  have hB3:=hB.upto hC.bw (by simpa using hs1);have hb3:Below w.heap.size w w3:=hB3.bw;have hg3:=hg.below hb3;have XK:Reads w3 S 1 A xs.length c (xs.map Value.string):=hL.below hb3
  have hC0:Held w3 w1.heap.size [.slice A xs.length c] 284:=by rw [HN.out];exact hC.au rfl
  rename_i KQ XG;refine (wpIn_wide (n:=5)).1 ?_
  refine jI (F:=Fence.wide) rfl (by decide) rfl trivial (enters_of Tryz.func277 (by kernel_rfl) rfl) (Lu S A c xs w1.heap.size 4 w3 (by decide) hg3 hC0 XK hV) (fun b h=>h) (Below.refl _ _) (fun _=>rfl) (VY w w3.heap.size) (fun _ _ _ _=>False) (VY.abides w w3.heap.size (by omega)) (fun _ _ _ _ _ _ _ h _ _ _=>h)
   (fun X Y pre W lp o o' h hlp hl ho=>h.putObj (by omega) hlp hl ho o') (fun _ _ _ _ _ _ _ h _ _ _=>h) (fun X Y pre x W lp o o' h hlp hl ho=>h) ?h0 (fun x a W=>∃ v0 v1 v4 v5 v6 v7 v8 v9,a= {tmps:= #[v0,v1,ptr w.heap.size,.int .i64 0,v4,v5,v6,v7,v8,v9],defers:=[] }) ?assign ?ap ?body ?done ?stop
  case h0=>
   intro W hW;exact ⟨hB3.upto hW (by simp;omega),hW.size,fun b h=>h.elim (fun h=>h.elim) (fun h=>h.elim)⟩
  case ap=>
   rintro x a' W lp o o' ⟨v0,v1,v4,v5,v6,v7,v8,v9,e2⟩ hlp hl ho
   exact ⟨v0,v1,v4,v5,v6,v7,v8,v9,e2⟩
  case stop=>exact fun _ _ _ _ _ _ _ h _=>h.elim
  case assign=>
   intro lp X Y pre x W K' hi ht hk AP
   have fin:∀ v0 v1 v4 v5 v6 v7 v8 v9:Value,K' {tmps:= #[v0,v1,ptr w.heap.size,.int .i64 0,v4,v5,v6,v7,v8,v9],defers:=[] } W:=fun _ _ _ _ _ _ _ _=>
    hk _ _ ⟨Nat.le_refl _,fun k o hk hl _=>hl⟩ ⟨Nat.le_refl _,fun b h=>rfl,fun b h=>rfl⟩ hi ht ⟨_,_,_,_,_,_,_,_,rfl⟩
   have FIN:=hide fin;clear hk fin hi ht AP
   simp [JG]
   refine aZ (by kernel_rfl) (by rintro ⟨_,_,h⟩;exact h) ?_;go_wp2;exact FIN.out _ _ _ _ _ _ _ _
  case body=>
   rintro lp X Y pre x a' W hi ht ⟨v0,v1,v4,v5,v6,v7,v8,v9,rfl⟩ hlt AP hWs
   have FIN:Hid (∀ a:Act,uM (fun b=>b<w3.heap.size) w3.heap.size X Y (VY w w3.heap.size) (fun _ _ _ _=>False) (pre++[x]) W .normal a W):=hide (fun a=>⟨⟨Nat.le_refl _,fun k o hk hl _=>hl⟩,⟨Nat.le_refl _,fun b h=>rfl,fun b h=>rfl⟩,⟨hi.b,hi.sz,hi.sep⟩⟩);clear hi ht AP;apply wpIn_block;apply wpIn_seq_k;intro K1 hK1;refine aZ (by kernel_rfl) (by rintro ⟨_,_,h⟩;exact h) ?_;go_wp2;refine wpIn_cond_split rfl (fun h=>?_) (fun h=>?_)
   · cases h
   · refine wpIn_skip ?_;exact FIN.out {tmps:= #[],defers:=[] }
  case done=>
   intro D X Y xs' W hD hS hi hdef;have kC:=hi.b;have hc9:=(kC.au rfl).cell (j:=0) rfl;have hf9:=(kC.au rfl).frozen 0
   have hD':w.heap.size≤D:=by omega
   have hne:D≠w.heap.size:=by omega
   have Ip:=hide hdef;clear hi hS hdef;refine XG _ _ ?_
   dsimp only
   refine lW ?_;go_wp2;have hZ:=kC.set 0 rfl 0 (.int .i64 0);have hdz:=(Below.heap_setCell W ⟨w.heap.size,0,none⟩ (.int .i64 0) D hne).trans Ip.out
   show Q' .ret _ _
   rw [← HQ.out];exact mF rfl hdz (OH (p:=2) ((hZ.au rfl).putObj hdz rfl _) Tryz.underlying34 rfl rfl _ rfl) ⟨rfl,jQ hZ.bw hD' _⟩
theorem Reads.lit (W:World) (t:TypeId) (S:Nat→Prop) (size n:Nat) (vs:List Value) (hn:n≤1000) (hl:vs.length=n*size) (hS:S W.heap.size):Reads (W.alloc (.cells vs.toArray t)) S size (some ⟨W.heap.size,0,none⟩) n n vs:=
 ⟨Nat.le_refl _,by omega,by omega,hl,fun _=>⟨W.heap.size,0,rfl,hS,by simp,fun j u hu=>by
  have:=jK W t vs W.heap.size rfl j u hu
  rwa [nV] at this⟩⟩
theorem zJ (S:Nat→Prop) (A:Option Addr) (c:Nat) (x y:ByteArray) (w:World) (hg:Glob w) (hL:Reads w S 2 A 1 c [.string x,.string y]) (hx:Valid x) (hy:Valid y):
 Calls Tryz.prog 183 #[.slice A 1 c] w fun e w'=>e= .returned (.int .i64 0)∧Below w.heap.size w w':=by
 obtain ⟨b,o,rfl,_,hb,hc⟩:=hL.at_ (by omega);have c0:=hc 0 _ rfl;have c1:=hc 1 _ rfl;rw [Nat.add_zero] at c0;clear hc
 have HC:∀ (W:World) (G:Nat),Glob W→W.heap.size=G→Calls Tryz.prog 218 #[.slice (some ⟨G,0,none⟩) 2 2] (W.alloc (.cells #[.string x,.string y] 108)) fun e w'=>e= .returned (.int .i64 0)∧Below W.heap.size W w':=fun W G h hG=>by
  subst hG;have h2:Below W.heap.size W (W.alloc (.cells #[.string x,.string y] 108)):=(Below.refl _ _).alloc (Nat.le_refl _) _;refine (Eo (fun _=>True) _ 2 [x,y] _ (h.below h2) (Reads.lit W _ _ 1 2 [.string x,.string y] (by omega) rfl trivial) (fun s hs=>by simp at hs;rcases hs with rfl | rfl <;> assumption)).mono ?_
  rintro e w' ⟨rfl,hb⟩
  exact ⟨rfl,h2.trans (hb.mono h2.size)⟩
 have HC:=hide HC;have HV:=hide (fun s (hs:s∈[x,y])=>show Valid s by simp at hs;rcases hs with rfl | rfl <;> assumption);clear hx hy hL
 go_enter Tryz.func183,Tryz.ntmps183
 go_wp2
 go_loopw [8] (fun i wr=>∃ k:Nat,k≤1∧i= .int .i64 k∧Below w.heap.size w wr) (fun i _=>1 - (intOf i).toNat)
 case atStart=>exact ⟨0,by omega,rfl,Below.refl _ _⟩
 case round=>
  obtain ⟨k,hk,rfl,hbw⟩:=hrel;have hgr:=hg.below hbw;have d0:wr.cell? ⟨b,o,none⟩=some (.string x):=(hbw.cell (p:=⟨b,o,none⟩) hb).trans c0;have d1:wr.cell? ⟨b,o+1,none⟩=some (.string y):=(hbw.cell (p:=⟨b,o+1,none⟩) hb).trans c1;clear c0 c1
  by_cases h0:k=0
  · subst h0
    go_wp2
    go_quiet (fail)
    have hbq:=below_drewN ((Below.refl wr.heap.size wr).alloc (Nat.le_refl _) (.cells #[.string x,.string y] 114)) nq
    go_wp2_with (go_at_call 218;refine (HC.out _ (wr.heap.size+1) (hgr.below hbq) (by simp)).mono ?_;rintro e w5 ⟨rfl,hb5⟩)
    have hb6:=hbw.trans ((hbq.trans (hb5.mono hbq.size)).mono hbw.size)
    go_roundw
    case rel=>exact ⟨1,by omega,by go_num,hb6⟩
    case measure=>simp [intOf]
  · obtain rfl:k=1:=by omega
    go_wp2;go_ret;exact ⟨rfl,hbw⟩
theorem tJ (x y:ByteArray) (w:World) (hg:Glob w) (hx:Valid x) (hy:Valid y):
 Calls Tryz.prog 145 #[.agg #[.string x,.string y]] w fun e w'=>e= .returned (.int .i64 0)∧Below w.heap.size w w':=by
 have hb0:=(Below.refl w.heap.size w).alloc (Nat.le_refl _) (.cells #[.string x,.string y] 114)
 have HC:∀ (W:World) (G:Nat),Glob W→W.heap.size=G→Calls Tryz.prog 183 #[.slice (some ⟨G,0,none⟩) 1 1] (W.alloc (.cells #[.string x,.string y] 114)) fun e w'=>e= .returned (.int .i64 0)∧Below W.heap.size W w':=fun W G h hG=>by
  subst hG;have h2:Below W.heap.size W (W.alloc (.cells #[.string x,.string y] 114)):=(Below.refl _ _).alloc (Nat.le_refl _) _;refine (zJ (fun _=>True) _ 1 x y _ (h.below h2) (Reads.lit W _ _ 2 1 [.string x,.string y] (by omega) rfl trivial) hx hy).mono ?_
  rintro e w' ⟨rfl,hb⟩
  exact ⟨rfl,h2.trans (hb.mono h2.size)⟩
 have HC:=hide HC;clear hx hy
 go_enter Tryz.func145,Tryz.ntmps145
 go_wp2_with (go_at_call 183;refine (HC.out _ (w.heap.size+1) (hg.below hb0) (by simp)).mono ?_;rintro e w5 ⟨rfl,hb5⟩)
 go_ret;exact ⟨rfl,hb0.trans (hb5.mono hb0.size)⟩
theorem Bj (w:World):
 Calls Tryz.prog 185 #[.string ⟨#[48]⟩] w fun e w'=>e= .returned (.bool true)∧Below w.heap.size w w':=by
 have HT:∀ W,Calls Tryz.prog 220 #[.string ⟨#[48]⟩,.string ⟨#[48,49,50,51,52,53,54,55,56,57]⟩] W fun e w'=>e= .returned (.string ⟨#[]⟩)∧Below W.heap.size W w':=fun W=>by
  have:=Any.strings_Trim_laid Tryz.lays160 (by kernel_rfl) ⟨#[48]⟩ ⟨#[48,49,50,51,52,53,54,55,56,57]⟩ W (by decide) (by decide) (ascii_of_all (by decide))
  rwa [show Lib.trimS (ByteArray.mk #[48]).data.toList (ByteArray.mk #[48,49,50,51,52,53,54,55,56,57]).data.toList=[] from by decide] at this
 have HT:=hide HT
 go_enter Tryz.func185,Tryz.ntmps185
 go_wp2_with (go_at_call 220;refine (HT.out _).mono ?_;rintro e w1 ⟨rfl,hb1⟩)
 go_ret;exact ⟨rfl,hb1⟩
theorem vw (l:List UInt8) (w:World) (hg:Glob w) (hlen:l.length≤18) (HD:∀ W,Calls Tryz.prog 185 #[.string ⟨l.toArray⟩] W fun e w'=>e= .returned (.bool true)∧Below W.heap.size W w') (hp:Lib.hasPrefix l [45]=false) (hq:Lib.trimPrefix l [45]=l) (hcut:Lib.cut l [47]=(l,[],false)):
 Calls Tryz.prog 146 #[.string ⟨l.toArray⟩] w fun e w'=>e= .returned (.int .i64 0)∧Below w.heap.size w w':=by
 have HC:∀ W,Glob W→Calls Tryz.prog 148 #[.string ⟨l.toArray⟩,.string ⟨#[47]⟩] W fun e w'=>e= .returned (.tuple #[.string ⟨l.toArray⟩,.string ⟨#[]⟩,.bool false])∧∃ n,w'=W.drewN n:=fun W hG=>by
  obtain ⟨m,hm⟩:=hG.n
  have:=Tryz.strings_Cut ⟨l.toArray⟩ ⟨#[47]⟩ m W (by rw [jF];omega) hm
  rwa [show Lib.cut (ByteArray.mk l.toArray).data.toList (ByteArray.mk #[47]).data.toList=(l,[],false) from hcut] at this
 have HP:∀ W,Calls Tryz.prog 184 #[.string ⟨l.toArray⟩,.string ⟨#[45]⟩] W fun e w'=>e= .returned (.tuple #[.string ⟨l.toArray⟩,.bool false])∧w'=W:=fun W=>by
  have:=Tryz.strings_CutPrefix ⟨l.toArray⟩ ⟨#[45]⟩ W
  rwa [show Lib.trimPrefix (ByteArray.mk l.toArray).data.toList (ByteArray.mk #[45]).data.toList=l from hq,show Lib.hasPrefix (ByteArray.mk l.toArray).data.toList (ByteArray.mk #[45]).data.toList=false from hp] at this
 have hsz:=jF l;obtain ⟨s,hs⟩:∃ s:ByteArray,⟨l.toArray⟩=s:=⟨_,rfl⟩
 simp only [hs] at HC HP HD hsz ⊢
 obtain ⟨n,hn⟩:∃ n,l.length=n:=⟨_,rfl⟩;rw [hn] at hsz hlen;have hgt:decide (600<(n:Int))=false:=decide_eq_false (by omega);clear hs hn hp hq hcut;have HC:=hide HC;have HP:=hide HP;have HD:=hide HD
 go_enter Tryz.func146,Tryz.ntmps146
 go_upto_region 6 with (first | (go_at_call 184;refine (HP.out _).mono ?_;rintro e w1 ⟨rfl,rfl⟩) | (go_at_call 148;refine (HC.out _ hg).mono ?_;rintro e w2 ⟨rfl,k,rfl⟩;have hb2:=below_drewN (Below.refl w1.heap.size w1) k) | (go_at_call 185;refine (HD.out _).mono ?_;rintro e w3 ⟨rfl,hb3⟩;have acA:=hb2.trans (hb3.mono (by exact hb2.size))))
 go_wp2_with (first | (go_at_call 187;refine (ML _ _).mono ?_;rintro e qK ⟨rfl,rfl⟩) | (go_at_call 186;refine (JE (fun _=>True) _ _ _ (nI.lit _ _ [0,0] (by simp) _ trivial)).mono ?_;rintro e qK ⟨rfl,rfl⟩))
 go_ret;exact ⟨rfl,acA.alloc (by exact acA.size) _⟩
abbrev s0:ByteArray:=⟨#[48]⟩
abbrev s1:ByteArray:=⟨#[49]⟩
abbrev s2:ByteArray:=⟨#[50]⟩
abbrev s4:ByteArray:=⟨#[52]⟩
theorem CB:Valid s0:=fun W h=>vw [48] W h (by decide) (fun W=>Bj W) (by decide) (by decide) (by decide)
theorem TD:Valid s1:=fun W h=>vw [49] W h (by decide) (fun W=>qB [49] 49 [] W rfl (by decide) (by decide) (by rfl)) (by decide) (by decide) (by decide)
theorem Y7:Valid s2:=fun W h=>vw [50] W h (by decide) (fun W=>qB [50] 50 [] W rfl (by decide) (by decide) (by rfl)) (by decide) (by decide) (by decide)
theorem Y8:Valid s4:=fun W h=>vw [52] W h (by decide) (fun W=>qB [52] 52 [] W rfl (by decide) (by decide) (by rfl)) (by decide) (by decide) (by decide)
def Ze (s:ByteArray) (a:Nm.Fr):Prop:=∀ W,Glob W→Calls Tryz.prog 99 #[.string s] W fun e w'=>e= .returned (gy a)∧Below W.heap.size W w'
theorem FX:Ze s0 ⟨0,1⟩:=fun W h=>su [48] 0 W h (by decide) (by decide) (by decide) (by decide) (by rfl) (by decide) (by decide) (by decide)
theorem Xx:Ze s1 ⟨1,1⟩:=fun W h=>su [49] 1 W h (by decide) (by decide) (by decide) (by decide) (by rfl) (by decide) (by decide) (by decide)
theorem ZX:Ze s2 ⟨2,1⟩:=fun W h=>su [50] 2 W h (by decide) (by decide) (by decide) (by decide) (by rfl) (by decide) (by decide) (by decide)
theorem alz:Ze s4 ⟨4,1⟩:=fun W h=>su [52] 4 W h (by decide) (by decide) (by decide) (by decide) (by rfl) (by decide) (by decide) (by decide)
def Lr (p:Nm.Pl) (v:Nm.iG):Prop:=Ze p.1 v.1∧Ze p.2 v.2
def Nm.Uy (b p:Nm.iG) (d:Nm.Fr):Bool:=Nm.Fj b && Nm.Fj p && Nm.NT (Nm.pV b p) (Nm.pV b p) && Nm.ok d && Nm.ok (Nm.iY (Nm.pV b p) (Nm.pV b p)) && Nm.ok (Nm.mul d d)
def Nm.near (b p:Nm.iG) (d:Nm.Fr):Bool:=decide (Nm.cmp (Nm.iY (Nm.pV b p) (Nm.pV b p)) (Nm.mul d d)<0)
theorem LG (b p:Nm.Pl) (vb vp:Nm.iG) (d:Nm.Fr) (Bp Bd:Nat) (w:World) (hg:Glob w) (hb:Lr b vb) (hp:Lr p vp) (hP:Held w Bp (jv p) 114) (hD:Held w Bd (ah d) 164) (h:Nm.Uy vb vp d=true):
 Calls Tryz.prog 152 #[plV b,ptr Bp,ptr Bd] w fun e w'=>e= .returned (.bool (Nm.near vb vp d))∧Below w.heap.size w w':=by
 unfold Nm.Uy at h
 simp only [Bool.and_eq_true] at h
 obtain ⟨⟨⟨⟨⟨h1,h2⟩,h3⟩,h4⟩,h5⟩,h6⟩:=h;have HL:=fun W=>Cm vb vp W h1 h2;have H2:=fun W=>vG _ _ W h3;have H3:=fun W=>iU d d W h4 h4;have H4:=fun W=>FU _ _ W h5 h6
 unfold Nm.near
 obtain ⟨u,hu⟩:∃ q,Nm.pV vb vp=q:=⟨_,rfl⟩
 simp only [hu] at HL H2 H4 ⊢
 obtain ⟨n,hn⟩:∃ q,Nm.iY u u=q:=⟨_,rfl⟩
 simp only [hn] at H2 H4 ⊢
 obtain ⟨m,hm⟩:∃ q,Nm.mul d d=q:=⟨_,rfl⟩
 simp only [hm] at H3 H4 ⊢
 obtain ⟨k,hk⟩:∃ q,Nm.cmp n m=q:=⟨_,rfl⟩
 simp only [hk] at H4 ⊢
 clear hu hn hm hk h1 h2 h3 h4 h5 h6;have HO:=hide (fun W (h:Glob W)=>H7 b.1 b.2 vb.1 vb.2 W h hb.1 hb.2);have HQ:=hide (fun W (h:Glob W)=>H7 p.1 p.2 vp.1 vp.2 W h hp.1 hp.2);have HL:=hide HL;have H2:=hide H2;have H3:=hide H3;have H4:=hide H4;clear hb hp
 go_enter Tryz.func152,Tryz.ntmps152
 go_upto_region 0 with (fail)
 go_cut [3,4] (fun v3 v4 wx=>v3=ptr (w.heap.size)∧v4= .bool false∧Bx w wx [(w.heap.size,jv b,114)])
 case first=>
  go_wp2;go_meet;exact ⟨rfl,rfl,Bx.of ((aG.nil w).new (by simp) (jv b) 114) _ rfl⟩
 case rest=>
  obtain ⟨rfl,rfl,hL⟩:=hcut
  go_upto_region 1 with (fail)
  go_cut [5] from 6 to 11 (fun v5 wx=>∃ B5,v5=ptr B5∧Bx w wx [(B5,bF (u),170),(w.heap.size,jv b,114)])
  case first=>
   have U4:∀ W:World,Bx w W [(w.heap.size,jv b,114)]→W.rangeAt (w.heap.size) 0 (jv b):=fun W h=>h.rng 0 rfl 0 _ rfl;have adi:∀ W:World,Bx w W [(w.heap.size,jv b,114)]→W.rangeAt (Bp) 0 (jv p):=fun W h=>(hP.below h.bw).range;have hL:=hL.drew;refine wp_region_held_drew (S:=(fun w':World=>Bx w w' [(w.heap.size,jv b,114)])) (by kernel_rfl) ?bg (fun hHeld=>?_)
   case bg=>exact hL
   refine bD 0 U4 Tryz.underlying114 ?_;refine bD 2 adi Tryz.underlying114 ?_;refine iR 1 5 (fun K hK=>?_) fun K hK=>?_
   · go_simp
     (go_at_call 102;refine (HO.out _ (hg.below hL.bw)).mono ?_;rintro e Zb ⟨rfl,PE⟩)
     have hL:=hL.call PE;refine ak hK (by first | exact hL | exact hL.tail) fun hHeld=>?_;clear hK K;refine iR 3 5 (fun K hK=>?_) fun K hK=>?_
     · go_simp
       (go_at_call 102;refine (HQ.out _ (hg.below hL.bw)).mono ?_;rintro e W9 ⟨rfl,PG⟩)
       have hL:=hL.call PG;refine ak hK (by first | exact hL | exact hL.tail) fun hHeld=>?_;clear hK K;refine iR 4 5 (fun K hK=>?_) fun K hK=>?_
       · go_simp
         (go_at_call 153;refine (HL.out _).mono ?_;rintro e ZH ⟨rfl,EC⟩)
         have hL:=hL.call EC;refine ak hK (by first | exact hL | exact hL.tail) fun hHeld=>?_;clear hK K;refine aB 5 fun K hK=>?_;go_simp;have hL:=hL.add (bF (⟨0,0⟩,⟨0,0⟩)) 170;refine ak hK (hL.tail) fun hHeld=>?_;clear hK K;refine aB 6 fun K hK=>?_;refine aQ hL.head (bF (u)) rfl lN (wP _) (.tmp 5) (.tmp 10) rfl rfl rfl ?_;have hL:=hL.put (bF (u)) rfl;refine ak hK (hL.tail) fun hHeld=>?_;clear hK K;refine wpAnyH_done (by kernel_rfl) ?_ _;go_wp2;go_meet;exact ⟨_,rfl,hL⟩
       · go_simp
         have hL:=hL.add (bF (⟨0,0⟩,⟨0,0⟩)) 170;refine ak hK (hL.tail) fun hHeld=>?_;clear hK K;refine aB 4 fun K hK=>?_;go_simp
         (go_at_call 153;refine (HL.out _).mono ?_;rintro e ZH ⟨rfl,EC⟩)
         have hL:=hL.call EC;refine ak hK (by first | exact hL | exact hL.tail) fun hHeld=>?_;clear hK K;refine aB 6 fun K hK=>?_;refine aQ hL.head (bF (u)) rfl lN (wP _) (.tmp 5) (.tmp 10) rfl rfl rfl ?_;have hL:=hL.put (bF (u)) rfl;refine ak hK (hL.tail) fun hHeld=>?_;clear hK K;refine wpAnyH_done (by kernel_rfl) ?_ _;go_wp2;go_meet;exact ⟨_,rfl,hL⟩
     · go_simp
       have hL:=hL.add (bF (⟨0,0⟩,⟨0,0⟩)) 170;refine ak hK (hL.tail) fun hHeld=>?_;clear hK K;refine aB 3 fun K hK=>?_;go_simp
       (go_at_call 102;refine (HQ.out _ (hg.below hL.bw)).mono ?_;rintro e W9 ⟨rfl,PG⟩)
       have hL:=hL.call PG;refine ak hK (by first | exact hL | exact hL.tail) fun hHeld=>?_;clear hK K;refine aB 4 fun K hK=>?_;go_simp
       (go_at_call 153;refine (HL.out _).mono ?_;rintro e ZH ⟨rfl,EC⟩)
       have hL:=hL.call EC;refine ak hK (by first | exact hL | exact hL.tail) fun hHeld=>?_;clear hK K;refine aB 6 fun K hK=>?_;refine aQ hL.head (bF (u)) rfl lN (wP _) (.tmp 5) (.tmp 10) rfl rfl rfl ?_;have hL:=hL.put (bF (u)) rfl;refine ak hK (hL.tail) fun hHeld=>?_;clear hK K;refine wpAnyH_done (by kernel_rfl) ?_ _;go_wp2;go_meet;exact ⟨_,rfl,hL⟩
   · go_simp
     have hL:=hL.add (bF (⟨0,0⟩,⟨0,0⟩)) 170;refine ak hK (hL.tail) fun hHeld=>?_;clear hK K;refine aB 1 fun K hK=>?_;go_simp
     (go_at_call 102;refine (HO.out _ (hg.below hL.bw)).mono ?_;rintro e Zb ⟨rfl,PE⟩)
     have hL:=hL.call PE;refine ak hK (by first | exact hL | exact hL.tail) fun hHeld=>?_;clear hK K;refine aB 3 fun K hK=>?_;go_simp
     (go_at_call 102;refine (HQ.out _ (hg.below hL.bw)).mono ?_;rintro e W9 ⟨rfl,PG⟩)
     have hL:=hL.call PG;refine ak hK (by first | exact hL | exact hL.tail) fun hHeld=>?_;clear hK K;refine aB 4 fun K hK=>?_;go_simp
     (go_at_call 153;refine (HL.out _).mono ?_;rintro e ZH ⟨rfl,EC⟩)
     have hL:=hL.call EC;refine ak hK (by first | exact hL | exact hL.tail) fun hHeld=>?_;clear hK K;refine aB 6 fun K hK=>?_;refine aQ hL.head (bF (u)) rfl lN (wP _) (.tmp 5) (.tmp 10) rfl rfl rfl ?_;have hL:=hL.put (bF (u)) rfl;refine ak hK (hL.tail) fun hHeld=>?_;clear hK K;refine wpAnyH_done (by kernel_rfl) ?_ _;go_wp2;go_meet;exact ⟨_,rfl,hL⟩
  case rest=>
   obtain ⟨B5,rfl,hL⟩:=hcut
   go_upto_region 2 with (fail)
   have zV:∀ W:World,Bx w W [(B5,bF (u),170),(w.heap.size,jv b,114)]→W.rangeAt (B5) 0 (bF (u)):=fun W h=>h.rng 0 rfl 0 _ rfl;have WH:∀ W:World,Bx w W [(B5,bF (u),170),(w.heap.size,jv b,114)]→W.rangeAt (Bd) 0 (ah d):=fun W h=>(hD.below h.bw).range;have hL:=hL.drew;refine wp_region_held_drew (S:=(fun w':World=>Bx w w' [(B5,bF (u),170),(w.heap.size,jv b,114)])) (by kernel_rfl) ?bV (fun hHeld=>?_)
   case bV=>exact hL
   refine bD 0 zV Tryz.underlying170 ?_;refine bD 1 zV Tryz.underlying170 ?_;refine bD 3 WH Tryz.underlying164 ?_;refine bD 4 WH Tryz.underlying164 ?_;refine aB 2 fun K hK=>?_;go_simp
   (go_at_call 154;refine (H2.out _).mono ?_;rintro e w2a ⟨rfl,PI⟩)
   have hL:=hL.call PI;refine ak hK (hL) fun hHeld=>?_;clear hK K;refine aB 5 fun K hK=>?_;go_simp
   (go_at_call 156;refine (H3.out _).mono ?_;rintro e w2b ⟨rfl,PK⟩)
   have hL:=hL.call PK;refine ak hK (hL) fun hHeld=>?_;clear hK K;refine aB 6 fun K hK=>?_;go_simp
   (go_at_call 155;refine (H4.out _).mono ?_;rintro e w2c ⟨rfl,XR⟩)
   have hL:=hL.call XR;refine ak hK (hL) fun hHeld=>?_;clear hK K;refine aA 7 ?_;refine aA 8 ?_;refine wpAnyH_done (by kernel_rfl) ?_ _;go_wp2;go_ret;exact ⟨rfl,hL.bw⟩
def Iq (l:List Nm.Pl) (vec:Nm.Pl→Nm.iG):Prop:=∀ p∈l,Lr p (vec p)
theorem OZ (S:Nat→Prop) (A:Option Addr) (c:Nat) (l:List Nm.Pl) (vec:Nm.Pl→Nm.iG) (p:Nm.Pl) (d:Nm.Fr) (w:World) (hg:Glob w) (hr:Reads w S 2 A l.length c (l.flatMap jv)) (hl:Iq l vec) (hp:Lr p (vec p)) (hk:∀ b∈l,Nm.Uy (vec b) (vec p) d=true):
 Calls Tryz.prog 100 #[plV p,.slice A l.length c,gy d] w fun e w'=>e= .returned (.bool (!(l.any fun b=>Nm.near (vec b) (vec p) d)))∧Below w.heap.size w w':=by
 obtain ⟨z,hz⟩:∃ q,(l.any fun b=>Nm.near (vec b) (vec p) d)=q:=⟨_,rfl⟩;have hcon:=fun (g:Nat) (lb:Array Value) (W:World) (hr:Reads W S 2 A l.length c (l.flatMap jv)) (hs:zf jv g lb l (fun b=>Nm.near (vec b) (vec p) d) W)=>zL S A c l g lb _ W hr hs
 simp only [hz] at hcon ⊢
 clear hz;have HC:=hide hcon;clear hcon
 go_enter Tryz.func100,Tryz.ntmps100
 go_upto_region 0 with (fail)
 go_cut [3,5,6] (fun v3 v5 v6 wx=>v3=ptr (w.heap.size)∧v5=ptr (w.heap.size+1)∧v6= .bool false∧Bx w wx [(w.heap.size,jv p,114),(w.heap.size+1,ah d,164)])
 case first=>
  go_wp2;go_meet;exact ⟨rfl,rfl,rfl,Bx.of (((aG.nil w).new (by simp) (jv p) 114).new (by simp) (ah d) 164) _ rfl⟩
 case rest=>
  obtain ⟨rfl,rfl,rfl,hL⟩:=hcut;have hrd:=Reads.below hr hL.bw;have hgc:=hg.below hL.bw;have HS:=hide (show zf jv 152 #[ptr w.heap.size,ptr (w.heap.size+1)] l (fun b=>Nm.near (vec b) (vec p) d) wc from ⟨fun _ _=>rfl,fun W b hm hb=>(LG b p (vec b) (vec p) d w.heap.size (w.heap.size+1) W (hgc.below hb) (hl b hm) hp ((hL.get 0 rfl).below hb) ((hL.get 1 rfl).below hb) (hk b hm)).mono (fun e w' ⟨e1,e2⟩=>⟨e1,hb.trans (e2.mono hb.size)⟩)⟩);clear hk hl hp hgc
  go_wp2_with (go_at_call 151;refine (HC.out _ _ _ hrd HS.out).mono ?_;rintro e w1 ⟨rfl,hb1⟩;have hL:=hL.call hb1)
  go_ret;exact ⟨rfl,hL.bw⟩
theorem wX (S:Nat→Prop) (A:Option Addr) (c:Nat) (l:List Nm.Pl) (w:World) (hg:Glob w) (hr:Reads w S 2 A l.length c (l.flatMap jv)) (hl:∀ p∈l,Valid p.1∧Valid p.2):
 Calls Tryz.prog 144 #[.slice A l.length c] w fun e w'=>e= .returned (.int .i64 0)∧Below w.heap.size w w':=by
 obtain ⟨b1,b2,b3⟩:=hr.bd
 go_enter Tryz.func144,Tryz.ntmps144
 go_wp2
 go_loopw [8] (fun i wr=>∃ k:Nat,k≤l.length∧i= .int .i64 k∧Aside (Below w.heap.size w wr)) (fun i _=>l.length - (intOf i).toNat)
 case atStart=>exact ⟨0,Nat.zero_le _,rfl,Below.refl _ _⟩
 case round=>
  obtain ⟨k,hk,rfl,hbw⟩:=hrel
  by_cases hlt:k<l.length
  · obtain ⟨b,o,rfl,_,hbl,hc⟩:=Reads.at_ hr (by omega)
    have hrg:wr.rangeAt b (o+k*2) (jv l[k]):=fun j v hj=>by
     have h2:=hc _ _ (uJ (f:=jv) (n:=2) (fun _=>rfl) k hlt (j:=j) (v:=v) hj);rw [← Nat.add_assoc] at h2;exact (hbw.out.cell (p:=⟨b,o+k*2+j,none⟩) hbl).trans h2
    have hgr:=hg.below hbw.out;obtain ⟨hv1,hv2⟩:=hl _ (List.getElem_mem hlt);obtain ⟨p,hp⟩:∃ q,l[k]=q:=⟨_,rfl⟩;rw [hp] at hrg hv1 hv2;have HC:=hide (fun W (h:Glob W)=>tJ p.1 p.2 W h hv1 hv2);clear hc hl hp hv1 hv2;have hA:=(Bx.nil wr).add [.string ⟨#[]⟩,.string ⟨#[]⟩] 114
    go_upto_region 4 with (first | ((with_reducible (refine dw 114 (.tmp 10) ?lx ?_));(case lx=>rfl);refine fH hrg Tryz.underlying114 rfl nO rfl (.tmp 10) rfl rfl ?_) | ((with_reducible refine isS 114 4 11 ?_);refine fU (hA.head) (jv p) nO (Qn p.1 p.2) ?_))
    have hL:=hA.put (jv p) rfl
    go_wp2_with (first | ((with_reducible refine bJ 114 4 ?_);refine dW (hL.head) Tryz.underlying114 nO ?_) | (go_at_call 145;refine (HC.out _ (hgr.below hL.bw)).mono ?_;rintro e w1 ⟨rfl,hb1⟩;have hL:=hL.call hb1))
    go_roundw
    case rel=>exact ⟨k+1,by omega,by go_num,hbw.out.trans (hL.bw.mono hbw.out.size)⟩
    case measure=>simp [intOf];omega
  · go_wp2
    go_ret;exact ⟨rfl,hbw.out⟩
def Nm.FC (spot b:Nm.iG):Nm.iG:=Nm.pV b spot
def Nm.ou (spot along b:Nm.iG):Nm.Fr:=Nm.iY (Nm.FC spot b) along
def Nm.Zx (spot:Nm.iG) (d:Nm.Fr) (b:Nm.iG):Nm.Fr:=Nm.sub (Nm.iY (Nm.FC spot b) (Nm.FC spot b)) (Nm.mul d d)
def Nm.Zy (spot along:Nm.iG) (d:Nm.Fr) (b:Nm.iG):Nm.Fr:=Nm.mul (Nm.iY along along) (Nm.Zx spot d b)
def Nm.Zw (spot along:Nm.iG) (d:Nm.Fr) (b:Nm.iG):Nm.Fr:=Nm.sub (Nm.mul (Nm.ou spot along b) (Nm.ou spot along b)) (Nm.Zy spot along d b)
def Nm.Qi (spot along:Nm.iG) (d:Nm.Fr) (b:Nm.iG):Nm.nU:=(Nm.div (Nm.ou spot along b) (Nm.iY along along),Nm.div ⟨1,1⟩ (Nm.iY along along),Nm.Zw spot along d b)
def Nm.WT (spot along:Nm.iG) (d:Nm.Fr) (b:Nm.iG):Nm.Io:=(((Nm.Qi spot along d b).1,Nm.neg (Nm.Qi spot along d b).2.1,(Nm.Qi spot along d b).2.2),Nm.Qi spot along d b)
def Nm.Yo (spot along:Nm.iG) (d:Nm.Fr) (b:Nm.iG):Bool:=
 Nm.Fj b && Nm.Fj spot && Nm.NT (Nm.FC spot b) along && Nm.ok (Nm.ou spot along b) && Nm.NT (Nm.FC spot b) (Nm.FC spot b) && Nm.ok (Nm.iY (Nm.FC spot b) (Nm.FC spot b)) && Nm.ok d && Nm.ok (Nm.mul d d) && Nm.ok (Nm.Zx spot d b) &&
 Nm.ok (Nm.Zy spot along d b) && Nm.ok (Nm.mul (Nm.ou spot along b) (Nm.ou spot along b)) && decide (0<Nm.oG (Nm.Zw spot along d b).n) && Nm.ok (Nm.Qi spot along d b).2.1
theorem LH:(Tryz.prog.info? 175).map (fun i=>(i.zero,i.size,i.bytes))=some (some (.agg #[.int .i64 0,.slice none 0 0,.int .i64 0,.slice none 0 0,.int .i64 0,.slice none 0 0,.int .i64 0,.slice none 0 0,.int .i64 0,.slice none 0 0,.int .i64 0,.slice none 0 0,.int .i64 0,.slice none 0 0,.int .i64 0,.slice none 0 0,.int .i64 0,.slice none 0 0,.int .i64 0,.slice none 0 0,.int .i64 0,.slice none 0 0,.int .i64 0,.slice none 0 0,.bool false]),25,392):=by kernel_rfl
theorem Qg (S:Nat→Prop) (A:Option Addr) (c:Nat) (l:List Nm.Pl) (vec:Nm.Pl→Nm.iG) (spot along:Nm.iG) (d:Nm.Fr) (w:World) (hg:Glob w) (hr:Reads w S 2 A l.length c (l.flatMap jv)) (hl:Iq l vec) (hlen:l.length≤100)
 (haa:Nm.NT along along=true) (hao:Nm.ok (Nm.iY along along)=true) (hap:0<(Nm.iY along along).n) (hai:Nm.ok (Nm.inv (Nm.iY along along))=true) (hk:∀ b∈l,Nm.Yo spot along d (vec b)=true):
 Calls Tryz.prog 101 #[WY spot,.slice A l.length c,WY along,gy d] w fun e w'=>∃ A2 c2,e= .returned (.slice A2 l.length c2)∧Reads w' (fun b=>w.heap.size≤b) 25 A2 l.length c2 ((l.map fun b=>Nm.WT spot along d (vec b)).flatMap dR)∧Below w.heap.size w w':=by
 obtain ⟨b1,b2,b3⟩:=hr.bd;obtain ⟨i0,hi0,hz0,hz1,hz2⟩:=info_parts LH;have HAA:=hide (fun W=>vG along along W haa);have HK:=hide hk;have HL:=hide hl;clear hk hl
 go_enter Tryz.func101,Tryz.ntmps101
 go_upto_region 0 with (fail)
 go_cut [4,6,7,8] (fun v4 v6 v7 v8 wx=>v4=ptr (w.heap.size)∧v6=ptr (w.heap.size+1)∧v7=ptr (w.heap.size+2)∧v8= .slice none 0 0∧Bx w wx [(w.heap.size,bF spot,170),(w.heap.size+1,bF along,170),(w.heap.size+2,ah d,164)])
 case first=>
  go_wp2;go_meet;exact ⟨rfl,rfl,rfl,rfl,Bx.of ((((aG.nil w).new (by simp) (bF spot) 170).new (by simp) (bF along) 170).new (by simp) (ah d) 164) _ rfl⟩
 case rest=>
  obtain ⟨rfl,rfl,rfl,rfl,hL⟩:=hcut
  go_upto_region 2 with (fail)
  go_cut [10] (fun v10 wx=>∃ B10,v10=ptr B10∧Bx w wx [(B10,ah (Nm.iY along along),164),(w.heap.size,bF spot,170),(w.heap.size+1,bF along,170),(w.heap.size+2,ah d,164)])
  case first=>
   go_wp2_with (first | ((with_reducible refine bJ 170 6 ?_);refine dW (hL.get 1 rfl) Tryz.underlying170 lN ?_) | (go_at_call 154;refine (HAA.out _).mono ?_;rintro e w1 ⟨rfl,hb1⟩;have hL:=hL.call hb1) | ((with_reducible refine isS 164 10 19 ?_);refine fU ((hL.add (ah ⟨0,0⟩) 164).head) (ah (Nm.iY along along)) aW (fO _) ?_))
   go_meet;exact ⟨_,rfl,(hL.add (ah ⟨0,0⟩) 164).put (ah (Nm.iY along along)) rfl⟩
  case rest=>
   obtain ⟨B10,rfl,hL⟩:=hcut
   rename World=>w1
   have hrd:=Reads.below hr hL.bw;have hg1:=hg.below hL.bw;have hDw:=hL.bw.size;have hOD:=hL.lt;have azT:Below w1.heap.size w1 w1:=Below.refl _ _;obtain ⟨Dq,hDq⟩:∃ q,w1.heap.size=q:=⟨_,rfl⟩;rw [hDq] at hDw hOD;obtain ⟨LL,hLL⟩:∃ q,q=[(B10,ah (Nm.iY along along),164),(w.heap.size,bF spot,170),(w.heap.size+1,bF along,170),(w.heap.size+2,ah d,164)]:=⟨_,rfl⟩;go_wp2
   go_loopw [9,22] (fun v9 i wr=>∃ (k:Nat) (v:Value),k≤l.length∧i= .int .i64 k∧v9=v∧wr.ownsRow Dq 175 25 v k (((l.take k).map fun b=>Nm.WT spot along d (vec b)).flatMap dR)∧Dq≤wr.heap.size∧Bx w wr [(B10,ah (Nm.iY along along),164),(w.heap.size,bF spot,170),(w.heap.size+1,bF along,170),(w.heap.size+2,ah d,164)]) (fun _ i _=>l.length - (intOf i).toNat)
   case atStart=>exact ⟨0,_,Nat.zero_le _,rfl,rfl,by simpa using World.ownsRow_nil _ _ _ _,by omega,hL⟩
   case round=>
    obtain ⟨k,rv,hk,rfl,e9,hown,aBg,hO⟩:=hrel;rw [e9];clear e9;clear hL
    by_cases hlt:k<l.length
    · obtain ⟨b',o,rfl,_,hbl,hc⟩:=Reads.at_ hr (by omega)
      have hrg:wr.rangeAt b' (o+k*2) (jv l[k]):=fun j v hj=>by
       have h2:=hc _ _ (uJ (f:=jv) (n:=2) (fun _=>rfl) k hlt (j:=j) (v:=v) hj);rw [← Nat.add_assoc] at h2;exact (hO.bw.cell (p:=⟨b',o+k*2+j,none⟩) hbl).trans h2
      have hg:=hg.below hO.bw;have hpi:=HL.out _ (List.getElem_mem hlt);have hok:=HK.out _ (List.getElem_mem hlt)
      unfold Nm.Yo at hok
      simp only [Bool.and_eq_true,decide_eq_true_eq] at hok
      obtain ⟨⟨⟨⟨⟨⟨⟨⟨⟨⟨⟨⟨o1,o2⟩,o3⟩,o4⟩,o5⟩,o6⟩,o7⟩,o8⟩,o9⟩,oA⟩,oB⟩,oC⟩,oD⟩:=hok;have aa6:∀ b,rv.ownBlock=some b→b<wr.heap.size:=fun b h=>(Array.getElem?_eq_some_iff.1 (gK hown h).2.choose_spec.1).1;have amD:∀ b,rv.ownBlock=some b→Dq≤b:=fun b h=>(gK hown h).1;have hOw:Hid (∀ {W:World},Below wr.heap.size wr W→W.ownsRow Dq 175 25 rv k (((l.take k).map fun b=>Nm.WT spot along d (vec b)).flatMap dR)):=hide (fun hb=>jo hown (fun g hg=>hb.block g (aa6 g hg)))
      have hnx:((l.take (k+1)).map fun b=>Nm.WT spot along d (vec b)).flatMap dR=((l.take k).map fun b=>Nm.WT spot along d (vec b)).flatMap dR++dR (Nm.WT spot along d (vec l[k])):=by
       rw [List.take_succ_eq_append_getElem hlt,List.map_append,List.flatMap_append,List.map_cons,List.map_nil,List.flatMap_cons,List.flatMap_nil,List.append_nil]
      obtain ⟨b,hbe⟩:∃ q,l[k]=q:=⟨_,rfl⟩
      simp only [hbe] at hrg hpi o1 o2 o3 o4 o5 o6 o7 o8 o9 oA oB oC oD hnx
      have HO:=fun W (h:Glob W)=>H7 b.1 b.2 (vec b).1 (vec b).2 W h hpi.1 hpi.2;have HV:=fun W=>Cm (vec b) spot W o1 o2;have HA:=fun W=>vG (Nm.FC spot (vec b)) along W o3;have M1:=fun W=>iU (Nm.ou spot along (vec b)) (Nm.ou spot along (vec b)) W o4 o4;have M2:=fun W=>vG (Nm.FC spot (vec b)) (Nm.FC spot (vec b)) W o5;have M3:=fun W=>iU d d W o7 o7;have M4:=fun W=>qV (Nm.iY (Nm.FC spot (vec b)) (Nm.FC spot (vec b))) (Nm.mul d d) W o6 o8;have M5:=fun W=>iU (Nm.iY along along) (Nm.Zx spot d (vec b)) W hao o9;have M6:=fun W=>qV (Nm.mul (Nm.ou spot along (vec b)) (Nm.ou spot along (vec b))) (Nm.Zy spot along d (vec b)) W oB oA;have MS:=fun W=>jY (Nm.Zw spot along d (vec b)) W;have M7:=fun W=>FV (Nm.ou spot along (vec b)) (Nm.iY along along) W o4 hao hap hai;have M8:=fun W=>FV ⟨1,1⟩ (Nm.iY along along) W rfl hao hap hai;have oD':=(kG.1 oD).1;have M9:=fun W=>FW (Nm.Qi spot along d (vec b)).2.1 W (by omega) (by omega);have Wy:Nm.WT spot along d (vec b)=(((Nm.Qi spot along d (vec b)).1,Nm.neg (Nm.Qi spot along d (vec b)).2.1,(Nm.Qi spot along d (vec b)).2.2),Nm.Qi spot along d (vec b)):=rfl;have e1:Nm.pV (vec b) spot=Nm.FC spot (vec b):=rfl;have e2:Nm.iY (Nm.FC spot (vec b)) along=Nm.ou spot along (vec b):=rfl;have e3:Nm.sub (Nm.iY (Nm.FC spot (vec b)) (Nm.FC spot (vec b))) (Nm.mul d d)=Nm.Zx spot d (vec b):=rfl;have e4:Nm.mul (Nm.iY along along) (Nm.Zx spot d (vec b))=Nm.Zy spot along d (vec b):=rfl;have e5:Nm.sub (Nm.mul (Nm.ou spot along (vec b)) (Nm.ou spot along (vec b))) (Nm.Zy spot along d (vec b))=Nm.Zw spot along d (vec b):=rfl;have e6:Nm.Qi spot along d (vec b)=(Nm.div (Nm.ou spot along (vec b)) (Nm.iY along along),Nm.div ⟨1,1⟩ (Nm.iY along along),Nm.Zw spot along d (vec b)):=rfl
      simp only [e1] at HV
      simp only [e2] at HA
      simp only [e3] at M4
      simp only [e4] at M5
      simp only [e5] at M6
      simp only [e6] at M9 Wy
      clear e1 e2 e3 e4 e5 e6 o1 o2 o3 o4 o5 o6 o7 o8 o9 oA oB oD oD' hc hbe hpi;obtain ⟨v,hv⟩:∃ q,Nm.FC spot (vec b)=q:=⟨_,rfl⟩
      simp only [hv] at HV HA M2 M4
      obtain ⟨va,hva⟩:∃ q,Nm.ou spot along (vec b)=q:=⟨_,rfl⟩
      simp only [hva] at HA M1 M6 M7 M9 Wy
      obtain ⟨vv,hvv⟩:∃ q,Nm.iY v v=q:=⟨_,rfl⟩
      simp only [hvv] at M2 M4
      obtain ⟨dd,hdd⟩:∃ q,Nm.mul d d=q:=⟨_,rfl⟩
      simp only [hdd] at M3 M4
      obtain ⟨E,hE⟩:∃ q,Nm.Zx spot d (vec b)=q:=⟨_,rfl⟩
      simp only [hE] at M4 M5
      obtain ⟨Fq,hFq⟩:∃ q,Nm.Zy spot along d (vec b)=q:=⟨_,rfl⟩
      simp only [hFq] at M5 M6
      obtain ⟨m,hm⟩:∃ q,Nm.mul va va=q:=⟨_,rfl⟩
      simp only [hm] at M1 M6
      obtain ⟨D,hD⟩:∃ q,Nm.Zw spot along d (vec b)=q:=⟨_,rfl⟩
      simp only [hD] at M6 MS oC M9 Wy
      obtain ⟨xa,hxa⟩:∃ q,Nm.div va (Nm.iY along along)=q:=⟨_,rfl⟩
      simp only [hxa] at M7 M9 Wy
      obtain ⟨xb,hxb⟩:∃ q,Nm.div ⟨1,1⟩ (Nm.iY along along)=q:=⟨_,rfl⟩
      simp only [hxb] at M8 M9 Wy
      obtain ⟨nb,hnb⟩:∃ q,Nm.neg xb=q:=⟨_,rfl⟩
      simp only [hnb] at M9 Wy
      rw [Wy] at hnx;have HNX:=hide hnx;have hsg:decide (Nm.oG D.n≤0)=false:=decide_eq_false (by omega);clear hv hva hvv hdd hE hFq hm hD hxa hxb hnb Wy hnx oC;have HO:=hide HO;have HV:=hide HV;have HA:=hide HA;have M1:=hide M1;have M2:=hide M2;have M3:=hide M3;have M4:=hide M4;have M5:=hide M5;have M6:=hide M6;have MS:=hide MS;have M7:=hide M7;have M8:=hide M8;have M9:=hide M9
      go_upto_region 5 with (fail)
      go_cut [12] from 23 to 26 (fun v12 wx=>∃ pW,v12=ptr pW∧Bx wr wx [(pW,jv b,114)])
      case first=>
       go_wp2_with (first | ((with_reducible (refine dw 114 (.tmp 24) ?lx ?_));(case lx=>rfl);refine fH hrg Tryz.underlying114 rfl nO rfl (.tmp 24) rfl rfl ?_) | ((with_reducible refine isS 114 12 25 ?_);refine fU (((Bx.nil wr).add [.string ⟨#[]⟩,.string ⟨#[]⟩] 114).head) (jv b) nO (Qn b.1 b.2) ?_))
       go_meet;exact ⟨_,rfl,((Bx.nil wr).add [.string ⟨#[]⟩,.string ⟨#[]⟩] 114).put (jv b) rfl⟩
      case rest=>
       obtain ⟨pW,rfl,hL⟩:=hcut;clear hrg
       go_upto_region 6 with (fail)
       go_cut [13] from 26 to 30 (fun v13 wx=>∃ CS,v13=ptr CS∧Bx wr wx [(CS,bF (v),170),(pW,jv b,114)])
       case first=>
        have L9:∀ W:World,Bx wr W [(pW,jv b,114)]→W.rangeAt (pW) 0 (jv b):=fun W h=>h.rng 0 rfl 0 _ rfl;have aei:∀ W:World,Bx wr W [(pW,jv b,114)]→W.rangeAt (w.heap.size) 0 (bF spot):=fun W h=>((hO.get 1 rfl).below h.bw).range;have hL:=hL.drew;refine wp_region_held_drew (S:=(fun w':World=>Bx wr w' [(pW,jv b,114)])) (by kernel_rfl) ?bg (fun hHeld=>?_)
        case bg=>exact hL
        refine bD 0 L9 Tryz.underlying114 ?_;refine bD 2 aei Tryz.underlying170 ?_;refine iR 1 4 (fun K hK=>?_) fun K hK=>?_
        · go_simp
          (go_at_call 102;refine (HO.out _ (hg.below hL.bw)).mono ?_;rintro e w6a ⟨rfl,AX⟩)
          have hL:=hL.call AX;refine ak hK (by first | exact hL | exact hL.tail) fun hHeld=>?_;clear hK K;refine iR 3 4 (fun K hK=>?_) fun K hK=>?_
          · go_simp
            (go_at_call 153;refine (HV.out _).mono ?_;rintro e w6b ⟨rfl,EF⟩)
            have hL:=hL.call EF;refine ak hK (by first | exact hL | exact hL.tail) fun hHeld=>?_;clear hK K;refine aB 4 fun K hK=>?_;go_simp;have hL:=hL.add (bF (⟨0,0⟩,⟨0,0⟩)) 170;refine ak hK (hL.tail) fun hHeld=>?_;clear hK K;refine aB 5 fun K hK=>?_;refine aQ hL.head (bF (v)) rfl lN (wP _) (.tmp 13) (.tmp 29) rfl rfl rfl ?_;have hL:=hL.put (bF (v)) rfl;refine ak hK (hL.tail) fun hHeld=>?_;clear hK K;refine wpAnyH_done (by kernel_rfl) ?_ _;go_wp2;go_meet;exact ⟨_,rfl,hL⟩
          · go_simp
            have hL:=hL.add (bF (⟨0,0⟩,⟨0,0⟩)) 170;refine ak hK (hL.tail) fun hHeld=>?_;clear hK K;refine aB 3 fun K hK=>?_;go_simp
            (go_at_call 153;refine (HV.out _).mono ?_;rintro e w6b ⟨rfl,EF⟩)
            have hL:=hL.call EF;refine ak hK (by first | exact hL | exact hL.tail) fun hHeld=>?_;clear hK K;refine aB 5 fun K hK=>?_;refine aQ hL.head (bF (v)) rfl lN (wP _) (.tmp 13) (.tmp 29) rfl rfl rfl ?_;have hL:=hL.put (bF (v)) rfl;refine ak hK (hL.tail) fun hHeld=>?_;clear hK K;refine wpAnyH_done (by kernel_rfl) ?_ _;go_wp2;go_meet;exact ⟨_,rfl,hL⟩
        · go_simp
          have hL:=hL.add (bF (⟨0,0⟩,⟨0,0⟩)) 170;refine ak hK (hL.tail) fun hHeld=>?_;clear hK K;refine aB 1 fun K hK=>?_;go_simp
          (go_at_call 102;refine (HO.out _ (hg.below hL.bw)).mono ?_;rintro e w6a ⟨rfl,AX⟩)
          have hL:=hL.call AX;refine ak hK (by first | exact hL | exact hL.tail) fun hHeld=>?_;clear hK K;refine aB 3 fun K hK=>?_;go_simp
          (go_at_call 153;refine (HV.out _).mono ?_;rintro e w6b ⟨rfl,EF⟩)
          have hL:=hL.call EF;refine ak hK (by first | exact hL | exact hL.tail) fun hHeld=>?_;clear hK K;refine aB 5 fun K hK=>?_;refine aQ hL.head (bF (v)) rfl lN (wP _) (.tmp 13) (.tmp 29) rfl rfl rfl ?_;have hL:=hL.put (bF (v)) rfl;refine ak hK (hL.tail) fun hHeld=>?_;clear hK K;refine wpAnyH_done (by kernel_rfl) ?_ _;go_wp2;go_meet;exact ⟨_,rfl,hL⟩
       case rest=>
        obtain ⟨CS,rfl,hL⟩:=hcut
        go_upto_region 7 with (fail)
        go_cut [14] from 30 to 33 (fun v14 wx=>∃ qx,v14=ptr qx∧Bx wr wx [(qx,ah (va),164),(CS,bF (v),170),(pW,jv b,114)])
        case first=>
         go_wp2_with (first | ((with_reducible refine bJ 170 13 ?_);refine dW (hL.get 0 rfl) Tryz.underlying170 lN ?_) | ((with_reducible refine bJ 170 6 ?_);refine dW ((hO.get 2 rfl).below hL.bw) Tryz.underlying170 lN ?_) | (go_at_call 154;refine (HA.out _).mono ?_;rintro e w7 ⟨rfl,hb7⟩;have hL:=hL.call hb7) | ((with_reducible refine isS 164 14 32 ?_);refine fU ((hL.add (ah ⟨0,0⟩) 164).head) (ah (va)) aW (fO _) ?_))
         go_meet;exact ⟨_,rfl,(hL.add (ah ⟨0,0⟩) 164).put (ah (va)) rfl⟩
        case rest=>
         obtain ⟨qx,rfl,hL⟩:=hcut
         go_upto_region 8 with (fail)
         go_cut [15] from 33 to 46 (fun v15 wx=>∃ vI,v15=ptr vI∧Bx wr wx [(vI,ah (D),164),(qx,ah (va),164),(CS,bF (v),170),(pW,jv b,114)])
         case first=>
          have DT:∀ W:World,Bx wr W [(qx,ah (va),164),(CS,bF (v),170),(pW,jv b,114)]→W.rangeAt (qx) 0 (ah (va)):=fun W h=>h.rng 0 rfl 0 _ rfl;have aeM:∀ W:World,Bx wr W [(qx,ah (va),164),(CS,bF (v),170),(pW,jv b,114)]→W.rangeAt (B10) 0 (ah (Nm.iY along along)):=fun W h=>((hO.get 0 rfl).below h.bw).range;have DU:∀ W:World,Bx wr W [(qx,ah (va),164),(CS,bF (v),170),(pW,jv b,114)]→W.rangeAt (CS) 0 (bF (v)):=fun W h=>h.rng 1 rfl 0 _ rfl;have WI:∀ W:World,Bx wr W [(qx,ah (va),164),(CS,bF (v),170),(pW,jv b,114)]→W.rangeAt (w.heap.size+2) 0 (ah d):=fun W h=>((hO.get 3 rfl).below h.bw).range;have hL:=hL.drew;refine wp_region_held_drew (S:=(fun w':World=>Bx wr w' [(qx,ah (va),164),(CS,bF (v),170),(pW,jv b,114)])) (by kernel_rfl) ?bV (fun hHeld=>?_)
          case bV=>exact hL
          refine bD 0 DT Tryz.underlying164 ?_;refine bD 1 DT Tryz.underlying164 ?_;refine bD 3 aeM Tryz.underlying164 ?_;refine bD 4 DU Tryz.underlying170 ?_;refine bD 5 DU Tryz.underlying170 ?_;refine bD 7 WI Tryz.underlying164 ?_;refine bD 8 WI Tryz.underlying164 ?_;refine iR 2 13 (fun K hK=>?_) fun K hK=>?_
          · go_simp
            (go_at_call 156;refine (M1.out _).mono ?_;rintro e w8a ⟨rfl,PL⟩)
            have hL:=hL.call PL;refine ak hK (by first | exact hL | exact hL.tail) fun hHeld=>?_;clear hK K;refine iR 6 13 (fun K hK=>?_) fun K hK=>?_
            · go_simp
              (go_at_call 154;refine (M2.out _).mono ?_;rintro e w8b ⟨rfl,IX⟩)
              have hL:=hL.call IX;refine ak hK (by first | exact hL | exact hL.tail) fun hHeld=>?_;clear hK K;refine iR 9 13 (fun K hK=>?_) fun K hK=>?_
              · go_simp
                (go_at_call 156;refine (M3.out _).mono ?_;rintro e w8c ⟨rfl,IY⟩)
                have hL:=hL.call IY;refine ak hK (by first | exact hL | exact hL.tail) fun hHeld=>?_;clear hK K;refine iR 10 13 (fun K hK=>?_) fun K hK=>?_
                · go_simp
                  (go_at_call 157;refine (M4.out _).mono ?_;rintro e w8d ⟨rfl,EG⟩)
                  have hL:=hL.call EG;refine ak hK (by first | exact hL | exact hL.tail) fun hHeld=>?_;clear hK K;refine iR 11 13 (fun K hK=>?_) fun K hK=>?_
                  · go_simp
                    (go_at_call 156;refine (M5.out _).mono ?_;rintro e w8e ⟨rfl,AY⟩)
                    have hL:=hL.call AY;refine ak hK (by first | exact hL | exact hL.tail) fun hHeld=>?_;clear hK K;refine iR 12 13 (fun K hK=>?_) fun K hK=>?_
                    · go_simp
                      (go_at_call 157;refine (M6.out _).mono ?_;rintro e ZK ⟨rfl,yI⟩)
                      have hL:=hL.call yI;refine ak hK (by first | exact hL | exact hL.tail) fun hHeld=>?_;clear hK K;refine aB 13 fun K hK=>?_;go_simp;have hL:=hL.add (ah ⟨0,0⟩) 164;refine ak hK (hL.tail) fun hHeld=>?_;clear hK K;refine aB 14 fun K hK=>?_;refine aQ hL.head (ah (D)) rfl aW (fO _) (.tmp 15) (.tmp 45) rfl rfl rfl ?_;have hL:=hL.put (ah (D)) rfl;refine ak hK (hL.tail) fun hHeld=>?_;clear hK K;refine wpAnyH_done (by kernel_rfl) ?_ _;go_wp2;go_meet;exact ⟨_,rfl,hL⟩
                    · go_simp
                      have hL:=hL.add (ah ⟨0,0⟩) 164;refine ak hK (hL.tail) fun hHeld=>?_;clear hK K;refine aB 12 fun K hK=>?_;go_simp
                      (go_at_call 157;refine (M6.out _).mono ?_;rintro e ZK ⟨rfl,yI⟩)
                      have hL:=hL.call yI;refine ak hK (by first | exact hL | exact hL.tail) fun hHeld=>?_;clear hK K;refine aB 14 fun K hK=>?_;refine aQ hL.head (ah (D)) rfl aW (fO _) (.tmp 15) (.tmp 45) rfl rfl rfl ?_;have hL:=hL.put (ah (D)) rfl;refine ak hK (hL.tail) fun hHeld=>?_;clear hK K;refine wpAnyH_done (by kernel_rfl) ?_ _;go_wp2;go_meet;exact ⟨_,rfl,hL⟩
                  · go_simp
                    have hL:=hL.add (ah ⟨0,0⟩) 164;refine ak hK (hL.tail) fun hHeld=>?_;clear hK K;refine aB 11 fun K hK=>?_;go_simp
                    (go_at_call 156;refine (M5.out _).mono ?_;rintro e w8e ⟨rfl,AY⟩)
                    have hL:=hL.call AY;refine ak hK (by first | exact hL | exact hL.tail) fun hHeld=>?_;clear hK K;refine aB 12 fun K hK=>?_;go_simp
                    (go_at_call 157;refine (M6.out _).mono ?_;rintro e ZK ⟨rfl,yI⟩)
                    have hL:=hL.call yI;refine ak hK (by first | exact hL | exact hL.tail) fun hHeld=>?_;clear hK K;refine aB 14 fun K hK=>?_;refine aQ hL.head (ah (D)) rfl aW (fO _) (.tmp 15) (.tmp 45) rfl rfl rfl ?_;have hL:=hL.put (ah (D)) rfl;refine ak hK (hL.tail) fun hHeld=>?_;clear hK K;refine wpAnyH_done (by kernel_rfl) ?_ _;go_wp2;go_meet;exact ⟨_,rfl,hL⟩
                · go_simp
                  have hL:=hL.add (ah ⟨0,0⟩) 164;refine ak hK (hL.tail) fun hHeld=>?_;clear hK K;refine aB 10 fun K hK=>?_;go_simp
                  (go_at_call 157;refine (M4.out _).mono ?_;rintro e w8d ⟨rfl,EG⟩)
                  have hL:=hL.call EG;refine ak hK (by first | exact hL | exact hL.tail) fun hHeld=>?_;clear hK K;refine aB 11 fun K hK=>?_;go_simp
                  (go_at_call 156;refine (M5.out _).mono ?_;rintro e w8e ⟨rfl,AY⟩)
                  have hL:=hL.call AY;refine ak hK (by first | exact hL | exact hL.tail) fun hHeld=>?_;clear hK K;refine aB 12 fun K hK=>?_;go_simp
                  (go_at_call 157;refine (M6.out _).mono ?_;rintro e ZK ⟨rfl,yI⟩)
                  have hL:=hL.call yI;refine ak hK (by first | exact hL | exact hL.tail) fun hHeld=>?_;clear hK K;refine aB 14 fun K hK=>?_;refine aQ hL.head (ah (D)) rfl aW (fO _) (.tmp 15) (.tmp 45) rfl rfl rfl ?_;have hL:=hL.put (ah (D)) rfl;refine ak hK (hL.tail) fun hHeld=>?_;clear hK K;refine wpAnyH_done (by kernel_rfl) ?_ _;go_wp2;go_meet;exact ⟨_,rfl,hL⟩
              · go_simp
                have hL:=hL.add (ah ⟨0,0⟩) 164;refine ak hK (hL.tail) fun hHeld=>?_;clear hK K;refine aB 9 fun K hK=>?_;go_simp
                (go_at_call 156;refine (M3.out _).mono ?_;rintro e w8c ⟨rfl,IY⟩)
                have hL:=hL.call IY;refine ak hK (by first | exact hL | exact hL.tail) fun hHeld=>?_;clear hK K;refine aB 10 fun K hK=>?_;go_simp
                (go_at_call 157;refine (M4.out _).mono ?_;rintro e w8d ⟨rfl,EG⟩)
                have hL:=hL.call EG;refine ak hK (by first | exact hL | exact hL.tail) fun hHeld=>?_;clear hK K;refine aB 11 fun K hK=>?_;go_simp
                (go_at_call 156;refine (M5.out _).mono ?_;rintro e w8e ⟨rfl,AY⟩)
                have hL:=hL.call AY;refine ak hK (by first | exact hL | exact hL.tail) fun hHeld=>?_;clear hK K;refine aB 12 fun K hK=>?_;go_simp
                (go_at_call 157;refine (M6.out _).mono ?_;rintro e ZK ⟨rfl,yI⟩)
                have hL:=hL.call yI;refine ak hK (by first | exact hL | exact hL.tail) fun hHeld=>?_;clear hK K;refine aB 14 fun K hK=>?_;refine aQ hL.head (ah (D)) rfl aW (fO _) (.tmp 15) (.tmp 45) rfl rfl rfl ?_;have hL:=hL.put (ah (D)) rfl;refine ak hK (hL.tail) fun hHeld=>?_;clear hK K;refine wpAnyH_done (by kernel_rfl) ?_ _;go_wp2;go_meet;exact ⟨_,rfl,hL⟩
            · go_simp
              have hL:=hL.add (ah ⟨0,0⟩) 164;refine ak hK (hL.tail) fun hHeld=>?_;clear hK K;refine aB 6 fun K hK=>?_;go_simp
              (go_at_call 154;refine (M2.out _).mono ?_;rintro e w8b ⟨rfl,IX⟩)
              have hL:=hL.call IX;refine ak hK (by first | exact hL | exact hL.tail) fun hHeld=>?_;clear hK K;refine aB 9 fun K hK=>?_;go_simp
              (go_at_call 156;refine (M3.out _).mono ?_;rintro e w8c ⟨rfl,IY⟩)
              have hL:=hL.call IY;refine ak hK (by first | exact hL | exact hL.tail) fun hHeld=>?_;clear hK K;refine aB 10 fun K hK=>?_;go_simp
              (go_at_call 157;refine (M4.out _).mono ?_;rintro e w8d ⟨rfl,EG⟩)
              have hL:=hL.call EG;refine ak hK (by first | exact hL | exact hL.tail) fun hHeld=>?_;clear hK K;refine aB 11 fun K hK=>?_;go_simp
              (go_at_call 156;refine (M5.out _).mono ?_;rintro e w8e ⟨rfl,AY⟩)
              have hL:=hL.call AY;refine ak hK (by first | exact hL | exact hL.tail) fun hHeld=>?_;clear hK K;refine aB 12 fun K hK=>?_;go_simp
              (go_at_call 157;refine (M6.out _).mono ?_;rintro e ZK ⟨rfl,yI⟩)
              have hL:=hL.call yI;refine ak hK (by first | exact hL | exact hL.tail) fun hHeld=>?_;clear hK K;refine aB 14 fun K hK=>?_;refine aQ hL.head (ah (D)) rfl aW (fO _) (.tmp 15) (.tmp 45) rfl rfl rfl ?_;have hL:=hL.put (ah (D)) rfl;refine ak hK (hL.tail) fun hHeld=>?_;clear hK K;refine wpAnyH_done (by kernel_rfl) ?_ _;go_wp2;go_meet;exact ⟨_,rfl,hL⟩
          · go_simp
            have hL:=hL.add (ah ⟨0,0⟩) 164;refine ak hK (hL.tail) fun hHeld=>?_;clear hK K;refine aB 2 fun K hK=>?_;go_simp
            (go_at_call 156;refine (M1.out _).mono ?_;rintro e w8a ⟨rfl,PL⟩)
            have hL:=hL.call PL;refine ak hK (by first | exact hL | exact hL.tail) fun hHeld=>?_;clear hK K;refine aB 6 fun K hK=>?_;go_simp
            (go_at_call 154;refine (M2.out _).mono ?_;rintro e w8b ⟨rfl,IX⟩)
            have hL:=hL.call IX;refine ak hK (by first | exact hL | exact hL.tail) fun hHeld=>?_;clear hK K;refine aB 9 fun K hK=>?_;go_simp
            (go_at_call 156;refine (M3.out _).mono ?_;rintro e w8c ⟨rfl,IY⟩)
            have hL:=hL.call IY;refine ak hK (by first | exact hL | exact hL.tail) fun hHeld=>?_;clear hK K;refine aB 10 fun K hK=>?_;go_simp
            (go_at_call 157;refine (M4.out _).mono ?_;rintro e w8d ⟨rfl,EG⟩)
            have hL:=hL.call EG;refine ak hK (by first | exact hL | exact hL.tail) fun hHeld=>?_;clear hK K;refine aB 11 fun K hK=>?_;go_simp
            (go_at_call 156;refine (M5.out _).mono ?_;rintro e w8e ⟨rfl,AY⟩)
            have hL:=hL.call AY;refine ak hK (by first | exact hL | exact hL.tail) fun hHeld=>?_;clear hK K;refine aB 12 fun K hK=>?_;go_simp
            (go_at_call 157;refine (M6.out _).mono ?_;rintro e ZK ⟨rfl,yI⟩)
            have hL:=hL.call yI;refine ak hK (by first | exact hL | exact hL.tail) fun hHeld=>?_;clear hK K;refine aB 14 fun K hK=>?_;refine aQ hL.head (ah (D)) rfl aW (fO _) (.tmp 15) (.tmp 45) rfl rfl rfl ?_;have hL:=hL.put (ah (D)) rfl;refine ak hK (hL.tail) fun hHeld=>?_;clear hK K;refine wpAnyH_done (by kernel_rfl) ?_ _;go_wp2;go_meet;exact ⟨_,rfl,hL⟩
         case rest=>
          obtain ⟨vI,rfl,hL⟩:=hcut
          go_upto_region 11 with (first | ((with_reducible refine bJ 164 15 ?_);refine dW (hL.head) Tryz.underlying164 aW ?_) | (go_at_call 147;refine (MS.out _).mono ?_;rintro e w9 ⟨rfl,zq⟩;have hL:=hL.call zq))
          go_cut [16] from 46 to 61 (fun v16 wx=>∃ Ol,v16=ptr Ol∧Bx wr wx [(Ol,aU (xa,xb,D),173),(vI,ah (D),164),(qx,ah (va),164),(CS,bF (v),170),(pW,jv b,114)])
          case first=>
           have Jc:∀ W:World,Bx wr W [(vI,ah (D),164),(qx,ah (va),164),(CS,bF (v),170),(pW,jv b,114)]→W.rangeAt (qx) 0 (ah (va)):=fun W h=>h.rng 1 rfl 0 _ rfl;have PX:∀ W:World,Bx wr W [(vI,ah (D),164),(qx,ah (va),164),(CS,bF (v),170),(pW,jv b,114)]→W.rangeAt (B10) 0 (ah (Nm.iY along along)):=fun W h=>((hO.get 0 rfl).below h.bw).range;have Jb:∀ W:World,Bx wr W [(vI,ah (D),164),(qx,ah (va),164),(CS,bF (v),170),(pW,jv b,114)]→W.rangeAt (vI) 0 ([.int .i64 (D).n,.slice none 0 0,.int .i64 (D).d,.slice none 0 0]):=fun W h=>h.rng 0 rfl 0 _ rfl;have hL:=hL.drew;refine wp_region_held_drew (S:=(fun w':World=>Bx wr w' [(vI,ah (D),164),(qx,ah (va),164),(CS,bF (v),170),(pW,jv b,114)])) (by kernel_rfl) ?dJ (fun hHeld=>?_)
           case dJ=>exact hL
           refine bD 0 Jc Tryz.underlying164 ?_;refine bD 1 PX Tryz.underlying164 ?_;refine bD 4 PX Tryz.underlying164 ?_;refine bD 6 Jb Tryz.underlying164 ?_;refine iR 2 8 (fun K hK=>?_) fun K hK=>?_
           · go_simp
             (go_at_call 158;refine (M7.out _).mono ?_;rintro e Kq ⟨rfl,Px⟩)
             have hL:=hL.call Px;refine ak hK (by first | exact hL | exact hL.tail) fun hHeld=>?_;clear hK K;refine iR 3 8 (fun K hK=>?_) fun K hK=>?_
             · go_simp
               (go_at_call 159;refine (f_any 1 _).mono ?_;rintro e ako ⟨rfl,F7⟩)
               have hL:=hL.call F7;refine ak hK (by first | exact hL | exact hL.tail) fun hHeld=>?_;clear hK K;refine iR 5 8 (fun K hK=>?_) fun K hK=>?_
               · go_simp
                 (go_at_call 158;refine (M8.out _).mono ?_;rintro e Y9 ⟨rfl,AQ⟩)
                 have hL:=hL.call AQ;refine ak hK (by first | exact hL | exact hL.tail) fun hHeld=>?_;clear hK K;refine aA 7 ?_;refine aB 8 fun K hK=>?_;go_simp;have hL:=hL.add (aU (⟨0,0⟩,⟨0,0⟩,⟨0,0⟩)) 173;refine ak hK (hL.tail) fun hHeld=>?_;clear hK K;refine aB 9 fun K hK=>?_;refine aQ hL.head (aU (xa,xb,D)) rfl gQ (BO _) (.tmp 16) (.tmp 60) rfl rfl rfl ?_;have hL:=hL.put (aU (xa,xb,D)) rfl;refine ak hK (hL.tail) fun hHeld=>?_;clear hK K;refine wpAnyH_done (by kernel_rfl) ?_ _;go_wp2;go_meet;exact ⟨_,rfl,hL⟩
               · go_simp
                 have hL:=hL.add (aU (⟨0,0⟩,⟨0,0⟩,⟨0,0⟩)) 173;refine ak hK (hL.tail) fun hHeld=>?_;clear hK K;refine aB 5 fun K hK=>?_;go_simp
                 (go_at_call 158;refine (M8.out _).mono ?_;rintro e Y9 ⟨rfl,AQ⟩)
                 have hL:=hL.call AQ;refine ak hK (by first | exact hL | exact hL.tail) fun hHeld=>?_;clear hK K;refine aA 7 ?_;refine aB 9 fun K hK=>?_;refine aQ hL.head (aU (xa,xb,D)) rfl gQ (BO _) (.tmp 16) (.tmp 60) rfl rfl rfl ?_;have hL:=hL.put (aU (xa,xb,D)) rfl;refine ak hK (hL.tail) fun hHeld=>?_;clear hK K;refine wpAnyH_done (by kernel_rfl) ?_ _;go_wp2;go_meet;exact ⟨_,rfl,hL⟩
             · go_simp
               have hL:=hL.add (aU (⟨0,0⟩,⟨0,0⟩,⟨0,0⟩)) 173;refine ak hK (hL.tail) fun hHeld=>?_;clear hK K;refine aB 3 fun K hK=>?_;go_simp
               (go_at_call 159;refine (f_any 1 _).mono ?_;rintro e ako ⟨rfl,F7⟩)
               have hL:=hL.call F7;refine ak hK (by first | exact hL | exact hL.tail) fun hHeld=>?_;clear hK K;refine aB 5 fun K hK=>?_;go_simp
               (go_at_call 158;refine (M8.out _).mono ?_;rintro e Y9 ⟨rfl,AQ⟩)
               have hL:=hL.call AQ;refine ak hK (by first | exact hL | exact hL.tail) fun hHeld=>?_;clear hK K;refine aA 7 ?_;refine aB 9 fun K hK=>?_;refine aQ hL.head (aU (xa,xb,D)) rfl gQ (BO _) (.tmp 16) (.tmp 60) rfl rfl rfl ?_;have hL:=hL.put (aU (xa,xb,D)) rfl;refine ak hK (hL.tail) fun hHeld=>?_;clear hK K;refine wpAnyH_done (by kernel_rfl) ?_ _;go_wp2;go_meet;exact ⟨_,rfl,hL⟩
           · go_simp
             have hL:=hL.add (aU (⟨0,0⟩,⟨0,0⟩,⟨0,0⟩)) 173;refine ak hK (hL.tail) fun hHeld=>?_;clear hK K;refine aB 2 fun K hK=>?_;go_simp
             (go_at_call 158;refine (M7.out _).mono ?_;rintro e Kq ⟨rfl,Px⟩)
             have hL:=hL.call Px;refine ak hK (by first | exact hL | exact hL.tail) fun hHeld=>?_;clear hK K;refine aB 3 fun K hK=>?_;go_simp
             (go_at_call 159;refine (f_any 1 _).mono ?_;rintro e ako ⟨rfl,F7⟩)
             have hL:=hL.call F7;refine ak hK (by first | exact hL | exact hL.tail) fun hHeld=>?_;clear hK K;refine aB 5 fun K hK=>?_;go_simp
             (go_at_call 158;refine (M8.out _).mono ?_;rintro e Y9 ⟨rfl,AQ⟩)
             have hL:=hL.call AQ;refine ak hK (by first | exact hL | exact hL.tail) fun hHeld=>?_;clear hK K;refine aA 7 ?_;refine aB 9 fun K hK=>?_;refine aQ hL.head (aU (xa,xb,D)) rfl gQ (BO _) (.tmp 16) (.tmp 60) rfl rfl rfl ?_;have hL:=hL.put (aU (xa,xb,D)) rfl;refine ak hK (hL.tail) fun hHeld=>?_;clear hK K;refine wpAnyH_done (by kernel_rfl) ?_ _;go_wp2;go_meet;exact ⟨_,rfl,hL⟩
          case rest=>
           obtain ⟨Ol,rfl,hL⟩:=hcut
           go_upto_region 12 with (fail)
           have Jd:∀ W:World,Hs W [(Ol,aU (xa,xb,D),173),(vI,ah (D),164),(qx,ah (va),164),(CS,bF (v),170),(pW,jv b,114)]→W.rangeAt (Ol) 0 ([.int .i64 (xa).n,.slice none 0 0,.int .i64 (xa).d,.slice none 0 0]):=fun W h=>h.rng 0 rfl 0 _ rfl;have Jf:∀ W:World,Hs W [(Ol,aU (xa,xb,D),173),(vI,ah (D),164),(qx,ah (va),164),(CS,bF (v),170),(pW,jv b,114)]→W.rangeAt (Ol) 4 (ah (xb)):=fun W h=>h.rng 0 rfl 4 _ rfl;have Jh:∀ W:World,Hs W [(Ol,aU (xa,xb,D),173),(vI,ah (D),164),(qx,ah (va),164),(CS,bF (v),170),(pW,jv b,114)]→W.rangeAt (vI) 0 ([.int .i64 (D).n,.slice none 0 0,.int .i64 (D).d,.slice none 0 0]):=fun W h=>h.rng 1 rfl 0 _ rfl;have Je:∀ W:World,Hs W [(Ol,aU (xa,xb,D),173),(vI,ah (D),164),(qx,ah (va),164),(CS,bF (v),170),(pW,jv b,114)]→W.rangeAt (Ol) 0 ([.int .i64 (xa).n,.slice none 0 0,.int .i64 (xa).d,.slice none 0 0,.int .i64 (xb).n,.slice none 0 0,.int .i64 (xb).d,.slice none 0 0,.int .i64 (D).n,.slice none 0 0,.int .i64 (D).d,.slice none 0 0]):=fun W h=>h.rng 0 rfl 0 _ rfl;have hL:=hL.drew;refine wp_region_held_drew (S:=(fun w':World=>Hs w' [(Ol,aU (xa,xb,D),173),(vI,ah (D),164),(qx,ah (va),164),(CS,bF (v),170),(pW,jv b,114)])) (by kernel_rfl) ?gW (fun hHeld=>?_)
           case gW=>exact hL.hs
           refine aA 0 ?_;refine aA 1 ?_;refine bD 2 Jd Tryz.underlying164 ?_;refine aA 3 ?_;refine bD 4 Jf Tryz.underlying164 ?_;refine bD 6 Jh Tryz.underlying164 ?_;refine bD 8 Je Tryz.underlying173 ?_;refine aB 5 fun K hK=>?_;go_simp
           (go_at_call 160;refine (M9.out _).mono ?_;rintro e Za ⟨rfl,Py⟩)
           have hL:=hL.call Py;refine ak hK (hL.hs) fun hHeld=>?_;clear hK K;refine aA 7 ?_;refine aA 9 ?_;refine aB 10 fun K hK=>?_;go_simp;refine ak hK ((hL.alloc _).hs) fun hHeld=>?_;clear hK K;refine aB 11 fun K hK=>?_;refine step_append_lies _ (by rfl) _ _ _ (by rfl) Dq 175 i0 (.agg #[.int .i64 0,.slice none 0 0,.int .i64 0,.slice none 0 0,.int .i64 0,.slice none 0 0,.int .i64 0,.slice none 0 0,.int .i64 0,.slice none 0 0,.int .i64 0,.slice none 0 0,.int .i64 0,.slice none 0 0,.int .i64 0,.slice none 0 0,.int .i64 0,.slice none 0 0,.int .i64 0,.slice none 0 0,.int .i64 0,.slice none 0 0,.int .i64 0,.slice none 0 0,.bool false]) 25 392 Tryz.underlying167 hi0 hz0 hz1 hz2 rfl (by omega) _ _ _ (by rfl) ((hOw.out hL.bw).alloc _) ⟨Za.heap.size,0,none⟩ 1 1 (dR ((xa,nb,D),(xa,xb,D))) (by rfl) (by rfl) (jK _ _ _ _ rfl) (Ez _) (by omega) (by simp only [maxLen];omega) (by omega) (by have:=hL.bw.size;simp;omega) (Za.heap.size+1) (by simp) ?_;intro g1 cap w7 ac2 Ja az0 aAs;have hs7:=(hL.alloc (.cells (dR ((xa,nb,D),(xa,xb,D))).toArray 175)).hs.grown Ja (fun p hp e=>by have h1:=(hL.bx p hp).1;have h2:=aa6 _ e;omega);refine ak hK (hs7) fun hHeld=>?_;clear hK K;refine aA 12 ?_;refine wpAnyH_done (by kernel_rfl) ?_ _;go_wp2
           go_roundw
           case rel=>
            refine ⟨k+1,_,by omega,by go_num,rfl,?_,by have:=Ja.size;have:=hL.bw.size;simp at*;omega,?_⟩
            · rw [HNX.out]
              exact ac2
            · exact ((hO.call (hL.alloc _).bw).grown hDw hOD Ja (fun b e=>amD _ e))
           case measure=>simp [intOf];omega
    · obtain rfl:k=l.length:=by omega
      rw [List.take_length] at hown;have hown2:=hown;have HW:=hide hown;clear hown hown2;obtain ⟨A2,c2,rfl⟩:=yN HW.out;go_wp2;go_ret;exact ⟨A2,c2,rfl,Reads.Bz HW.out (fun g hg=>by omega) (by omega),hO.bw⟩
def xu:List Nm.Pl:=[(s0,s0)]
def l7:List Nm.Pl:=[(s1,s0),(s4,s0)]
def pz (p:Nm.Pl):Nm.iG:=((if p.1=s4 then ⟨4,1⟩ else if p.1=s1 then ⟨1,1⟩ else ⟨0,1⟩),⟨0,1⟩)
theorem IC (S S':Nat→Prop) (A B:Option Addr) (c c':Nat) (w:World) (hg:Glob w) (hs:Reads w S 2 A 1 c (xu.flatMap jv)) (hb:Reads w S' 2 B 2 c' (l7.flatMap jv)):
 Calls Tryz.prog 98 #[.slice A 1 c,.slice B 2 c',.int .i64 0,plV (s1,s0),.string s2] w fun e w'=>e= .returned (.int .i64 0)∧Below w.heap.size w w':=by
 have HS:=hide (fun W (h:Below w.heap.size w W)=>wX S A c xu W (hg.below h) (hs.below h) (fun p hp=>by simp only [xu,List.mem_cons,List.not_mem_nil,or_false] at hp;subst hp;exact ⟨CB,CB⟩));have HB:=hide (fun W (h:Below w.heap.size w W)=>wX S' B c' l7 W (hg.below h) (hb.below h) (fun p hp=>by simp only [l7,List.mem_cons,List.not_mem_nil,or_false] at hp;rcases hp with rfl | rfl;exact ⟨TD,CB⟩;exact ⟨Y8,CB⟩));have HP:=hide (fun W (h:Below w.heap.size w W)=>tJ s1 s0 W (hg.below h) TD CB);have HC:=hide (fun W (h:Below w.heap.size w W)=>Y7 W (hg.below h));have HF:=hide (fun W (h:Below w.heap.size w W)=>ZX W (hg.below h));have HN:=hide (fun W=>jY ⟨2,1⟩ W)
 have heq:∀ W,(binOp .eql 114 (.agg #[.string s1,.string s0]) (.agg #[.string s0,.string s0])).run Tryz.prog W= .ok (.bool false) W:=fun W=>by kernel_rfl
 clear hs hb
 go_enter Tryz.func98,Tryz.ntmps98
 go_upto_region 0 with (fail)
 go_cut [8,10] (fun v8 v10 wx=>v8=ptr (w.heap.size)∧v10= .int .i64 0∧Bx w wx [(w.heap.size,jv (s1,s0),114)])
 case first=>
  go_wp2;go_meet;exact ⟨rfl,rfl,Bx.of ((aG.nil w).new (by simp) (jv (s1,s0)) 114) _ rfl⟩
 case rest=>
  obtain ⟨rfl,rfl,hL⟩:=hcut
  go_upto_region 1 with (fail)
  go_cut [11] from 11 to 45 (fun v11 wx=>v11= .int .i64 0∧Bx w wx [(w.heap.size,jv (s1,s0),114)])
  case first=>
   have DR:∀ W:World,Bx w W [(w.heap.size,jv (s1,s0),114)]→W.rangeAt (w.heap.size) 0 ([.string s1,.string s0]):=fun W h=>h.rng 0 rfl 0 _ rfl;have hL:=hL.drew;refine wp_region_held_drew (S:=(fun w':World=>Bx w w' [(w.heap.size,jv (s1,s0),114)])) (by kernel_rfl) ?bg (fun hHeld=>?_)
   case bg=>exact hL
   refine aA 0 ?_;refine aA 1 ?_;refine aA 2 ?_;refine aA 4 ?_;refine aA 5 ?_;refine aA 6 ?_;refine aA 13 ?_;refine aA 15 ?_;refine aA 17 ?_;refine aA 18 ?_;refine aA 19 ?_;refine aA 20 ?_;refine bD 23 DR Tryz.underlying114 ?_;refine bD 25 DR Tryz.underlying114 ?_;refine aA 26 ?_;refine aA 27 ?_;refine aA 29 ?_;refine aB 3 fun K hK=>?_;go_simp
   (go_at_call 64;refine (dL false 12 _).mono ?_;rintro e Zb ⟨rfl,rfl⟩)
   refine ak hK (hL) fun hHeld=>?_;clear hK K;refine aA 7 ?_;refine aA 8 ?_;refine aA 9 ?_;refine aA 10 ?_;refine aA 11 ?_;refine aB 12 fun K hK=>?_;go_simp
   (go_at_call 64;refine (dL false 5 _).mono ?_;rintro e W9 ⟨rfl,rfl⟩)
   refine ak hK (hL) fun hHeld=>?_;clear hK K;refine aB 14 fun K hK=>?_;go_simp
   (go_at_call 144;refine (HS.out _ hL.bw).mono ?_;rintro e ZH ⟨rfl,EC⟩)
   have hL:=hL.call EC;refine ak hK (hL) fun hHeld=>?_;clear hK K;refine aB 16 fun K hK=>?_;go_simp
   (go_at_call 144;refine (HB.out _ hL.bw).mono ?_;rintro e w1d ⟨rfl,amY⟩)
   have hL:=hL.call amY;refine ak hK (hL) fun hHeld=>?_;clear hK K;refine aB 21 fun K hK=>?_;go_simp
   (go_at_call 66;refine (jm 0 0 0 _).mono ?_;rintro e w1e ⟨rfl,rfl⟩)
   refine ak hK (hL) fun hHeld=>?_;clear hK K;refine aB 22 fun K hK=>?_;go_simp
   (go_at_call 64;refine (dL false 10 _).mono ?_;rintro e w1f ⟨rfl,rfl⟩)
   refine ak hK (hL) fun hHeld=>?_;clear hK K;refine aB 24 fun K hK=>?_;go_simp
   (go_at_call 145;refine (HP.out _ hL.bw).mono ?_;rintro e w1g ⟨rfl,am5⟩)
   have hL:=hL.call am5;refine ak hK (hL) fun hHeld=>?_;clear hK K;refine aB 28 fun K hK=>?_;go_simp
   (go_at_call 64;refine (dL false 6 _).mono ?_;rintro e w1h ⟨rfl,rfl⟩)
   refine ak hK (hL) fun hHeld=>?_;clear hK K;refine aB 30 fun K hK=>?_;go_simp
   (go_at_call 146;refine (HC.out _ hL.bw).mono ?_;rintro e w1i ⟨rfl,anc⟩)
   have hL:=hL.call anc;refine ak hK (hL) fun hHeld=>?_;clear hK K;refine aB 31 fun K hK=>?_;go_simp;have hL:=hL.alloc (.cells #[.int .i64 0,.int .i64 0,.int .i64 0,.int .i64 0,.int .i64 0,.int .i64 0,.int .i64 0,.int .i64 0] 34);refine ak hK (hL) fun hHeld=>?_;clear hK K;refine aB 32 fun K hK=>?_;go_simp
   (go_at_call 67;refine (iK (fun _=>True) _ _ [0,0,0,0,0,0,0,0] _ (nI.row _ _ [0,0,0,0,0,0,0,0] (by simp) _ trivial)).mono ?_;rintro e w1j ⟨rfl,rfl⟩)
   refine ak hK (hL) fun hHeld=>?_;clear hK K;refine aA 33 ?_;refine wpAnyH_done (by kernel_rfl) ?_ _;go_wp2;go_meet;exact ⟨by first | rfl | decide,hL⟩
  case rest=>
   obtain ⟨rfl,hL⟩:=hcut
   have hsg:Nm.oG (⟨2,1⟩:Nm.Fr).n=1:=by decide
   have hsd:decide (Nm.oG (⟨2,1⟩:Nm.Fr).n≤0)=false:=by decide
   go_wp2_with (first | (go_at_call 99;refine (HF.out _ hL.bw).mono ?_;rintro e w1 ⟨rfl,hb1⟩;have hL:=hL.call hb1) | (go_at_call 147;refine (HN.out _).mono ?_;rintro e w2 ⟨rfl,hb2⟩;have hL:=hL.call hb2) | (go_at_call 64;refine (dL false 3 _).mono ?_;rintro e qK ⟨rfl,rfl⟩))
   go_ret;exact ⟨rfl,hL.bw⟩
theorem zQ:(Tryz.prog.info? 110).map (·.size)=some 3:=by kernel_rfl
theorem Iu (a b c:ByteArray):∀ v∈[Value.string a,.string b,.string c],v.oneCell'=true:=by simp [Value.oneCell']
def tY:List Value:=[.int .i64 0,.slice none 0 0,.int .i64 0,.slice none 0 0,.int .i64 0,.slice none 0 0,.int .i64 0,.slice none 0 0,.int .i64 0,.slice none 0 0,.int .i64 0,.slice none 0 0,.int .i64 0,.slice none 0 0,.int .i64 0,.slice none 0 0,.int .i64 0,.slice none 0 0,.int .i64 0,.slice none 0 0,.int .i64 0,.slice none 0 0,.int .i64 0,.slice none 0 0,.bool true]
theorem IQ:∀ v∈tY,v.oneCell'=true:=by simp [tY,Value.oneCell']
def xq:Nm.Io:=((⟨1,1⟩,⟨-1,1⟩,⟨4,1⟩),(⟨1,1⟩,⟨1,1⟩,⟨4,1⟩))
def mg:Nm.Io:=((⟨4,1⟩,⟨-1,1⟩,⟨4,1⟩),(⟨4,1⟩,⟨1,1⟩,⟨4,1⟩))
theorem Ux:(l7.map fun b=>Nm.WT (pz (s0,s0)) (pz (s1,s0)) ⟨2,1⟩ (pz b))=[xq,mg]:=by rfl
theorem Es:Iq l7 pz∧Lr (s0,s0) (pz (s0,s0))∧Lr (s1,s0) (pz (s1,s0)):=by
 refine ⟨fun p hp=>?_,⟨FX,FX⟩,⟨Xx,FX⟩⟩
 simp only [l7,List.mem_cons,List.not_mem_nil,or_false] at hp
 rcases hp with rfl | rfl
 · exact ⟨Xx,FX⟩
 · exact ⟨alz,FX⟩
theorem OU {p:Nm.Pl→Bool} (h1:p (s1,s0)=true) (h2:p (s4,s0)=true):∀ b∈l7,p b=true:=by
 intro b hb
 simp only [l7,List.mem_cons,List.not_mem_nil,or_false] at hb
 rcases hb with rfl | rfl <;> assumption
theorem OW:Nm.text ⟨4,1⟩=[52]:=by
 unfold Nm.text
 rw [if_pos rfl]
 show Lib.itoa 4=[52]
 unfold Lib.itoa
 rw [if_neg (by decide)]
 show Lib.decDigits 4=[52]
 rw [Lib.decDigits,dif_pos (by decide)]
 rfl
theorem OV:Nm.text ⟨1,1⟩=[49]:=by
 unfold Nm.text
 rw [if_pos rfl]
 show Lib.itoa 1=[49]
 unfold Lib.itoa
 rw [if_neg (by decide)]
 show Lib.decDigits 1=[49]
 rw [Lib.decDigits,dif_pos (by decide)]
 rfl
theorem L6 {W:World} {g:Nat} {cs:List Value} {t:TypeId} {d:TypeDesc} {fn:Func} {p u u2:Tmp} (h:Held W g cs t) (hu:Tryz.prog.underlying t=some d) (hd:d.isRow=true) (hi:(Tryz.prog.info? t).map (·.size)=some cs.length) (hr:fn.results= #[.tmp u,.cell p t,.tmp u2]) (tmps:Array Value) (hp:tmps.getD p undef= .pointer (some ⟨g,0,none⟩)):
 (results fn tmps).run Tryz.prog W= .ok (.tuple #[tmps.getD u undef,.agg cs.toArray,tmps.getD u2 undef]) W:=by
 have h0:=run_loadVar_row W g t t cs.toArray (0,0) d h hu (by cases d <;> first | rfl | cases hd) (by rw [iJ rfl rfl];exact hi)
 have e:(results fn tmps).run Tryz.prog W=((asAddr (tmps.getD p undef)).run Tryz.prog W).andThen fun a w₁=>((loadVar t a).run Tryz.prog w₁).andThen fun v w₂=> .ok (.tuple #[tmps.getD u undef,v,tmps.getD u2 undef]) w₂:=by
  simp only [results,hr]
  simp [Sem.run_bind,Result.andThen]
 rw [e,hp]
 simp only [asAddr,Sem.run_pure,Result.andThen_ok,h0]
theorem Bx.join {w W1 W:World} {L1 L2:List (Nat × List Value × TypeId)} (h1:Bx w W1 L1) (h2:Bx W1 W L2):Bx w W (L2++L1):=by
 have h3:=h1.call h2.bw;refine ⟨h3.bw,fun p hp=>?_,List.pairwise_append.2 ⟨h2.nd,h1.nd,fun a ha b hb=>?_⟩⟩
 · rcases List.mem_append.1 hp with h | h
   · exact ⟨Nat.le_trans h1.bw.size (h2.bx p h).1,(h2.bx p h).2⟩
   · exact h3.bx p h
 · have e1:=(h2.bx a ha).1
   have e2:=h1.lt b hb
   omega
theorem NP (S S':Nat→Prop) (A B:Option Addr) (c c':Nat) (w:World) (hg:Glob w) (hs:Reads w S 2 A 1 c (xu.flatMap jv)) (hb:Reads w S' 2 B 2 c' (l7.flatMap jv)):
 Calls Tryz.prog 62 #[.slice A 1 c,.slice B 2 c',.int .i64 0,plV (s1,s0),.string s2] w fun e w'=>e= .returned (.tuple #[.int .i64 0,.agg #[.string s4,.string s1,.string s4],.int .i64 0])∧Below w.heap.size w w':=by
 have qJ:=hide (fun W (h:Below w.heap.size w W)=>IC S S' A B c c' W (hg.below h) (hs.below h) (hb.below h));have HD:=hide (fun W (h:Below w.heap.size w W)=>ZX W (hg.below h));have HF:=hide (fun W (h:Below w.heap.size w W)=>OZ S' B c' l7 pz (s0,s0) ⟨2,1⟩ W (hg.below h) (hb.below h) Es.1 Es.2.1 (OU (p:=fun b=>Nm.Uy (pz b) (pz (s0,s0)) ⟨2,1⟩) (by rfl) (by rfl)));obtain ⟨bs,os,rfl,_,hbs,hcs⟩:=Reads.at_ hs (by omega);have hsr:∀ W,Below w.heap.size w W→W.rangeAt bs os (jv (s0,s0)):=fun W h j v hj=>(h.cell (p:=⟨bs,os+j,none⟩) hbs).trans (hcs j v (by simpa [xu] using hj));have HB:=hide hb;have HOF:=hide (fun W (h:Below w.heap.size w W)=>H7 s0 s0 ⟨0,1⟩ ⟨0,1⟩ W (hg.below h) FX FX);have HOA:=hide (fun W (h:Below w.heap.size w W)=>H7 s1 s0 ⟨1,1⟩ ⟨0,1⟩ W (hg.below h) Xx FX);have HLN:=hide (fun W (h:Below w.heap.size w W)=>Qg S' B c' l7 pz (pz (s0,s0)) (pz (s1,s0)) ⟨2,1⟩ W (hg.below h) (hb.below h) Es.1 (by decide) (by rfl) (by rfl) (by decide) (by rfl) (OU (p:=fun b=>Nm.Yo (pz (s0,s0)) (pz (s1,s0)) ⟨2,1⟩ (pz b)) (by rfl) (by rfl)));have HG:=hide hg;clear hs hb hg hcs
 go_enter Tryz.func62,Tryz.ntmps62
 go_upto_region 0 with (fail)
 go_cut [8,10,11,12] (fun v8 v10 v11 v12 wx=>v8=ptr (w.heap.size)∧v10= .int .i64 0∧v11=ptr (w.heap.size+1)∧v12= .int .i64 0∧Bx w wx [(w.heap.size,jv (s1,s0),114),(w.heap.size+1,[.string ⟨#[]⟩,.string ⟨#[]⟩,.string ⟨#[]⟩],110)])
 case first=>
  go_wp2;go_meet;exact ⟨rfl,rfl,rfl,rfl,Bx.of (((aG.nil w).new (by simp) (jv (s1,s0)) 114).new (by simp) ([.string ⟨#[]⟩,.string ⟨#[]⟩,.string ⟨#[]⟩]) 110) _ rfl⟩
 case rest=>
  obtain ⟨rfl,rfl,rfl,rfl,hL⟩:=hcut;go_wp2
  go_step3
  go_upto_region 4 with (first | ((with_reducible refine bJ 114 8 ?_);refine dW (cs:=[.string s1,.string s0]) (hL.get 0 rfl) Tryz.underlying114 nO ?_) | (go_at_call 98;refine (qJ.out _ hL.bw).mono ?_;rintro e w1 ⟨rfl,hb1⟩;have hL:=hL.call hb1))
  go_cut [14] (fun v14 wx=>∃ qx,v14=ptr qx∧Bx w wx [(qx,ah ⟨2,1⟩,164),(w.heap.size,jv (s1,s0),114),(w.heap.size+1,[.string ⟨#[]⟩,.string ⟨#[]⟩,.string ⟨#[]⟩],110)])
  case first=>
   go_wp2_with (first | (go_at_call 99;refine (HD.out _ hL.bw).mono ?_;rintro e w2 ⟨rfl,hb2⟩;have hL:=hL.call hb2) | ((with_reducible refine isS 164 14 35 ?_);refine fU ((hL.add (ah ⟨0,0⟩) 164).head) (ah ⟨2,1⟩) aW (fO _) ?_))
   go_meet;exact ⟨_,rfl,(hL.add (ah ⟨0,0⟩) 164).put (ah ⟨2,1⟩) rfl⟩
  case rest=>
   obtain ⟨qx,rfl,hL⟩:=hcut
   go_upto_region 5 with (fail)
   go_cut [15] (fun v15 wx=>∃ vI,v15=ptr vI∧Bx w wx [(vI,[.string s0,.string s0,.string s0],110),(qx,ah ⟨2,1⟩,164),(w.heap.size,jv (s1,s0),114),(w.heap.size+1,[.string ⟨#[]⟩,.string ⟨#[]⟩,.string ⟨#[]⟩],110)])
   case first=>
    go_wp2_with (first | ((with_reducible refine isS 110 15 36 ?_);refine fU ((hL.add ([.string ⟨#[]⟩,.string ⟨#[]⟩,.string ⟨#[]⟩]) 110).head) ([.string s0,.string s0,.string s0]) zQ (Iu _ _ _) ?_))
    go_meet;exact ⟨_,rfl,(hL.add ([.string ⟨#[]⟩,.string ⟨#[]⟩,.string ⟨#[]⟩]) 110).put ([.string s0,.string s0,.string s0]) rfl⟩
   case rest=>
    obtain ⟨vI,rfl,hL⟩:=hcut
    go_upto_region 6 with (fail)
    go_cut [43] from 37 to 44 (fun v wx=>v= .bool false∧Bx w wx [(vI,[.string s0,.string s0,.string s0],110),(qx,ah ⟨2,1⟩,164),(w.heap.size,jv (s1,s0),114),(w.heap.size+1,[.string ⟨#[]⟩,.string ⟨#[]⟩,.string ⟨#[]⟩],110)])
    case first=>
     have aeb:∀ W:World,Bx w W [(vI,[.string s0,.string s0,.string s0],110),(qx,ah ⟨2,1⟩,164),(w.heap.size,jv (s1,s0),114),(w.heap.size+1,[.string ⟨#[]⟩,.string ⟨#[]⟩,.string ⟨#[]⟩],110)]→W.rangeAt (bs) os (jv (s0,s0)):=fun W h=>(hsr W h.bw);have Mc:∀ W:World,Bx w W [(vI,[.string s0,.string s0,.string s0],110),(qx,ah ⟨2,1⟩,164),(w.heap.size,jv (s1,s0),114),(w.heap.size+1,[.string ⟨#[]⟩,.string ⟨#[]⟩,.string ⟨#[]⟩],110)]→W.rangeAt (qx) 0 (ah ⟨2,1⟩):=fun W h=>h.rng 1 rfl 0 _ rfl;have hL:=hL.drew;refine wp_region_held_drew (S:=(fun w':World=>Bx w w' [(vI,[.string s0,.string s0,.string s0],110),(qx,ah ⟨2,1⟩,164),(w.heap.size,jv (s1,s0),114),(w.heap.size+1,[.string ⟨#[]⟩,.string ⟨#[]⟩,.string ⟨#[]⟩],110)])) (by kernel_rfl) ?bg (fun hHeld=>?_)
     case bg=>exact hL
     refine aA 0 ?_;refine aA 1 ?_;refine aA 2 ?_;refine bD 3 aeb Tryz.underlying114 ?_;refine aA 4 ?_;refine bD 5 Mc Tryz.underlying164 ?_;refine aB 6 fun K hK=>?_;go_simp
     (go_at_call 100;refine (HF.out _ hL.bw).mono ?_;rintro e w6a ⟨rfl,AX⟩)
     have hL:=hL.call AX;refine ak hK (hL) fun hHeld=>?_;clear hK K;refine wpAnyH_done (by kernel_rfl) ?_ _;go_wp2;go_meet;exact ⟨by rfl,hL⟩
    case rest=>
     obtain ⟨rfl,hL⟩:=hcut;go_wp2
     go_loopw [48] (fun i wr=>∃ k:Nat,k≤1∧i= .int .i64 k∧Bx w wr [(vI,[.string s0,.string s0,.string s0],110),(qx,ah ⟨2,1⟩,164),(w.heap.size,jv (s1,s0),114),(w.heap.size+1,[.string ⟨#[]⟩,.string ⟨#[]⟩,.string ⟨#[]⟩],110)]) (fun i _=>1 - (intOf i).toNat)
     case atStart=>exact ⟨0,by omega,rfl,hL⟩
     case round=>
      clear hL;obtain ⟨k,hk,rfl,hL⟩:=hrel
      by_cases h0:k=0
      · subst h0
        go_upto_region 12 with (fail)
        go_cut [62] from 56 to 63 (fun v wx=>v= .bool false∧Bx w wx [(vI,[.string s0,.string s0,.string s0],110),(qx,ah ⟨2,1⟩,164),(w.heap.size,jv (s1,s0),114),(w.heap.size+1,[.string ⟨#[]⟩,.string ⟨#[]⟩,.string ⟨#[]⟩],110)])
        case first=>
         have X7:∀ W:World,Bx w W [(vI,[.string s0,.string s0,.string s0],110),(qx,ah ⟨2,1⟩,164),(w.heap.size,jv (s1,s0),114),(w.heap.size+1,[.string ⟨#[]⟩,.string ⟨#[]⟩,.string ⟨#[]⟩],110)]→W.rangeAt (bs) os (jv (s0,s0)):=fun W h=>(hsr W h.bw);have Jg:∀ W:World,Bx w W [(vI,[.string s0,.string s0,.string s0],110),(qx,ah ⟨2,1⟩,164),(w.heap.size,jv (s1,s0),114),(w.heap.size+1,[.string ⟨#[]⟩,.string ⟨#[]⟩,.string ⟨#[]⟩],110)]→W.rangeAt (qx) 0 (ah ⟨2,1⟩):=fun W h=>h.rng 1 rfl 0 _ rfl;have hL:=hL.drew;refine wp_region_held_drew (S:=(fun w':World=>Bx w w' [(vI,[.string s0,.string s0,.string s0],110),(qx,ah ⟨2,1⟩,164),(w.heap.size,jv (s1,s0),114),(w.heap.size+1,[.string ⟨#[]⟩,.string ⟨#[]⟩,.string ⟨#[]⟩],110)])) (by kernel_rfl) ?bV (fun hHeld=>?_)
         case bV=>exact hL
         refine aA 0 ?_;refine aA 1 ?_;refine aA 2 ?_;refine bD 3 X7 Tryz.underlying114 ?_;refine aA 4 ?_;refine bD 5 Jg Tryz.underlying164 ?_;refine aB 6 fun K hK=>?_;go_simp
         (go_at_call 100;refine (HF.out _ hL.bw).mono ?_;rintro e Za ⟨rfl,Py⟩)
         have hL:=hL.call Py;refine ak hK (hL) fun hHeld=>?_;clear hK K;refine wpAnyH_done (by kernel_rfl) ?_ _;go_wp2;go_meet;exact ⟨by rfl,hL⟩
        case rest=>
         obtain ⟨rfl,hL⟩:=hcut;go_wp2
         go_roundw
         case rel=>exact ⟨1,by omega,by go_num,hL⟩
         case measure=>simp [intOf]
      · obtain rfl:k=1:=by omega
        clear hk h0;rw [show ((1:Nat):Int)=1 from rfl]
        go_upto_region 15 with (fail)
        go_cut [18] from 66 to 76 (fun v wx=>∃ A2 c2,v= .slice A2 2 c2∧Bx w wx [(vI,[.string s0,.string s0,.string s0],110),(qx,ah ⟨2,1⟩,164),(w.heap.size,jv (s1,s0),114),(w.heap.size+1,[.string ⟨#[]⟩,.string ⟨#[]⟩,.string ⟨#[]⟩],110)]∧Reads wx (fun _=>True) 25 A2 2 c2 ([xq,mg].flatMap dR))
        case first=>
         have X9:∀ W:World,Bx w W [(vI,[.string s0,.string s0,.string s0],110),(qx,ah ⟨2,1⟩,164),(w.heap.size,jv (s1,s0),114),(w.heap.size+1,[.string ⟨#[]⟩,.string ⟨#[]⟩,.string ⟨#[]⟩],110)]→W.rangeAt (bs) os (jv (s0,s0)):=fun W h=>(hsr W h.bw);have Jj:∀ W:World,Bx w W [(vI,[.string s0,.string s0,.string s0],110),(qx,ah ⟨2,1⟩,164),(w.heap.size,jv (s1,s0),114),(w.heap.size+1,[.string ⟨#[]⟩,.string ⟨#[]⟩,.string ⟨#[]⟩],110)]→W.rangeAt (w.heap.size) 0 ([.string s1,.string s0]):=fun W h=>h.rng 2 rfl 0 _ rfl;have Ji:∀ W:World,Bx w W [(vI,[.string s0,.string s0,.string s0],110),(qx,ah ⟨2,1⟩,164),(w.heap.size,jv (s1,s0),114),(w.heap.size+1,[.string ⟨#[]⟩,.string ⟨#[]⟩,.string ⟨#[]⟩],110)]→W.rangeAt (qx) 0 (ah ⟨2,1⟩):=fun W h=>h.rng 1 rfl 0 _ rfl;have hL:=hL.drew;refine wp_region_held_drew (S:=(fun w':World=>Bx w w' [(vI,[.string s0,.string s0,.string s0],110),(qx,ah ⟨2,1⟩,164),(w.heap.size,jv (s1,s0),114),(w.heap.size+1,[.string ⟨#[]⟩,.string ⟨#[]⟩,.string ⟨#[]⟩],110)])) (by kernel_rfl) ?dJ (fun hHeld=>?_)
         case dJ=>exact hL
         refine aA 0 ?_;refine aA 1 ?_;refine aA 2 ?_;refine bD 3 X9 Tryz.underlying114 ?_;refine aA 5 ?_;refine bD 6 Jj Tryz.underlying114 ?_;refine bD 8 Ji Tryz.underlying164 ?_;refine aB 4 fun K hK=>?_;go_simp
         (go_at_call 102;refine (HOF.out _ hL.bw).mono ?_;rintro e aCJ ⟨rfl,abK⟩)
         have hL:=hL.call abK;refine ak hK (hL) fun hHeld=>?_;clear hK K;refine aB 7 fun K hK=>?_;go_simp
         (go_at_call 102;refine (HOA.out _ hL.bw).mono ?_;rintro e aCQ ⟨rfl,abR⟩)
         have hL:=hL.call abR;refine ak hK (hL) fun hHeld=>?_;clear hK K;refine aB 9 fun K hK=>?_;go_simp
         (go_at_call 101;refine (HLN.out _ hL.bw).mono ?_;rintro e aCX ⟨A2,c2,rfl,hRd,abY⟩)
         have hL:=hL.call abY;refine ak hK (hL) fun hHeld=>?_;clear hK K;refine aA 10 ?_;refine wpAnyH_done (by kernel_rfl) ?_ _;go_wp2;go_meet;exact ⟨A2,c2,by rfl,hL,by have h9:=hRd.more (S':=fun _=>True) (fun _ _ _=>trivial);rw [Ux] at h9;exact h9⟩
        case rest=>
         obtain ⟨A2,c2,rfl,hL,hRd⟩:=hcut
         rename World=>wl
         have hM:=Bx.nil wl;rename_i K9 hK9;refine hK9 _ _ ?_
         try dsimp only
         clear hK9
         go_upto_region 16 with (fail)
         go_cut [19] (fun v19 wx=>∃ VW,v19=ptr VW∧Bx wl wx [(VW,tY,175)])
         case first=>
          go_wp2_with (first | ((with_reducible (refine fF 175 (.tmp 19) (.tmp 76) ?lx ?_));(case lx=>rfl);refine dU ((hM.add [.int .i64 0,.slice none 0 0,.int .i64 0,.slice none 0 0,.int .i64 0,.slice none 0 0,.int .i64 0,.slice none 0 0,.int .i64 0,.slice none 0 0,.int .i64 0,.slice none 0 0,.int .i64 0,.slice none 0 0,.int .i64 0,.slice none 0 0,.int .i64 0,.slice none 0 0,.int .i64 0,.slice none 0 0,.int .i64 0,.slice none 0 0,.int .i64 0,.slice none 0 0,.bool false] 175).head) (tY) rfl mD IQ rfl (.tmp 19) (.tmp 76) rfl rfl rfl ?_))
          go_meet;exact ⟨_,rfl,(hM.add [.int .i64 0,.slice none 0 0,.int .i64 0,.slice none 0 0,.int .i64 0,.slice none 0 0,.int .i64 0,.slice none 0 0,.int .i64 0,.slice none 0 0,.int .i64 0,.slice none 0 0,.int .i64 0,.slice none 0 0,.int .i64 0,.slice none 0 0,.int .i64 0,.slice none 0 0,.int .i64 0,.slice none 0 0,.int .i64 0,.slice none 0 0,.int .i64 0,.slice none 0 0,.bool false] 175).put tY rfl⟩
         case rest=>
          obtain ⟨VW,rfl,hM⟩:=hcut;rename_i K8 hK8;refine hK8 _ _ ?_
          try dsimp only
          clear hK8;go_wp2
          go_step3
          obtain ⟨b2,o2,rfl,_,hb2,hc2⟩:=Reads.at_ hRd (by omega);have hRD:=hide hRd;have Ig:Hid (∀ W,Calls Tryz.prog 103 #[gy ⟨1,1⟩,gy ⟨1,1⟩,gy ⟨4,1⟩] W fun e w'=>e= .returned (.int .i64 1)∧Below W.heap.size W w'):=hide (fun W=>vC ⟨1,1⟩ ⟨1,1⟩ ⟨4,1⟩ W (by rfl));have HS2:Hid (∀ W,Calls Tryz.prog 103 #[gy ⟨4,1⟩,gy ⟨1,1⟩,gy ⟨4,1⟩] W fun e w'=>e= .returned (.int .i64 1)∧Below W.heap.size W w'):=hide (fun W=>vC ⟨4,1⟩ ⟨1,1⟩ ⟨4,1⟩ W (by rfl));have HO1:Hid (∀ W,Below wl.heap.size wl W→Calls Tryz.prog 104 #[.slice (some ⟨b2,o2,none⟩) 2 c2,ZC xq.2] W fun e w'=>e= .returned (.bool false)∧Below W.heap.size W w'):=hide (fun W h=>BU _ _ c2 [xq,mg] xq.2 W (hRD.out.below h) (fun g hg=>by simp only [List.mem_cons,List.not_mem_nil,or_false] at hg;rcases hg with rfl | rfl <;> rfl));have HO2:Hid (∀ W,Below wl.heap.size wl W→Calls Tryz.prog 104 #[.slice (some ⟨b2,o2,none⟩) 2 c2,ZC mg.2] W fun e w'=>e= .returned (.bool true)∧Below W.heap.size W w'):=hide (fun W h=>BU _ _ c2 [xq,mg] mg.2 W (hRD.out.below h) (fun g hg=>by simp only [List.mem_cons,List.not_mem_nil,or_false] at hg;rcases hg with rfl | rfl <;> rfl));have hr1:∀ W,Below wl.heap.size wl W→W.rangeAt b2 o2 (dR xq):=fun W h j v hj=>(h.cell (p:=⟨b2,o2+j,none⟩) hb2).trans (hc2 j v (by rw [← Nat.zero_add j, ← Nat.zero_mul 25];exact uJ (f:=dR) (n:=25) (fun _=>rfl) (l:=[xq,mg]) 0 (by decide) hj));have hr2:∀ W,Below wl.heap.size wl W→W.rangeAt b2 (o2+25) (dR mg):=fun W h j v hj=>(h.cell (p:=⟨b2,o2+25+j,none⟩) hb2).trans (by rw [Nat.add_assoc];exact hc2 (25+j) v (by rw [← Nat.one_mul 25];exact uJ (f:=dR) (n:=25) (fun _=>rfl) (l:=[xq,mg]) 1 (by decide) hj));clear hRd hc2;go_wp2
          go_loopw [79] (fun i wr=>∃ k:Nat,k≤2∧i= .int .i64 k∧((k<2∧Bx wl wr [(VW,tY,175)])∨(k=2∧Bx wl wr [(VW,dR mg,175)]))) (fun i _=>2 - (intOf i).toNat)
          case atStart=>exact ⟨0,by omega,rfl,.inl ⟨by omega,hM⟩⟩
          case round=>
           clear hM;obtain ⟨k,hk,rfl,hM⟩:=hrel
           by_cases h0:k=0
           · subst h0
             replace hM:=(hM.resolve_right (by simp)).2;have PY:=hr1 _ hM.bw
             go_upto_region 19 with (fail)
             go_cut [21] from 81 to 83 (fun v21 wx=>∃ Xf,v21=ptr Xf∧Bx wl wx [(Xf,dR xq,175),(VW,tY,175)])
             case first=>
              go_wp2_with (first | ((with_reducible (refine dw 175 (.tmp 81) ?lx ?_));(case lx=>rfl);refine fH PY Tryz.underlying175 rfl mD rfl (.tmp 81) rfl rfl ?_) | ((with_reducible refine isS 175 21 82 ?_);refine fU ((hM.add [.int .i64 0,.slice none 0 0,.int .i64 0,.slice none 0 0,.int .i64 0,.slice none 0 0,.int .i64 0,.slice none 0 0,.int .i64 0,.slice none 0 0,.int .i64 0,.slice none 0 0,.int .i64 0,.slice none 0 0,.int .i64 0,.slice none 0 0,.int .i64 0,.slice none 0 0,.int .i64 0,.slice none 0 0,.int .i64 0,.slice none 0 0,.int .i64 0,.slice none 0 0,.bool false] 175).head) (dR xq) mD (Ez _) ?_))
              go_meet;exact ⟨_,rfl,(hM.add [.int .i64 0,.slice none 0 0,.int .i64 0,.slice none 0 0,.int .i64 0,.slice none 0 0,.int .i64 0,.slice none 0 0,.int .i64 0,.slice none 0 0,.int .i64 0,.slice none 0 0,.int .i64 0,.slice none 0 0,.int .i64 0,.slice none 0 0,.int .i64 0,.slice none 0 0,.int .i64 0,.slice none 0 0,.int .i64 0,.slice none 0 0,.int .i64 0,.slice none 0 0,.bool false] 175).put (dR xq) rfl⟩
             case rest=>
              obtain ⟨Xf,rfl,hM⟩:=hcut;clear PY;have k24:=(hM.get 0 rfl).cell (j:=24) rfl
              go_wp2_with (first | ((with_reducible refine bJ 164 87 ?_);refine ig (hM.rn 0 12 (ah ⟨1,1⟩)) Tryz.underlying164 aW ?_) | ((with_reducible refine iy 164 87 ?_);refine kP (hM.rn 0 12 (ah ⟨1,1⟩)) Tryz.underlying164 aW ?_) | ((with_reducible refine bJ 164 90 ?_);refine ig (hM.rn 0 16 (ah ⟨1,1⟩)) Tryz.underlying164 aW ?_) | ((with_reducible refine iy 164 90 ?_);refine kP (hM.rn 0 16 (ah ⟨1,1⟩)) Tryz.underlying164 aW ?_) | ((with_reducible refine bJ 164 93 ?_);refine ig (hM.rn 0 20 (ah ⟨4,1⟩)) Tryz.underlying164 aW ?_) | ((with_reducible refine iy 164 93 ?_);refine kP (hM.rn 0 20 (ah ⟨4,1⟩)) Tryz.underlying164 aW ?_) | ((with_reducible refine bJ 173 100 ?_);refine ig (hM.rn 0 12 (aU xq.2)) Tryz.underlying173 gQ ?_) | ((with_reducible refine iy 173 100 ?_);refine kP (hM.rn 0 12 (aU xq.2)) Tryz.underlying173 gQ ?_) | (go_at_call 103;refine (Ig.out _).mono ?_;rintro e w1 ⟨rfl,hb1⟩;have hM:=hM.call hb1) | (go_at_call 104;refine (HO1.out _ hM.bw).mono ?_;rintro e w2 ⟨rfl,hb2⟩;have hM:=hM.call hb2))
              go_roundw
              case rel=>exact ⟨1,by omega,by go_num,.inl ⟨by omega,hM.tail⟩⟩
              case measure=>simp [intOf]
           · by_cases h1:k=1
             · subst h1
               replace hM:=(hM.resolve_right (by simp)).2;have PZ:=hr2 _ hM.bw
               go_upto_region 19 with (fail)
               go_cut [21] from 81 to 83 (fun v21 wx=>∃ Xf,v21=ptr Xf∧Bx wl wx [(Xf,dR mg,175),(VW,tY,175)])
               case first=>
                go_wp2_with (first | ((with_reducible (refine dw 175 (.tmp 81) ?lx ?_));(case lx=>rfl);refine fH PZ Tryz.underlying175 rfl mD rfl (.tmp 81) rfl rfl ?_) | ((with_reducible refine isS 175 21 82 ?_);refine fU ((hM.add [.int .i64 0,.slice none 0 0,.int .i64 0,.slice none 0 0,.int .i64 0,.slice none 0 0,.int .i64 0,.slice none 0 0,.int .i64 0,.slice none 0 0,.int .i64 0,.slice none 0 0,.int .i64 0,.slice none 0 0,.int .i64 0,.slice none 0 0,.int .i64 0,.slice none 0 0,.int .i64 0,.slice none 0 0,.int .i64 0,.slice none 0 0,.int .i64 0,.slice none 0 0,.bool false] 175).head) (dR mg) mD (Ez _) ?_))
                go_meet;exact ⟨_,rfl,(hM.add [.int .i64 0,.slice none 0 0,.int .i64 0,.slice none 0 0,.int .i64 0,.slice none 0 0,.int .i64 0,.slice none 0 0,.int .i64 0,.slice none 0 0,.int .i64 0,.slice none 0 0,.int .i64 0,.slice none 0 0,.int .i64 0,.slice none 0 0,.int .i64 0,.slice none 0 0,.int .i64 0,.slice none 0 0,.int .i64 0,.slice none 0 0,.int .i64 0,.slice none 0 0,.bool false] 175).put (dR mg) rfl⟩
               case rest=>
                obtain ⟨Xf,rfl,hM⟩:=hcut;clear PZ;have k24:=(hM.get 0 rfl).cell (j:=24) rfl
                go_upto_region 21 with (first | ((with_reducible refine bJ 164 87 ?_);refine ig (hM.rn 0 12 (ah ⟨4,1⟩)) Tryz.underlying164 aW ?_) | ((with_reducible refine iy 164 87 ?_);refine kP (hM.rn 0 12 (ah ⟨4,1⟩)) Tryz.underlying164 aW ?_) | ((with_reducible refine bJ 164 90 ?_);refine ig (hM.rn 0 16 (ah ⟨1,1⟩)) Tryz.underlying164 aW ?_) | ((with_reducible refine iy 164 90 ?_);refine kP (hM.rn 0 16 (ah ⟨1,1⟩)) Tryz.underlying164 aW ?_) | ((with_reducible refine bJ 164 93 ?_);refine ig (hM.rn 0 20 (ah ⟨4,1⟩)) Tryz.underlying164 aW ?_) | ((with_reducible refine iy 164 93 ?_);refine kP (hM.rn 0 20 (ah ⟨4,1⟩)) Tryz.underlying164 aW ?_) | ((with_reducible refine bJ 173 100 ?_);refine ig (hM.rn 0 12 (aU mg.2)) Tryz.underlying173 gQ ?_) | ((with_reducible refine iy 173 100 ?_);refine kP (hM.rn 0 12 (aU mg.2)) Tryz.underlying173 gQ ?_) | (go_at_call 103;refine (HS2.out _).mono ?_;rintro e w1 ⟨rfl,hb1⟩;have hM:=hM.call hb1) | (go_at_call 104;refine (HO2.out _ hM.bw).mono ?_;rintro e w2 ⟨rfl,hb2⟩;have hM:=hM.call hb2))
                have k19:=(hM.get 1 rfl).cell (j:=24) rfl
                go_wp2_with (first | ((with_reducible refine bJ 173 105 ?_);refine ig (hM.rn 0 12 (aU mg.2)) Tryz.underlying173 gQ ?_) | ((with_reducible refine iy 173 105 ?_);refine kP (hM.rn 0 12 (aU mg.2)) Tryz.underlying173 gQ ?_) | ((with_reducible refine bJ 175 21 ?_);refine dW (hM.get 0 rfl) Tryz.underlying175 mD ?_) | ((with_reducible refine isS 175 19 117 ?_);refine fU (hM.swap.head) (dR mg) mD (Ez _) ?_))
                have hM:=hM.swap.put (dR mg) rfl
                go_roundw
                case rel=>exact ⟨2,by omega,by go_num,.inr ⟨rfl,hM.swap.tail⟩⟩
                case measure=>simp [intOf]
             · obtain rfl:k=2:=by omega
               replace hM:=(hM.resolve_left (by simp)).2;clear hk h0 h1 hr1 hr2
               go_upto_region 25 with (fail)
               go_cut [23] from 119 to 121 (fun v23 wx=>∃ TM,v23=ptr TM∧Bx wl wx [(TM,aU mg.2,173),(VW,dR mg,175)])
               case first=>
                go_wp2_with (first | ((with_reducible refine bJ 173 119 ?_);refine ig (hM.rn 0 12 (aU mg.2)) Tryz.underlying173 gQ ?_) | ((with_reducible refine iy 173 119 ?_);refine kP (hM.rn 0 12 (aU mg.2)) Tryz.underlying173 gQ ?_) | ((with_reducible refine isS 173 23 120 ?_);refine fU ((hM.add (aU (⟨0,0⟩,⟨0,0⟩,⟨0,0⟩)) 173).head) (aU mg.2) gQ (BO _) ?_))
                go_meet;exact ⟨_,rfl,(hM.add (aU (⟨0,0⟩,⟨0,0⟩,⟨0,0⟩)) 173).put (aU mg.2) rfl⟩
               case rest=>
                obtain ⟨TM,rfl,hM⟩:=hcut;have HL1:=hide (fun W=>DX ⟨4,1⟩ W (by rfl));have HL2:=hide (fun W=>DX ⟨1,1⟩ W (by rfl));have tk1:=hide True.intro;have tk2:=hide True.intro
                go_upto_region 28 with (first | ((with_reducible refine bJ 164 121 ?_);refine ig (hM.rn 0 0 (ah ⟨4,1⟩)) Tryz.underlying164 aW ?_) | ((with_reducible refine iy 164 121 ?_);refine kP (hM.rn 0 0 (ah ⟨4,1⟩)) Tryz.underlying164 aW ?_) | ((with_reducible refine bJ 164 125 ?_);refine ig (hM.rn 0 4 (ah ⟨1,1⟩)) Tryz.underlying164 aW ?_) | ((with_reducible refine iy 164 125 ?_);refine kP (hM.rn 0 4 (ah ⟨1,1⟩)) Tryz.underlying164 aW ?_) | ((with_reducible refine bJ 164 130 ?_);refine ig (hM.rn 0 8 (ah ⟨4,1⟩)) Tryz.underlying164 aW ?_) | ((with_reducible refine iy 164 130 ?_);refine kP (hM.rn 0 8 (ah ⟨4,1⟩)) Tryz.underlying164 aW ?_) | (clear tk1;go_at_call 106;refine (HL1.out _).mono ?_;rintro e w1 ⟨rfl,hb1⟩;have hM:=hM.call hb1) | (clear tk2;go_at_call 106;refine (HL2.out _).mono ?_;rintro e w2 ⟨rfl,hb2⟩;have hM:=hM.call hb2) | (go_at_call 106;refine (HL1.out _).mono ?_;rintro e w3 ⟨rfl,hb3⟩;have hM:=hM.call hb3))
                have HT4:Hid (∀ W,Glob W→Calls Tryz.prog 107 #[gy ⟨4,1⟩] W fun e w'=>e= .returned (.string s4)∧Below W.heap.size W w'):=hide (fun W h=>by have:=H8 ⟨4,1⟩ W h (by rfl);rwa [OW] at this);have HT1:Hid (∀ W,Glob W→Calls Tryz.prog 107 #[gy ⟨1,1⟩] W fun e w'=>e= .returned (.string s1)∧Below W.heap.size W w'):=hide (fun W h=>by have:=H8 ⟨1,1⟩ W h (by rfl);rwa [OV] at this);have hL:=(Bx.join hL.tail.tail.tail hM.swap.tail).swap;have Jk:∀ W:World,Bx w W [(TM,aU mg.2,173)]→W.rangeAt (TM) 0 (ah ⟨4,1⟩):=fun W h=>h.rng 0 rfl 0 _ rfl;have Jl:∀ W:World,Bx w W [(TM,aU mg.2,173)]→W.rangeAt (TM) 4 (ah ⟨1,1⟩):=fun W h=>h.rng 0 rfl 4 _ rfl;have Jm:∀ W:World,Bx w W [(TM,aU mg.2,173)]→W.rangeAt (TM) 8 (ah ⟨4,1⟩):=fun W h=>h.rng 0 rfl 8 _ rfl;have hL:=hL.drew;refine wp_region_held_drew (S:=(fun w':World=>Bx w w' [(TM,aU mg.2,173)])) (by kernel_rfl) ?gW (fun hHeld=>?_)
                case gW=>exact hL.tail
                refine aA 0 ?_;refine aA 1 ?_;refine bD 2 Jk Tryz.underlying164 ?_;refine aA 4 ?_;refine bD 5 Jl Tryz.underlying164 ?_;refine aA 7 ?_;refine bD 8 Jm Tryz.underlying164 ?_;refine aB 3 fun K hK=>?_;go_simp
                (go_at_call 107;refine (HT4.out _ (HG.out.below hL.bw)).mono ?_;rintro e aC4 ⟨rfl,ab6⟩)
                have hL:=hL.call ab6;refine ak hK (hL.tail) fun hHeld=>?_;clear hK K;refine aB 6 fun K hK=>?_;go_simp
                (go_at_call 107;refine (HT1.out _ (HG.out.below hL.bw)).mono ?_;rintro e aDb ⟨rfl,acg⟩)
                have hL:=hL.call acg;refine ak hK (hL.tail) fun hHeld=>?_;clear hK K;refine aB 9 fun K hK=>?_;go_simp
                (go_at_call 107;refine (HT4.out _ (HG.out.below hL.bw)).mono ?_;rintro e aDi ⟨rfl,acr⟩)
                have hL:=hL.call acr;refine ak hK (hL.tail) fun hHeld=>?_;clear hK K;refine aA 10 ?_;refine aA 11 ?_;refine aB 12 fun K hK=>?_;refine aQ hL.head [.string s4,.string s1,.string s4] rfl zQ (Iu _ _ _) (.tmp 11) (.tmp 145) rfl rfl rfl ?_;have hL:=hL.put [.string s4,.string s1,.string s4] rfl;refine ak hK (hL.tail) fun hHeld=>?_;clear hK K;refine aA 13 ?_;refine wpAnyH_done (by kernel_rfl) ?_ _;go_wp2
                try rw [Exit.noGoto_ret]
                exact bodyPost_ret (L6 (p:=11) hL.head Tryz.underlying110 rfl zQ rfl _ rfl) rfl ⟨rfl,hL.bw⟩
theorem Ew (g:Sk.Game):∀ v∈bK g,v.oneCell'=true:=by simp [bK,Value.oneCell']
def eP:Sk.Game:=⟨Sk.aK,1,0,0⟩
def sV (c b:ByteArray):Sk.Entry:=⟨Sk.cO,c,[b],[b],0⟩
def l9:List Sk.Entry:=[sV Sk.bU Sk.bG,sV Sk.nX Sk.nX,⟨Sk.cO,Sk.bU,[Sk.jJ],[],0⟩,⟨Sk.iI,Sk.bU,[],[],0⟩,sV Sk.nY Sk.nY,sV Sk.bU Sk.bM]
theorem Cc {W:World} {S:Nat→Prop} {size n c:Nat} {A:Option Addr} {xs:List Value} (h:Reads W S size A n c xs) {g:Nat} (hg:∀ b,S b→b≠g) (vs:List Value) (o:Nat):Reads (W.setCells g o vs) S size A n c xs:=
 h.keep (by rw [setCells_size];exact Nat.le_refl _) fun b q hb _=>World.cell?_of_block (Held.lY (hg b hb) vs o W)
theorem je (w:World):Calls Tryz.prog 59 #[] w fun e w'=>e= .returned (lX eP)∧Below w.heap.size w w':=by
 go_enter Tryz.func59,Tryz.ntmps59
 have hL:=Bx.nil w
 go_wp2_with (((with_reducible refine isS 23 0 1 ?_);refine fU ((hL.add (bK ⟨⟨#[]⟩,0,0,0⟩) 23).head) (bK eP) dQ (Ew _) ?_))
 have hM:=(hL.add (bK ⟨⟨#[]⟩,0,0,0⟩) 23).put (bK eP) rfl;exact bodyPost_ret (aI (p:=0) (hM.head) Tryz.underlying23 rfl dQ rfl _ rfl) rfl ⟨rfl,hM.bw⟩
theorem oM (c b:ByteArray) (w:World):Calls Tryz.prog 51 #[.string c,.string b] w fun e w'=>∃ x:En,e= .returned (rU x)∧x.x=sV c b∧iL w' (fun p=>w.heap.size≤p) x∧Below w.heap.size w w':=by
 go_enter Tryz.func51,Tryz.ntmps51
 have hL:=(Bx.nil w).add [.string ⟨#[]⟩,.string ⟨#[]⟩,.slice none 0 0,.slice none 0 0,.int .i64 0] 83;have hM:=(hL.alloc (.cells #[.string b] 9)).alloc (.cells #[.string b] 9)
 go_wp2_with (((with_reducible refine isS 83 4 10 ?_);refine fU (hM.head) (dn ⟨sV c b,some ⟨w.heap.size+1,0,none⟩,1,some ⟨w.heap.size+1+1,0,none⟩,1⟩) bI (zT _) ?_))
 have hZ:=hM.put (dn ⟨sV c b,some ⟨w.heap.size+1,0,none⟩,1,some ⟨w.heap.size+1+1,0,none⟩,1⟩) rfl;refine bodyPost_ret (aI (p:=4) hZ.head Tryz.underlying83 rfl bI rfl _ rfl) rfl ⟨⟨sV c b,some ⟨w.heap.size+1,0,none⟩,1,some ⟨w.heap.size+1+1,0,none⟩,1⟩,rfl,rfl,?_,hZ.bw⟩;have h1:=Reads.lit (w.alloc (.cells ([.string ⟨#[]⟩,.string ⟨#[]⟩,.slice none 0 0,.slice none 0 0,.int .i64 0]:List Value).toArray 83)) 9 (fun p=>w.heap.size<p) 1 1 [.string b] (by omega) rfl (by simp);have h2:=Reads.lit ((w.alloc (.cells ([.string ⟨#[]⟩,.string ⟨#[]⟩,.slice none 0 0,.slice none 0 0,.int .i64 0]:List Value).toArray 83)).alloc (.cells ([.string b]:List Value).toArray 9)) 9 (fun p=>w.heap.size<p) 1 1 [.string b] (by omega) rfl (by simp;omega)
 have hsz:(w.alloc (.cells ([.string ⟨#[]⟩,.string ⟨#[]⟩,.slice none 0 0,.slice none 0 0,.int .i64 0]:List Value).toArray 83)).heap.size=w.heap.size+1:=by simp
 rw [hsz] at h1
 have hsz2:((w.alloc (.cells ([.string ⟨#[]⟩,.string ⟨#[]⟩,.slice none 0 0,.slice none 0 0,.int .i64 0]:List Value).toArray 83)).alloc (.cells ([.string b]:List Value).toArray 9)).heap.size=w.heap.size+1+1:=by simp
 rw [hsz2] at h2;exact ⟨(Cc (Reads.alloc h1 _) (fun b h=>by omega) _ _).more (fun b _ h=>Nat.le_of_lt h),(Cc h2 (fun b h=>by omega) _ _).more (fun b _ h=>Nat.le_of_lt h)⟩
def uQ (l:List En):Prop:=∃ (x1 x2 x5 x6:En) (g:Nat),l=[x1,x2,⟨⟨Sk.cO,Sk.bU,[Sk.jJ],[],0⟩,some ⟨g,0,none⟩,1,none,0⟩,⟨⟨Sk.iI,Sk.bU,[],[],0⟩,none,0,none,0⟩,x5,x6]∧x1.x=sV Sk.bU Sk.bG∧x2.x=sV Sk.nX Sk.nX∧x5.x=sV Sk.nY Sk.nY∧x6.x=sV Sk.bU Sk.bM
theorem uQ.bare {l:List En} (h:uQ l):bare l=l9:=by
 obtain ⟨x1,x2,x5,x6,g,rfl,h1,h2,h5,h6⟩:=h
 simp only [Proofs.YtjbbfmofpjflmaaGreatDoor.bare,List.map_cons,List.map_nil,h1,h2,h5,h6];rfl
theorem uQ.len {l:List En} (h:uQ l):l.length=6:=by
 obtain ⟨x1,x2,x5,x6,g,rfl,_⟩:=h;rfl
theorem jP (w:World):Calls Tryz.prog 60 #[] w fun e w'=>∃ (l:List En) (g:Nat),e= .returned (.slice (some ⟨g,0,none⟩) 6 6)∧uQ l∧ni w' (fun p=>w.heap.size≤p) (some ⟨g,0,none⟩) 6 l∧Below w.heap.size w w':=by
 have tk1:=hide True.intro;have tk2:=hide True.intro;have tk5:=hide True.intro;have tk6:=hide True.intro
 go_enter Tryz.func60,Tryz.ntmps60
 go_wp2_with (first | (clear tk1;go_at_call 51;refine (oM _ _ _).mono ?_;rintro e w1 ⟨x1,rfl,hy1,hk1,hb1⟩;have HY1:=hide hy1;clear hy1) | (clear tk2;go_at_call 51;refine (oM _ _ _).mono ?_;rintro e w2 ⟨x2,rfl,hy2,hk2,hb2⟩;have HY2:=hide hy2;clear hy2) | (clear tk5;go_at_call 51;refine (oM _ _ _).mono ?_;rintro e w5 ⟨x5,rfl,hy5,hk5,hb5⟩;have HY5:=hide hy5;clear hy5) | (clear tk6;go_at_call 51;refine (oM _ _ _).mono ?_;rintro e w6 ⟨x6,rfl,hy6,hk6,hb6⟩;have Xl:=hide hy6;clear hy6))
 go_ret;have c2:=hb1.trans (hb2.mono hb1.size);have g2:Below w.heap.size w (w2.alloc (.cells ([.string Sk.jJ]:List Value).toArray 9)):=c2.alloc c2.size _;have c5:=g2.trans (hb5.mono g2.size);have c6:=c5.trans (hb6.mono c5.size);have hg:=Reads.lit w2 9 (fun p=>w.heap.size≤p) 1 1 [.string Sk.jJ] (by omega) rfl c2.size;have b25:Below w2.heap.size w2 w6:=(((Below.refl _ _).alloc (Nat.le_refl _) (.cells ([.string Sk.jJ]:List Value).toArray 9)).trans (hb5.mono (by simp))).trans (hb6.mono (by have:=hb5.size;simp at this;omega));have g56:Below (w2.alloc (.cells ([.string Sk.jJ]:List Value).toArray 9)).heap.size (w2.alloc (.cells ([.string Sk.jJ]:List Value).toArray 9)) w6:=hb5.trans (hb6.mono hb5.size);refine ⟨[x1,x2,⟨⟨Sk.cO,Sk.bU,[Sk.jJ],[],0⟩,some ⟨w2.heap.size,0,none⟩,1,none,0⟩,⟨⟨Sk.iI,Sk.bU,[],[],0⟩,none,0,none,0⟩,x5,x6],_,rfl,?_,⟨?_,?_⟩,c6.alloc c6.size _⟩
 · exact ⟨x1,x2,x5,x6,_,rfl,HY1.out,HY2.out,HY5.out,Xl.out⟩
 · exact Reads.lit w6 83 (fun p=>w.heap.size≤p) 5 6 (zn [x1,x2,⟨⟨Sk.cO,Sk.bU,[Sk.jJ],[],0⟩,some ⟨w2.heap.size,0,none⟩,1,none,0⟩,⟨⟨Sk.iI,Sk.bU,[],[],0⟩,none,0,none,0⟩,x5,x6]) (by omega) rfl c6.size
 · intro e he
   refine iL.below ?_ ((Below.refl _ _).alloc (Nat.le_refl _) _)
   simp only [List.mem_cons,List.not_mem_nil,or_false] at he
   rcases he with rfl | rfl | rfl | rfl | rfl | rfl
   · exact (hk1.below hb2).below b25
   · exact (hk2.more (fun b _ h=>Nat.le_trans hb1.size h)).below b25
   · exact ⟨Reads.below hg g56,Reads.none_ _ _ _⟩
   · exact ⟨Reads.none_ _ _ _,Reads.none_ _ _ _⟩
   · exact (hk5.more (fun b _ h=>Nat.le_trans g2.size h)).below hb6
   · exact hk6.more (fun b _ h=>Nat.le_trans c5.size h)
theorem Gg {W:World} {S:Nat→Prop} {A:Option Addr} {c:Nat} {l:List Int} (h:nI W S A c l) (k:Nat) (hk:k<l.length):∃ b o,A=some ⟨b,o,none⟩∧W.cell? ⟨b,o+k,none⟩=some (.int .i64 l[k]):=by
 obtain ⟨b,o,e,_,_,hc⟩:=Reads.at_ h (by omega);exact ⟨b,o,e,hc k _ (by rw [List.getElem?_map,List.getElem?_eq_getElem hk];rfl)⟩
theorem uH (S S':Nat→Prop) (a b:List Int) (A B:Option Addr) (c d:Nat) (w:World) (ha:nI w S A c a) (hb:nI w S' B d b):Calls Tryz.prog 61 #[.slice A a.length c,.slice B b.length d] w fun e w'=>e= .returned (.bool (decide (a=b)))∧Below w.heap.size w w':=by
 obtain ⟨a1,a2,a3⟩:=Reads.bd ha;obtain ⟨b1,b2,b3⟩:=Reads.bd hb
 by_cases hl:a.length=b.length
 rotate_left
 · have hl':((a.length:Int) != (b.length:Int))=true:=by simp;omega
   have HM:=hide (show decide (a=b)=false from decide_eq_false (fun h=>hl (by rw [h])));clear hl
   go_enter Tryz.func61,Tryz.ntmps61
   go_wp2;go_ret;exact ⟨aH HM.out.symm,Below.refl _ _⟩
 · have hl':((a.length:Int) != (b.length:Int))=false:=by simp;omega
   have HL:=hide hl;clear hl
   go_enter Tryz.func61,Tryz.ntmps61
   go_wp2
   go_loopw [5] (fun i wr=>∃ k:Nat,k≤a.length∧i= .int .i64 k∧Aside (a.take k=b.take k)∧Below w.heap.size w wr) (fun i _=>a.length - (intOf i).toNat)
   case atStart=>exact ⟨0,by omega,rfl,rfl,Below.refl _ _⟩
   case round=>
    obtain ⟨k,hk,rfl,heq,hbw⟩:=hrel
    by_cases hlt:k<a.length
    · have hlt2:k<b.length:=by have:=HL.out;omega
      obtain ⟨p,o,rfl,hca⟩:=Gg (Reads.below ha hbw) k hlt;obtain ⟨q,r,rfl,hcb⟩:=Gg (Reads.below hb hbw) k hlt2;have hck:decide ((k:Int)<(a.length:Int))=true:=decide_eq_true (by omega)
      have i1:(0:Int)≤(k:Int):=by omega
      have i2:(k:Int)<(a.length:Int):=by omega
      have i3:(k:Int)<(b.length:Int):=by omega
      have hta:a.take (k+1)=a.take k++[a[k]]:=List.take_succ_eq_append_getElem hlt;have htb:b.take (k+1)=b.take k++[b[k]]:=List.take_succ_eq_append_getElem hlt2;have HT:=hide (And.intro hta htb);have HE:Hid (∀ h:a=b,a[k]=b[k]):=hide (fun h=>by subst h;rfl);obtain ⟨x,hx⟩:∃ x,a[k]=x:=⟨_,rfl⟩;obtain ⟨y,hy⟩:∃ y,b[k]=y:=⟨_,rfl⟩
      simp only [hx,hy] at hca hcb HE HT
      clear hta htb hx hy
      by_cases hxy:x=y
      · have hne:(x != y)=false:=by simp [hxy]
        have HX:=hide hxy;clear hxy;go_wp2
        go_quiet (fail)
        go_wp2
        go_roundw
        case rel=>exact ⟨k+1,by omega,by go_num,by rw [HT.out.1,HT.out.2,heq.out,HX.out];exact rfl,below_drewN hbw nq⟩
        case measure=>simp [intOf];omega
      · have hne:(x != y)=true:=by simp [hxy]
        have HM:=hide (show decide (a=b)=false from decide_eq_false (fun h=>hxy (HE.out h)));clear hxy;go_wp2
        go_quiet (fail)
        go_wp2;go_ret;exact ⟨aH HM.out.symm,below_drewN hbw nq⟩
    · have hck:decide ((k:Int)<(a.length:Int))=false:=decide_eq_false (by omega)
      have HM:=hide (show decide (a=b)=true from decide_eq_true (by have h:=heq.out;have:=HL.out;rwa [List.take_of_length_le (by omega),List.take_of_length_le (by omega)] at h));go_wp2;go_ret;exact ⟨aH HM.out.symm,hbw⟩
def kM:Sk.State:=⟨0,0,0,0,Sk.fM,1,0,false,false,0,0,0, -1⟩
def jy:Sk.State:=⟨0,8,0,8,Sk.bH,0,2,false,false,0,0,0, -1⟩
def jR:Sk.State:=⟨1,8,8,4,Sk.bH,0,3,false,false,0,0,0, -1⟩
def xk:Sk.State:=⟨1,40,0,0,Sk.bH,0,3,false,false,0,0,0, -1⟩
def kR:Sk.Game:=⟨Sk.bT,0,100,0⟩
def tX:Sk.State:=⟨0,0,0,0,Sk.uo,0,0,false,false,0,0,0, -1⟩
def zU:Sk.Entry:=⟨Sk.cO,Sk.bU,[Sk.bG,Sk.bM],[Sk.bG,Sk.bf],0⟩
def kX:Sk.Game:=⟨Sk.fC,0,2,10⟩
def iZ:Sk.Entry:=⟨Sk.cO,Sk.bU,[Sk.bG,Sk.bM],[],3⟩
def jh:Sk.Entry:=⟨Sk.cO,Sk.bU,[Sk.bf,Sk.bG],[],3⟩
def vJ:Sk.State:=⟨0,2,2,0,Sk.uo,0,0,false,false,0,1,1,2⟩
theorem LC:Sk.final eP (Sk.start eP) (l9.take 2)=jy:=by kernel_rfl
theorem LD:Sk.final eP (Sk.start eP) l9=jR:=by kernel_rfl
theorem KE:Sk.iE eP (Sk.start eP) 1 (l9.take 2)=[]∧Sk.iE eP (Sk.start eP) 1 l9=[]:=⟨by kernel_rfl,by kernel_rfl⟩
theorem Ep:Sk.iO eP (l9.take 2)=0∧Sk.iO eP l9=0:=⟨by kernel_rfl,by kernel_rfl⟩
theorem yF:Sk.final kX (Sk.start kX) [iZ,iZ,jh,jh]=vJ∧Sk.iE kX (Sk.start kX) 1 [iZ,iZ,jh,jh]=[]∧Sk.iO kX [iZ,iZ,jh,jh]=0:=⟨by kernel_rfl,by kernel_rfl,by kernel_rfl⟩
theorem Uw (W:World):Calls Tryz.prog 22 #[lX eP] W fun e w'=>e= .returned (.tuple #[jE kM,.int .i64 0])∧Below W.heap.size W w':=by
 have h:=uI eP W;rw [show (if Sk.dM eP=0 then Sk.start eP else Sk.zero)=kM by kernel_rfl,show Sk.dM eP=0 by kernel_rfl] at h;exact h
theorem OT (W:World):Calls Tryz.prog 22 #[lX kR] W fun e w'=>e= .returned (.tuple #[jE tX,.int .i64 0])∧Below W.heap.size W w':=by
 have h:=uI kR W;rw [show (if Sk.dM kR=0 then Sk.start kR else Sk.zero)=tX by kernel_rfl,show Sk.dM kR=0 by kernel_rfl] at h;exact h
theorem Uo (W:World):Calls Tryz.prog 37 #[lX eP,jE kM] W fun e w'=>e= .returned (.tuple #[.int .i64 35,.int .i64 0])∧Below W.heap.size W w':=by
 have h:=BR eP kM W;rw [show (if fst [Sk.dh eP kM,jg (decide (eP.kind≠Sk.aK)) 13]=0 then Sk.left kM else 0)=35 by kernel_rfl,show fst [Sk.dh eP kM,jg (decide (eP.kind≠Sk.aK)) 13]=0 by kernel_rfl] at h;exact h
theorem Ur (W:World):Calls Tryz.prog 37 #[lX eP,jE jR] W fun e w'=>e= .returned (.tuple #[.int .i64 25,.int .i64 0])∧Below W.heap.size W w':=by
 have h:=BR eP jR W;rw [show (if fst [Sk.dh eP jR,jg (decide (eP.kind≠Sk.aK)) 13]=0 then Sk.left jR else 0)=25 by kernel_rfl,show fst [Sk.dh eP jR,jg (decide (eP.kind≠Sk.aK)) 13]=0 by kernel_rfl] at h;exact h
theorem OQ (g:Sk.Game) (es:List Sk.Entry) (S1:Sk.State) (n:Nat) (hck:Sk.iO g es=0) (hf:Sk.final g (Sk.start g) es=S1) (hr:Sk.iE g (Sk.start g) 1 es=[]) (S:Nat→Prop) (l:List En) (A:Option Addr) (c:Nat) (hb:bare l=es) (hn:l.length=n) (W:World) (hp:ni W S A c l):
 Calls Tryz.prog 25 #[lX g,.slice A n c] W fun e w'=>(∃ A2 c2,e= .returned (.tuple #[jE S1,.slice A2 0 c2,.int .i64 0]))∧Below W.heap.size W w':=by
 subst hn;refine (xY S g l A c W hp).mono ?_
 rintro e w' ⟨A2,c2,rfl,_,hbw⟩
 have h1:YU g l=S1:=by unfold YU;rw [hb,if_pos hck,hf]
 have h2:VG g l=[]:=by unfold VG;rw [hb,if_pos hck,hr]
 exact ⟨⟨A2,c2,by rw [h1,h2,hb,hck];rfl⟩,hbw⟩
def ali (p:Int):Int:=fst [0,jg (Sk.out p 0 1) 3]
theorem Wh (p:Int) (v:Int) (hE:ali p=0) (hv:Sk.breaks eP p l9=[v]) (S:Nat→Prop) (l:List En) (A:Option Addr) (c:Nat) (hl:uQ l) (W:World) (hp:ni W S A c l):
 Calls Tryz.prog 26 #[lX eP,.slice A 6 c,.int .i64 p] W fun e w'=>∃ A2 c2,e= .returned (.tuple #[.slice A2 1 c2,.int .i64 0])∧nI w' (fun _=>True) A2 c2 [v]∧Below W.heap.size W w':=by
 have h0:=xW S eP l A c p W hp;rw [hl.len] at h0;refine h0.mono ?_
 rintro e w' ⟨A2,c2,rfl,hr,hbw⟩
 have h1:V6 eP l p=0:=by unfold V6;rw [hl.bare,Ep.2];exact hE
 have h2:V7 eP l p=[v]:=by unfold V7;rw [if_pos h1,hl.bare,hv]
 rw [h2] at hr;exact ⟨A2,c2,by rw [h1,h2];rfl,hr.more (fun _ _ _=>trivial),hbw⟩
theorem ZW (S S':Nat→Prop) (l:List En) (A B:Option Addr) (c d:Nat) (hl:bare l=l9.take 2) (W:World) (hp:ni W S A c l) (hq:RdQ W S' B d [(1,0),(7,0)]):
 Calls Tryz.prog 34 #[lX eP,.slice A 2 c,.slice B 2 d] W fun e w'=>e= .returned (.tuple #[.int .i64 2,.int .i64 0])∧Below W.heap.size W w':=by
 have hn:l.length=2:=by rw [← kQ,hl];rfl
 have h:=zD S S' eP l [(1,0),(7,0)] A B c d W hp hq
 have hE:TS eP l [(1,0),(7,0)]=0:=by unfold TS;rw [hl,hn];kernel_rfl
 have hV:Xo eP l [(1,0),(7,0)]=2:=by unfold Xo;rw [if_pos hE,hl];kernel_rfl
 rw [hE,hV,hn] at h;exact h
theorem Xv (W:World):Calls Tryz.prog 38 #[lX eP,jE xk,.int .i64 1] W fun e w'=>e= .returned (.tuple #[.int .i64 4,.int .i64 0])∧Below W.heap.size W w':=by
 have h:=Fh eP xk 1 W;rw [show Zz eP xk 1=4 by kernel_rfl,show Qj eP xk 1=0 by kernel_rfl] at h;exact h
theorem DI (g:Sk.Game) (s:Sk.State) (y:Sk.Entry) (v:Sk.dI) (hE:Jp g s y=0) (hv:Sk.judge g s y=v) (S:Nat→Prop) (e:En) (he:e.x=y) (W:World) (hp:iL W S e):
 Calls Tryz.prog 43 #[lX g,jE s,rU e] W fun r w'=>r= .returned (.tuple #[FD v,.int .i64 0])∧Below W.heap.size W w':=by
 have h:=zF S g s e W hp;rw [show Vl g s e.x=v by unfold Vl;rw [he,if_pos hE,hv],show Jp g s e.x=0 by rw [he];exact hE] at h;exact h
theorem ny:Jp eP jy ⟨Sk.cO,Sk.bU,[Sk.jJ],[],0⟩=0∧Sk.judge eP jy ⟨Sk.cO,Sk.bU,[Sk.jJ],[],0⟩=⟨0,2,4,false⟩:=⟨by kernel_rfl,by kernel_rfl⟩
theorem KD:Jp kR tX zU=0∧Sk.judge kR tX zU=⟨8,0,0,true⟩:=⟨by kernel_rfl,by kernel_rfl⟩
theorem sD (n:Nat) (h:n<10):Lib.itoa (n:Int)=[(48+n).toUInt8]:=by
 unfold Lib.itoa
 rw [if_neg (by omega),Int.toNat_natCast,Lib.decDigits,dif_pos h]
theorem Ar:Qh eP jy=[56,58,48,32,102,105,110,97,108,32,50]∧Qh eP jR=[56,58,56,32,102,105,110,97,108,32,51]∧Qh kX vJ=[50,58,50,32,100,114,97,119,110]:=by
 have d0:=sD 0 (by omega);have d2:=sD 2 (by omega);have d3:=sD 3 (by omega);have d8:=sD 8 (by omega);have h2:Lib.itoa jy.s0=[56]∧Lib.itoa jy.s1=[48]∧Lib.itoa jy.colour=[50]:=⟨d8,d0,d2⟩;have h6:Lib.itoa jR.s0=[56]∧Lib.itoa jR.s1=[56]∧Lib.itoa jR.colour=[51]:=⟨d8,d8,d3⟩;have h4:Lib.itoa vJ.s0=[50]∧Lib.itoa vJ.s1=[50]:=⟨d2,d2⟩;refine ⟨?_,?_,?_⟩
 · unfold Qh Jz ou
   rw [if_pos (by kernel_rfl),if_neg (by decide),if_neg (by decide),if_neg (by decide),if_pos (show jy.phase=Sk.bH from rfl),h2.1,h2.2.1,h2.2.2]
   rfl
 · unfold Qh Jz ou
   rw [if_pos (by kernel_rfl),if_neg (by decide),if_neg (by decide),if_neg (by decide),if_pos (show jR.phase=Sk.bH from rfl),h6.1,h6.2.1,h6.2.2]
   rfl
 · unfold Qh Jz ou
   rw [if_pos (by kernel_rfl),if_pos (show vJ.ay=2 from rfl),h4.1,h4.2]
   rfl
theorem Us (W:World) (hg:Glob W):Calls Tryz.prog 39 #[lX eP,jE jy] W fun e w'=>e= .returned (.tuple #[.string ⟨#[56,58,48,32,102,105,110,97,108,32,50]⟩,.int .i64 0])∧Below W.heap.size W w':=by
 have h:=wM eP jy W hg;rw [Ar.1,show Sk.dh eP jy=0 by kernel_rfl] at h;exact h
theorem Ut (W:World) (hg:Glob W):Calls Tryz.prog 39 #[lX eP,jE jR] W fun e w'=>e= .returned (.tuple #[.string ⟨#[56,58,56,32,102,105,110,97,108,32,51]⟩,.int .i64 0])∧Below W.heap.size W w':=by
 have h:=wM eP jR W hg;rw [Ar.2.1,show Sk.dh eP jR=0 by kernel_rfl] at h;exact h
theorem Uu (W:World) (hg:Glob W):Calls Tryz.prog 39 #[lX kX,jE vJ] W fun e w'=>e= .returned (.tuple #[.string ⟨#[50,58,50,32,100,114,97,119,110]⟩,.int .i64 0])∧Below W.heap.size W w':=by
 have h:=wM kX vJ W hg;rw [Ar.2.2,show Sk.dh kX vJ=0 by kernel_rfl] at h;exact h
end Go.Proofs.YtjbbfmofpjflmaaGreatDoor
