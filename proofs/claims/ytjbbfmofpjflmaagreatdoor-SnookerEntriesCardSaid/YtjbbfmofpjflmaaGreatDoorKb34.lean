/- Parts of a proof. -/
import Derived.Test.YtjbbfmofpjflmaaGreatDoorKb19
import Derived.Test.YtjbbfmofpjflmaaGreatDoorKb29
import Derived.Test.YtjbbfmofpjflmaaGreatDoorKb33
set_option maxHeartbeats 8000000
set_option maxRecDepth 100000
set_option linter.unusedVariables false
set_option linter.unusedSimpArgs false
namespace Go.Proofs.YtjbbfmofpjflmaaGreatDoor
open Go.RowKit
abbrev Nm.nT:=Nm.Fr × Nm.Fr × Nm.Fr
@[reducible] def YI (x:Nm.nT):Value:= .agg #[.int .i64 x.1.n,.slice none 0 0,.int .i64 x.1.d,.slice none 0 0,.int .i64 x.2.1.n,.slice none 0 0,.int .i64 x.2.1.d,.slice none 0 0,.int .i64 x.2.2.n,.slice none 0 0,.int .i64 x.2.2.d,.slice none 0 0]
def aY (x:Nm.nT):List Value:=[.int .i64 x.1.n,.slice none 0 0,.int .i64 x.1.d,.slice none 0 0,.int .i64 x.2.1.n,.slice none 0 0,.int .i64 x.2.1.d,.slice none 0 0,.int .i64 x.2.2.n,.slice none 0 0,.int .i64 x.2.2.d,.slice none 0 0]
theorem AY (x:Nm.nT):∀ v∈aY x,v.oneCell'=true:=by simp [aY,Value.oneCell']
theorem eF:(Tryz.prog.info? 173).map (·.size)=some 12:=by kernel_rfl
def Nm.Rj (x y:Nm.nT):Nm.Fr:=Nm.sub x.1 y.1
def Nm.YH (x y:Nm.nT):Nm.Fr:=Nm.mul (Nm.Rj x y) (Nm.Rj x y)
def Nm.Rk (x:Nm.nT):Nm.Fr:=Nm.mul x.2.1 x.2.1
def Nm.Np (x:Nm.nT):Nm.Fr:=Nm.mul (Nm.Rk x) x.2.2
def Nm.MK (x y:Nm.nT):Nm.Fr:=Nm.add (Nm.YH x y) (Nm.Np x)
def Nm.X8 (x y:Nm.nT):Nm.Fr:=Nm.sub (Nm.MK x y) (Nm.Np y)
def Nm.YJ (x y:Nm.nT):Nm.Fr:=Nm.mul ⟨2,1⟩ (Nm.Rj x y)
def Nm.X9 (x y:Nm.nT):Nm.Fr:=Nm.mul (Nm.YJ x y) x.2.1
def Nm.Nq (x y:Nm.nT):Int:=Nm.pY (Nm.Rj x y) x.2.1 x.2.2
def Nm.SA (y:Nm.nT):Int:=Nm.og y.2.1.n*Nm.og y.2.2.n
def Nm.EK (x y:Nm.nT):Int:=if Nm.Nq x y≠Nm.SA y then max (-1) (min 1 (Nm.Nq x y - Nm.SA y)) else Nm.Nq x y*Nm.pY (Nm.X8 x y) (Nm.X9 x y) x.2.2
def Nm.Rl (x:Nm.nT):Bool:=Nm.ok x.1 && Nm.ok x.2.1 && Nm.ok x.2.2
def Nm.UM (x y:Nm.nT):Bool:=Nm.Rl x && Nm.Rl y && Nm.ok (Nm.Rj x y) && Nm.UN (Nm.Rj x y) x.2.1 x.2.2 && (decide (Nm.Nq x y≠Nm.SA y) ||
 (Nm.ok (Nm.YH x y) && Nm.ok (Nm.Rk x) && Nm.ok (Nm.Np x) && Nm.ok (Nm.MK x y) && Nm.ok (Nm.Rk y) && Nm.ok (Nm.Np y) && Nm.ok (Nm.YJ x y) && Nm.UN (Nm.X8 x y) (Nm.X9 x y) x.2.2))
theorem GL (x y:Nm.nT) (w:World) (h:Nm.UM x y=true):Calls Tryz.prog 105 #[YI x,YI y] w fun e w'=>e= .returned (.int .i64 (Nm.EK x y))∧Below w.heap.size w w':=by
 unfold Nm.UM Nm.Rl at h
 simp only [Bool.and_eq_true,Bool.or_eq_true,decide_eq_true_eq] at h
 obtain ⟨⟨⟨⟨⟨⟨x1,x2⟩,x3⟩,⟨y1,y2⟩,y3⟩,hP⟩,hU⟩,h⟩:=h;have HU:=fun W=>uY (Nm.Rj x y) x.2.1 x.2.2 W hU;have HP:=fun W=>qK x.1 y.1 W x1 y1;have c1:=zk (Nm.Rj x y) x.2.1 x.2.2;have c2:=mW (lX y.2.1.n) (lX y.2.2.n);have hv:Nm.SA y=Nm.og y.2.1.n*Nm.og y.2.2.n:=rfl;have hu:Nm.Nq x y=Nm.pY (Nm.Rj x y) x.2.1 x.2.2:=rfl;have w2:=wrap_one c2;rw [← hu] at c1;rw [← hv] at c2 w2
 simp only [← hu] at HU
 rw [show Nm.sub x.1 y.1=Nm.Rj x y from rfl] at HP;clear hu hv;have T:=fun (hne:Nm.Nq x y=Nm.SA y)=>h.resolve_left (by simpa using hne);have Ho:=fun (hne:Nm.Nq x y≠Nm.SA y)=>(show Nm.EK x y=max (-1) (min 1 (Nm.Nq x y - Nm.SA y)) by unfold Nm.EK;rw [if_pos hne]);have HS2:=fun (hne:Nm.Nq x y=Nm.SA y)=>(show Nm.EK x y=Nm.Nq x y*Nm.pY (Nm.X8 x y) (Nm.X9 x y) x.2.2 by unfold Nm.EK;rw [if_neg (by simpa using hne)]);have HT:=hide T;have Ho:=hide Ho;have HS2:=hide HS2;clear T h;obtain ⟨P,hPP⟩:∃ q,Nm.Rj x y=q:=⟨_,rfl⟩;obtain ⟨U,hUU⟩:∃ q,Nm.Nq x y=q:=⟨_,rfl⟩;obtain ⟨V,hVV⟩:∃ q,Nm.SA y=q:=⟨_,rfl⟩
 simp only [hPP] at HP HU hP
 simp only [hUU] at HU c1
 have WZ:Nm.og y.2.1.n*Nm.og y.2.2.n=V:=hVV
 simp only [hVV] at c2 w2
 have EV:=hide hVV;have EU:=hide hUU;have EP:=hide hPP;have HP:=hide HP;have HU:=hide HU;clear hPP hUU hVV hU
 go_enter Tryz.func105,Tryz.ntmps105
 go_upto_region 0 with (fail)
 go_cut [2,3] (fun v2 v3 wx=>v2=ptr (w.heap.size)∧v3=ptr (w.heap.size+1)∧Bx w wx [(w.heap.size,aY x,173),(w.heap.size+1,aY y,173)])
 case first=>
  go_wp2;go_meet;exact ⟨rfl,rfl,Bx.of (((aJ.nil w).new (by simp) (aY x) 173).new (by simp) (aY y) 173) _ rfl⟩
 case rest=>
  obtain ⟨rfl,rfl,hL⟩:=hcut
  go_upto_region 1 with (fail)
  have rx:=hL.rng 0 rfl 0 (aj x.1) rfl;have ry:=hL.rng 1 rfl 0 (aj y.1) rfl
  go_cut [5] (fun v5 wx=>∃ B5,v5=ptr B5∧Bx w wx [(B5,aj (P),164),(w.heap.size,aY x,173),(w.heap.size+1,aY y,173)])
  case first=>
   go_wp2_with (first | ((with_reducible (refine ah 164 (.tmp 9) ?lx ?_));(case lx=>rfl);refine aK rx Tryz.underlying164 rfl aZ rfl (.tmp 9) rfl rfl ?_) | ((with_reducible (refine ah 164 (.tmp 11) ?lx ?_));(case lx=>rfl);refine aK ry Tryz.underlying164 rfl aZ rfl (.tmp 11) rfl rfl ?_) | (go_at_call 157;refine (HP.out _).mono ?_;rintro e w1 ⟨rfl,hb1⟩;have hL:=hL.call hb1) | ((with_reducible (refine aH 164 (.tmp 5) (.tmp 13) ?lx ?_));(case lx=>rfl);refine aC ((hL.add (aj ⟨0,0⟩) 164).head) (aj (P)) rfl aZ (fK _) rfl (.tmp 5) (.tmp 13) rfl rfl rfl ?_))
   go_meet;exact ⟨_,rfl,(hL.add (aj ⟨0,0⟩) 164).put (aj (P)) rfl⟩
  case rest=>
   obtain ⟨B5,rfl,hL⟩:=hcut;clear rx ry
   go_upto_region 2 with (fail)
   go_cut [6,7] from 9 to 27 (fun v6 v7 wx=>v6= .int .i64 U∧v7= .int .i64 V∧Bx w wx [(B5,aj (P),164),(w.heap.size,aY x,173),(w.heap.size+1,aY y,173)])
   case first=>
    have W2:=hide (show IntKind.i64.wrap (Nm.og y.2.1.n*Nm.og y.2.2.n)=V by rw [WZ];exact w2);clear WZ w2
    go_upto_region 2 with (fail)
    have zC:∀ W:World,Bx w W [(B5,aj (P),164),(w.heap.size,aY x,173),(w.heap.size+1,aY y,173)]→W.rangeAt (B5) 0 (aj (P)):=fun W h=>h.rng 0 rfl 0 _ rfl;have Ua:∀ W:World,Bx w W [(B5,aj (P),164),(w.heap.size,aY x,173),(w.heap.size+1,aY y,173)]→W.rangeAt (w.heap.size) 4 (aj (x.2.1)):=fun W h=>h.rng 1 rfl 4 _ rfl;have Ub:∀ W:World,Bx w W [(B5,aj (P),164),(w.heap.size,aY x,173),(w.heap.size+1,aY y,173)]→W.rangeAt (w.heap.size) 8 (aj (x.2.2)):=fun W h=>h.rng 1 rfl 8 _ rfl;have Uc:∀ W:World,Bx w W [(B5,aj (P),164),(w.heap.size,aY x,173),(w.heap.size+1,aY y,173)]→W.rangeAt (w.heap.size+1) 4 (aj (y.2.1)):=fun W h=>h.rng 2 rfl 4 _ rfl;have Ud:∀ W:World,Bx w W [(B5,aj (P),164),(w.heap.size,aY x,173),(w.heap.size+1,aY y,173)]→W.rangeAt (w.heap.size+1) 8 (aj (y.2.2)):=fun W h=>h.rng 2 rfl 8 _ rfl;have hL:=hL.drew;refine wp_region_held_drew (S:=(fun w':World=>Bx w w' [(B5,aj (P),164),(w.heap.size,aY x,173),(w.heap.size+1,aY y,173)])) (by kernel_rfl) ?bW (fun hHeld=>?_)
    case bW=>exact hL
    refine bJ 0 zC Tryz.underlying164 ?_;refine aF 1 ?_;refine bJ 2 Ua Tryz.underlying164 ?_;refine aF 3 ?_;refine bJ 4 Ub Tryz.underlying164 ?_;refine aF 6 ?_;refine bJ 7 Uc Tryz.underlying164 ?_;refine aF 9 ?_;refine bJ 10 Ud Tryz.underlying164 ?_;refine aG 5 fun K hK=>?_;go_simp
    (go_at_call 103;refine (HU.out _).mono ?_;rintro e w2a ⟨rfl,OE⟩)
    have hL:=hL.call OE;refine ay hK (hL) fun hHeld=>?_;clear hK K;refine aG 8 fun K hK=>?_;go_simp
    (go_at_call 147;refine (jY y.2.1 _).mono ?_;rintro e w2b ⟨rfl,OG⟩)
    have hL:=hL.call OG;refine ay hK (hL) fun hHeld=>?_;clear hK K;refine aG 11 fun K hK=>?_;go_simp
    (go_at_call 147;refine (jY y.2.2 _).mono ?_;rintro e w2c ⟨rfl,Xa⟩)
    have hL:=hL.call Xa;refine ay hK (hL) fun hHeld=>?_;clear hK K;refine aF 12 ?_;refine aF 13 ?_;refine aF 14 ?_;refine wpAnyH_done (by kernel_rfl) ?_ _;go_wp2;go_meet;exact ⟨rfl,congrArg (Value.int .i64) W2.out,hL⟩
   case rest=>
    obtain ⟨rfl,rfl,hL⟩:=hcut;clear WZ w2
    by_cases huv:U=V
    rotate_left
    · have ako:(U != V)=true:=by simp [huv]
      have HS:=hide (Ho.out (by rw [EU.out,EV.out];exact huv))
      have wd:IntKind.i64.wrap (U - V)=U - V:=by rw [IntKind.wrap_i64];omega
      go_wp2
      all_goals
       go_ret;exact ⟨bf (by rw [HS.out,EU.out,EV.out];first | done | omega),hL.bw⟩
    · have ako:(U != V)=false:=by simp [huv]
      have hq:Nm.Nq x y=Nm.SA y:=by rw [EU.out,EV.out];exact huv
      have HS:=HS2.out hq;have hT:=HT.out hq;rw [EU.out] at HS;obtain ⟨⟨⟨⟨⟨⟨⟨oA,oX⟩,oB⟩,oAB⟩,oY⟩,oC⟩,oW⟩,oS⟩:=hT;have M1:=fun W=>iG P P W hP hP;have M2:=fun W=>iG x.2.1 x.2.1 W x2 x2;have M3:=fun W=>iG (Nm.Rk x) x.2.2 W oX x3;have M4:=fun W=>zV (Nm.YH x y) (Nm.Np x) W oA oB;have M5:=fun W=>iG y.2.1 y.2.1 W y2 y2;have M6:=fun W=>iG (Nm.Rk y) y.2.2 W oY y3;have M7:=fun W=>qK (Nm.MK x y) (Nm.Np y) W oAB oC;have M8:=fun W=>iG ⟨2,1⟩ P W rfl hP;have M9:=fun W=>iG (Nm.YJ x y) x.2.1 W oW x2;have HS2:=fun W=>uY (Nm.X8 x y) (Nm.X9 x y) x.2.2 W oS;have c3:=zk (Nm.X8 x y) (Nm.X9 x y) x.2.2;have wd:=wrap_one (mW c1 c3)
      have eA:Nm.mul P P=Nm.YH x y:=by rw [← EP.out];rfl
      have eX:Nm.mul x.2.1 x.2.1=Nm.Rk x:=rfl;have eB:Nm.mul (Nm.Rk x) x.2.2=Nm.Np x:=rfl;have eAB:Nm.add (Nm.YH x y) (Nm.Np x)=Nm.MK x y:=rfl;have eY:Nm.mul y.2.1 y.2.1=Nm.Rk y:=rfl;have eC:Nm.mul (Nm.Rk y) y.2.2=Nm.Np y:=rfl;have eR:Nm.sub (Nm.MK x y) (Nm.Np y)=Nm.X8 x y:=rfl
      have eW:Nm.mul ⟨2,1⟩ P=Nm.YJ x y:=by rw [← EP.out];rfl
      have eT:Nm.mul (Nm.YJ x y) x.2.1=Nm.X9 x y:=rfl
      simp only [eA,eX,eB,eAB,eY,eC,eR,eW,eT] at M1 M2 M3 M4 M5 M6 M7 M8 M9
      clear eA eX eB eAB eY eC eR eW eT oA oX oB oAB oY oC oW oS hq huv c3;obtain ⟨A,hA⟩:∃ q,Nm.YH x y=q:=⟨_,rfl⟩
      simp only [hA] at M1 M4
      obtain ⟨Xq,hXq⟩:∃ q,Nm.Rk x=q:=⟨_,rfl⟩
      simp only [hXq] at M2 M3
      obtain ⟨Bq,hBq⟩:∃ q,Nm.Np x=q:=⟨_,rfl⟩
      simp only [hBq] at M3 M4
      obtain ⟨AB,hAB⟩:∃ q,Nm.MK x y=q:=⟨_,rfl⟩
      simp only [hAB] at M4 M7
      obtain ⟨Yq,hYq⟩:∃ q,Nm.Rk y=q:=⟨_,rfl⟩
      simp only [hYq] at M5 M6
      obtain ⟨Cq,hCq⟩:∃ q,Nm.Np y=q:=⟨_,rfl⟩
      simp only [hCq] at M6 M7
      obtain ⟨Rv,hRv⟩:∃ q,Nm.X8 x y=q:=⟨_,rfl⟩
      simp only [hRv] at M7 HS2 HS wd
      obtain ⟨Wv,hWv⟩:∃ q,Nm.YJ x y=q:=⟨_,rfl⟩
      simp only [hWv] at M8 M9
      obtain ⟨Tv,hTv⟩:∃ q,Nm.X9 x y=q:=⟨_,rfl⟩
      simp only [hTv] at M9 HS2 HS wd
      obtain ⟨Sv,hSv⟩:∃ q,Nm.pY Rv Tv x.2.2=q:=⟨_,rfl⟩
      simp only [hSv] at HS2 HS wd
      clear hA hXq hBq hAB hYq hCq hRv hWv hTv hSv;have M1:=hide M1;have M2:=hide M2;have M3:=hide M3;have M4:=hide M4;have M5:=hide M5;have M6:=hide M6;have M7:=hide M7;have M8:=hide M8;have M9:=hide M9;have HS2:=hide HS2;have HS:=hide HS
      go_upto_region 5 with (fail)
      go_cut [8] from 35 to 56 (fun v8 wx=>∃ B8,v8=ptr B8∧Bx w wx [(B8,aj (Rv),164),(B5,aj (P),164),(w.heap.size,aY x,173),(w.heap.size+1,aY y,173)])
      case first=>
       have Ku:∀ W:World,Bx w W [(B5,aj (P),164),(w.heap.size,aY x,173),(w.heap.size+1,aY y,173)]→W.rangeAt (B5) 0 (aj (P)):=fun W h=>h.rng 0 rfl 0 _ rfl;have Kv:∀ W:World,Bx w W [(B5,aj (P),164),(w.heap.size,aY x,173),(w.heap.size+1,aY y,173)]→W.rangeAt (w.heap.size) 4 (aj (x.2.1)):=fun W h=>h.rng 1 rfl 4 _ rfl;have Ue:∀ W:World,Bx w W [(B5,aj (P),164),(w.heap.size,aY x,173),(w.heap.size+1,aY y,173)]→W.rangeAt (w.heap.size) 8 (aj (x.2.2)):=fun W h=>h.rng 1 rfl 8 _ rfl;have Kw:∀ W:World,Bx w W [(B5,aj (P),164),(w.heap.size,aY x,173),(w.heap.size+1,aY y,173)]→W.rangeAt (w.heap.size+1) 4 (aj (y.2.1)):=fun W h=>h.rng 2 rfl 4 _ rfl;have Uf:∀ W:World,Bx w W [(B5,aj (P),164),(w.heap.size,aY x,173),(w.heap.size+1,aY y,173)]→W.rangeAt (w.heap.size+1) 8 (aj (y.2.2)):=fun W h=>h.rng 2 rfl 8 _ rfl;have hL:=hL.drew;refine wp_region_held_drew (S:=(fun w':World=>Bx w w' [(B5,aj (P),164),(w.heap.size,aY x,173),(w.heap.size+1,aY y,173)])) (by kernel_rfl) ?dI (fun hHeld=>?_)
       case dI=>exact hL
       refine bJ 0 Ku Tryz.underlying164 ?_;refine bJ 1 Ku Tryz.underlying164 ?_;refine aF 3 ?_;refine bJ 4 Kv Tryz.underlying164 ?_;refine aF 5 ?_;refine bJ 6 Kv Tryz.underlying164 ?_;refine aF 8 ?_;refine bJ 9 Ue Tryz.underlying164 ?_;refine aF 12 ?_;refine bJ 13 Kw Tryz.underlying164 ?_;refine aF 14 ?_;refine bJ 15 Kw Tryz.underlying164 ?_;refine aF 17 ?_;refine bJ 18 Uf Tryz.underlying164 ?_;refine iF 2 21 (fun K hK=>?_) fun K hK=>?_
       · go_simp
         (go_at_call 156;refine (M1.out _).mono ?_;rintro e w5a ⟨rfl,Iw⟩)
         have hL:=hL.call Iw;refine ay hK (by first | exact hL | exact hL.tail) fun hHeld=>?_;clear hK K;refine iF 7 21 (fun K hK=>?_) fun K hK=>?_
         · go_simp
           (go_at_call 156;refine (M2.out _).mono ?_;rintro e RJ ⟨rfl,Ae⟩)
           have hL:=hL.call Ae;refine ay hK (by first | exact hL | exact hL.tail) fun hHeld=>?_;clear hK K;refine iF 10 21 (fun K hK=>?_) fun K hK=>?_
           · go_simp
             (go_at_call 156;refine (M3.out _).mono ?_;rintro e VU ⟨rfl,tK⟩)
             have hL:=hL.call tK;refine ay hK (by first | exact hL | exact hL.tail) fun hHeld=>?_;clear hK K;refine iF 11 21 (fun K hK=>?_) fun K hK=>?_
             · go_simp
               (go_at_call 164;refine (M4.out _).mono ?_;rintro e w5d ⟨rfl,Eb⟩)
               have hL:=hL.call Eb;refine ay hK (by first | exact hL | exact hL.tail) fun hHeld=>?_;clear hK K;refine iF 16 21 (fun K hK=>?_) fun K hK=>?_
               · go_simp
                 (go_at_call 156;refine (M5.out _).mono ?_;rintro e w5e ⟨rfl,Af⟩)
                 have hL:=hL.call Af;refine ay hK (by first | exact hL | exact hL.tail) fun hHeld=>?_;clear hK K;refine iF 19 21 (fun K hK=>?_) fun K hK=>?_
                 · go_simp
                   (go_at_call 156;refine (M6.out _).mono ?_;rintro e YL ⟨rfl,xW⟩)
                   have hL:=hL.call xW;refine ay hK (by first | exact hL | exact hL.tail) fun hHeld=>?_;clear hK K;refine iF 20 21 (fun K hK=>?_) fun K hK=>?_
                   · go_simp
                     (go_at_call 157;refine (M7.out _).mono ?_;rintro e Yl ⟨rfl,vW⟩)
                     have hL:=hL.call vW;refine ay hK (by first | exact hL | exact hL.tail) fun hHeld=>?_;clear hK K;refine aG 21 fun K hK=>?_;go_simp;have hL:=hL.add (aj ⟨0,0⟩) 164;refine ay hK (hL.tail) fun hHeld=>?_;clear hK K;refine aG 22 fun K hK=>?_;refine aU hL.head (aj (Rv)) rfl aZ (fK _) (.tmp 8) (.tmp 55) rfl rfl rfl ?_;have hL:=hL.put (aj (Rv)) rfl;refine ay hK (hL.tail) fun hHeld=>?_;clear hK K;refine wpAnyH_done (by kernel_rfl) ?_ _;go_wp2;go_meet;exact ⟨_,rfl,hL⟩
                   · go_simp
                     have hL:=hL.add (aj ⟨0,0⟩) 164;refine ay hK (hL.tail) fun hHeld=>?_;clear hK K;refine aG 20 fun K hK=>?_;go_simp
                     (go_at_call 157;refine (M7.out _).mono ?_;rintro e Yl ⟨rfl,vW⟩)
                     have hL:=hL.call vW;refine ay hK (by first | exact hL | exact hL.tail) fun hHeld=>?_;clear hK K;refine aG 22 fun K hK=>?_;refine aU hL.head (aj (Rv)) rfl aZ (fK _) (.tmp 8) (.tmp 55) rfl rfl rfl ?_;have hL:=hL.put (aj (Rv)) rfl;refine ay hK (hL.tail) fun hHeld=>?_;clear hK K;refine wpAnyH_done (by kernel_rfl) ?_ _;go_wp2;go_meet;exact ⟨_,rfl,hL⟩
                 · go_simp
                   have hL:=hL.add (aj ⟨0,0⟩) 164;refine ay hK (hL.tail) fun hHeld=>?_;clear hK K;refine aG 19 fun K hK=>?_;go_simp
                   (go_at_call 156;refine (M6.out _).mono ?_;rintro e YL ⟨rfl,xW⟩)
                   have hL:=hL.call xW;refine ay hK (by first | exact hL | exact hL.tail) fun hHeld=>?_;clear hK K;refine aG 20 fun K hK=>?_;go_simp
                   (go_at_call 157;refine (M7.out _).mono ?_;rintro e Yl ⟨rfl,vW⟩)
                   have hL:=hL.call vW;refine ay hK (by first | exact hL | exact hL.tail) fun hHeld=>?_;clear hK K;refine aG 22 fun K hK=>?_;refine aU hL.head (aj (Rv)) rfl aZ (fK _) (.tmp 8) (.tmp 55) rfl rfl rfl ?_;have hL:=hL.put (aj (Rv)) rfl;refine ay hK (hL.tail) fun hHeld=>?_;clear hK K;refine wpAnyH_done (by kernel_rfl) ?_ _;go_wp2;go_meet;exact ⟨_,rfl,hL⟩
               · go_simp
                 have hL:=hL.add (aj ⟨0,0⟩) 164;refine ay hK (hL.tail) fun hHeld=>?_;clear hK K;refine aG 16 fun K hK=>?_;go_simp
                 (go_at_call 156;refine (M5.out _).mono ?_;rintro e w5e ⟨rfl,Af⟩)
                 have hL:=hL.call Af;refine ay hK (by first | exact hL | exact hL.tail) fun hHeld=>?_;clear hK K;refine aG 19 fun K hK=>?_;go_simp
                 (go_at_call 156;refine (M6.out _).mono ?_;rintro e YL ⟨rfl,xW⟩)
                 have hL:=hL.call xW;refine ay hK (by first | exact hL | exact hL.tail) fun hHeld=>?_;clear hK K;refine aG 20 fun K hK=>?_;go_simp
                 (go_at_call 157;refine (M7.out _).mono ?_;rintro e Yl ⟨rfl,vW⟩)
                 have hL:=hL.call vW;refine ay hK (by first | exact hL | exact hL.tail) fun hHeld=>?_;clear hK K;refine aG 22 fun K hK=>?_;refine aU hL.head (aj (Rv)) rfl aZ (fK _) (.tmp 8) (.tmp 55) rfl rfl rfl ?_;have hL:=hL.put (aj (Rv)) rfl;refine ay hK (hL.tail) fun hHeld=>?_;clear hK K;refine wpAnyH_done (by kernel_rfl) ?_ _;go_wp2;go_meet;exact ⟨_,rfl,hL⟩
             · go_simp
               have hL:=hL.add (aj ⟨0,0⟩) 164;refine ay hK (hL.tail) fun hHeld=>?_;clear hK K;refine aG 11 fun K hK=>?_;go_simp
               (go_at_call 164;refine (M4.out _).mono ?_;rintro e w5d ⟨rfl,Eb⟩)
               have hL:=hL.call Eb;refine ay hK (by first | exact hL | exact hL.tail) fun hHeld=>?_;clear hK K;refine aG 16 fun K hK=>?_;go_simp
               (go_at_call 156;refine (M5.out _).mono ?_;rintro e w5e ⟨rfl,Af⟩)
               have hL:=hL.call Af;refine ay hK (by first | exact hL | exact hL.tail) fun hHeld=>?_;clear hK K;refine aG 19 fun K hK=>?_;go_simp
               (go_at_call 156;refine (M6.out _).mono ?_;rintro e YL ⟨rfl,xW⟩)
               have hL:=hL.call xW;refine ay hK (by first | exact hL | exact hL.tail) fun hHeld=>?_;clear hK K;refine aG 20 fun K hK=>?_;go_simp
               (go_at_call 157;refine (M7.out _).mono ?_;rintro e Yl ⟨rfl,vW⟩)
               have hL:=hL.call vW;refine ay hK (by first | exact hL | exact hL.tail) fun hHeld=>?_;clear hK K;refine aG 22 fun K hK=>?_;refine aU hL.head (aj (Rv)) rfl aZ (fK _) (.tmp 8) (.tmp 55) rfl rfl rfl ?_;have hL:=hL.put (aj (Rv)) rfl;refine ay hK (hL.tail) fun hHeld=>?_;clear hK K;refine wpAnyH_done (by kernel_rfl) ?_ _;go_wp2;go_meet;exact ⟨_,rfl,hL⟩
           · go_simp
             have hL:=hL.add (aj ⟨0,0⟩) 164;refine ay hK (hL.tail) fun hHeld=>?_;clear hK K;refine aG 10 fun K hK=>?_;go_simp
             (go_at_call 156;refine (M3.out _).mono ?_;rintro e VU ⟨rfl,tK⟩)
             have hL:=hL.call tK;refine ay hK (by first | exact hL | exact hL.tail) fun hHeld=>?_;clear hK K;refine aG 11 fun K hK=>?_;go_simp
             (go_at_call 164;refine (M4.out _).mono ?_;rintro e w5d ⟨rfl,Eb⟩)
             have hL:=hL.call Eb;refine ay hK (by first | exact hL | exact hL.tail) fun hHeld=>?_;clear hK K;refine aG 16 fun K hK=>?_;go_simp
             (go_at_call 156;refine (M5.out _).mono ?_;rintro e w5e ⟨rfl,Af⟩)
             have hL:=hL.call Af;refine ay hK (by first | exact hL | exact hL.tail) fun hHeld=>?_;clear hK K;refine aG 19 fun K hK=>?_;go_simp
             (go_at_call 156;refine (M6.out _).mono ?_;rintro e YL ⟨rfl,xW⟩)
             have hL:=hL.call xW;refine ay hK (by first | exact hL | exact hL.tail) fun hHeld=>?_;clear hK K;refine aG 20 fun K hK=>?_;go_simp
             (go_at_call 157;refine (M7.out _).mono ?_;rintro e Yl ⟨rfl,vW⟩)
             have hL:=hL.call vW;refine ay hK (by first | exact hL | exact hL.tail) fun hHeld=>?_;clear hK K;refine aG 22 fun K hK=>?_;refine aU hL.head (aj (Rv)) rfl aZ (fK _) (.tmp 8) (.tmp 55) rfl rfl rfl ?_;have hL:=hL.put (aj (Rv)) rfl;refine ay hK (hL.tail) fun hHeld=>?_;clear hK K;refine wpAnyH_done (by kernel_rfl) ?_ _;go_wp2;go_meet;exact ⟨_,rfl,hL⟩
         · go_simp
           have hL:=hL.add (aj ⟨0,0⟩) 164;refine ay hK (hL.tail) fun hHeld=>?_;clear hK K;refine aG 7 fun K hK=>?_;go_simp
           (go_at_call 156;refine (M2.out _).mono ?_;rintro e RJ ⟨rfl,Ae⟩)
           have hL:=hL.call Ae;refine ay hK (by first | exact hL | exact hL.tail) fun hHeld=>?_;clear hK K;refine aG 10 fun K hK=>?_;go_simp
           (go_at_call 156;refine (M3.out _).mono ?_;rintro e VU ⟨rfl,tK⟩)
           have hL:=hL.call tK;refine ay hK (by first | exact hL | exact hL.tail) fun hHeld=>?_;clear hK K;refine aG 11 fun K hK=>?_;go_simp
           (go_at_call 164;refine (M4.out _).mono ?_;rintro e w5d ⟨rfl,Eb⟩)
           have hL:=hL.call Eb;refine ay hK (by first | exact hL | exact hL.tail) fun hHeld=>?_;clear hK K;refine aG 16 fun K hK=>?_;go_simp
           (go_at_call 156;refine (M5.out _).mono ?_;rintro e w5e ⟨rfl,Af⟩)
           have hL:=hL.call Af;refine ay hK (by first | exact hL | exact hL.tail) fun hHeld=>?_;clear hK K;refine aG 19 fun K hK=>?_;go_simp
           (go_at_call 156;refine (M6.out _).mono ?_;rintro e YL ⟨rfl,xW⟩)
           have hL:=hL.call xW;refine ay hK (by first | exact hL | exact hL.tail) fun hHeld=>?_;clear hK K;refine aG 20 fun K hK=>?_;go_simp
           (go_at_call 157;refine (M7.out _).mono ?_;rintro e Yl ⟨rfl,vW⟩)
           have hL:=hL.call vW;refine ay hK (by first | exact hL | exact hL.tail) fun hHeld=>?_;clear hK K;refine aG 22 fun K hK=>?_;refine aU hL.head (aj (Rv)) rfl aZ (fK _) (.tmp 8) (.tmp 55) rfl rfl rfl ?_;have hL:=hL.put (aj (Rv)) rfl;refine ay hK (hL.tail) fun hHeld=>?_;clear hK K;refine wpAnyH_done (by kernel_rfl) ?_ _;go_wp2;go_meet;exact ⟨_,rfl,hL⟩
       · go_simp
         have hL:=hL.add (aj ⟨0,0⟩) 164;refine ay hK (hL.tail) fun hHeld=>?_;clear hK K;refine aG 2 fun K hK=>?_;go_simp
         (go_at_call 156;refine (M1.out _).mono ?_;rintro e w5a ⟨rfl,Iw⟩)
         have hL:=hL.call Iw;refine ay hK (by first | exact hL | exact hL.tail) fun hHeld=>?_;clear hK K;refine aG 7 fun K hK=>?_;go_simp
         (go_at_call 156;refine (M2.out _).mono ?_;rintro e RJ ⟨rfl,Ae⟩)
         have hL:=hL.call Ae;refine ay hK (by first | exact hL | exact hL.tail) fun hHeld=>?_;clear hK K;refine aG 10 fun K hK=>?_;go_simp
         (go_at_call 156;refine (M3.out _).mono ?_;rintro e VU ⟨rfl,tK⟩)
         have hL:=hL.call tK;refine ay hK (by first | exact hL | exact hL.tail) fun hHeld=>?_;clear hK K;refine aG 11 fun K hK=>?_;go_simp
         (go_at_call 164;refine (M4.out _).mono ?_;rintro e w5d ⟨rfl,Eb⟩)
         have hL:=hL.call Eb;refine ay hK (by first | exact hL | exact hL.tail) fun hHeld=>?_;clear hK K;refine aG 16 fun K hK=>?_;go_simp
         (go_at_call 156;refine (M5.out _).mono ?_;rintro e w5e ⟨rfl,Af⟩)
         have hL:=hL.call Af;refine ay hK (by first | exact hL | exact hL.tail) fun hHeld=>?_;clear hK K;refine aG 19 fun K hK=>?_;go_simp
         (go_at_call 156;refine (M6.out _).mono ?_;rintro e YL ⟨rfl,xW⟩)
         have hL:=hL.call xW;refine ay hK (by first | exact hL | exact hL.tail) fun hHeld=>?_;clear hK K;refine aG 20 fun K hK=>?_;go_simp
         (go_at_call 157;refine (M7.out _).mono ?_;rintro e Yl ⟨rfl,vW⟩)
         have hL:=hL.call vW;refine ay hK (by first | exact hL | exact hL.tail) fun hHeld=>?_;clear hK K;refine aG 22 fun K hK=>?_;refine aU hL.head (aj (Rv)) rfl aZ (fK _) (.tmp 8) (.tmp 55) rfl rfl rfl ?_;have hL:=hL.put (aj (Rv)) rfl;refine ay hK (hL.tail) fun hHeld=>?_;clear hK K;refine wpAnyH_done (by kernel_rfl) ?_ _;go_wp2;go_meet;exact ⟨_,rfl,hL⟩
      case rest=>
       obtain ⟨B8,rfl,hL⟩:=hcut
       go_upto_region 6 with (fail)
       have Ug:∀ W:World,Bx w W [(B8,aj (Rv),164),(B5,aj (P),164),(w.heap.size,aY x,173),(w.heap.size+1,aY y,173)]→W.rangeAt (B8) 0 (aj (Rv)):=fun W h=>h.rng 0 rfl 0 _ rfl;have Uh:∀ W:World,Bx w W [(B8,aj (Rv),164),(B5,aj (P),164),(w.heap.size,aY x,173),(w.heap.size+1,aY y,173)]→W.rangeAt (B5) 0 (aj (P)):=fun W h=>h.rng 1 rfl 0 _ rfl;have Ui:∀ W:World,Bx w W [(B8,aj (Rv),164),(B5,aj (P),164),(w.heap.size,aY x,173),(w.heap.size+1,aY y,173)]→W.rangeAt (w.heap.size) 4 (aj (x.2.1)):=fun W h=>h.rng 2 rfl 4 _ rfl;have Uj:∀ W:World,Bx w W [(B8,aj (Rv),164),(B5,aj (P),164),(w.heap.size,aY x,173),(w.heap.size+1,aY y,173)]→W.rangeAt (w.heap.size) 8 (aj (x.2.2)):=fun W h=>h.rng 2 rfl 8 _ rfl;have hL:=hL.drew;refine wp_region_held_drew (S:=(fun w':World=>Bx w w' [(B8,aj (Rv),164),(B5,aj (P),164),(w.heap.size,aY x,173),(w.heap.size+1,aY y,173)])) (by kernel_rfl) ?dS (fun hHeld=>?_)
       case dS=>exact hL
       refine aF 0 ?_;refine bJ 1 Ug Tryz.underlying164 ?_;refine bJ 3 Uh Tryz.underlying164 ?_;refine aF 5 ?_;refine bJ 6 Ui Tryz.underlying164 ?_;refine aF 8 ?_;refine bJ 9 Uj Tryz.underlying164 ?_;refine aG 2 fun K hK=>?_;go_simp
       (go_at_call 159;refine (f_any 2 _).mono ?_;rintro e w6a ⟨rfl,Ec⟩)
       have hL:=hL.call Ec;refine ay hK (hL) fun hHeld=>?_;clear hK K;refine aG 4 fun K hK=>?_;go_simp
       (go_at_call 156;refine (M8.out _).mono ?_;rintro e w6b ⟨rfl,Ed⟩)
       have hL:=hL.call Ed;refine ay hK (hL) fun hHeld=>?_;clear hK K;refine aG 7 fun K hK=>?_;go_simp
       (go_at_call 156;refine (M9.out _).mono ?_;rintro e w6c ⟨rfl,aii⟩)
       have hL:=hL.call aii;refine ay hK (hL) fun hHeld=>?_;clear hK K;refine aG 10 fun K hK=>?_;go_simp
       (go_at_call 103;refine (HS2.out _).mono ?_;rintro e w6d ⟨rfl,aiq⟩)
       have hL:=hL.call aiq;refine ay hK (hL) fun hHeld=>?_;clear hK K;refine aF 11 ?_;refine aF 12 ?_;refine wpAnyH_done (by kernel_rfl) ?_ _;go_wp2;go_ret;exact ⟨bf HS.out.symm,hL.bw⟩
abbrev Nm.Hu:=Nm.nT × Nm.nT
@[reducible] def gpV (g:Nm.Hu):Value:= .agg #[.int .i64 g.1.1.n,.slice none 0 0,.int .i64 g.1.1.d,.slice none 0 0,.int .i64 g.1.2.1.n,.slice none 0 0,.int .i64 g.1.2.1.d,.slice none 0 0,.int .i64 g.1.2.2.n,.slice none 0 0,.int .i64 g.1.2.2.d,.slice none 0 0,.int .i64 g.2.1.n,.slice none 0 0,.int .i64 g.2.1.d,.slice none 0 0,.int .i64 g.2.2.1.n,.slice none 0 0,.int .i64 g.2.2.1.d,.slice none 0 0,.int .i64 g.2.2.2.n,.slice none 0 0,.int .i64 g.2.2.2.d,.slice none 0 0,.bool false]
def dN (g:Nm.Hu):List Value:=[.int .i64 g.1.1.n,.slice none 0 0,.int .i64 g.1.1.d,.slice none 0 0,.int .i64 g.1.2.1.n,.slice none 0 0,.int .i64 g.1.2.1.d,.slice none 0 0,.int .i64 g.1.2.2.n,.slice none 0 0,.int .i64 g.1.2.2.d,.slice none 0 0,.int .i64 g.2.1.n,.slice none 0 0,.int .i64 g.2.1.d,.slice none 0 0,.int .i64 g.2.2.1.n,.slice none 0 0,.int .i64 g.2.2.1.d,.slice none 0 0,.int .i64 g.2.2.2.n,.slice none 0 0,.int .i64 g.2.2.2.d,.slice none 0 0,.bool false]
theorem D9 (g:Nm.Hu):∀ v∈dN g,v.oneCell'=true:=by simp [dN,Value.oneCell']
theorem lQ:(Tryz.prog.info? 175).map (·.size)=some 25:=by kernel_rfl
theorem PD (a b:ByteArray):∀ v∈[Value.string a,.string b],v.oneCell'=true:=by simp [Value.oneCell']
def Nm.has (g:Nm.Hu) (x:Nm.nT):Bool:=decide (Nm.EK g.1 x<0) && decide (Nm.EK x g.2<0)
def Nm.Ov (x:Nm.nT) (g:Nm.Hu):Bool:=Nm.UM g.1 x && Nm.UM x g.2
theorem MP (g:Nm.Hu) (x:Nm.nT) (w:World) (h:Nm.Ov x g=true):Calls Tryz.prog 163 #[gpV g,YI x] w fun e w'=>e= .returned (.bool (Nm.has g x))∧Below w.heap.size w w':=by
 obtain ⟨h1,h2⟩:=Bool.and_eq_true_iff.1 h;have C1:=fun W=>GL g.1 x W h1;have C2:=fun W=>GL x g.2 W h2
 unfold Nm.has
 obtain ⟨a,ha⟩:∃ q,Nm.EK g.1 x=q:=⟨_,rfl⟩;obtain ⟨b,hb⟩:∃ q,Nm.EK x g.2=q:=⟨_,rfl⟩
 simp only [ha] at C1 ⊢
 simp only [hb] at C2 ⊢
 clear ha hb h h1 h2;have C1:=hide C1;have C2:=hide C2
 by_cases n1:a<0
 · have m1:decide (a<0)=true:=decide_eq_true n1
   have m2:decide (b<0)=decide (b<0):=rfl;clear n1;rw [m1];obtain ⟨q,hq⟩:∃ q,decide (b<0)=q:=⟨_,rfl⟩;clear m2
   go_enter Tryz.func163,Tryz.ntmps163
   go_upto_region 0 with (fail)
   go_cut [2,3] (fun v2 v3 wx=>v2=ptr (w.heap.size)∧v3=ptr (w.heap.size+1)∧Bx w wx [(w.heap.size,dN g,175),(w.heap.size+1,aY x,173)])
   case first=>
    go_wp2;go_meet;exact ⟨rfl,rfl,Bx.of (((aJ.nil w).new (by simp) (dN g) 175).new (by simp) (aY x) 173) _ rfl⟩
   case rest=>
    obtain ⟨rfl,rfl,hL⟩:=hcut;have k24:=(hL.get 0 rfl).cell (j:=24) rfl;have tok:=hide True.intro
    go_wp2_with (first | ((with_reducible (refine ah 173 (.tmp 9) ?lx ?_));(case lx=>rfl);refine aK (hL.rng 0 rfl 0 (aY g.1) rfl) Tryz.underlying173 rfl eF rfl (.tmp 9) rfl rfl ?_) | ((with_reducible (refine ah 173 (.tmp 9) ?lx ?_));(case lx=>rfl);refine fA (hL.rng 0 rfl 0 (aY g.1) rfl) Tryz.underlying173 rfl eF rfl (.tmp 9) rfl rfl ?_) | ((with_reducible (refine aI 173 (.tmp 9) ?lx ?_));(case lx=>rfl);refine eu (hL.rng 0 rfl 0 (aY g.1) rfl) Tryz.underlying173 rfl eF (.tmp 9) rfl rfl ?_) | ((with_reducible (refine ah 173 (.tmp 3) ?lx ?_));(case lx=>rfl);refine aK (hL.rng 1 rfl 0 (aY x) rfl) Tryz.underlying173 rfl eF rfl (.tmp 3) rfl rfl ?_) | ((with_reducible (refine ah 173 (.tmp 3) ?lx ?_));(case lx=>rfl);refine fA (hL.rng 1 rfl 0 (aY x) rfl) Tryz.underlying173 rfl eF rfl (.tmp 3) rfl rfl ?_) | ((with_reducible (refine aI 173 (.tmp 3) ?lx ?_));(case lx=>rfl);refine eu (hL.rng 1 rfl 0 (aY x) rfl) Tryz.underlying173 rfl eF (.tmp 3) rfl rfl ?_) | ((with_reducible (refine ah 173 (.tmp 17) ?lx ?_));(case lx=>rfl);refine aK (hL.rng 0 rfl 12 (aY g.2) rfl) Tryz.underlying173 rfl eF rfl (.tmp 17) rfl rfl ?_) | ((with_reducible (refine ah 173 (.tmp 17) ?lx ?_));(case lx=>rfl);refine fA (hL.rng 0 rfl 12 (aY g.2) rfl) Tryz.underlying173 rfl eF rfl (.tmp 17) rfl rfl ?_) | ((with_reducible (refine aI 173 (.tmp 17) ?lx ?_));(case lx=>rfl);refine eu (hL.rng 0 rfl 12 (aY g.2) rfl) Tryz.underlying173 rfl eF (.tmp 17) rfl rfl ?_) | (clear tok;go_at_call 105;refine (C1.out _).mono ?_;rintro e w1 ⟨rfl,hb1⟩;have hL:=hL.call hb1) | (go_at_call 105;refine (C2.out _).mono ?_;rintro e w2 ⟨rfl,hb2⟩;have hL:=hL.call hb2))
    go_ret;exact ⟨aN (by rw [← hq];simp),hL.bw⟩
 · have m1:decide (a<0)=false:=decide_eq_false n1
   clear n1;rw [m1]
   go_enter Tryz.func163,Tryz.ntmps163
   go_upto_region 0 with (fail)
   go_cut [2,3] (fun v2 v3 wx=>v2=ptr (w.heap.size)∧v3=ptr (w.heap.size+1)∧Bx w wx [(w.heap.size,dN g,175),(w.heap.size+1,aY x,173)])
   case first=>
    go_wp2;go_meet;exact ⟨rfl,rfl,Bx.of (((aJ.nil w).new (by simp) (dN g) 175).new (by simp) (aY x) 173) _ rfl⟩
   case rest=>
    obtain ⟨rfl,rfl,hL⟩:=hcut;have k24:=(hL.get 0 rfl).cell (j:=24) rfl;have tok:=hide True.intro
    go_wp2_with (first | ((with_reducible (refine ah 173 (.tmp 9) ?lx ?_));(case lx=>rfl);refine aK (hL.rng 0 rfl 0 (aY g.1) rfl) Tryz.underlying173 rfl eF rfl (.tmp 9) rfl rfl ?_) | ((with_reducible (refine ah 173 (.tmp 9) ?lx ?_));(case lx=>rfl);refine fA (hL.rng 0 rfl 0 (aY g.1) rfl) Tryz.underlying173 rfl eF rfl (.tmp 9) rfl rfl ?_) | ((with_reducible (refine aI 173 (.tmp 9) ?lx ?_));(case lx=>rfl);refine eu (hL.rng 0 rfl 0 (aY g.1) rfl) Tryz.underlying173 rfl eF (.tmp 9) rfl rfl ?_) | ((with_reducible (refine ah 173 (.tmp 3) ?lx ?_));(case lx=>rfl);refine aK (hL.rng 1 rfl 0 (aY x) rfl) Tryz.underlying173 rfl eF rfl (.tmp 3) rfl rfl ?_) | ((with_reducible (refine ah 173 (.tmp 3) ?lx ?_));(case lx=>rfl);refine fA (hL.rng 1 rfl 0 (aY x) rfl) Tryz.underlying173 rfl eF rfl (.tmp 3) rfl rfl ?_) | ((with_reducible (refine aI 173 (.tmp 3) ?lx ?_));(case lx=>rfl);refine eu (hL.rng 1 rfl 0 (aY x) rfl) Tryz.underlying173 rfl eF (.tmp 3) rfl rfl ?_) | ((with_reducible (refine ah 173 (.tmp 17) ?lx ?_));(case lx=>rfl);refine aK (hL.rng 0 rfl 12 (aY g.2) rfl) Tryz.underlying173 rfl eF rfl (.tmp 17) rfl rfl ?_) | ((with_reducible (refine ah 173 (.tmp 17) ?lx ?_));(case lx=>rfl);refine fA (hL.rng 0 rfl 12 (aY g.2) rfl) Tryz.underlying173 rfl eF rfl (.tmp 17) rfl rfl ?_) | ((with_reducible (refine aI 173 (.tmp 17) ?lx ?_));(case lx=>rfl);refine eu (hL.rng 0 rfl 12 (aY g.2) rfl) Tryz.underlying173 rfl eF (.tmp 17) rfl rfl ?_) | (clear tok;go_at_call 105;refine (C1.out _).mono ?_;rintro e w1 ⟨rfl,hb1⟩;have hL:=hL.call hb1) | (go_at_call 105;refine (C2.out _).mono ?_;rintro e w2 ⟨rfl,hb2⟩;have hL:=hL.call hb2))
    go_ret;exact ⟨aN (by simp),hL.bw⟩
theorem GU (g:Nm.Hu) (x:Nm.nT) (Bx0:Nat) (w:World) (hx:Held w Bx0 (aY x) 173) (h:Nm.Ov x g=true):Calls Tryz.prog 162 #[gpV g,ptr Bx0] w fun e w'=>e= .returned (.bool (Nm.has g x))∧Below w.heap.size w w':=by
 have HH:=hide (fun W=>MP g x W h)
 go_enter Tryz.func162,Tryz.ntmps162
 go_upto_region 0 with (fail)
 go_cut [2,3] (fun v2 v3 wx=>v2=ptr (w.heap.size)∧v3= .bool false∧Bx w wx [(w.heap.size,dN g,175)])
 case first=>
  go_wp2;go_meet;exact ⟨rfl,rfl,Bx.of ((aJ.nil w).new (by simp) (dN g) 175) _ rfl⟩
 case rest=>
  obtain ⟨rfl,rfl,hL⟩:=hcut;have hx1:=hx.below hL.bw
  go_wp2_with (first | ((with_reducible (refine ah 175 (.tmp 2) ?lx ?_));(case lx=>rfl);refine aK (hL.rng 0 rfl 0 (dN g) rfl) Tryz.underlying175 rfl lQ rfl (.tmp 2) rfl rfl ?_) | ((with_reducible (refine ah 175 (.tmp 2) ?lx ?_));(case lx=>rfl);refine fA (hL.rng 0 rfl 0 (dN g) rfl) Tryz.underlying175 rfl lQ rfl (.tmp 2) rfl rfl ?_) | ((with_reducible (refine aI 175 (.tmp 2) ?lx ?_));(case lx=>rfl);refine eu (hL.rng 0 rfl 0 (dN g) rfl) Tryz.underlying175 rfl lQ (.tmp 2) rfl rfl ?_) | ((with_reducible (refine ah 173 (.tmp 1) ?lx ?_));(case lx=>rfl);refine au (hx1) Tryz.underlying173 rfl eF rfl (.tmp 1) rfl rfl ?_) | (go_at_call 163;refine (HH.out _).mono ?_;rintro e w1 ⟨rfl,hb1⟩;have hL:=hL.call hb1))
  go_ret;exact ⟨rfl,hL.bw⟩
def yM {α:Type} (enc:α→List Value) (g:Nat) (lb:Array Value) (l:List α) (p:α→Bool) (w:World):Prop:=
 (∀ args w,(callFunc g args).run Tryz.prog w= .ok (.enter g args) w)∧∀ W x,x∈l→Below w.heap.size w W→Calls Tryz.prog g (#[.agg (enc x).toArray]++lb) W fun e w'=>e= .returned (.bool (p x))∧Below w.heap.size w w'
theorem AX {α:Type} {l:List α} {p:α→Bool} {k:Nat} (hk:k<l.length) (h:(l.take k).any p=false) (hx:p l[k]=false):(l.take (k+1)).any p=false:=by
 rw [List.take_succ_eq_append_getElem hk,List.any_append,h];simp [hx]
theorem Dw {α:Type} {l:List α} {p:α→Bool} {k:Nat} (hk:k<l.length) (hx:p l[k]=true):l.any p=true:=
 List.any_eq_true.2 ⟨l[k],List.getElem_mem hk,hx⟩
theorem Ir (S:Nat→Prop) (A:Option Addr) (c:Nat) (l:List Nm.Hu) (g:Nat) (lb:Array Value) (p:Nm.Hu→Bool) (w:World) (h:Reads w S 25 A l.length c (l.flatMap dN)) (hg:yM dN g lb l p w):
 Calls Tryz.prog 203 #[.slice A l.length c,.func (.func g) #[] lb] w fun e w'=>(∃ i:Int,e= .returned (.int .i64 i)∧decide (0≤i)=l.any p)∧Below w.heap.size w w':=by
 obtain ⟨b1,b2,b3⟩:=h.bd;obtain ⟨eg,hq⟩:=hg
 go_enter Tryz.func203,Tryz.ntmps203
 go_wp2
 go_loopw [8] (fun i wr=>∃ k:Nat,k≤l.length∧i= .int .i64 k∧Aside ((l.take k).any p=false)∧Aside (Below w.heap.size w wr)) (fun i _=>l.length - (intOf i).toNat)
 case atStart=>exact ⟨0,Nat.zero_le _,rfl,by simp [Aside],Below.refl _ _⟩
 case round=>
  obtain ⟨k,hk,rfl,hall,hbw⟩:=hrel
  by_cases hlt:k<l.length
  · obtain ⟨b,o,rfl,_,hbl,hc⟩:=Reads.at_ h (by omega)
    have hrg:wr.rangeAt b (o+k*25) (dN l[k]):=fun j v hj=>by
     have h2:=hc _ _ (uD (f:=dN) (n:=25) (fun _=>rfl) k hlt (j:=j) (v:=v) hj);rw [← Nat.add_assoc] at h2;exact (hbw.out.cell (p:=⟨b,o+k*25+j,none⟩) hbl).trans h2
    have hcall:=hq wr l[k] (List.getElem_mem hlt) hbw.out;clear hc hq
    cases hp:p l[k] with
    | true=>
      rw [hp] at hcall;have HP:=hide (Dw hlt hp);clear hp
      go_wp2_with (first | ((with_reducible (refine ah 175 (.tmp 14) ?lx ?_));(case lx=>rfl);refine aK hrg Tryz.underlying175 rfl lQ rfl (.tmp 14) rfl rfl ?_) | (go_at_fn g;refine hcall.mono ?_;rintro e w2 ⟨rfl,hb2⟩))
      go_ret;exact ⟨⟨k,rfl,by rw [HP.out];simp⟩,hb2⟩
    | false=>
      rw [hp] at hcall;have HP:=hide (AX hlt hall.out hp);clear hp
      go_wp2_with (first | ((with_reducible (refine ah 175 (.tmp 14) ?lx ?_));(case lx=>rfl);refine aK hrg Tryz.underlying175 rfl lQ rfl (.tmp 14) rfl rfl ?_) | (go_at_fn g;refine hcall.mono ?_;rintro e w2 ⟨rfl,hb2⟩))
      go_roundw
      case rel=>exact ⟨k+1,by omega,by go_num,HP.out,hb2⟩
      case measure=>simp [intOf];omega
  · have HA:=hide (show l.any p=false by have:=hall.out;rwa [List.take_of_length_le (by omega)] at this)
    go_wp2;go_ret;exact ⟨⟨-1,rfl,by rw [HA.out];rfl⟩,hbw.out⟩
theorem BR (S:Nat→Prop) (A:Option Addr) (c:Nat) (l:List Nm.Hu) (g:Nat) (lb:Array Value) (p:Nm.Hu→Bool) (w:World) (h:Reads w S 25 A l.length c (l.flatMap dN)) (hg:yM dN g lb l p w):
 Calls Tryz.prog 161 #[.slice A l.length c,.func (.func g) #[] lb] w fun e w'=>e= .returned (.bool (l.any p))∧Below w.heap.size w w':=by
 have HI:=hide (Ir S A c l g lb p w h hg)
 go_enter Tryz.func161,Tryz.ntmps161
 go_wp2_with (go_at_call 203;refine HI.out.mono ?_;rintro e w1 ⟨⟨i,rfl,hi⟩,hb1⟩)
 go_ret;exact ⟨aN (by first | rfl | exact hi),hb1⟩
abbrev Nm.Pl:=ByteArray × ByteArray
def jr (p:Nm.Pl):List Value:=[.string p.1,.string p.2]
@[reducible] def plV (p:Nm.Pl):Value:= .agg #[.string p.1,.string p.2]
theorem ED (S:Nat→Prop) (A:Option Addr) (c:Nat) (l:List Nm.Pl) (g:Nat) (lb:Array Value) (p:Nm.Pl→Bool) (w:World) (h:Reads w S 2 A l.length c (l.flatMap jr)) (hg:yM jr g lb l p w):
 Calls Tryz.prog 200 #[.slice A l.length c,.func (.func g) #[] lb] w fun e w'=>(∃ i:Int,e= .returned (.int .i64 i)∧decide (0≤i)=l.any p)∧Below w.heap.size w w':=by
 obtain ⟨b1,b2,b3⟩:=h.bd;obtain ⟨eg,hq⟩:=hg
 go_enter Tryz.func200,Tryz.ntmps200
 go_wp2
 go_loopw [8] (fun i wr=>∃ k:Nat,k≤l.length∧i= .int .i64 k∧Aside ((l.take k).any p=false)∧Aside (Below w.heap.size w wr)) (fun i _=>l.length - (intOf i).toNat)
 case atStart=>exact ⟨0,Nat.zero_le _,rfl,by simp [Aside],Below.refl _ _⟩
 case round=>
  obtain ⟨k,hk,rfl,hall,hbw⟩:=hrel
  by_cases hlt:k<l.length
  · obtain ⟨b,o,rfl,_,hbl,hc⟩:=Reads.at_ h (by omega)
    have hrg:wr.rangeAt b (o+k*2) (jr l[k]):=fun j v hj=>by
     have h2:=hc _ _ (uD (f:=jr) (n:=2) (fun _=>rfl) k hlt (j:=j) (v:=v) hj);rw [← Nat.add_assoc] at h2;exact (hbw.out.cell (p:=⟨b,o+k*2+j,none⟩) hbl).trans h2
    have hcall:=hq wr l[k] (List.getElem_mem hlt) hbw.out;clear hc hq
    cases hp:p l[k] with
    | true=>
      rw [hp] at hcall;have HP:=hide (Dw hlt hp);clear hp
      go_wp2_with (first | ((with_reducible (refine ah 114 (.tmp 14) ?lx ?_));(case lx=>rfl);refine aK hrg Tryz.underlying114 rfl nN rfl (.tmp 14) rfl rfl ?_) | (go_at_fn g;refine hcall.mono ?_;rintro e w2 ⟨rfl,hb2⟩))
      go_ret;exact ⟨⟨k,rfl,by rw [HP.out];simp⟩,hb2⟩
    | false=>
      rw [hp] at hcall;have HP:=hide (AX hlt hall.out hp);clear hp
      go_wp2_with (first | ((with_reducible (refine ah 114 (.tmp 14) ?lx ?_));(case lx=>rfl);refine aK hrg Tryz.underlying114 rfl nN rfl (.tmp 14) rfl rfl ?_) | (go_at_fn g;refine hcall.mono ?_;rintro e w2 ⟨rfl,hb2⟩))
      go_roundw
      case rel=>exact ⟨k+1,by omega,by go_num,HP.out,hb2⟩
      case measure=>simp [intOf];omega
  · have HA:=hide (show l.any p=false by have:=hall.out;rwa [List.take_of_length_le (by omega)] at this)
    go_wp2;go_ret;exact ⟨⟨-1,rfl,by rw [HA.out];rfl⟩,hbw.out⟩
theorem zo (S:Nat→Prop) (A:Option Addr) (c:Nat) (l:List Nm.Pl) (g:Nat) (lb:Array Value) (p:Nm.Pl→Bool) (w:World) (h:Reads w S 2 A l.length c (l.flatMap jr)) (hg:yM jr g lb l p w):
 Calls Tryz.prog 151 #[.slice A l.length c,.func (.func g) #[] lb] w fun e w'=>e= .returned (.bool (l.any p))∧Below w.heap.size w w':=by
 have HI:=hide (ED S A c l g lb p w h hg)
 go_enter Tryz.func151,Tryz.ntmps151
 go_wp2_with (go_at_call 200;refine HI.out.mono ?_;rintro e w1 ⟨⟨i,rfl,hi⟩,hb1⟩)
 go_ret;exact ⟨aN (by first | rfl | exact hi),hb1⟩
theorem Ba (S:Nat→Prop) (A:Option Addr) (c:Nat) (l:List Nm.Hu) (x:Nm.nT) (w:World) (h:Reads w S 25 A l.length c (l.flatMap dN)) (hk:∀ g∈l,Nm.Ov x g=true):
 Calls Tryz.prog 104 #[.slice A l.length c,YI x] w fun e w'=>e= .returned (.bool (!(l.any fun g=>Nm.has g x)))∧Below w.heap.size w w':=by
 obtain ⟨z,hz⟩:∃ q,(l.any fun g=>Nm.has g x)=q:=⟨_,rfl⟩;have hcon:=fun (g:Nat) (lb:Array Value) (W:World) (hr:Reads W S 25 A l.length c (l.flatMap dN)) (hs:yM dN g lb l (fun g=>Nm.has g x) W)=>BR S A c l g lb _ W hr hs
 simp only [hz] at hcon ⊢
 clear hz;have HC:=hide hcon;clear hcon
 go_enter Tryz.func104,Tryz.ntmps104
 go_upto_region 0 with (fail)
 go_cut [3,4] (fun v3 v4 wx=>v3=ptr (w.heap.size)∧v4= .bool false∧Bx w wx [(w.heap.size,aY x,173)])
 case first=>
  go_wp2;go_meet;exact ⟨rfl,rfl,Bx.of ((aJ.nil w).new (by simp) (aY x) 173) _ rfl⟩
 case rest=>
  obtain ⟨rfl,rfl,hL⟩:=hcut;have hrd:=Reads.below h hL.bw;have HS:=hide (show yM dN 162 #[ptr w.heap.size] l (fun g=>Nm.has g x) wc from ⟨fun _ _=>rfl,fun W g hg hb=>(GU g x w.heap.size W ((hL.get 0 rfl).below hb) (hk g hg)).mono (fun e w' ⟨e1,e2⟩=>⟨e1,hb.trans (e2.mono hb.size)⟩)⟩);clear hk
  go_wp2_with (go_at_call 161;refine (HC.out _ _ _ hrd HS.out).mono ?_;rintro e w1 ⟨rfl,hb1⟩;have hL:=hL.call hb1)
  go_ret;exact ⟨rfl,hL.bw⟩
theorem aJ.turn {w W W':World} {L:List (List Value × TypeId)} {X:Nat→Prop} (h:aJ w W L) (ht:Turn X W W') (hX:∀ b,X b→w.heap.size+L.length≤b) (hs:w.heap.size≤W.heap.size):aJ w W' L:=
 ⟨fun i e he=>(ht.block _ (h.at_ i e he).lt (fun hx=>by have:=hX _ hx;have:=(List.getElem?_eq_some_iff.1 he).1;omega)).trans (h.at_ i e he),vH h.bw ht (fun b hb=>by have:=hX b hb;omega) hs⟩
theorem aJ.putObj {w W:World} {L:List (List Value × TypeId)} {l:Nat} {o:Obj} (h:aJ w W L) (hw:w.heap.size≤l) (hl:W.heap[l]? =some o) (ho:o.isCells=false) (o':Obj):aJ w (W.putObj l o') L:=
 ⟨fun i e he=>(h.at_ i e he).putObj hl ho o',jO h.bw hw _⟩
theorem uH {P:Program} {w w':World} {n:String} {cs:Array Value} (h:w.var? P n=some cs) (hb:∀ b,b<w.heap.size→w'.heap[b]? =w.heap[b]?):w'.var? P n=some cs:=by
 unfold World.var? at h ⊢
 cases hg:P.globalNamed n with
 | none=>rw [hg] at h;cases h
 | some g=>
   rw [hg] at h
   simp only [Option.bind_some] at h ⊢
   cases ho:w.heap[g]? with
   | none=>rw [ho] at h;cases h
   | some o=>
     have hlt:g<w.heap.size:=(Array.getElem?_eq_some_iff.1 ho).1;rw [hb g hlt];exact h
theorem Glob.Mc {w w':World} (h:Glob w) (hb:∀ b,b<w.heap.size→w'.heap[b]? =w.heap[b]?):Glob w':=by
 obtain ⟨m,hm⟩:=h.n;obtain ⟨t1,p1,h1⟩:=h.es;obtain ⟨t2,p2,h2⟩:=h.er;have hlt:1<w.heap.size:=Lib.lt_of_cell hm;exact ⟨⟨m,(World.cell?_of_block (hb 1 hlt)).trans hm⟩,⟨t1,p1,uH h1 hb⟩,⟨t2,p2,uH h2 hb⟩,uH h.tab hb⟩
def Valid (s:ByteArray):Prop:=∀ W,Glob W→Calls Tryz.prog 146 #[.string s] W fun e w'=>e= .returned (.int .i64 0)∧Below W.heap.size W w'
def Js (_:Nat):Array Value:= #[.int .i64 0]
theorem KT (S:Nat→Prop) (A:Option Addr) (c:Nat) (xs:List ByteArray) (Bt n:Nat) (w:World) (hn:1≤n) (hg:Glob w) (hBt:Held w Bt [.slice A xs.length c] 284) (hL:Reads w S 1 A xs.length c (xs.map Value.string)) (hV:∀ s∈xs,Valid s):
 DJ (jQ none) n Tryz.prog 277 #[ptr Bt] Js (fun b=>b<w.heap.size) (fun _ _ pre x _=>x=pre.length∧x<xs.length) (fun ys=>ys=List.range xs.length) (fun _=>True) xs.length w:=by
 intro l0 J Jx W hW hJ hJx hY h0;refine mg ?_;have hBW:=hBt.below hW;have hL':Reads w (fun b=>b<w.heap.size) 1 A xs.length c (xs.map Value.string):=hL.more (fun b h _=>h);have hKb:∀ b,b<w.heap.size→W.heap[b]? =w.heap[b]? :=fun b h=>hW.block b h;have HY:=hide hY;have hbt:=hBt.lt;clear hY;have k0:=hBW.cell (j:=0) rfl;have Xz:=hBW.frozen 0
 go_enter Tryz.func277,Tryz.ntmps277
 go_wp2
 go_loopw [7] (fun i wr=>∃ k:Nat,k≤xs.length∧i= .int .i64 k∧J (fun _=>False) (fun _=>False) (List.range k) wr∧W.heap.size≤wr.heap.size∧∀ b,b<w.heap.size→wr.heap[b]? =w.heap[b]?) (fun i _=>xs.length - (intOf i).toNat)
 case atStart=>exact ⟨0,by omega,rfl,h0,Nat.le_refl _,hKb⟩
 case round=>
  obtain ⟨k,hk,rfl,hj,hsz,hkp⟩:=hrel
  by_cases hlt:k<xs.length
  · have hgr:Glob wr:=hg.Mc hkp
    have hLr:=hL'.keep (Nat.le_trans hW.size hsz) (fun b o hb _=>World.cell?_of_block (hkp b hb));obtain ⟨b1,b2,b3⟩:=hLr.bd;obtain ⟨b,o,rfl,_,hbl,hc⟩:=hLr.at_ (by omega);have hck:=hc k (.string xs[k]) (by rw [List.getElem?_map,List.getElem?_eq_getElem hlt];rfl);have hv:=hV _ (List.getElem_mem hlt);obtain ⟨s,hs⟩:∃ s,xs[k]=s:=⟨_,rfl⟩;rw [hs] at hck hv;have HV:=hide (hv wr hgr);clear hc hs hv k0 Xz hL hL' hLr hBt;have auo:decide ((k:Int)<(xs.length:Int))=true:=decide_eq_true (by omega)
    go_upto_region 3 with (fail)
    go_cut [15] from 10 to 15 (fun v wx=>(v= .bool false∧J (fun _=>False) (fun _=>False) (List.range (k+1)) wx∧wr.heap.size≤wx.heap.size∧∀ b,b<w.heap.size→wx.heap[b]? =w.heap[b]?)∨(v= .bool true∧Jx (fun _=>False) (fun _=>False) (List.range (k+1)) wx))
    case first=>
     refine (wpIn_wide (n:=n)).1 ?_;have akh:(jQ none).round=none:=rfl;have ai6:(jQ none).depth=none:=rfl;have ajr:∀ f,(jQ none).fn f=True:=fun _=>rfl;have auD:Fence.wide.round=none:=rfl;have atW:Fence.wide.depth=none:=rfl;have aua:∀ f,Fence.wide.fn f=True:=fun _=>rfl;refine wpIn_region_lit ?_
     gi_wp2_with (gi_at_call 146;refine (mg HV.out).mono ?_;rintro e w2 ⟨rfl,hb2⟩;obtain ⟨fn',aeM,assign',body',hy,hR⟩:=HY.out (fun _=>False) (fun _=>False) (List.range k) k w2 (hJ _ _ _ _ _ _ _ hj (Turn.of_below hb2) (fun b h=>h.elim) (fun b h=>h.elim)) (fun b h=>h.elim (fun h=>h.elim) (fun h=>h.elim)) (by rw [List.length_range];exact hlt) ⟨List.length_range.symm,hlt⟩;rw [show Js k= #[.int .i64 0] from rfl] at hy)
     refine hR.mono ?_
     rintro e4 W4 (⟨rfl,WQ,hk4⟩ | ⟨rfl,FI⟩)
     · gi_wp2
       go_meet;exact .inl ⟨rfl,by rw [List.range_succ];exact WQ,Nat.le_trans hb2.size hk4.size,fun b hb=>(hk4.keep b hb).trans ((hb2.block b (Nat.lt_of_lt_of_le hb (Nat.le_trans hW.size hsz))).trans (hkp b hb))⟩
     · gi_wp2
       go_meet;exact .inr ⟨rfl,by rw [List.range_succ];exact FI⟩
    case rest=>
     rcases hcut with ⟨rfl,WQ,hs4,hk4⟩ | ⟨rfl,FI⟩
     · go_wp2
       go_roundw
       case rel=>exact ⟨k+1,by omega,by go_num,WQ,Nat.le_trans hsz hs4,hk4⟩
       case measure=>simp [intOf];omega
     · go_wp2
       refine bodyPost_ret (results_none rfl _ _ _) rfl ?_
       first | exact ⟨⟨_,rfl⟩,.inr ⟨_,_,_,trivial,FI⟩⟩ | exact ⟨⟨_,rfl⟩,.inr ⟨_,_,_,FI⟩⟩
  · obtain rfl:k=xs.length:=by omega
    go_wp2
    go_end0
    first | exact ⟨⟨_,rfl⟩,.inl ⟨_,_,hj⟩⟩ | exact ⟨⟨_,rfl⟩,.inl ⟨_,_,_,rfl,hj⟩⟩
theorem Ij (A:Option Addr) (n c:Nat) (w:World):
 Calls Tryz.prog 253 #[.slice A n c] w fun e w'=>e= .returned (.func (.func 277) #[] #[ptr w.heap.size])∧aJ w w' [([.slice A n c],284)]:=by
 go_enter Tryz.func253,Tryz.ntmps253
 go_wp2;go_ret;exact ⟨rfl,(aJ.nil w).new (by simp) ([.slice A n c]) _⟩
structure U8 (w:World) (D:Nat) (X Y:Nat→Prop) (pre:List Nat) (W:World):Prop where
 b:aJ w W [([.int .i64 0],34)]
 sz:D≤W.heap.size
 sep:∀ b,X b∨Y b→D≤b
theorem U8.abides (w:World) (D:Nat) (hD:w.heap.size+1≤D):pI (U8 w D):=by
 intro X Y pre W X' Y' W' h ht hX hY;refine ⟨h.b.turn ht (fun b hb=>by have:=h.sep b (.inl hb);simp;omega) (by have:=h.sz;omega),Nat.le_trans h.sz ht.size,?_⟩
 rintro b (hb | hb)
 · rcases hX b hb with h2 | h2
   · exact h.sep b (.inl h2)
   · exact Nat.le_trans h.sz h2
 · rcases hY b hb with h2 | h2
   · exact h.sep b (.inr h2)
   · exact Nat.le_trans h.sz h2
theorem U8.putObj {w:World} {D:Nat} {X Y:Nat→Prop} {pre:List Nat} {W:World} {lp:Nat} {o:Obj} (h:U8 w D X Y pre W) (hD:w.heap.size≤D) (hlp:D≤lp) (hl:W.heap[lp]? =some o) (ho:o.isCells=false) (o':Obj):U8 w D X Y pre (W.putObj lp o'):=
 ⟨h.b.putObj (by omega) hl ho o',by simpa using h.sz,h.sep⟩
theorem NP {W:World} {g:Nat} {u:Value} {t1 t3:TypeId} {d1:TypeDesc} {fn:Func} {p:Tmp} (hg:Held W g [u] t1) (hu:Tryz.prog.underlying t3=some d1) (h1:d1.isRow=false)
 (hr:fn.results= #[.cell p t3]) (tmps:Array Value) (hp:tmps.getD p undef=ptr g):(results fn tmps).run Tryz.prog W= .ok u W:=by
 have e:(results fn tmps).run Tryz.prog W=((asAddr (tmps.getD p undef)).run Tryz.prog W).andThen fun a w₁=>(loadVar t3 a).run Tryz.prog w₁:=by
  simp only [results,hr]
  simp [Sem.run_bind,Result.andThen]
 rw [e,hp]
 simp only [ptr,asAddr,Sem.run_pure,Result.andThen_ok,oU hg hu h1]
theorem DU (S:Nat→Prop) (A:Option Addr) (c:Nat) (xs:List ByteArray) (w:World) (hg:Glob w) (hL:Reads w S 1 A xs.length c (xs.map Value.string)) (hV:∀ s∈xs,Valid s):
 Calls Tryz.prog 218 #[.slice A xs.length c] w fun e w'=>e= .returned (.int .i64 0)∧Below w.heap.size w w':=by
 refine callsIn_wide.1 (callsIn_of_wp_marks (F:=Fence.wide) (n:=5) Tryz.func218 rfl trivial ?_ rfl)
 simp only [Tryz.ntmps218,List.size_toArray,List.length_cons,List.length_nil,Nat.reduceAdd,Nat.reduceSub,Array.replicate_succ,
  Array.replicate_zero,List.push_toArray,List.append_toArray,List.nil_append,List.cons_append]
 refine wpIn_wide.2 ?_
 generalize hQ':bodyPostM Fence.wide 5 Tryz.prog _ _=Q'
 have HQ:=hide hQ';clear hQ';obtain ⟨n0,hn0⟩:∃ n,xs.length=n:=⟨_,rfl⟩;have HN:=hide hn0;rw [hn0];clear hn0
 go_upto_region 0 with (fail)
 go_cut [2] from 2 to 3 (fun v2 w1=>v2=ptr w.heap.size∧aJ w w1 [([.int .i64 0],34)])
 case first=>
  go_wp2;go_meet;exact ⟨rfl,((aJ.nil w).new (by simp) ([.int .i64 0]) _)⟩
 case rest=>
  obtain ⟨rfl,hB⟩:=hcut
  rename World=>w1
  have hs1:=hB.size (by simp)
  simp only [List.length_cons,List.length_nil] at hs1
  go_wp2_with (go_at_call 253;refine (Ij A n0 c _).mono ?_;rintro e w3 ⟨rfl,hC⟩)
  have hs3:=hC.size (by simp)
  simp only [List.length_cons,List.length_nil] at hs3
  have hB3:=hB.upto hC.bw (by simpa using hs1);have hb3:Below w.heap.size w w3:=hB3.bw;have hg3:=hg.below hb3;have WV:Reads w3 S 1 A xs.length c (xs.map Value.string):=hL.below hb3
  have hC0:Held w3 w1.heap.size [.slice A xs.length c] 284:=by rw [HN.out];exact hC.aA rfl
  rename_i KQ WR;refine (wpIn_wide (n:=5)).1 ?_
  refine jD (F:=Fence.wide) rfl (by decide) rfl trivial (enters_of Tryz.func277 (by kernel_rfl) rfl) (KT S A c xs w1.heap.size 4 w3 (by decide) hg3 hC0 WV hV) (fun b h=>h) (Below.refl _ _) (fun _=>rfl) (U8 w w3.heap.size) (fun _ _ _ _=>False) (U8.abides w w3.heap.size (by omega)) (fun _ _ _ _ _ _ _ h _ _ _=>h)
   (fun X Y pre W lp o o' h hlp hl ho=>h.putObj (by omega) hlp hl ho o') (fun _ _ _ _ _ _ _ h _ _ _=>h) (fun X Y pre x W lp o o' h hlp hl ho=>h) ?h0 (fun x a W=>∃ v0 v1 v4 v5 v6 v7 v8 v9,a= {tmps:= #[v0,v1,ptr w.heap.size,.int .i64 0,v4,v5,v6,v7,v8,v9],defers:=[] }) ?assign ?ap ?body ?done ?stop
  case h0=>
   intro W hW;exact ⟨hB3.upto hW (by simp;omega),hW.size,fun b h=>h.elim (fun h=>h.elim) (fun h=>h.elim)⟩
  case ap=>
   rintro x a' W lp o o' ⟨v0,v1,v4,v5,v6,v7,v8,v9,e2⟩ hlp hl ho
   exact ⟨v0,v1,v4,v5,v6,v7,v8,v9,e2⟩
  case stop=>exact fun _ _ _ _ _ _ _ h _=>h.elim
  case assign=>
   intro lp X Y pre x W K' hi ht hk Ac
   have fin:∀ v0 v1 v4 v5 v6 v7 v8 v9:Value,K' {tmps:= #[v0,v1,ptr w.heap.size,.int .i64 0,v4,v5,v6,v7,v8,v9],defers:=[] } W:=fun _ _ _ _ _ _ _ _=>
    hk _ _ ⟨Nat.le_refl _,fun k o hk hl _=>hl⟩ ⟨Nat.le_refl _,fun b h=>rfl,fun b h=>rfl⟩ hi ht ⟨_,_,_,_,_,_,_,_,rfl⟩
   have FIN:=hide fin;clear hk fin hi ht Ac
   simp [Js]
   refine bG (by kernel_rfl) (by rintro ⟨_,_,h⟩;exact h) ?_;go_wp2;exact FIN.out _ _ _ _ _ _ _ _
  case body=>
   rintro lp X Y pre x a' W hi ht ⟨v0,v1,v4,v5,v6,v7,v8,v9,rfl⟩ hlt Ac hWs
   have FIN:Hid (∀ a:Act,uF (fun b=>b<w3.heap.size) w3.heap.size X Y (U8 w w3.heap.size) (fun _ _ _ _=>False) (pre++[x]) W .normal a W):=hide (fun a=>⟨⟨Nat.le_refl _,fun k o hk hl _=>hl⟩,⟨Nat.le_refl _,fun b h=>rfl,fun b h=>rfl⟩,⟨hi.b,hi.sz,hi.sep⟩⟩);clear hi ht Ac;apply wpIn_block;apply wpIn_seq_k;intro K1 hK1;refine bG (by kernel_rfl) (by rintro ⟨_,_,h⟩;exact h) ?_;go_wp2;refine wpIn_cond_split rfl (fun h=>?_) (fun h=>?_)
   · cases h
   · refine wpIn_skip ?_;exact FIN.out {tmps:= #[],defers:=[] }
  case done=>
   intro D X Y xs' W hD hS hi hdef;have kC:=hi.b;have hc9:=(kC.aA rfl).cell (j:=0) rfl;have hf9:=(kC.aA rfl).frozen 0
   have hD':w.heap.size≤D:=by omega
   have hne:D≠w.heap.size:=by omega
   have Hw:=hide hdef;clear hi hS hdef;refine WR _ _ ?_
   dsimp only
   refine lY ?_;go_wp2;have hZ:=kC.set 0 rfl 0 (.int .i64 0);have hdz:=(Below.heap_setCell W ⟨w.heap.size,0,none⟩ (.int .i64 0) D hne).trans Hw.out
   show Q' .ret _ _
   rw [← HQ.out];exact mG rfl hdz (NP (p:=2) ((hZ.aA rfl).putObj hdz rfl _) Tryz.underlying34 rfl rfl _ rfl) ⟨rfl,jO hZ.bw hD' _⟩
theorem Reads.lit (W:World) (t:TypeId) (S:Nat→Prop) (size n:Nat) (vs:List Value) (hn:n≤1000) (hl:vs.length=n*size) (hS:S W.heap.size):Reads (W.alloc (.cells vs.toArray t)) S size (some ⟨W.heap.size,0,none⟩) n n vs:=
 ⟨Nat.le_refl _,by omega,by omega,hl,fun _=>⟨W.heap.size,0,rfl,hS,by simp,fun j u hu=>by
  have:=jW W t vs W.heap.size rfl j u hu
  rwa [oJ] at this⟩⟩
theorem zl (S:Nat→Prop) (A:Option Addr) (c:Nat) (x y:ByteArray) (w:World) (hg:Glob w) (hL:Reads w S 2 A 1 c [.string x,.string y]) (hx:Valid x) (hy:Valid y):
 Calls Tryz.prog 183 #[.slice A 1 c] w fun e w'=>e= .returned (.int .i64 0)∧Below w.heap.size w w':=by
 obtain ⟨b,o,rfl,_,hb,hc⟩:=hL.at_ (by omega);have c0:=hc 0 _ rfl;have c1:=hc 1 _ rfl;rw [Nat.add_zero] at c0;clear hc
 have HC:∀ (W:World) (G:Nat),Glob W→W.heap.size=G→Calls Tryz.prog 218 #[.slice (some ⟨G,0,none⟩) 2 2] (W.alloc (.cells #[.string x,.string y] 108)) fun e w'=>e= .returned (.int .i64 0)∧Below W.heap.size W w':=fun W G h hG=>by
  subst hG;have h2:Below W.heap.size W (W.alloc (.cells #[.string x,.string y] 108)):=(Below.refl _ _).alloc (Nat.le_refl _) _;refine (DU (fun _=>True) _ 2 [x,y] _ (h.below h2) (Reads.lit W _ _ 1 2 [.string x,.string y] (by omega) rfl trivial) (fun s hs=>by simp at hs;rcases hs with rfl | rfl <;> assumption)).mono ?_
  rintro e w' ⟨rfl,hb⟩
  exact ⟨rfl,h2.trans (hb.mono h2.size)⟩
 have HC:=hide HC;have HV:=hide (fun s (hs:s∈[x,y])=>show Valid s by simp at hs;rcases hs with rfl | rfl <;> assumption);clear hx hy hL
 go_enter Tryz.func183,Tryz.ntmps183
 go_wp2
 go_loopw [8] (fun i wr=>∃ k:Nat,k≤1∧i= .int .i64 k∧Below w.heap.size w wr) (fun i _=>1 - (intOf i).toNat)
 case atStart=>exact ⟨0,by omega,rfl,Below.refl _ _⟩
 case round=>
  obtain ⟨k,hk,rfl,hbw⟩:=hrel;have hgr:=hg.below hbw;have d0:wr.cell? ⟨b,o,none⟩=some (.string x):=(hbw.cell (p:=⟨b,o,none⟩) hb).trans c0;have d1:wr.cell? ⟨b,o+1,none⟩=some (.string y):=(hbw.cell (p:=⟨b,o+1,none⟩) hb).trans c1;clear c0 c1
  by_cases h0:k=0
  · subst h0
    go_wp2
    go_quiet (fail)
    have hbq:=below_drewN ((Below.refl wr.heap.size wr).alloc (Nat.le_refl _) (.cells #[.string x,.string y] 114)) nq
    go_wp2_with (go_at_call 218;refine (HC.out _ (wr.heap.size+1) (hgr.below hbq) (by simp)).mono ?_;rintro e w5 ⟨rfl,hb5⟩)
    have hb6:=hbw.trans ((hbq.trans (hb5.mono hbq.size)).mono hbw.size)
    go_roundw
    case rel=>exact ⟨1,by omega,by go_num,hb6⟩
    case measure=>simp [intOf]
  · obtain rfl:k=1:=by omega
    go_wp2;go_ret;exact ⟨rfl,hbw⟩
theorem sZ (x y:ByteArray) (w:World) (hg:Glob w) (hx:Valid x) (hy:Valid y):
 Calls Tryz.prog 145 #[.agg #[.string x,.string y]] w fun e w'=>e= .returned (.int .i64 0)∧Below w.heap.size w w':=by
 have hb0:=(Below.refl w.heap.size w).alloc (Nat.le_refl _) (.cells #[.string x,.string y] 114)
 have HC:∀ (W:World) (G:Nat),Glob W→W.heap.size=G→Calls Tryz.prog 183 #[.slice (some ⟨G,0,none⟩) 1 1] (W.alloc (.cells #[.string x,.string y] 114)) fun e w'=>e= .returned (.int .i64 0)∧Below W.heap.size W w':=fun W G h hG=>by
  subst hG;have h2:Below W.heap.size W (W.alloc (.cells #[.string x,.string y] 114)):=(Below.refl _ _).alloc (Nat.le_refl _) _;refine (zl (fun _=>True) _ 1 x y _ (h.below h2) (Reads.lit W _ _ 2 1 [.string x,.string y] (by omega) rfl trivial) hx hy).mono ?_
  rintro e w' ⟨rfl,hb⟩
  exact ⟨rfl,h2.trans (hb.mono h2.size)⟩
 have HC:=hide HC;clear hx hy
 go_enter Tryz.func145,Tryz.ntmps145
 go_wp2_with (go_at_call 183;refine (HC.out _ (w.heap.size+1) (hg.below hb0) (by simp)).mono ?_;rintro e w5 ⟨rfl,hb5⟩)
 go_ret;exact ⟨rfl,hb0.trans (hb5.mono hb0.size)⟩
theorem Am (w:World):
 Calls Tryz.prog 185 #[.string ⟨#[48]⟩] w fun e w'=>e= .returned (.bool true)∧Below w.heap.size w w':=by
 have HT:∀ W,Calls Tryz.prog 220 #[.string ⟨#[48]⟩,.string ⟨#[48,49,50,51,52,53,54,55,56,57]⟩] W fun e w'=>e= .returned (.string ⟨#[]⟩)∧Below W.heap.size W w':=fun W=>by
  have:=Any.strings_Trim_laid Tryz.lays160 (by kernel_rfl) ⟨#[48]⟩ ⟨#[48,49,50,51,52,53,54,55,56,57]⟩ W (by decide) (by decide) (ascii_of_all (by decide))
  rwa [show Lib.trimS (ByteArray.mk #[48]).data.toList (ByteArray.mk #[48,49,50,51,52,53,54,55,56,57]).data.toList=[] from by decide] at this
 have HT:=hide HT
 go_enter Tryz.func185,Tryz.ntmps185
 go_wp2_with (go_at_call 220;refine (HT.out _).mono ?_;rintro e w1 ⟨rfl,hb1⟩)
 go_ret;exact ⟨rfl,hb1⟩
theorem uX (l:List UInt8) (w:World) (hg:Glob w) (hlen:l.length≤18) (HD:∀ W,Calls Tryz.prog 185 #[.string ⟨l.toArray⟩] W fun e w'=>e= .returned (.bool true)∧Below W.heap.size W w') (hp:Lib.hasPrefix l [45]=false) (hq:Lib.trimPrefix l [45]=l) (hcut:Lib.cut l [47]=(l,[],false)):
 Calls Tryz.prog 146 #[.string ⟨l.toArray⟩] w fun e w'=>e= .returned (.int .i64 0)∧Below w.heap.size w w':=by
 have HC:∀ W,Glob W→Calls Tryz.prog 148 #[.string ⟨l.toArray⟩,.string ⟨#[47]⟩] W fun e w'=>e= .returned (.tuple #[.string ⟨l.toArray⟩,.string ⟨#[]⟩,.bool false])∧∃ n,w'=W.drewN n:=fun W hG=>by
  obtain ⟨m,hm⟩:=hG.n
  have:=Tryz.strings_Cut ⟨l.toArray⟩ ⟨#[47]⟩ m W (by rw [jC];omega) hm
  rwa [show Lib.cut (ByteArray.mk l.toArray).data.toList (ByteArray.mk #[47]).data.toList=(l,[],false) from hcut] at this
 have HP:∀ W,Calls Tryz.prog 184 #[.string ⟨l.toArray⟩,.string ⟨#[45]⟩] W fun e w'=>e= .returned (.tuple #[.string ⟨l.toArray⟩,.bool false])∧w'=W:=fun W=>by
  have:=Tryz.strings_CutPrefix ⟨l.toArray⟩ ⟨#[45]⟩ W
  rwa [show Lib.trimPrefix (ByteArray.mk l.toArray).data.toList (ByteArray.mk #[45]).data.toList=l from hq,show Lib.hasPrefix (ByteArray.mk l.toArray).data.toList (ByteArray.mk #[45]).data.toList=false from hp] at this
 have hsz:=jC l;obtain ⟨s,hs⟩:∃ s:ByteArray,⟨l.toArray⟩=s:=⟨_,rfl⟩
 simp only [hs] at HC HP HD hsz ⊢
 obtain ⟨n,hn⟩:∃ n,l.length=n:=⟨_,rfl⟩;rw [hn] at hsz hlen;have hgt:decide (600<(n:Int))=false:=decide_eq_false (by omega);clear hs hn hp hq hcut;have HC:=hide HC;have HP:=hide HP;have HD:=hide HD
 go_enter Tryz.func146,Tryz.ntmps146
 go_upto_region 6 with (first | (go_at_call 184;refine (HP.out _).mono ?_;rintro e w1 ⟨rfl,rfl⟩) | (go_at_call 148;refine (HC.out _ hg).mono ?_;rintro e w2 ⟨rfl,k,rfl⟩;have hb2:=below_drewN (Below.refl w1.heap.size w1) k) | (go_at_call 185;refine (HD.out _).mono ?_;rintro e w3 ⟨rfl,hb3⟩;have Zq:=hb2.trans (hb3.mono (by exact hb2.size))))
 go_wp2_with (first | (go_at_call 187;refine (L9 _ _).mono ?_;rintro e pz ⟨rfl,rfl⟩) | (go_at_call 186;refine (Jp (fun _=>True) _ _ _ (jV.lit _ _ [0,0] (by simp) _ trivial)).mono ?_;rintro e pz ⟨rfl,rfl⟩))
 go_ret;exact ⟨rfl,Zq.alloc (by exact Zq.size) _⟩
abbrev s0:ByteArray:=⟨#[48]⟩
abbrev s1:ByteArray:=⟨#[49]⟩
abbrev s2:ByteArray:=⟨#[50]⟩
abbrev s4:ByteArray:=⟨#[52]⟩
theorem BG:Valid s0:=fun W h=>uX [48] W h (by decide) (fun W=>Am W) (by decide) (by decide) (by decide)
theorem RG:Valid s1:=fun W h=>uX [49] W h (by decide) (fun W=>qo [49] 49 [] W rfl (by decide) (by decide) (by rfl)) (by decide) (by decide) (by decide)
theorem Yh:Valid s2:=fun W h=>uX [50] W h (by decide) (fun W=>qo [50] 50 [] W rfl (by decide) (by decide) (by rfl)) (by decide) (by decide) (by decide)
theorem Yi:Valid s4:=fun W h=>uX [52] W h (by decide) (fun W=>qo [52] 52 [] W rfl (by decide) (by decide) (by rfl)) (by decide) (by decide) (by decide)
def Yn (s:ByteArray) (a:Nm.Fr):Prop:=∀ W,Glob W→Calls Tryz.prog 99 #[.string s] W fun e w'=>e= .returned (fQ a)∧Below W.heap.size W w'
theorem FD:Yn s0 ⟨0,1⟩:=fun W h=>rP [48] 0 W h (by decide) (by decide) (by decide) (by decide) (by rfl) (by decide) (by decide) (by decide)
theorem WG:Yn s1 ⟨1,1⟩:=fun W h=>rP [49] 1 W h (by decide) (by decide) (by decide) (by decide) (by rfl) (by decide) (by decide) (by decide)
theorem YT:Yn s2 ⟨2,1⟩:=fun W h=>rP [50] 2 W h (by decide) (by decide) (by decide) (by decide) (by rfl) (by decide) (by decide) (by decide)
theorem agj:Yn s4 ⟨4,1⟩:=fun W h=>rP [52] 4 W h (by decide) (by decide) (by decide) (by decide) (by rfl) (by decide) (by decide) (by decide)
def KO (p:Nm.Pl) (v:Nm.gZ):Prop:=Yn p.1 v.1∧Yn p.2 v.2
def Nm.Tf (b p:Nm.gZ) (d:Nm.Fr):Bool:=Nm.EO b && Nm.EO p && Nm.ML (Nm.oZ b p) (Nm.oZ b p) && Nm.ok d && Nm.ok (Nm.iR (Nm.oZ b p) (Nm.oZ b p)) && Nm.ok (Nm.mul d d)
def Nm.near (b p:Nm.gZ) (d:Nm.Fr):Bool:=decide (Nm.cmp (Nm.iR (Nm.oZ b p) (Nm.oZ b p)) (Nm.mul d d)<0)
theorem KY (b p:Nm.Pl) (vb vp:Nm.gZ) (d:Nm.Fr) (Bp Bd:Nat) (w:World) (hg:Glob w) (hb:KO b vb) (hp:KO p vp) (hP:Held w Bp (jr p) 114) (hD:Held w Bd (aj d) 164) (h:Nm.Tf vb vp d=true):
 Calls Tryz.prog 152 #[plV b,ptr Bp,ptr Bd] w fun e w'=>e= .returned (.bool (Nm.near vb vp d))∧Below w.heap.size w w':=by
 unfold Nm.Tf at h
 simp only [Bool.and_eq_true] at h
 obtain ⟨⟨⟨⟨⟨h1,h2⟩,h3⟩,h4⟩,h5⟩,h6⟩:=h;have HL:=fun W=>BF vb vp W h1 h2;have H2:=fun W=>uZ _ _ W h3;have H3:=fun W=>iG d d W h4 h4;have H4:=fun W=>Fz _ _ W h5 h6
 unfold Nm.near
 obtain ⟨u,hu⟩:∃ q,Nm.oZ vb vp=q:=⟨_,rfl⟩
 simp only [hu] at HL H2 H4 ⊢
 obtain ⟨n,hn⟩:∃ q,Nm.iR u u=q:=⟨_,rfl⟩
 simp only [hn] at H2 H4 ⊢
 obtain ⟨m,hm⟩:∃ q,Nm.mul d d=q:=⟨_,rfl⟩
 simp only [hm] at H3 H4 ⊢
 obtain ⟨k,hk⟩:∃ q,Nm.cmp n m=q:=⟨_,rfl⟩
 simp only [hk] at H4 ⊢
 clear hu hn hm hk h1 h2 h3 h4 h5 h6;have HO:=hide (fun W (h:Glob W)=>G6 b.1 b.2 vb.1 vb.2 W h hb.1 hb.2);have HQ:=hide (fun W (h:Glob W)=>G6 p.1 p.2 vp.1 vp.2 W h hp.1 hp.2);have HL:=hide HL;have H2:=hide H2;have H3:=hide H3;have H4:=hide H4;clear hb hp
 go_enter Tryz.func152,Tryz.ntmps152
 go_upto_region 0 with (fail)
 go_cut [3,4] (fun v3 v4 wx=>v3=ptr (w.heap.size)∧v4= .bool false∧Bx w wx [(w.heap.size,jr b,114)])
 case first=>
  go_wp2;go_meet;exact ⟨rfl,rfl,Bx.of ((aJ.nil w).new (by simp) (jr b) 114) _ rfl⟩
 case rest=>
  obtain ⟨rfl,rfl,hL⟩:=hcut
  go_upto_region 1 with (fail)
  go_cut [5] from 6 to 11 (fun v5 wx=>∃ B5,v5=ptr B5∧Bx w wx [(B5,bK (u),170),(w.heap.size,jr b,114)])
  case first=>
   have TY:∀ W:World,Bx w W [(w.heap.size,jr b,114)]→W.rangeAt (w.heap.size) 0 (jr b):=fun W h=>h.rng 0 rfl 0 _ rfl;have Zy:∀ W:World,Bx w W [(w.heap.size,jr b,114)]→W.rangeAt (Bp) 0 (jr p):=fun W h=>(hP.below h.bw).range;have hL:=hL.drew;refine wp_region_held_drew (S:=(fun w':World=>Bx w w' [(w.heap.size,jr b,114)])) (by kernel_rfl) ?bW (fun hHeld=>?_)
   case bW=>exact hL
   refine bJ 0 TY Tryz.underlying114 ?_;refine bJ 2 Zy Tryz.underlying114 ?_;refine iF 1 5 (fun K hK=>?_) fun K hK=>?_
   · go_simp
     (go_at_call 102;refine (HO.out _ (hg.below hL.bw)).mono ?_;rintro e w1a ⟨rfl,OC⟩)
     have hL:=hL.call OC;refine ay hK (by first | exact hL | exact hL.tail) fun hHeld=>?_;clear hK K;refine iF 3 5 (fun K hK=>?_) fun K hK=>?_
     · go_simp
       (go_at_call 102;refine (HQ.out _ (hg.below hL.bw)).mono ?_;rintro e YK ⟨rfl,OD⟩)
       have hL:=hL.call OD;refine ay hK (by first | exact hL | exact hL.tail) fun hHeld=>?_;clear hK K;refine iF 4 5 (fun K hK=>?_) fun K hK=>?_
       · go_simp
         (go_at_call 153;refine (HL.out _).mono ?_;rintro e w1c ⟨rfl,Ea⟩)
         have hL:=hL.call Ea;refine ay hK (by first | exact hL | exact hL.tail) fun hHeld=>?_;clear hK K;refine aG 5 fun K hK=>?_;go_simp;have hL:=hL.add (bK (⟨0,0⟩,⟨0,0⟩)) 170;refine ay hK (hL.tail) fun hHeld=>?_;clear hK K;refine aG 6 fun K hK=>?_;refine aU hL.head (bK (u)) rfl lS (wE _) (.tmp 5) (.tmp 10) rfl rfl rfl ?_;have hL:=hL.put (bK (u)) rfl;refine ay hK (hL.tail) fun hHeld=>?_;clear hK K;refine wpAnyH_done (by kernel_rfl) ?_ _;go_wp2;go_meet;exact ⟨_,rfl,hL⟩
       · go_simp
         have hL:=hL.add (bK (⟨0,0⟩,⟨0,0⟩)) 170;refine ay hK (hL.tail) fun hHeld=>?_;clear hK K;refine aG 4 fun K hK=>?_;go_simp
         (go_at_call 153;refine (HL.out _).mono ?_;rintro e w1c ⟨rfl,Ea⟩)
         have hL:=hL.call Ea;refine ay hK (by first | exact hL | exact hL.tail) fun hHeld=>?_;clear hK K;refine aG 6 fun K hK=>?_;refine aU hL.head (bK (u)) rfl lS (wE _) (.tmp 5) (.tmp 10) rfl rfl rfl ?_;have hL:=hL.put (bK (u)) rfl;refine ay hK (hL.tail) fun hHeld=>?_;clear hK K;refine wpAnyH_done (by kernel_rfl) ?_ _;go_wp2;go_meet;exact ⟨_,rfl,hL⟩
     · go_simp
       have hL:=hL.add (bK (⟨0,0⟩,⟨0,0⟩)) 170;refine ay hK (hL.tail) fun hHeld=>?_;clear hK K;refine aG 3 fun K hK=>?_;go_simp
       (go_at_call 102;refine (HQ.out _ (hg.below hL.bw)).mono ?_;rintro e YK ⟨rfl,OD⟩)
       have hL:=hL.call OD;refine ay hK (by first | exact hL | exact hL.tail) fun hHeld=>?_;clear hK K;refine aG 4 fun K hK=>?_;go_simp
       (go_at_call 153;refine (HL.out _).mono ?_;rintro e w1c ⟨rfl,Ea⟩)
       have hL:=hL.call Ea;refine ay hK (by first | exact hL | exact hL.tail) fun hHeld=>?_;clear hK K;refine aG 6 fun K hK=>?_;refine aU hL.head (bK (u)) rfl lS (wE _) (.tmp 5) (.tmp 10) rfl rfl rfl ?_;have hL:=hL.put (bK (u)) rfl;refine ay hK (hL.tail) fun hHeld=>?_;clear hK K;refine wpAnyH_done (by kernel_rfl) ?_ _;go_wp2;go_meet;exact ⟨_,rfl,hL⟩
   · go_simp
     have hL:=hL.add (bK (⟨0,0⟩,⟨0,0⟩)) 170;refine ay hK (hL.tail) fun hHeld=>?_;clear hK K;refine aG 1 fun K hK=>?_;go_simp
     (go_at_call 102;refine (HO.out _ (hg.below hL.bw)).mono ?_;rintro e w1a ⟨rfl,OC⟩)
     have hL:=hL.call OC;refine ay hK (by first | exact hL | exact hL.tail) fun hHeld=>?_;clear hK K;refine aG 3 fun K hK=>?_;go_simp
     (go_at_call 102;refine (HQ.out _ (hg.below hL.bw)).mono ?_;rintro e YK ⟨rfl,OD⟩)
     have hL:=hL.call OD;refine ay hK (by first | exact hL | exact hL.tail) fun hHeld=>?_;clear hK K;refine aG 4 fun K hK=>?_;go_simp
     (go_at_call 153;refine (HL.out _).mono ?_;rintro e w1c ⟨rfl,Ea⟩)
     have hL:=hL.call Ea;refine ay hK (by first | exact hL | exact hL.tail) fun hHeld=>?_;clear hK K;refine aG 6 fun K hK=>?_;refine aU hL.head (bK (u)) rfl lS (wE _) (.tmp 5) (.tmp 10) rfl rfl rfl ?_;have hL:=hL.put (bK (u)) rfl;refine ay hK (hL.tail) fun hHeld=>?_;clear hK K;refine wpAnyH_done (by kernel_rfl) ?_ _;go_wp2;go_meet;exact ⟨_,rfl,hL⟩
  case rest=>
   obtain ⟨B5,rfl,hL⟩:=hcut
   go_upto_region 2 with (fail)
   have zC:∀ W:World,Bx w W [(B5,bK (u),170),(w.heap.size,jr b,114)]→W.rangeAt (B5) 0 (bK (u)):=fun W h=>h.rng 0 rfl 0 _ rfl;have VA:∀ W:World,Bx w W [(B5,bK (u),170),(w.heap.size,jr b,114)]→W.rangeAt (Bd) 0 (aj d):=fun W h=>(hD.below h.bw).range;have hL:=hL.drew;refine wp_region_held_drew (S:=(fun w':World=>Bx w w' [(B5,bK (u),170),(w.heap.size,jr b,114)])) (by kernel_rfl) ?dI (fun hHeld=>?_)
   case dI=>exact hL
   refine bJ 0 zC Tryz.underlying170 ?_;refine bJ 1 zC Tryz.underlying170 ?_;refine bJ 3 VA Tryz.underlying164 ?_;refine bJ 4 VA Tryz.underlying164 ?_;refine aG 2 fun K hK=>?_;go_simp
   (go_at_call 154;refine (H2.out _).mono ?_;rintro e w2a ⟨rfl,OE⟩)
   have hL:=hL.call OE;refine ay hK (hL) fun hHeld=>?_;clear hK K;refine aG 5 fun K hK=>?_;go_simp
   (go_at_call 156;refine (H3.out _).mono ?_;rintro e w2b ⟨rfl,OG⟩)
   have hL:=hL.call OG;refine ay hK (hL) fun hHeld=>?_;clear hK K;refine aG 6 fun K hK=>?_;go_simp
   (go_at_call 155;refine (H4.out _).mono ?_;rintro e w2c ⟨rfl,Xa⟩)
   have hL:=hL.call Xa;refine ay hK (hL) fun hHeld=>?_;clear hK K;refine aF 7 ?_;refine aF 8 ?_;refine wpAnyH_done (by kernel_rfl) ?_ _;go_wp2;go_ret;exact ⟨rfl,hL.bw⟩
def Hz (l:List Nm.Pl) (vec:Nm.Pl→Nm.gZ):Prop:=∀ p∈l,KO p (vec p)
theorem Oc (S:Nat→Prop) (A:Option Addr) (c:Nat) (l:List Nm.Pl) (vec:Nm.Pl→Nm.gZ) (p:Nm.Pl) (d:Nm.Fr) (w:World) (hg:Glob w) (hr:Reads w S 2 A l.length c (l.flatMap jr)) (hl:Hz l vec) (hp:KO p (vec p)) (hk:∀ b∈l,Nm.Tf (vec b) (vec p) d=true):
 Calls Tryz.prog 100 #[plV p,.slice A l.length c,fQ d] w fun e w'=>e= .returned (.bool (!(l.any fun b=>Nm.near (vec b) (vec p) d)))∧Below w.heap.size w w':=by
 obtain ⟨z,hz⟩:∃ q,(l.any fun b=>Nm.near (vec b) (vec p) d)=q:=⟨_,rfl⟩;have hcon:=fun (g:Nat) (lb:Array Value) (W:World) (hr:Reads W S 2 A l.length c (l.flatMap jr)) (hs:yM jr g lb l (fun b=>Nm.near (vec b) (vec p) d) W)=>zo S A c l g lb _ W hr hs
 simp only [hz] at hcon ⊢
 clear hz;have HC:=hide hcon;clear hcon
 go_enter Tryz.func100,Tryz.ntmps100
 go_upto_region 0 with (fail)
 go_cut [3,5,6] (fun v3 v5 v6 wx=>v3=ptr (w.heap.size)∧v5=ptr (w.heap.size+1)∧v6= .bool false∧Bx w wx [(w.heap.size,jr p,114),(w.heap.size+1,aj d,164)])
 case first=>
  go_wp2;go_meet;exact ⟨rfl,rfl,rfl,Bx.of (((aJ.nil w).new (by simp) (jr p) 114).new (by simp) (aj d) 164) _ rfl⟩
 case rest=>
  obtain ⟨rfl,rfl,rfl,hL⟩:=hcut;have hrd:=Reads.below hr hL.bw;have hgc:=hg.below hL.bw;have HS:=hide (show yM jr 152 #[ptr w.heap.size,ptr (w.heap.size+1)] l (fun b=>Nm.near (vec b) (vec p) d) wc from ⟨fun _ _=>rfl,fun W b hm hb=>(KY b p (vec b) (vec p) d w.heap.size (w.heap.size+1) W (hgc.below hb) (hl b hm) hp ((hL.get 0 rfl).below hb) ((hL.get 1 rfl).below hb) (hk b hm)).mono (fun e w' ⟨e1,e2⟩=>⟨e1,hb.trans (e2.mono hb.size)⟩)⟩);clear hk hl hp hgc
  go_wp2_with (go_at_call 151;refine (HC.out _ _ _ hrd HS.out).mono ?_;rintro e w1 ⟨rfl,hb1⟩;have hL:=hL.call hb1)
  go_ret;exact ⟨rfl,hL.bw⟩
theorem wM (S:Nat→Prop) (A:Option Addr) (c:Nat) (l:List Nm.Pl) (w:World) (hg:Glob w) (hr:Reads w S 2 A l.length c (l.flatMap jr)) (hl:∀ p∈l,Valid p.1∧Valid p.2):
 Calls Tryz.prog 144 #[.slice A l.length c] w fun e w'=>e= .returned (.int .i64 0)∧Below w.heap.size w w':=by
 obtain ⟨b1,b2,b3⟩:=hr.bd
 go_enter Tryz.func144,Tryz.ntmps144
 go_wp2
 go_loopw [8] (fun i wr=>∃ k:Nat,k≤l.length∧i= .int .i64 k∧Aside (Below w.heap.size w wr)) (fun i _=>l.length - (intOf i).toNat)
 case atStart=>exact ⟨0,Nat.zero_le _,rfl,Below.refl _ _⟩
 case round=>
  obtain ⟨k,hk,rfl,hbw⟩:=hrel
  by_cases hlt:k<l.length
  · obtain ⟨b,o,rfl,_,hbl,hc⟩:=Reads.at_ hr (by omega)
    have hrg:wr.rangeAt b (o+k*2) (jr l[k]):=fun j v hj=>by
     have h2:=hc _ _ (uD (f:=jr) (n:=2) (fun _=>rfl) k hlt (j:=j) (v:=v) hj);rw [← Nat.add_assoc] at h2;exact (hbw.out.cell (p:=⟨b,o+k*2+j,none⟩) hbl).trans h2
    have hgr:=hg.below hbw.out;obtain ⟨hv1,hv2⟩:=hl _ (List.getElem_mem hlt);obtain ⟨p,hp⟩:∃ q,l[k]=q:=⟨_,rfl⟩;rw [hp] at hrg hv1 hv2;have HC:=hide (fun W (h:Glob W)=>sZ p.1 p.2 W h hv1 hv2);clear hc hl hp hv1 hv2;have hA:=(Bx.nil wr).add [.string ⟨#[]⟩,.string ⟨#[]⟩] 114
    go_upto_region 4 with (first | ((with_reducible (refine ah 114 (.tmp 10) ?lx ?_));(case lx=>rfl);refine aK hrg Tryz.underlying114 rfl nN rfl (.tmp 10) rfl rfl ?_) | ((with_reducible (refine aH 114 (.tmp 4) (.tmp 11) ?lx ?_));(case lx=>rfl);refine aC (hA.head) (jr p) rfl nN (PD p.1 p.2) rfl (.tmp 4) (.tmp 11) rfl rfl rfl ?_))
    have hL:=hA.put (jr p) rfl
    go_wp2_with (first | ((with_reducible (refine ah 114 (.tmp 4) ?lx ?_));(case lx=>rfl);refine au (hL.head) Tryz.underlying114 rfl nN rfl (.tmp 4) rfl rfl ?_) | (go_at_call 145;refine (HC.out _ (hgr.below hL.bw)).mono ?_;rintro e w1 ⟨rfl,hb1⟩;have hL:=hL.call hb1))
    go_roundw
    case rel=>exact ⟨k+1,by omega,by go_num,hbw.out.trans (hL.bw.mono hbw.out.size)⟩
    case measure=>simp [intOf];omega
  · go_wp2
    go_ret;exact ⟨rfl,hbw.out⟩
def Nm.EY (spot b:Nm.gZ):Nm.gZ:=Nm.oZ b spot
def Nm.nY (spot along b:Nm.gZ):Nm.Fr:=Nm.iR (Nm.EY spot b) along
def Nm.YE (spot:Nm.gZ) (d:Nm.Fr) (b:Nm.gZ):Nm.Fr:=Nm.sub (Nm.iR (Nm.EY spot b) (Nm.EY spot b)) (Nm.mul d d)
def Nm.YF (spot along:Nm.gZ) (d:Nm.Fr) (b:Nm.gZ):Nm.Fr:=Nm.mul (Nm.iR along along) (Nm.YE spot d b)
def Nm.YD (spot along:Nm.gZ) (d:Nm.Fr) (b:Nm.gZ):Nm.Fr:=Nm.sub (Nm.mul (Nm.nY spot along b) (Nm.nY spot along b)) (Nm.YF spot along d b)
def Nm.Po (spot along:Nm.gZ) (d:Nm.Fr) (b:Nm.gZ):Nm.nT:=(Nm.div (Nm.nY spot along b) (Nm.iR along along),Nm.div ⟨1,1⟩ (Nm.iR along along),Nm.YD spot along d b)
def Nm.VN (spot along:Nm.gZ) (d:Nm.Fr) (b:Nm.gZ):Nm.Hu:=(((Nm.Po spot along d b).1,Nm.neg (Nm.Po spot along d b).2.1,(Nm.Po spot along d b).2.2),Nm.Po spot along d b)
def Nm.XB (spot along:Nm.gZ) (d:Nm.Fr) (b:Nm.gZ):Bool:=
 Nm.EO b && Nm.EO spot && Nm.ML (Nm.EY spot b) along && Nm.ok (Nm.nY spot along b) && Nm.ML (Nm.EY spot b) (Nm.EY spot b) && Nm.ok (Nm.iR (Nm.EY spot b) (Nm.EY spot b)) && Nm.ok d && Nm.ok (Nm.mul d d) && Nm.ok (Nm.YE spot d b) &&
 Nm.ok (Nm.YF spot along d b) && Nm.ok (Nm.mul (Nm.nY spot along b) (Nm.nY spot along b)) && decide (0<Nm.og (Nm.YD spot along d b).n) && Nm.ok (Nm.Po spot along d b).2.1
theorem La:(Tryz.prog.info? 175).map (fun i=>(i.zero,i.size,i.bytes))=some (some (.agg #[.int .i64 0,.slice none 0 0,.int .i64 0,.slice none 0 0,.int .i64 0,.slice none 0 0,.int .i64 0,.slice none 0 0,.int .i64 0,.slice none 0 0,.int .i64 0,.slice none 0 0,.int .i64 0,.slice none 0 0,.int .i64 0,.slice none 0 0,.int .i64 0,.slice none 0 0,.int .i64 0,.slice none 0 0,.int .i64 0,.slice none 0 0,.int .i64 0,.slice none 0 0,.bool false]),25,392):=by kernel_rfl
theorem Pm (S:Nat→Prop) (A:Option Addr) (c:Nat) (l:List Nm.Pl) (vec:Nm.Pl→Nm.gZ) (spot along:Nm.gZ) (d:Nm.Fr) (w:World) (hg:Glob w) (hr:Reads w S 2 A l.length c (l.flatMap jr)) (hl:Hz l vec) (hlen:l.length≤100)
 (haa:Nm.ML along along=true) (hao:Nm.ok (Nm.iR along along)=true) (hap:0<(Nm.iR along along).n) (hai:Nm.ok (Nm.inv (Nm.iR along along))=true) (hk:∀ b∈l,Nm.XB spot along d (vec b)=true):
 Calls Tryz.prog 101 #[VT spot,.slice A l.length c,VT along,fQ d] w fun e w'=>∃ A2 c2,e= .returned (.slice A2 l.length c2)∧Reads w' (fun b=>w.heap.size≤b) 25 A2 l.length c2 ((l.map fun b=>Nm.VN spot along d (vec b)).flatMap dN)∧Below w.heap.size w w':=by
 obtain ⟨b1,b2,b3⟩:=hr.bd;obtain ⟨i0,hi0,hz0,hz1,hz2⟩:=info_parts La;have HAA:=hide (fun W=>uZ along along W haa);have HK:=hide hk;have HL:=hide hl;clear hk hl
 go_enter Tryz.func101,Tryz.ntmps101
 go_upto_region 0 with (fail)
 go_cut [4,6,7,8] (fun v4 v6 v7 v8 wx=>v4=ptr (w.heap.size)∧v6=ptr (w.heap.size+1)∧v7=ptr (w.heap.size+2)∧v8= .slice none 0 0∧Bx w wx [(w.heap.size,bK spot,170),(w.heap.size+1,bK along,170),(w.heap.size+2,aj d,164)])
 case first=>
  go_wp2;go_meet;exact ⟨rfl,rfl,rfl,rfl,Bx.of ((((aJ.nil w).new (by simp) (bK spot) 170).new (by simp) (bK along) 170).new (by simp) (aj d) 164) _ rfl⟩
 case rest=>
  obtain ⟨rfl,rfl,rfl,rfl,hL⟩:=hcut
  go_upto_region 2 with (fail)
  go_cut [10] (fun v10 wx=>∃ B10,v10=ptr B10∧Bx w wx [(B10,aj (Nm.iR along along),164),(w.heap.size,bK spot,170),(w.heap.size+1,bK along,170),(w.heap.size+2,aj d,164)])
  case first=>
   go_wp2_with (first | ((with_reducible (refine ah 170 (.tmp 6) ?lx ?_));(case lx=>rfl);refine au (hL.get 1 rfl) Tryz.underlying170 rfl lS rfl (.tmp 6) rfl rfl ?_) | (go_at_call 154;refine (HAA.out _).mono ?_;rintro e w1 ⟨rfl,hb1⟩;have hL:=hL.call hb1) | ((with_reducible (refine aH 164 (.tmp 10) (.tmp 19) ?lx ?_));(case lx=>rfl);refine aC ((hL.add (aj ⟨0,0⟩) 164).head) (aj (Nm.iR along along)) rfl aZ (fK _) rfl (.tmp 10) (.tmp 19) rfl rfl rfl ?_))
   go_meet;exact ⟨_,rfl,(hL.add (aj ⟨0,0⟩) 164).put (aj (Nm.iR along along)) rfl⟩
  case rest=>
   obtain ⟨B10,rfl,hL⟩:=hcut
   rename World=>w1
   have hrd:=Reads.below hr hL.bw;have hg1:=hg.below hL.bw;have hDw:=hL.bw.size;have hOD:=hL.lt;have atA:Below w1.heap.size w1 w1:=Below.refl _ _;obtain ⟨Dq,hDq⟩:∃ q,w1.heap.size=q:=⟨_,rfl⟩;rw [hDq] at hDw hOD;obtain ⟨LL,hLL⟩:∃ q,q=[(B10,aj (Nm.iR along along),164),(w.heap.size,bK spot,170),(w.heap.size+1,bK along,170),(w.heap.size+2,aj d,164)]:=⟨_,rfl⟩;go_wp2
   go_loopw [9,22] (fun v9 i wr=>∃ (k:Nat) (v:Value),k≤l.length∧i= .int .i64 k∧v9=v∧wr.ownsRow Dq 175 25 v k (((l.take k).map fun b=>Nm.VN spot along d (vec b)).flatMap dN)∧Dq≤wr.heap.size∧Bx w wr [(B10,aj (Nm.iR along along),164),(w.heap.size,bK spot,170),(w.heap.size+1,bK along,170),(w.heap.size+2,aj d,164)]) (fun _ i _=>l.length - (intOf i).toNat)
   case atStart=>exact ⟨0,_,Nat.zero_le _,rfl,rfl,by simpa using World.ownsRow_nil _ _ _ _,by omega,hL⟩
   case round=>
    obtain ⟨k,rv,hk,rfl,e9,hown,au5,hO⟩:=hrel;rw [e9];clear e9;clear hL
    by_cases hlt:k<l.length
    · obtain ⟨b',o,rfl,_,hbl,hc⟩:=Reads.at_ hr (by omega)
      have hrg:wr.rangeAt b' (o+k*2) (jr l[k]):=fun j v hj=>by
       have h2:=hc _ _ (uD (f:=jr) (n:=2) (fun _=>rfl) k hlt (j:=j) (v:=v) hj);rw [← Nat.add_assoc] at h2;exact (hO.bw.cell (p:=⟨b',o+k*2+j,none⟩) hbl).trans h2
      have hg:=hg.below hO.bw;have hpi:=HL.out _ (List.getElem_mem hlt);have hok:=HK.out _ (List.getElem_mem hlt)
      unfold Nm.XB at hok
      simp only [Bool.and_eq_true,decide_eq_true_eq] at hok
      obtain ⟨⟨⟨⟨⟨⟨⟨⟨⟨⟨⟨⟨o1,o2⟩,o3⟩,o4⟩,o5⟩,o6⟩,o7⟩,o8⟩,o9⟩,oA⟩,oB⟩,oC⟩,oD⟩:=hok;have Zf:∀ b,rv.ownBlock=some b→b<wr.heap.size:=fun b h=>(Array.getElem?_eq_some_iff.1 (fV hown h).2.choose_spec.1).1;have ahl:∀ b,rv.ownBlock=some b→Dq≤b:=fun b h=>(fV hown h).1;have hOw:Hid (∀ {W:World},Below wr.heap.size wr W→W.ownsRow Dq 175 25 rv k (((l.take k).map fun b=>Nm.VN spot along d (vec b)).flatMap dN)):=hide (fun hb=>jm hown (fun g hg=>hb.block g (Zf g hg)))
      have hnx:((l.take (k+1)).map fun b=>Nm.VN spot along d (vec b)).flatMap dN=((l.take k).map fun b=>Nm.VN spot along d (vec b)).flatMap dN++dN (Nm.VN spot along d (vec l[k])):=by
       rw [List.take_succ_eq_append_getElem hlt,List.map_append,List.flatMap_append,List.map_cons,List.map_nil,List.flatMap_cons,List.flatMap_nil,List.append_nil]
      obtain ⟨b,hbe⟩:∃ q,l[k]=q:=⟨_,rfl⟩
      simp only [hbe] at hrg hpi o1 o2 o3 o4 o5 o6 o7 o8 o9 oA oB oC oD hnx
      have HO:=fun W (h:Glob W)=>G6 b.1 b.2 (vec b).1 (vec b).2 W h hpi.1 hpi.2;have HV:=fun W=>BF (vec b) spot W o1 o2;have HA:=fun W=>uZ (Nm.EY spot (vec b)) along W o3;have M1:=fun W=>iG (Nm.nY spot along (vec b)) (Nm.nY spot along (vec b)) W o4 o4;have M2:=fun W=>uZ (Nm.EY spot (vec b)) (Nm.EY spot (vec b)) W o5;have M3:=fun W=>iG d d W o7 o7;have M4:=fun W=>qK (Nm.iR (Nm.EY spot (vec b)) (Nm.EY spot (vec b))) (Nm.mul d d) W o6 o8;have M5:=fun W=>iG (Nm.iR along along) (Nm.YE spot d (vec b)) W hao o9;have M6:=fun W=>qK (Nm.mul (Nm.nY spot along (vec b)) (Nm.nY spot along (vec b))) (Nm.YF spot along d (vec b)) W oB oA;have MS:=fun W=>jY (Nm.YD spot along d (vec b)) W;have M7:=fun W=>FB (Nm.nY spot along (vec b)) (Nm.iR along along) W o4 hao hap hai;have M8:=fun W=>FB ⟨1,1⟩ (Nm.iR along along) W rfl hao hap hai;have oD':=(kG.1 oD).1;have M9:=fun W=>FC (Nm.Po spot along d (vec b)).2.1 W (by omega) (by omega);have Vs:Nm.VN spot along d (vec b)=(((Nm.Po spot along d (vec b)).1,Nm.neg (Nm.Po spot along d (vec b)).2.1,(Nm.Po spot along d (vec b)).2.2),Nm.Po spot along d (vec b)):=rfl;have e1:Nm.oZ (vec b) spot=Nm.EY spot (vec b):=rfl;have e2:Nm.iR (Nm.EY spot (vec b)) along=Nm.nY spot along (vec b):=rfl;have e3:Nm.sub (Nm.iR (Nm.EY spot (vec b)) (Nm.EY spot (vec b))) (Nm.mul d d)=Nm.YE spot d (vec b):=rfl;have e4:Nm.mul (Nm.iR along along) (Nm.YE spot d (vec b))=Nm.YF spot along d (vec b):=rfl;have e5:Nm.sub (Nm.mul (Nm.nY spot along (vec b)) (Nm.nY spot along (vec b))) (Nm.YF spot along d (vec b))=Nm.YD spot along d (vec b):=rfl;have e6:Nm.Po spot along d (vec b)=(Nm.div (Nm.nY spot along (vec b)) (Nm.iR along along),Nm.div ⟨1,1⟩ (Nm.iR along along),Nm.YD spot along d (vec b)):=rfl
      simp only [e1] at HV
      simp only [e2] at HA
      simp only [e3] at M4
      simp only [e4] at M5
      simp only [e5] at M6
      simp only [e6] at M9 Vs
      clear e1 e2 e3 e4 e5 e6 o1 o2 o3 o4 o5 o6 o7 o8 o9 oA oB oD oD' hc hbe hpi;obtain ⟨v,hv⟩:∃ q,Nm.EY spot (vec b)=q:=⟨_,rfl⟩
      simp only [hv] at HV HA M2 M4
      obtain ⟨va,hva⟩:∃ q,Nm.nY spot along (vec b)=q:=⟨_,rfl⟩
      simp only [hva] at HA M1 M6 M7 M9 Vs
      obtain ⟨vv,hvv⟩:∃ q,Nm.iR v v=q:=⟨_,rfl⟩
      simp only [hvv] at M2 M4
      obtain ⟨dd,hdd⟩:∃ q,Nm.mul d d=q:=⟨_,rfl⟩
      simp only [hdd] at M3 M4
      obtain ⟨E,hE⟩:∃ q,Nm.YE spot d (vec b)=q:=⟨_,rfl⟩
      simp only [hE] at M4 M5
      obtain ⟨Fq,hFq⟩:∃ q,Nm.YF spot along d (vec b)=q:=⟨_,rfl⟩
      simp only [hFq] at M5 M6
      obtain ⟨m,hm⟩:∃ q,Nm.mul va va=q:=⟨_,rfl⟩
      simp only [hm] at M1 M6
      obtain ⟨D,hD⟩:∃ q,Nm.YD spot along d (vec b)=q:=⟨_,rfl⟩
      simp only [hD] at M6 MS oC M9 Vs
      obtain ⟨xa,hxa⟩:∃ q,Nm.div va (Nm.iR along along)=q:=⟨_,rfl⟩
      simp only [hxa] at M7 M9 Vs
      obtain ⟨xb,hxb⟩:∃ q,Nm.div ⟨1,1⟩ (Nm.iR along along)=q:=⟨_,rfl⟩
      simp only [hxb] at M8 M9 Vs
      obtain ⟨nb,hnb⟩:∃ q,Nm.neg xb=q:=⟨_,rfl⟩
      simp only [hnb] at M9 Vs
      rw [Vs] at hnx;have HNX:=hide hnx;have hsg:decide (Nm.og D.n≤0)=false:=decide_eq_false (by omega);clear hv hva hvv hdd hE hFq hm hD hxa hxb hnb Vs hnx oC;have HO:=hide HO;have HV:=hide HV;have HA:=hide HA;have M1:=hide M1;have M2:=hide M2;have M3:=hide M3;have M4:=hide M4;have M5:=hide M5;have M6:=hide M6;have MS:=hide MS;have M7:=hide M7;have M8:=hide M8;have M9:=hide M9
      go_upto_region 5 with (fail)
      go_cut [12] from 23 to 26 (fun v12 wx=>∃ pF,v12=ptr pF∧Bx wr wx [(pF,jr b,114)])
      case first=>
       go_wp2_with (first | ((with_reducible (refine ah 114 (.tmp 24) ?lx ?_));(case lx=>rfl);refine aK hrg Tryz.underlying114 rfl nN rfl (.tmp 24) rfl rfl ?_) | ((with_reducible (refine aH 114 (.tmp 12) (.tmp 25) ?lx ?_));(case lx=>rfl);refine aC (((Bx.nil wr).add [.string ⟨#[]⟩,.string ⟨#[]⟩] 114).head) (jr b) rfl nN (PD b.1 b.2) rfl (.tmp 12) (.tmp 25) rfl rfl rfl ?_))
       go_meet;exact ⟨_,rfl,((Bx.nil wr).add [.string ⟨#[]⟩,.string ⟨#[]⟩] 114).put (jr b) rfl⟩
      case rest=>
       obtain ⟨pF,rfl,hL⟩:=hcut;clear hrg
       go_upto_region 6 with (fail)
       go_cut [13] from 26 to 30 (fun v13 wx=>∃ BL,v13=ptr BL∧Bx wr wx [(BL,bK (v),170),(pF,jr b,114)])
       case first=>
        have LK:∀ W:World,Bx wr W [(pF,jr b,114)]→W.rangeAt (pF) 0 (jr b):=fun W h=>h.rng 0 rfl 0 _ rfl;have ZH:∀ W:World,Bx wr W [(pF,jr b,114)]→W.rangeAt (w.heap.size) 0 (bK spot):=fun W h=>((hO.get 1 rfl).below h.bw).range;have hL:=hL.drew;refine wp_region_held_drew (S:=(fun w':World=>Bx wr w' [(pF,jr b,114)])) (by kernel_rfl) ?bW (fun hHeld=>?_)
        case bW=>exact hL
        refine bJ 0 LK Tryz.underlying114 ?_;refine bJ 2 ZH Tryz.underlying170 ?_;refine iF 1 4 (fun K hK=>?_) fun K hK=>?_
        · go_simp
          (go_at_call 102;refine (HO.out _ (hg.below hL.bw)).mono ?_;rintro e w6a ⟨rfl,Ec⟩)
          have hL:=hL.call Ec;refine ay hK (by first | exact hL | exact hL.tail) fun hHeld=>?_;clear hK K;refine iF 3 4 (fun K hK=>?_) fun K hK=>?_
          · go_simp
            (go_at_call 153;refine (HV.out _).mono ?_;rintro e w6b ⟨rfl,Ed⟩)
            have hL:=hL.call Ed;refine ay hK (by first | exact hL | exact hL.tail) fun hHeld=>?_;clear hK K;refine aG 4 fun K hK=>?_;go_simp;have hL:=hL.add (bK (⟨0,0⟩,⟨0,0⟩)) 170;refine ay hK (hL.tail) fun hHeld=>?_;clear hK K;refine aG 5 fun K hK=>?_;refine aU hL.head (bK (v)) rfl lS (wE _) (.tmp 13) (.tmp 29) rfl rfl rfl ?_;have hL:=hL.put (bK (v)) rfl;refine ay hK (hL.tail) fun hHeld=>?_;clear hK K;refine wpAnyH_done (by kernel_rfl) ?_ _;go_wp2;go_meet;exact ⟨_,rfl,hL⟩
          · go_simp
            have hL:=hL.add (bK (⟨0,0⟩,⟨0,0⟩)) 170;refine ay hK (hL.tail) fun hHeld=>?_;clear hK K;refine aG 3 fun K hK=>?_;go_simp
            (go_at_call 153;refine (HV.out _).mono ?_;rintro e w6b ⟨rfl,Ed⟩)
            have hL:=hL.call Ed;refine ay hK (by first | exact hL | exact hL.tail) fun hHeld=>?_;clear hK K;refine aG 5 fun K hK=>?_;refine aU hL.head (bK (v)) rfl lS (wE _) (.tmp 13) (.tmp 29) rfl rfl rfl ?_;have hL:=hL.put (bK (v)) rfl;refine ay hK (hL.tail) fun hHeld=>?_;clear hK K;refine wpAnyH_done (by kernel_rfl) ?_ _;go_wp2;go_meet;exact ⟨_,rfl,hL⟩
        · go_simp
          have hL:=hL.add (bK (⟨0,0⟩,⟨0,0⟩)) 170;refine ay hK (hL.tail) fun hHeld=>?_;clear hK K;refine aG 1 fun K hK=>?_;go_simp
          (go_at_call 102;refine (HO.out _ (hg.below hL.bw)).mono ?_;rintro e w6a ⟨rfl,Ec⟩)
          have hL:=hL.call Ec;refine ay hK (by first | exact hL | exact hL.tail) fun hHeld=>?_;clear hK K;refine aG 3 fun K hK=>?_;go_simp
          (go_at_call 153;refine (HV.out _).mono ?_;rintro e w6b ⟨rfl,Ed⟩)
          have hL:=hL.call Ed;refine ay hK (by first | exact hL | exact hL.tail) fun hHeld=>?_;clear hK K;refine aG 5 fun K hK=>?_;refine aU hL.head (bK (v)) rfl lS (wE _) (.tmp 13) (.tmp 29) rfl rfl rfl ?_;have hL:=hL.put (bK (v)) rfl;refine ay hK (hL.tail) fun hHeld=>?_;clear hK K;refine wpAnyH_done (by kernel_rfl) ?_ _;go_wp2;go_meet;exact ⟨_,rfl,hL⟩
       case rest=>
        obtain ⟨BL,rfl,hL⟩:=hcut
        go_upto_region 7 with (fail)
        go_cut [14] from 30 to 33 (fun v14 wx=>∃ qg,v14=ptr qg∧Bx wr wx [(qg,aj (va),164),(BL,bK (v),170),(pF,jr b,114)])
        case first=>
         go_wp2_with (first | ((with_reducible (refine ah 170 (.tmp 13) ?lx ?_));(case lx=>rfl);refine au (hL.get 0 rfl) Tryz.underlying170 rfl lS rfl (.tmp 13) rfl rfl ?_) | ((with_reducible (refine ah 170 (.tmp 6) ?lx ?_));(case lx=>rfl);refine au ((hO.get 2 rfl).below hL.bw) Tryz.underlying170 rfl lS rfl (.tmp 6) rfl rfl ?_) | (go_at_call 154;refine (HA.out _).mono ?_;rintro e w7 ⟨rfl,hb7⟩;have hL:=hL.call hb7) | ((with_reducible (refine aH 164 (.tmp 14) (.tmp 32) ?lx ?_));(case lx=>rfl);refine aC ((hL.add (aj ⟨0,0⟩) 164).head) (aj (va)) rfl aZ (fK _) rfl (.tmp 14) (.tmp 32) rfl rfl rfl ?_))
         go_meet;exact ⟨_,rfl,(hL.add (aj ⟨0,0⟩) 164).put (aj (va)) rfl⟩
        case rest=>
         obtain ⟨qg,rfl,hL⟩:=hcut
         go_upto_region 8 with (fail)
         go_cut [15] from 33 to 46 (fun v15 wx=>∃ vk,v15=ptr vk∧Bx wr wx [(vk,aj (D),164),(qg,aj (va),164),(BL,bK (v),170),(pF,jr b,114)])
         case first=>
          have Dc:∀ W:World,Bx wr W [(qg,aj (va),164),(BL,bK (v),170),(pF,jr b,114)]→W.rangeAt (qg) 0 (aj (va)):=fun W h=>h.rng 0 rfl 0 _ rfl;have ZL:∀ W:World,Bx wr W [(qg,aj (va),164),(BL,bK (v),170),(pF,jr b,114)]→W.rangeAt (B10) 0 (aj (Nm.iR along along)):=fun W h=>((hO.get 0 rfl).below h.bw).range;have Df:∀ W:World,Bx wr W [(qg,aj (va),164),(BL,bK (v),170),(pF,jr b,114)]→W.rangeAt (BL) 0 (bK (v)):=fun W h=>h.rng 1 rfl 0 _ rfl;have VB:∀ W:World,Bx wr W [(qg,aj (va),164),(BL,bK (v),170),(pF,jr b,114)]→W.rangeAt (w.heap.size+2) 0 (aj d):=fun W h=>((hO.get 3 rfl).below h.bw).range;have hL:=hL.drew;refine wp_region_held_drew (S:=(fun w':World=>Bx wr w' [(qg,aj (va),164),(BL,bK (v),170),(pF,jr b,114)])) (by kernel_rfl) ?dI (fun hHeld=>?_)
          case dI=>exact hL
          refine bJ 0 Dc Tryz.underlying164 ?_;refine bJ 1 Dc Tryz.underlying164 ?_;refine bJ 3 ZL Tryz.underlying164 ?_;refine bJ 4 Df Tryz.underlying170 ?_;refine bJ 5 Df Tryz.underlying170 ?_;refine bJ 7 VB Tryz.underlying164 ?_;refine bJ 8 VB Tryz.underlying164 ?_;refine iF 2 13 (fun K hK=>?_) fun K hK=>?_
          · go_simp
            (go_at_call 156;refine (M1.out _).mono ?_;rintro e w8a ⟨rfl,OH⟩)
            have hL:=hL.call OH;refine ay hK (by first | exact hL | exact hL.tail) fun hHeld=>?_;clear hK K;refine iF 6 13 (fun K hK=>?_) fun K hK=>?_
            · go_simp
              (go_at_call 154;refine (M2.out _).mono ?_;rintro e w8b ⟨rfl,Iy⟩)
              have hL:=hL.call Iy;refine ay hK (by first | exact hL | exact hL.tail) fun hHeld=>?_;clear hK K;refine iF 9 13 (fun K hK=>?_) fun K hK=>?_
              · go_simp
                (go_at_call 156;refine (M3.out _).mono ?_;rintro e w8c ⟨rfl,Iz⟩)
                have hL:=hL.call Iz;refine ay hK (by first | exact hL | exact hL.tail) fun hHeld=>?_;clear hK K;refine iF 10 13 (fun K hK=>?_) fun K hK=>?_
                · go_simp
                  (go_at_call 157;refine (M4.out _).mono ?_;rintro e w8d ⟨rfl,Ee⟩)
                  have hL:=hL.call Ee;refine ay hK (by first | exact hL | exact hL.tail) fun hHeld=>?_;clear hK K;refine iF 11 13 (fun K hK=>?_) fun K hK=>?_
                  · go_simp
                    (go_at_call 156;refine (M5.out _).mono ?_;rintro e w8e ⟨rfl,Ag⟩)
                    have hL:=hL.call Ag;refine ay hK (by first | exact hL | exact hL.tail) fun hHeld=>?_;clear hK K;refine iF 12 13 (fun K hK=>?_) fun K hK=>?_
                    · go_simp
                      (go_at_call 157;refine (M6.out _).mono ?_;rintro e YM ⟨rfl,xX⟩)
                      have hL:=hL.call xX;refine ay hK (by first | exact hL | exact hL.tail) fun hHeld=>?_;clear hK K;refine aG 13 fun K hK=>?_;go_simp;have hL:=hL.add (aj ⟨0,0⟩) 164;refine ay hK (hL.tail) fun hHeld=>?_;clear hK K;refine aG 14 fun K hK=>?_;refine aU hL.head (aj (D)) rfl aZ (fK _) (.tmp 15) (.tmp 45) rfl rfl rfl ?_;have hL:=hL.put (aj (D)) rfl;refine ay hK (hL.tail) fun hHeld=>?_;clear hK K;refine wpAnyH_done (by kernel_rfl) ?_ _;go_wp2;go_meet;exact ⟨_,rfl,hL⟩
                    · go_simp
                      have hL:=hL.add (aj ⟨0,0⟩) 164;refine ay hK (hL.tail) fun hHeld=>?_;clear hK K;refine aG 12 fun K hK=>?_;go_simp
                      (go_at_call 157;refine (M6.out _).mono ?_;rintro e YM ⟨rfl,xX⟩)
                      have hL:=hL.call xX;refine ay hK (by first | exact hL | exact hL.tail) fun hHeld=>?_;clear hK K;refine aG 14 fun K hK=>?_;refine aU hL.head (aj (D)) rfl aZ (fK _) (.tmp 15) (.tmp 45) rfl rfl rfl ?_;have hL:=hL.put (aj (D)) rfl;refine ay hK (hL.tail) fun hHeld=>?_;clear hK K;refine wpAnyH_done (by kernel_rfl) ?_ _;go_wp2;go_meet;exact ⟨_,rfl,hL⟩
                  · go_simp
                    have hL:=hL.add (aj ⟨0,0⟩) 164;refine ay hK (hL.tail) fun hHeld=>?_;clear hK K;refine aG 11 fun K hK=>?_;go_simp
                    (go_at_call 156;refine (M5.out _).mono ?_;rintro e w8e ⟨rfl,Ag⟩)
                    have hL:=hL.call Ag;refine ay hK (by first | exact hL | exact hL.tail) fun hHeld=>?_;clear hK K;refine aG 12 fun K hK=>?_;go_simp
                    (go_at_call 157;refine (M6.out _).mono ?_;rintro e YM ⟨rfl,xX⟩)
                    have hL:=hL.call xX;refine ay hK (by first | exact hL | exact hL.tail) fun hHeld=>?_;clear hK K;refine aG 14 fun K hK=>?_;refine aU hL.head (aj (D)) rfl aZ (fK _) (.tmp 15) (.tmp 45) rfl rfl rfl ?_;have hL:=hL.put (aj (D)) rfl;refine ay hK (hL.tail) fun hHeld=>?_;clear hK K;refine wpAnyH_done (by kernel_rfl) ?_ _;go_wp2;go_meet;exact ⟨_,rfl,hL⟩
                · go_simp
                  have hL:=hL.add (aj ⟨0,0⟩) 164;refine ay hK (hL.tail) fun hHeld=>?_;clear hK K;refine aG 10 fun K hK=>?_;go_simp
                  (go_at_call 157;refine (M4.out _).mono ?_;rintro e w8d ⟨rfl,Ee⟩)
                  have hL:=hL.call Ee;refine ay hK (by first | exact hL | exact hL.tail) fun hHeld=>?_;clear hK K;refine aG 11 fun K hK=>?_;go_simp
                  (go_at_call 156;refine (M5.out _).mono ?_;rintro e w8e ⟨rfl,Ag⟩)
                  have hL:=hL.call Ag;refine ay hK (by first | exact hL | exact hL.tail) fun hHeld=>?_;clear hK K;refine aG 12 fun K hK=>?_;go_simp
                  (go_at_call 157;refine (M6.out _).mono ?_;rintro e YM ⟨rfl,xX⟩)
                  have hL:=hL.call xX;refine ay hK (by first | exact hL | exact hL.tail) fun hHeld=>?_;clear hK K;refine aG 14 fun K hK=>?_;refine aU hL.head (aj (D)) rfl aZ (fK _) (.tmp 15) (.tmp 45) rfl rfl rfl ?_;have hL:=hL.put (aj (D)) rfl;refine ay hK (hL.tail) fun hHeld=>?_;clear hK K;refine wpAnyH_done (by kernel_rfl) ?_ _;go_wp2;go_meet;exact ⟨_,rfl,hL⟩
              · go_simp
                have hL:=hL.add (aj ⟨0,0⟩) 164;refine ay hK (hL.tail) fun hHeld=>?_;clear hK K;refine aG 9 fun K hK=>?_;go_simp
                (go_at_call 156;refine (M3.out _).mono ?_;rintro e w8c ⟨rfl,Iz⟩)
                have hL:=hL.call Iz;refine ay hK (by first | exact hL | exact hL.tail) fun hHeld=>?_;clear hK K;refine aG 10 fun K hK=>?_;go_simp
                (go_at_call 157;refine (M4.out _).mono ?_;rintro e w8d ⟨rfl,Ee⟩)
                have hL:=hL.call Ee;refine ay hK (by first | exact hL | exact hL.tail) fun hHeld=>?_;clear hK K;refine aG 11 fun K hK=>?_;go_simp
                (go_at_call 156;refine (M5.out _).mono ?_;rintro e w8e ⟨rfl,Ag⟩)
                have hL:=hL.call Ag;refine ay hK (by first | exact hL | exact hL.tail) fun hHeld=>?_;clear hK K;refine aG 12 fun K hK=>?_;go_simp
                (go_at_call 157;refine (M6.out _).mono ?_;rintro e YM ⟨rfl,xX⟩)
                have hL:=hL.call xX;refine ay hK (by first | exact hL | exact hL.tail) fun hHeld=>?_;clear hK K;refine aG 14 fun K hK=>?_;refine aU hL.head (aj (D)) rfl aZ (fK _) (.tmp 15) (.tmp 45) rfl rfl rfl ?_;have hL:=hL.put (aj (D)) rfl;refine ay hK (hL.tail) fun hHeld=>?_;clear hK K;refine wpAnyH_done (by kernel_rfl) ?_ _;go_wp2;go_meet;exact ⟨_,rfl,hL⟩
            · go_simp
              have hL:=hL.add (aj ⟨0,0⟩) 164;refine ay hK (hL.tail) fun hHeld=>?_;clear hK K;refine aG 6 fun K hK=>?_;go_simp
              (go_at_call 154;refine (M2.out _).mono ?_;rintro e w8b ⟨rfl,Iy⟩)
              have hL:=hL.call Iy;refine ay hK (by first | exact hL | exact hL.tail) fun hHeld=>?_;clear hK K;refine aG 9 fun K hK=>?_;go_simp
              (go_at_call 156;refine (M3.out _).mono ?_;rintro e w8c ⟨rfl,Iz⟩)
              have hL:=hL.call Iz;refine ay hK (by first | exact hL | exact hL.tail) fun hHeld=>?_;clear hK K;refine aG 10 fun K hK=>?_;go_simp
              (go_at_call 157;refine (M4.out _).mono ?_;rintro e w8d ⟨rfl,Ee⟩)
              have hL:=hL.call Ee;refine ay hK (by first | exact hL | exact hL.tail) fun hHeld=>?_;clear hK K;refine aG 11 fun K hK=>?_;go_simp
              (go_at_call 156;refine (M5.out _).mono ?_;rintro e w8e ⟨rfl,Ag⟩)
              have hL:=hL.call Ag;refine ay hK (by first | exact hL | exact hL.tail) fun hHeld=>?_;clear hK K;refine aG 12 fun K hK=>?_;go_simp
              (go_at_call 157;refine (M6.out _).mono ?_;rintro e YM ⟨rfl,xX⟩)
              have hL:=hL.call xX;refine ay hK (by first | exact hL | exact hL.tail) fun hHeld=>?_;clear hK K;refine aG 14 fun K hK=>?_;refine aU hL.head (aj (D)) rfl aZ (fK _) (.tmp 15) (.tmp 45) rfl rfl rfl ?_;have hL:=hL.put (aj (D)) rfl;refine ay hK (hL.tail) fun hHeld=>?_;clear hK K;refine wpAnyH_done (by kernel_rfl) ?_ _;go_wp2;go_meet;exact ⟨_,rfl,hL⟩
          · go_simp
            have hL:=hL.add (aj ⟨0,0⟩) 164;refine ay hK (hL.tail) fun hHeld=>?_;clear hK K;refine aG 2 fun K hK=>?_;go_simp
            (go_at_call 156;refine (M1.out _).mono ?_;rintro e w8a ⟨rfl,OH⟩)
            have hL:=hL.call OH;refine ay hK (by first | exact hL | exact hL.tail) fun hHeld=>?_;clear hK K;refine aG 6 fun K hK=>?_;go_simp
            (go_at_call 154;refine (M2.out _).mono ?_;rintro e w8b ⟨rfl,Iy⟩)
            have hL:=hL.call Iy;refine ay hK (by first | exact hL | exact hL.tail) fun hHeld=>?_;clear hK K;refine aG 9 fun K hK=>?_;go_simp
            (go_at_call 156;refine (M3.out _).mono ?_;rintro e w8c ⟨rfl,Iz⟩)
            have hL:=hL.call Iz;refine ay hK (by first | exact hL | exact hL.tail) fun hHeld=>?_;clear hK K;refine aG 10 fun K hK=>?_;go_simp
            (go_at_call 157;refine (M4.out _).mono ?_;rintro e w8d ⟨rfl,Ee⟩)
            have hL:=hL.call Ee;refine ay hK (by first | exact hL | exact hL.tail) fun hHeld=>?_;clear hK K;refine aG 11 fun K hK=>?_;go_simp
            (go_at_call 156;refine (M5.out _).mono ?_;rintro e w8e ⟨rfl,Ag⟩)
            have hL:=hL.call Ag;refine ay hK (by first | exact hL | exact hL.tail) fun hHeld=>?_;clear hK K;refine aG 12 fun K hK=>?_;go_simp
            (go_at_call 157;refine (M6.out _).mono ?_;rintro e YM ⟨rfl,xX⟩)
            have hL:=hL.call xX;refine ay hK (by first | exact hL | exact hL.tail) fun hHeld=>?_;clear hK K;refine aG 14 fun K hK=>?_;refine aU hL.head (aj (D)) rfl aZ (fK _) (.tmp 15) (.tmp 45) rfl rfl rfl ?_;have hL:=hL.put (aj (D)) rfl;refine ay hK (hL.tail) fun hHeld=>?_;clear hK K;refine wpAnyH_done (by kernel_rfl) ?_ _;go_wp2;go_meet;exact ⟨_,rfl,hL⟩
         case rest=>
          obtain ⟨vk,rfl,hL⟩:=hcut
          go_upto_region 11 with (first | ((with_reducible (refine ah 164 (.tmp 15) ?lx ?_));(case lx=>rfl);refine au (hL.head) Tryz.underlying164 rfl aZ rfl (.tmp 15) rfl rfl ?_) | (go_at_call 147;refine (MS.out _).mono ?_;rintro e w9 ⟨rfl,yS⟩;have hL:=hL.call yS))
          go_cut [16] from 46 to 61 (fun v16 wx=>∃ Nr,v16=ptr Nr∧Bx wr wx [(Nr,aY (xa,xb,D),173),(vk,aj (D),164),(qg,aj (va),164),(BL,bK (v),170),(pF,jr b,114)])
          case first=>
           have IQ:∀ W:World,Bx wr W [(vk,aj (D),164),(qg,aj (va),164),(BL,bK (v),170),(pF,jr b,114)]→W.rangeAt (qg) 0 (aj (va)):=fun W h=>h.rng 1 rfl 0 _ rfl;have OU:∀ W:World,Bx wr W [(vk,aj (D),164),(qg,aj (va),164),(BL,bK (v),170),(pF,jr b,114)]→W.rangeAt (B10) 0 (aj (Nm.iR along along)):=fun W h=>((hO.get 0 rfl).below h.bw).range;have IL:∀ W:World,Bx wr W [(vk,aj (D),164),(qg,aj (va),164),(BL,bK (v),170),(pF,jr b,114)]→W.rangeAt (vk) 0 ([.int .i64 (D).n,.slice none 0 0,.int .i64 (D).d,.slice none 0 0]):=fun W h=>h.rng 0 rfl 0 _ rfl;have hL:=hL.drew;refine wp_region_held_drew (S:=(fun w':World=>Bx wr w' [(vk,aj (D),164),(qg,aj (va),164),(BL,bK (v),170),(pF,jr b,114)])) (by kernel_rfl) ?dS (fun hHeld=>?_)
           case dS=>exact hL
           refine bJ 0 IQ Tryz.underlying164 ?_;refine bJ 1 OU Tryz.underlying164 ?_;refine bJ 4 OU Tryz.underlying164 ?_;refine bJ 6 IL Tryz.underlying164 ?_;refine iF 2 8 (fun K hK=>?_) fun K hK=>?_
           · go_simp
             (go_at_call 158;refine (M7.out _).mono ?_;rintro e amK ⟨rfl,Oy⟩)
             have hL:=hL.call Oy;refine ay hK (by first | exact hL | exact hL.tail) fun hHeld=>?_;clear hK K;refine iF 3 8 (fun K hK=>?_) fun K hK=>?_
             · go_simp
               (go_at_call 159;refine (f_any 1 _).mono ?_;rintro e ae0 ⟨rfl,FN⟩)
               have hL:=hL.call FN;refine ay hK (by first | exact hL | exact hL.tail) fun hHeld=>?_;clear hK K;refine iF 5 8 (fun K hK=>?_) fun K hK=>?_
               · go_simp
                 (go_at_call 158;refine (M8.out _).mono ?_;rintro e Yj ⟨rfl,Ad⟩)
                 have hL:=hL.call Ad;refine ay hK (by first | exact hL | exact hL.tail) fun hHeld=>?_;clear hK K;refine aF 7 ?_;refine aG 8 fun K hK=>?_;go_simp;have hL:=hL.add (aY (⟨0,0⟩,⟨0,0⟩,⟨0,0⟩)) 173;refine ay hK (hL.tail) fun hHeld=>?_;clear hK K;refine aG 9 fun K hK=>?_;refine aU hL.head (aY (xa,xb,D)) rfl eF (AY _) (.tmp 16) (.tmp 60) rfl rfl rfl ?_;have hL:=hL.put (aY (xa,xb,D)) rfl;refine ay hK (hL.tail) fun hHeld=>?_;clear hK K;refine wpAnyH_done (by kernel_rfl) ?_ _;go_wp2;go_meet;exact ⟨_,rfl,hL⟩
               · go_simp
                 have hL:=hL.add (aY (⟨0,0⟩,⟨0,0⟩,⟨0,0⟩)) 173;refine ay hK (hL.tail) fun hHeld=>?_;clear hK K;refine aG 5 fun K hK=>?_;go_simp
                 (go_at_call 158;refine (M8.out _).mono ?_;rintro e Yj ⟨rfl,Ad⟩)
                 have hL:=hL.call Ad;refine ay hK (by first | exact hL | exact hL.tail) fun hHeld=>?_;clear hK K;refine aF 7 ?_;refine aG 9 fun K hK=>?_;refine aU hL.head (aY (xa,xb,D)) rfl eF (AY _) (.tmp 16) (.tmp 60) rfl rfl rfl ?_;have hL:=hL.put (aY (xa,xb,D)) rfl;refine ay hK (hL.tail) fun hHeld=>?_;clear hK K;refine wpAnyH_done (by kernel_rfl) ?_ _;go_wp2;go_meet;exact ⟨_,rfl,hL⟩
             · go_simp
               have hL:=hL.add (aY (⟨0,0⟩,⟨0,0⟩,⟨0,0⟩)) 173;refine ay hK (hL.tail) fun hHeld=>?_;clear hK K;refine aG 3 fun K hK=>?_;go_simp
               (go_at_call 159;refine (f_any 1 _).mono ?_;rintro e ae0 ⟨rfl,FN⟩)
               have hL:=hL.call FN;refine ay hK (by first | exact hL | exact hL.tail) fun hHeld=>?_;clear hK K;refine aG 5 fun K hK=>?_;go_simp
               (go_at_call 158;refine (M8.out _).mono ?_;rintro e Yj ⟨rfl,Ad⟩)
               have hL:=hL.call Ad;refine ay hK (by first | exact hL | exact hL.tail) fun hHeld=>?_;clear hK K;refine aF 7 ?_;refine aG 9 fun K hK=>?_;refine aU hL.head (aY (xa,xb,D)) rfl eF (AY _) (.tmp 16) (.tmp 60) rfl rfl rfl ?_;have hL:=hL.put (aY (xa,xb,D)) rfl;refine ay hK (hL.tail) fun hHeld=>?_;clear hK K;refine wpAnyH_done (by kernel_rfl) ?_ _;go_wp2;go_meet;exact ⟨_,rfl,hL⟩
           · go_simp
             have hL:=hL.add (aY (⟨0,0⟩,⟨0,0⟩,⟨0,0⟩)) 173;refine ay hK (hL.tail) fun hHeld=>?_;clear hK K;refine aG 2 fun K hK=>?_;go_simp
             (go_at_call 158;refine (M7.out _).mono ?_;rintro e amK ⟨rfl,Oy⟩)
             have hL:=hL.call Oy;refine ay hK (by first | exact hL | exact hL.tail) fun hHeld=>?_;clear hK K;refine aG 3 fun K hK=>?_;go_simp
             (go_at_call 159;refine (f_any 1 _).mono ?_;rintro e ae0 ⟨rfl,FN⟩)
             have hL:=hL.call FN;refine ay hK (by first | exact hL | exact hL.tail) fun hHeld=>?_;clear hK K;refine aG 5 fun K hK=>?_;go_simp
             (go_at_call 158;refine (M8.out _).mono ?_;rintro e Yj ⟨rfl,Ad⟩)
             have hL:=hL.call Ad;refine ay hK (by first | exact hL | exact hL.tail) fun hHeld=>?_;clear hK K;refine aF 7 ?_;refine aG 9 fun K hK=>?_;refine aU hL.head (aY (xa,xb,D)) rfl eF (AY _) (.tmp 16) (.tmp 60) rfl rfl rfl ?_;have hL:=hL.put (aY (xa,xb,D)) rfl;refine ay hK (hL.tail) fun hHeld=>?_;clear hK K;refine wpAnyH_done (by kernel_rfl) ?_ _;go_wp2;go_meet;exact ⟨_,rfl,hL⟩
          case rest=>
           obtain ⟨Nr,rfl,hL⟩:=hcut
           go_upto_region 12 with (fail)
           have IU:∀ W:World,Hs W [(Nr,aY (xa,xb,D),173),(vk,aj (D),164),(qg,aj (va),164),(BL,bK (v),170),(pF,jr b,114)]→W.rangeAt (Nr) 0 ([.int .i64 (xa).n,.slice none 0 0,.int .i64 (xa).d,.slice none 0 0]):=fun W h=>h.rng 0 rfl 0 _ rfl;have IW:∀ W:World,Hs W [(Nr,aY (xa,xb,D),173),(vk,aj (D),164),(qg,aj (va),164),(BL,bK (v),170),(pF,jr b,114)]→W.rangeAt (Nr) 4 (aj (xb)):=fun W h=>h.rng 0 rfl 4 _ rfl;have IY:∀ W:World,Hs W [(Nr,aY (xa,xb,D),173),(vk,aj (D),164),(qg,aj (va),164),(BL,bK (v),170),(pF,jr b,114)]→W.rangeAt (vk) 0 ([.int .i64 (D).n,.slice none 0 0,.int .i64 (D).d,.slice none 0 0]):=fun W h=>h.rng 1 rfl 0 _ rfl;have IV:∀ W:World,Hs W [(Nr,aY (xa,xb,D),173),(vk,aj (D),164),(qg,aj (va),164),(BL,bK (v),170),(pF,jr b,114)]→W.rangeAt (Nr) 0 ([.int .i64 (xa).n,.slice none 0 0,.int .i64 (xa).d,.slice none 0 0,.int .i64 (xb).n,.slice none 0 0,.int .i64 (xb).d,.slice none 0 0,.int .i64 (D).n,.slice none 0 0,.int .i64 (D).d,.slice none 0 0]):=fun W h=>h.rng 0 rfl 0 _ rfl;have hL:=hL.drew;refine wp_region_held_drew (S:=(fun w':World=>Hs w' [(Nr,aY (xa,xb,D),173),(vk,aj (D),164),(qg,aj (va),164),(BL,bK (v),170),(pF,jr b,114)])) (by kernel_rfl) ?iJ (fun hHeld=>?_)
           case iJ=>exact hL.hs
           refine aF 0 ?_;refine aF 1 ?_;refine bJ 2 IU Tryz.underlying164 ?_;refine aF 3 ?_;refine bJ 4 IW Tryz.underlying164 ?_;refine bJ 6 IY Tryz.underlying164 ?_;refine bJ 8 IV Tryz.underlying173 ?_;refine aG 5 fun K hK=>?_;go_simp
           (go_at_call 160;refine (M9.out _).mono ?_;rintro e Yk ⟨rfl,Oz⟩)
           have hL:=hL.call Oz;refine ay hK (hL.hs) fun hHeld=>?_;clear hK K;refine aF 7 ?_;refine aF 9 ?_;refine aG 10 fun K hK=>?_;go_simp;refine ay hK ((hL.alloc _).hs) fun hHeld=>?_;clear hK K;refine aG 11 fun K hK=>?_;refine step_append_lies _ (by rfl) _ _ _ (by rfl) Dq 175 i0 (.agg #[.int .i64 0,.slice none 0 0,.int .i64 0,.slice none 0 0,.int .i64 0,.slice none 0 0,.int .i64 0,.slice none 0 0,.int .i64 0,.slice none 0 0,.int .i64 0,.slice none 0 0,.int .i64 0,.slice none 0 0,.int .i64 0,.slice none 0 0,.int .i64 0,.slice none 0 0,.int .i64 0,.slice none 0 0,.int .i64 0,.slice none 0 0,.int .i64 0,.slice none 0 0,.bool false]) 25 392 Tryz.underlying167 hi0 hz0 hz1 hz2 rfl (by omega) _ _ _ (by rfl) ((hOw.out hL.bw).alloc _) ⟨Yk.heap.size,0,none⟩ 1 1 (dN ((xa,nb,D),(xa,xb,D))) (by rfl) (by rfl) (jW _ _ _ _ rfl) (D9 _) (by omega) (by simp only [maxLen];omega) (by omega) (by have:=hL.bw.size;simp;omega) (Yk.heap.size+1) (by simp) ?_;intro g1 cap w7 Zv IK atH auh;have hs7:=(hL.alloc (.cells (dN ((xa,nb,D),(xa,xb,D))).toArray 175)).hs.grown IK (fun p hp e=>by have h1:=(hL.bx p hp).1;have h2:=Zf _ e;omega);refine ay hK (hs7) fun hHeld=>?_;clear hK K;refine aF 12 ?_;refine wpAnyH_done (by kernel_rfl) ?_ _;go_wp2
           go_roundw
           case rel=>
            refine ⟨k+1,_,by omega,by go_num,rfl,?_,by have:=IK.size;have:=hL.bw.size;simp at*;omega,?_⟩
            · rw [HNX.out]
              exact Zv
            · exact ((hO.call (hL.alloc _).bw).grown hDw hOD IK (fun b e=>ahl _ e))
           case measure=>simp [intOf];omega
    · obtain rfl:k=l.length:=by omega
      rw [List.take_length] at hown;have hown2:=hown;have HW:=hide hown;clear hown hown2;obtain ⟨A2,c2,rfl⟩:=yx HW.out;go_wp2;go_ret;exact ⟨A2,c2,rfl,Reads.Aw HW.out (fun g hg=>by omega) (by omega),hO.bw⟩
def wU:List Nm.Pl:=[(s0,s0)]
def mD:List Nm.Pl:=[(s1,s0),(s4,s0)]
def oM (p:Nm.Pl):Nm.gZ:=((if p.1=s4 then ⟨4,1⟩ else if p.1=s1 then ⟨1,1⟩ else ⟨0,1⟩),⟨0,1⟩)
theorem Ic (S S':Nat→Prop) (A B:Option Addr) (c c':Nat) (w:World) (hg:Glob w) (hs:Reads w S 2 A 1 c (wU.flatMap jr)) (hb:Reads w S' 2 B 2 c' (mD.flatMap jr)):
 Calls Tryz.prog 98 #[.slice A 1 c,.slice B 2 c',.int .i64 0,plV (s1,s0),.string s2] w fun e w'=>e= .returned (.int .i64 0)∧Below w.heap.size w w':=by
 have HS:=hide (fun W (h:Below w.heap.size w W)=>wM S A c wU W (hg.below h) (hs.below h) (fun p hp=>by simp only [wU,List.mem_cons,List.not_mem_nil,or_false] at hp;subst hp;exact ⟨BG,BG⟩));have HB:=hide (fun W (h:Below w.heap.size w W)=>wM S' B c' mD W (hg.below h) (hb.below h) (fun p hp=>by simp only [mD,List.mem_cons,List.not_mem_nil,or_false] at hp;rcases hp with rfl | rfl;exact ⟨RG,BG⟩;exact ⟨Yi,BG⟩));have HP:=hide (fun W (h:Below w.heap.size w W)=>sZ s1 s0 W (hg.below h) RG BG);have HC:=hide (fun W (h:Below w.heap.size w W)=>Yh W (hg.below h));have HF:=hide (fun W (h:Below w.heap.size w W)=>YT W (hg.below h));have HN:=hide (fun W=>jY ⟨2,1⟩ W)
 have heq:∀ W,(binOp .eql 114 (.agg #[.string s1,.string s0]) (.agg #[.string s0,.string s0])).run Tryz.prog W= .ok (.bool false) W:=fun W=>by kernel_rfl
 clear hs hb
 go_enter Tryz.func98,Tryz.ntmps98
 go_upto_region 0 with (fail)
 go_cut [8,10] (fun v8 v10 wx=>v8=ptr (w.heap.size)∧v10= .int .i64 0∧Bx w wx [(w.heap.size,jr (s1,s0),114)])
 case first=>
  go_wp2;go_meet;exact ⟨rfl,rfl,Bx.of ((aJ.nil w).new (by simp) (jr (s1,s0)) 114) _ rfl⟩
 case rest=>
  obtain ⟨rfl,rfl,hL⟩:=hcut
  go_upto_region 1 with (fail)
  go_cut [11] from 11 to 45 (fun v11 wx=>v11= .int .i64 0∧Bx w wx [(w.heap.size,jr (s1,s0),114)])
  case first=>
   have C9:∀ W:World,Bx w W [(w.heap.size,jr (s1,s0),114)]→W.rangeAt (w.heap.size) 0 ([.string s1,.string s0]):=fun W h=>h.rng 0 rfl 0 _ rfl;have hL:=hL.drew;refine wp_region_held_drew (S:=(fun w':World=>Bx w w' [(w.heap.size,jr (s1,s0),114)])) (by kernel_rfl) ?bW (fun hHeld=>?_)
   case bW=>exact hL
   refine aF 0 ?_;refine aF 1 ?_;refine aF 2 ?_;refine aF 4 ?_;refine aF 5 ?_;refine aF 6 ?_;refine aF 13 ?_;refine aF 15 ?_;refine aF 17 ?_;refine aF 18 ?_;refine aF 19 ?_;refine aF 20 ?_;refine bJ 23 C9 Tryz.underlying114 ?_;refine bJ 25 C9 Tryz.underlying114 ?_;refine aF 26 ?_;refine aF 27 ?_;refine aF 29 ?_;refine aG 3 fun K hK=>?_;go_simp
   (go_at_call 64;refine (dF false 12 _).mono ?_;rintro e w1a ⟨rfl,rfl⟩)
   refine ay hK (hL) fun hHeld=>?_;clear hK K;refine aF 7 ?_;refine aF 8 ?_;refine aF 9 ?_;refine aF 10 ?_;refine aF 11 ?_;refine aG 12 fun K hK=>?_;go_simp
   (go_at_call 64;refine (dF false 5 _).mono ?_;rintro e YK ⟨rfl,rfl⟩)
   refine ay hK (hL) fun hHeld=>?_;clear hK K;refine aG 14 fun K hK=>?_;go_simp
   (go_at_call 144;refine (HS.out _ hL.bw).mono ?_;rintro e w1c ⟨rfl,Ea⟩)
   have hL:=hL.call Ea;refine ay hK (hL) fun hHeld=>?_;clear hK K;refine aG 16 fun K hK=>?_;go_simp
   (go_at_call 144;refine (HB.out _ hL.bw).mono ?_;rintro e w1d ⟨rfl,ahG⟩)
   have hL:=hL.call ahG;refine ay hK (hL) fun hHeld=>?_;clear hK K;refine aG 21 fun K hK=>?_;go_simp
   (go_at_call 66;refine (ji 0 0 0 _).mono ?_;rintro e w1e ⟨rfl,rfl⟩)
   refine ay hK (hL) fun hHeld=>?_;clear hK K;refine aG 22 fun K hK=>?_;go_simp
   (go_at_call 64;refine (dF false 10 _).mono ?_;rintro e w1f ⟨rfl,rfl⟩)
   refine ay hK (hL) fun hHeld=>?_;clear hK K;refine aG 24 fun K hK=>?_;go_simp
   (go_at_call 145;refine (HP.out _ hL.bw).mono ?_;rintro e w1g ⟨rfl,ahN⟩)
   have hL:=hL.call ahN;refine ay hK (hL) fun hHeld=>?_;clear hK K;refine aG 28 fun K hK=>?_;go_simp
   (go_at_call 64;refine (dF false 6 _).mono ?_;rintro e w1h ⟨rfl,rfl⟩)
   refine ay hK (hL) fun hHeld=>?_;clear hK K;refine aG 30 fun K hK=>?_;go_simp
   (go_at_call 146;refine (HC.out _ hL.bw).mono ?_;rintro e w1i ⟨rfl,ahU⟩)
   have hL:=hL.call ahU;refine ay hK (hL) fun hHeld=>?_;clear hK K;refine aG 31 fun K hK=>?_;go_simp;have hL:=hL.alloc (.cells #[.int .i64 0,.int .i64 0,.int .i64 0,.int .i64 0,.int .i64 0,.int .i64 0,.int .i64 0,.int .i64 0] 34);refine ay hK (hL) fun hHeld=>?_;clear hK K;refine aG 32 fun K hK=>?_;go_simp
   (go_at_call 67;refine (fZ (fun _=>True) _ _ [0,0,0,0,0,0,0,0] _ (jV.row _ _ [0,0,0,0,0,0,0,0] (by simp) _ trivial)).mono ?_;rintro e w1j ⟨rfl,rfl⟩)
   refine ay hK (hL) fun hHeld=>?_;clear hK K;refine aF 33 ?_;refine wpAnyH_done (by kernel_rfl) ?_ _;go_wp2;go_meet;exact ⟨by first | rfl | decide,hL⟩
  case rest=>
   obtain ⟨rfl,hL⟩:=hcut
   have hsg:Nm.og (⟨2,1⟩:Nm.Fr).n=1:=by decide
   have hsd:decide (Nm.og (⟨2,1⟩:Nm.Fr).n≤0)=false:=by decide
   go_wp2_with (first | (go_at_call 99;refine (HF.out _ hL.bw).mono ?_;rintro e w1 ⟨rfl,hb1⟩;have hL:=hL.call hb1) | (go_at_call 147;refine (HN.out _).mono ?_;rintro e w2 ⟨rfl,hb2⟩;have hL:=hL.call hb2) | (go_at_call 64;refine (dF false 3 _).mono ?_;rintro e pz ⟨rfl,rfl⟩))
   go_ret;exact ⟨rfl,hL.bw⟩
theorem zu:(Tryz.prog.info? 110).map (·.size)=some 3:=by kernel_rfl
theorem H7 (a b c:ByteArray):∀ v∈[Value.string a,.string b,.string c],v.oneCell'=true:=by simp [Value.oneCell']
def tJ:List Value:=[.int .i64 0,.slice none 0 0,.int .i64 0,.slice none 0 0,.int .i64 0,.slice none 0 0,.int .i64 0,.slice none 0 0,.int .i64 0,.slice none 0 0,.int .i64 0,.slice none 0 0,.int .i64 0,.slice none 0 0,.int .i64 0,.slice none 0 0,.int .i64 0,.slice none 0 0,.int .i64 0,.slice none 0 0,.int .i64 0,.slice none 0 0,.int .i64 0,.slice none 0 0,.bool true]
theorem Iu:∀ v∈tJ,v.oneCell'=true:=by simp [tJ,Value.oneCell']
def vV:Nm.Hu:=((⟨1,1⟩,⟨-1,1⟩,⟨4,1⟩),(⟨1,1⟩,⟨1,1⟩,⟨4,1⟩))
def lF:Nm.Hu:=((⟨4,1⟩,⟨-1,1⟩,⟨4,1⟩),(⟨4,1⟩,⟨1,1⟩,⟨4,1⟩))
theorem Td:(mD.map fun b=>Nm.VN (oM (s0,s0)) (oM (s1,s0)) ⟨2,1⟩ (oM b))=[vV,lF]:=by rfl
theorem DY:Hz mD oM∧KO (s0,s0) (oM (s0,s0))∧KO (s1,s0) (oM (s1,s0)):=by
 refine ⟨fun p hp=>?_,⟨FD,FD⟩,⟨WG,FD⟩⟩
 simp only [mD,List.mem_cons,List.not_mem_nil,or_false] at hp
 rcases hp with rfl | rfl
 · exact ⟨WG,FD⟩
 · exact ⟨agj,FD⟩
theorem N7 {p:Nm.Pl→Bool} (h1:p (s1,s0)=true) (h2:p (s4,s0)=true):∀ b∈mD,p b=true:=by
 intro b hb
 simp only [mD,List.mem_cons,List.not_mem_nil,or_false] at hb
 rcases hb with rfl | rfl <;> assumption
theorem N9:Nm.text ⟨4,1⟩=[52]:=by
 unfold Nm.text
 rw [if_pos rfl]
 show Lib.itoa 4=[52]
 unfold Lib.itoa
 rw [if_neg (by decide)]
 show Lib.decDigits 4=[52]
 rw [Lib.decDigits,dif_pos (by decide)]
 rfl
theorem N8:Nm.text ⟨1,1⟩=[49]:=by
 unfold Nm.text
 rw [if_pos rfl]
 show Lib.itoa 1=[49]
 unfold Lib.itoa
 rw [if_neg (by decide)]
 show Lib.decDigits 1=[49]
 rw [Lib.decDigits,dif_pos (by decide)]
 rfl
theorem LG {W:World} {g:Nat} {cs:List Value} {t:TypeId} {d:TypeDesc} {fn:Func} {p u u2:Tmp} (h:Held W g cs t) (hu:Tryz.prog.underlying t=some d) (hd:d.isRow=true) (hi:(Tryz.prog.info? t).map (·.size)=some cs.length) (hr:fn.results= #[.tmp u,.cell p t,.tmp u2]) (tmps:Array Value) (hp:tmps.getD p undef= .pointer (some ⟨g,0,none⟩)):
 (results fn tmps).run Tryz.prog W= .ok (.tuple #[tmps.getD u undef,.agg cs.toArray,tmps.getD u2 undef]) W:=by
 have h0:=run_loadVar_row W g t t cs.toArray (0,0) d h hu (by cases d <;> first | rfl | cases hd) (by rw [iw rfl rfl];exact hi)
 have e:(results fn tmps).run Tryz.prog W=((asAddr (tmps.getD p undef)).run Tryz.prog W).andThen fun a w₁=>((loadVar t a).run Tryz.prog w₁).andThen fun v w₂=> .ok (.tuple #[tmps.getD u undef,v,tmps.getD u2 undef]) w₂:=by
  simp only [results,hr]
  simp [Sem.run_bind,Result.andThen]
 rw [e,hp]
 simp only [asAddr,Sem.run_pure,Result.andThen_ok,h0]
theorem Bx.join {w W1 W:World} {L1 L2:List (Nat × List Value × TypeId)} (h1:Bx w W1 L1) (h2:Bx W1 W L2):Bx w W (L2++L1):=by
 have h3:=h1.call h2.bw;refine ⟨h3.bw,fun p hp=>?_,List.pairwise_append.2 ⟨h2.nd,h1.nd,fun a ha b hb=>?_⟩⟩
 · rcases List.mem_append.1 hp with h | h
   · exact ⟨Nat.le_trans h1.bw.size (h2.bx p h).1,(h2.bx p h).2⟩
   · exact h3.bx p h
 · have e1:=(h2.bx a ha).1
   have e2:=h1.lt b hb
   omega
theorem MH (S S':Nat→Prop) (A B:Option Addr) (c c':Nat) (w:World) (hg:Glob w) (hs:Reads w S 2 A 1 c (wU.flatMap jr)) (hb:Reads w S' 2 B 2 c' (mD.flatMap jr)):
 Calls Tryz.prog 62 #[.slice A 1 c,.slice B 2 c',.int .i64 0,plV (s1,s0),.string s2] w fun e w'=>e= .returned (.tuple #[.int .i64 0,.agg #[.string s4,.string s1,.string s4],.int .i64 0])∧Below w.heap.size w w':=by
 have pq:=hide (fun W (h:Below w.heap.size w W)=>Ic S S' A B c c' W (hg.below h) (hs.below h) (hb.below h));have HD:=hide (fun W (h:Below w.heap.size w W)=>YT W (hg.below h));have HF:=hide (fun W (h:Below w.heap.size w W)=>Oc S' B c' mD oM (s0,s0) ⟨2,1⟩ W (hg.below h) (hb.below h) DY.1 DY.2.1 (N7 (p:=fun b=>Nm.Tf (oM b) (oM (s0,s0)) ⟨2,1⟩) (by rfl) (by rfl)));obtain ⟨bs,os,rfl,_,hbs,hcs⟩:=Reads.at_ hs (by omega);have hsr:∀ W,Below w.heap.size w W→W.rangeAt bs os (jr (s0,s0)):=fun W h j v hj=>(h.cell (p:=⟨bs,os+j,none⟩) hbs).trans (hcs j v (by simpa [wU] using hj));have HB:=hide hb;have HOF:=hide (fun W (h:Below w.heap.size w W)=>G6 s0 s0 ⟨0,1⟩ ⟨0,1⟩ W (hg.below h) FD FD);have HOA:=hide (fun W (h:Below w.heap.size w W)=>G6 s1 s0 ⟨1,1⟩ ⟨0,1⟩ W (hg.below h) WG FD);have HLN:=hide (fun W (h:Below w.heap.size w W)=>Pm S' B c' mD oM (oM (s0,s0)) (oM (s1,s0)) ⟨2,1⟩ W (hg.below h) (hb.below h) DY.1 (by decide) (by rfl) (by rfl) (by decide) (by rfl) (N7 (p:=fun b=>Nm.XB (oM (s0,s0)) (oM (s1,s0)) ⟨2,1⟩ (oM b)) (by rfl) (by rfl)));have HG:=hide hg;clear hs hb hg hcs
 go_enter Tryz.func62,Tryz.ntmps62
 go_upto_region 0 with (fail)
 go_cut [8,10,11,12] (fun v8 v10 v11 v12 wx=>v8=ptr (w.heap.size)∧v10= .int .i64 0∧v11=ptr (w.heap.size+1)∧v12= .int .i64 0∧Bx w wx [(w.heap.size,jr (s1,s0),114),(w.heap.size+1,[.string ⟨#[]⟩,.string ⟨#[]⟩,.string ⟨#[]⟩],110)])
 case first=>
  go_wp2;go_meet;exact ⟨rfl,rfl,rfl,rfl,Bx.of (((aJ.nil w).new (by simp) (jr (s1,s0)) 114).new (by simp) ([.string ⟨#[]⟩,.string ⟨#[]⟩,.string ⟨#[]⟩]) 110) _ rfl⟩
 case rest=>
  obtain ⟨rfl,rfl,rfl,rfl,hL⟩:=hcut;go_wp2
  go_step3
  go_upto_region 4 with (first | ((with_reducible (refine ah 114 (.tmp 8) ?lx ?_));(case lx=>rfl);refine au (cs:=[.string s1,.string s0]) (hL.get 0 rfl) Tryz.underlying114 rfl nN rfl (.tmp 8) rfl rfl ?_) | (go_at_call 98;refine (pq.out _ hL.bw).mono ?_;rintro e w1 ⟨rfl,hb1⟩;have hL:=hL.call hb1))
  go_cut [14] (fun v14 wx=>∃ qg,v14=ptr qg∧Bx w wx [(qg,aj ⟨2,1⟩,164),(w.heap.size,jr (s1,s0),114),(w.heap.size+1,[.string ⟨#[]⟩,.string ⟨#[]⟩,.string ⟨#[]⟩],110)])
  case first=>
   go_wp2_with (first | (go_at_call 99;refine (HD.out _ hL.bw).mono ?_;rintro e w2 ⟨rfl,hb2⟩;have hL:=hL.call hb2) | ((with_reducible (refine aH 164 (.tmp 14) (.tmp 35) ?lx ?_));(case lx=>rfl);refine aC ((hL.add (aj ⟨0,0⟩) 164).head) (aj ⟨2,1⟩) rfl aZ (fK _) rfl (.tmp 14) (.tmp 35) rfl rfl rfl ?_))
   go_meet;exact ⟨_,rfl,(hL.add (aj ⟨0,0⟩) 164).put (aj ⟨2,1⟩) rfl⟩
  case rest=>
   obtain ⟨qg,rfl,hL⟩:=hcut
   go_upto_region 5 with (fail)
   go_cut [15] (fun v15 wx=>∃ vk,v15=ptr vk∧Bx w wx [(vk,[.string s0,.string s0,.string s0],110),(qg,aj ⟨2,1⟩,164),(w.heap.size,jr (s1,s0),114),(w.heap.size+1,[.string ⟨#[]⟩,.string ⟨#[]⟩,.string ⟨#[]⟩],110)])
   case first=>
    go_wp2_with (first | ((with_reducible (refine aH 110 (.tmp 15) (.tmp 36) ?lx ?_));(case lx=>rfl);refine aC ((hL.add ([.string ⟨#[]⟩,.string ⟨#[]⟩,.string ⟨#[]⟩]) 110).head) ([.string s0,.string s0,.string s0]) rfl zu (H7 _ _ _) rfl (.tmp 15) (.tmp 36) rfl rfl rfl ?_))
    go_meet;exact ⟨_,rfl,(hL.add ([.string ⟨#[]⟩,.string ⟨#[]⟩,.string ⟨#[]⟩]) 110).put ([.string s0,.string s0,.string s0]) rfl⟩
   case rest=>
    obtain ⟨vk,rfl,hL⟩:=hcut
    go_upto_region 6 with (fail)
    go_cut [43] from 37 to 44 (fun v wx=>v= .bool false∧Bx w wx [(vk,[.string s0,.string s0,.string s0],110),(qg,aj ⟨2,1⟩,164),(w.heap.size,jr (s1,s0),114),(w.heap.size+1,[.string ⟨#[]⟩,.string ⟨#[]⟩,.string ⟨#[]⟩],110)])
    case first=>
     have ZG:∀ W:World,Bx w W [(vk,[.string s0,.string s0,.string s0],110),(qg,aj ⟨2,1⟩,164),(w.heap.size,jr (s1,s0),114),(w.heap.size+1,[.string ⟨#[]⟩,.string ⟨#[]⟩,.string ⟨#[]⟩],110)]→W.rangeAt (bs) os (jr (s0,s0)):=fun W h=>(hsr W h.bw);have LM:∀ W:World,Bx w W [(vk,[.string s0,.string s0,.string s0],110),(qg,aj ⟨2,1⟩,164),(w.heap.size,jr (s1,s0),114),(w.heap.size+1,[.string ⟨#[]⟩,.string ⟨#[]⟩,.string ⟨#[]⟩],110)]→W.rangeAt (qg) 0 (aj ⟨2,1⟩):=fun W h=>h.rng 1 rfl 0 _ rfl;have hL:=hL.drew;refine wp_region_held_drew (S:=(fun w':World=>Bx w w' [(vk,[.string s0,.string s0,.string s0],110),(qg,aj ⟨2,1⟩,164),(w.heap.size,jr (s1,s0),114),(w.heap.size+1,[.string ⟨#[]⟩,.string ⟨#[]⟩,.string ⟨#[]⟩],110)])) (by kernel_rfl) ?bW (fun hHeld=>?_)
     case bW=>exact hL
     refine aF 0 ?_;refine aF 1 ?_;refine aF 2 ?_;refine bJ 3 ZG Tryz.underlying114 ?_;refine aF 4 ?_;refine bJ 5 LM Tryz.underlying164 ?_;refine aG 6 fun K hK=>?_;go_simp
     (go_at_call 100;refine (HF.out _ hL.bw).mono ?_;rintro e w6a ⟨rfl,Ec⟩)
     have hL:=hL.call Ec;refine ay hK (hL) fun hHeld=>?_;clear hK K;refine wpAnyH_done (by kernel_rfl) ?_ _;go_wp2;go_meet;exact ⟨by rfl,hL⟩
    case rest=>
     obtain ⟨rfl,hL⟩:=hcut;go_wp2
     go_loopw [48] (fun i wr=>∃ k:Nat,k≤1∧i= .int .i64 k∧Bx w wr [(vk,[.string s0,.string s0,.string s0],110),(qg,aj ⟨2,1⟩,164),(w.heap.size,jr (s1,s0),114),(w.heap.size+1,[.string ⟨#[]⟩,.string ⟨#[]⟩,.string ⟨#[]⟩],110)]) (fun i _=>1 - (intOf i).toNat)
     case atStart=>exact ⟨0,by omega,rfl,hL⟩
     case round=>
      clear hL;obtain ⟨k,hk,rfl,hL⟩:=hrel
      by_cases h0:k=0
      · subst h0
        go_upto_region 12 with (fail)
        go_cut [62] from 56 to 63 (fun v wx=>v= .bool false∧Bx w wx [(vk,[.string s0,.string s0,.string s0],110),(qg,aj ⟨2,1⟩,164),(w.heap.size,jr (s1,s0),114),(w.heap.size+1,[.string ⟨#[]⟩,.string ⟨#[]⟩,.string ⟨#[]⟩],110)])
        case first=>
         have Xj:∀ W:World,Bx w W [(vk,[.string s0,.string s0,.string s0],110),(qg,aj ⟨2,1⟩,164),(w.heap.size,jr (s1,s0),114),(w.heap.size+1,[.string ⟨#[]⟩,.string ⟨#[]⟩,.string ⟨#[]⟩],110)]→W.rangeAt (bs) os (jr (s0,s0)):=fun W h=>(hsr W h.bw);have IX:∀ W:World,Bx w W [(vk,[.string s0,.string s0,.string s0],110),(qg,aj ⟨2,1⟩,164),(w.heap.size,jr (s1,s0),114),(w.heap.size+1,[.string ⟨#[]⟩,.string ⟨#[]⟩,.string ⟨#[]⟩],110)]→W.rangeAt (qg) 0 (aj ⟨2,1⟩):=fun W h=>h.rng 1 rfl 0 _ rfl;have hL:=hL.drew;refine wp_region_held_drew (S:=(fun w':World=>Bx w w' [(vk,[.string s0,.string s0,.string s0],110),(qg,aj ⟨2,1⟩,164),(w.heap.size,jr (s1,s0),114),(w.heap.size+1,[.string ⟨#[]⟩,.string ⟨#[]⟩,.string ⟨#[]⟩],110)])) (by kernel_rfl) ?dI (fun hHeld=>?_)
         case dI=>exact hL
         refine aF 0 ?_;refine aF 1 ?_;refine aF 2 ?_;refine bJ 3 Xj Tryz.underlying114 ?_;refine aF 4 ?_;refine bJ 5 IX Tryz.underlying164 ?_;refine aG 6 fun K hK=>?_;go_simp
         (go_at_call 100;refine (HF.out _ hL.bw).mono ?_;rintro e Yk ⟨rfl,Oz⟩)
         have hL:=hL.call Oz;refine ay hK (hL) fun hHeld=>?_;clear hK K;refine wpAnyH_done (by kernel_rfl) ?_ _;go_wp2;go_meet;exact ⟨by rfl,hL⟩
        case rest=>
         obtain ⟨rfl,hL⟩:=hcut;go_wp2
         go_roundw
         case rel=>exact ⟨1,by omega,by go_num,hL⟩
         case measure=>simp [intOf]
      · obtain rfl:k=1:=by omega
        clear hk h0;rw [show ((1:Nat):Int)=1 from rfl]
        go_upto_region 15 with (fail)
        go_cut [18] from 66 to 76 (fun v wx=>∃ A2 c2,v= .slice A2 2 c2∧Bx w wx [(vk,[.string s0,.string s0,.string s0],110),(qg,aj ⟨2,1⟩,164),(w.heap.size,jr (s1,s0),114),(w.heap.size+1,[.string ⟨#[]⟩,.string ⟨#[]⟩,.string ⟨#[]⟩],110)]∧Reads wx (fun _=>True) 25 A2 2 c2 ([vV,lF].flatMap dN))
        case first=>
         have Xl:∀ W:World,Bx w W [(vk,[.string s0,.string s0,.string s0],110),(qg,aj ⟨2,1⟩,164),(w.heap.size,jr (s1,s0),114),(w.heap.size+1,[.string ⟨#[]⟩,.string ⟨#[]⟩,.string ⟨#[]⟩],110)]→W.rangeAt (bs) os (jr (s0,s0)):=fun W h=>(hsr W h.bw);have I4:∀ W:World,Bx w W [(vk,[.string s0,.string s0,.string s0],110),(qg,aj ⟨2,1⟩,164),(w.heap.size,jr (s1,s0),114),(w.heap.size+1,[.string ⟨#[]⟩,.string ⟨#[]⟩,.string ⟨#[]⟩],110)]→W.rangeAt (w.heap.size) 0 ([.string s1,.string s0]):=fun W h=>h.rng 2 rfl 0 _ rfl;have IZ:∀ W:World,Bx w W [(vk,[.string s0,.string s0,.string s0],110),(qg,aj ⟨2,1⟩,164),(w.heap.size,jr (s1,s0),114),(w.heap.size+1,[.string ⟨#[]⟩,.string ⟨#[]⟩,.string ⟨#[]⟩],110)]→W.rangeAt (qg) 0 (aj ⟨2,1⟩):=fun W h=>h.rng 1 rfl 0 _ rfl;have hL:=hL.drew;refine wp_region_held_drew (S:=(fun w':World=>Bx w w' [(vk,[.string s0,.string s0,.string s0],110),(qg,aj ⟨2,1⟩,164),(w.heap.size,jr (s1,s0),114),(w.heap.size+1,[.string ⟨#[]⟩,.string ⟨#[]⟩,.string ⟨#[]⟩],110)])) (by kernel_rfl) ?dS (fun hHeld=>?_)
         case dS=>exact hL
         refine aF 0 ?_;refine aF 1 ?_;refine aF 2 ?_;refine bJ 3 Xl Tryz.underlying114 ?_;refine aF 5 ?_;refine bJ 6 I4 Tryz.underlying114 ?_;refine bJ 8 IZ Tryz.underlying164 ?_;refine aG 4 fun K hK=>?_;go_simp
         (go_at_call 102;refine (HOF.out _ hL.bw).mono ?_;rintro e avT ⟨rfl,Zk⟩)
         have hL:=hL.call Zk;refine ay hK (hL) fun hHeld=>?_;clear hK K;refine aG 7 fun K hK=>?_;go_simp
         (go_at_call 102;refine (HOA.out _ hL.bw).mono ?_;rintro e av1 ⟨rfl,Zl⟩)
         have hL:=hL.call Zl;refine ay hK (hL) fun hHeld=>?_;clear hK K;refine aG 9 fun K hK=>?_;go_simp
         (go_at_call 101;refine (HLN.out _ hL.bw).mono ?_;rintro e av8 ⟨A2,c2,rfl,Zg,Zm⟩)
         have hL:=hL.call Zm;refine ay hK (hL) fun hHeld=>?_;clear hK K;refine aF 10 ?_;refine wpAnyH_done (by kernel_rfl) ?_ _;go_wp2;go_meet;exact ⟨A2,c2,by rfl,hL,by have h9:=Zg.more (S':=fun _=>True) (fun _ _ _=>trivial);rw [Td] at h9;exact h9⟩
        case rest=>
         obtain ⟨A2,c2,rfl,hL,Zg⟩:=hcut
         rename World=>wl
         have hM:=Bx.nil wl;rename_i K9 hK9;refine hK9 _ _ ?_
         try dsimp only
         clear hK9
         go_upto_region 16 with (fail)
         go_cut [19] (fun v19 wx=>∃ U6,v19=ptr U6∧Bx wl wx [(U6,tJ,175)])
         case first=>
          go_wp2_with (first | ((with_reducible (refine aH 175 (.tmp 19) (.tmp 76) ?lx ?_));(case lx=>rfl);refine aC ((hM.add [.int .i64 0,.slice none 0 0,.int .i64 0,.slice none 0 0,.int .i64 0,.slice none 0 0,.int .i64 0,.slice none 0 0,.int .i64 0,.slice none 0 0,.int .i64 0,.slice none 0 0,.int .i64 0,.slice none 0 0,.int .i64 0,.slice none 0 0,.int .i64 0,.slice none 0 0,.int .i64 0,.slice none 0 0,.int .i64 0,.slice none 0 0,.int .i64 0,.slice none 0 0,.bool false] 175).head) (tJ) rfl lQ Iu rfl (.tmp 19) (.tmp 76) rfl rfl rfl ?_))
          go_meet;exact ⟨_,rfl,(hM.add [.int .i64 0,.slice none 0 0,.int .i64 0,.slice none 0 0,.int .i64 0,.slice none 0 0,.int .i64 0,.slice none 0 0,.int .i64 0,.slice none 0 0,.int .i64 0,.slice none 0 0,.int .i64 0,.slice none 0 0,.int .i64 0,.slice none 0 0,.int .i64 0,.slice none 0 0,.int .i64 0,.slice none 0 0,.int .i64 0,.slice none 0 0,.int .i64 0,.slice none 0 0,.bool false] 175).put tJ rfl⟩
         case rest=>
          obtain ⟨U6,rfl,hM⟩:=hcut;rename_i K8 hK8;refine hK8 _ _ ?_
          try dsimp only
          clear hK8;go_wp2
          go_step3
          obtain ⟨b2,o2,rfl,_,hb2,hc2⟩:=Reads.at_ Zg (by omega);have hRD:=hide Zg;have Ho:Hid (∀ W,Calls Tryz.prog 103 #[fQ ⟨1,1⟩,fQ ⟨1,1⟩,fQ ⟨4,1⟩] W fun e w'=>e= .returned (.int .i64 1)∧Below W.heap.size W w'):=hide (fun W=>uY ⟨1,1⟩ ⟨1,1⟩ ⟨4,1⟩ W (by rfl));have HS2:Hid (∀ W,Calls Tryz.prog 103 #[fQ ⟨4,1⟩,fQ ⟨1,1⟩,fQ ⟨4,1⟩] W fun e w'=>e= .returned (.int .i64 1)∧Below W.heap.size W w'):=hide (fun W=>uY ⟨4,1⟩ ⟨1,1⟩ ⟨4,1⟩ W (by rfl));have HO1:Hid (∀ W,Below wl.heap.size wl W→Calls Tryz.prog 104 #[.slice (some ⟨b2,o2,none⟩) 2 c2,YI vV.2] W fun e w'=>e= .returned (.bool false)∧Below W.heap.size W w'):=hide (fun W h=>Ba _ _ c2 [vV,lF] vV.2 W (hRD.out.below h) (fun g hg=>by simp only [List.mem_cons,List.not_mem_nil,or_false] at hg;rcases hg with rfl | rfl <;> rfl));have HO2:Hid (∀ W,Below wl.heap.size wl W→Calls Tryz.prog 104 #[.slice (some ⟨b2,o2,none⟩) 2 c2,YI lF.2] W fun e w'=>e= .returned (.bool true)∧Below W.heap.size W w'):=hide (fun W h=>Ba _ _ c2 [vV,lF] lF.2 W (hRD.out.below h) (fun g hg=>by simp only [List.mem_cons,List.not_mem_nil,or_false] at hg;rcases hg with rfl | rfl <;> rfl));have hr1:∀ W,Below wl.heap.size wl W→W.rangeAt b2 o2 (dN vV):=fun W h j v hj=>(h.cell (p:=⟨b2,o2+j,none⟩) hb2).trans (hc2 j v (by rw [← Nat.zero_add j, ← Nat.zero_mul 25];exact uD (f:=dN) (n:=25) (fun _=>rfl) (l:=[vV,lF]) 0 (by decide) hj));have hr2:∀ W,Below wl.heap.size wl W→W.rangeAt b2 (o2+25) (dN lF):=fun W h j v hj=>(h.cell (p:=⟨b2,o2+25+j,none⟩) hb2).trans (by rw [Nat.add_assoc];exact hc2 (25+j) v (by rw [← Nat.one_mul 25];exact uD (f:=dN) (n:=25) (fun _=>rfl) (l:=[vV,lF]) 1 (by decide) hj));clear Zg hc2;go_wp2
          go_loopw [79] (fun i wr=>∃ k:Nat,k≤2∧i= .int .i64 k∧((k<2∧Bx wl wr [(U6,tJ,175)])∨(k=2∧Bx wl wr [(U6,dN lF,175)]))) (fun i _=>2 - (intOf i).toNat)
          case atStart=>exact ⟨0,by omega,rfl,.inl ⟨by omega,hM⟩⟩
          case round=>
           clear hM;obtain ⟨k,hk,rfl,hM⟩:=hrel
           by_cases h0:k=0
           · subst h0
             replace hM:=(hM.resolve_right (by simp)).2;have OV:=hr1 _ hM.bw
             go_upto_region 19 with (fail)
             go_cut [21] from 81 to 83 (fun v21 wx=>∃ V5,v21=ptr V5∧Bx wl wx [(V5,dN vV,175),(U6,tJ,175)])
             case first=>
              go_wp2_with (first | ((with_reducible (refine ah 175 (.tmp 81) ?lx ?_));(case lx=>rfl);refine aK OV Tryz.underlying175 rfl lQ rfl (.tmp 81) rfl rfl ?_) | ((with_reducible (refine aH 175 (.tmp 21) (.tmp 82) ?lx ?_));(case lx=>rfl);refine aC ((hM.add [.int .i64 0,.slice none 0 0,.int .i64 0,.slice none 0 0,.int .i64 0,.slice none 0 0,.int .i64 0,.slice none 0 0,.int .i64 0,.slice none 0 0,.int .i64 0,.slice none 0 0,.int .i64 0,.slice none 0 0,.int .i64 0,.slice none 0 0,.int .i64 0,.slice none 0 0,.int .i64 0,.slice none 0 0,.int .i64 0,.slice none 0 0,.int .i64 0,.slice none 0 0,.bool false] 175).head) (dN vV) rfl lQ (D9 _) rfl (.tmp 21) (.tmp 82) rfl rfl rfl ?_))
              go_meet;exact ⟨_,rfl,(hM.add [.int .i64 0,.slice none 0 0,.int .i64 0,.slice none 0 0,.int .i64 0,.slice none 0 0,.int .i64 0,.slice none 0 0,.int .i64 0,.slice none 0 0,.int .i64 0,.slice none 0 0,.int .i64 0,.slice none 0 0,.int .i64 0,.slice none 0 0,.int .i64 0,.slice none 0 0,.int .i64 0,.slice none 0 0,.int .i64 0,.slice none 0 0,.int .i64 0,.slice none 0 0,.bool false] 175).put (dN vV) rfl⟩
             case rest=>
              obtain ⟨V5,rfl,hM⟩:=hcut;clear OV;have k24:=(hM.get 0 rfl).cell (j:=24) rfl
              go_wp2_with (first | ((with_reducible (refine ah 164 (.tmp 87) ?lx ?_));(case lx=>rfl);refine aK (hM.rng 0 rfl 12 (aj ⟨1,1⟩) rfl) Tryz.underlying164 rfl aZ rfl (.tmp 87) rfl rfl ?_) | ((with_reducible (refine ah 164 (.tmp 87) ?lx ?_));(case lx=>rfl);refine fA (hM.rng 0 rfl 12 (aj ⟨1,1⟩) rfl) Tryz.underlying164 rfl aZ rfl (.tmp 87) rfl rfl ?_) | ((with_reducible (refine aI 164 (.tmp 87) ?lx ?_));(case lx=>rfl);refine eu (hM.rng 0 rfl 12 (aj ⟨1,1⟩) rfl) Tryz.underlying164 rfl aZ (.tmp 87) rfl rfl ?_) | ((with_reducible (refine ah 164 (.tmp 90) ?lx ?_));(case lx=>rfl);refine aK (hM.rng 0 rfl 16 (aj ⟨1,1⟩) rfl) Tryz.underlying164 rfl aZ rfl (.tmp 90) rfl rfl ?_) | ((with_reducible (refine ah 164 (.tmp 90) ?lx ?_));(case lx=>rfl);refine fA (hM.rng 0 rfl 16 (aj ⟨1,1⟩) rfl) Tryz.underlying164 rfl aZ rfl (.tmp 90) rfl rfl ?_) | ((with_reducible (refine aI 164 (.tmp 90) ?lx ?_));(case lx=>rfl);refine eu (hM.rng 0 rfl 16 (aj ⟨1,1⟩) rfl) Tryz.underlying164 rfl aZ (.tmp 90) rfl rfl ?_) | ((with_reducible (refine ah 164 (.tmp 93) ?lx ?_));(case lx=>rfl);refine aK (hM.rng 0 rfl 20 (aj ⟨4,1⟩) rfl) Tryz.underlying164 rfl aZ rfl (.tmp 93) rfl rfl ?_) | ((with_reducible (refine ah 164 (.tmp 93) ?lx ?_));(case lx=>rfl);refine fA (hM.rng 0 rfl 20 (aj ⟨4,1⟩) rfl) Tryz.underlying164 rfl aZ rfl (.tmp 93) rfl rfl ?_) | ((with_reducible (refine aI 164 (.tmp 93) ?lx ?_));(case lx=>rfl);refine eu (hM.rng 0 rfl 20 (aj ⟨4,1⟩) rfl) Tryz.underlying164 rfl aZ (.tmp 93) rfl rfl ?_) | ((with_reducible (refine ah 173 (.tmp 100) ?lx ?_));(case lx=>rfl);refine aK (hM.rng 0 rfl 12 (aY vV.2) rfl) Tryz.underlying173 rfl eF rfl (.tmp 100) rfl rfl ?_) | ((with_reducible (refine ah 173 (.tmp 100) ?lx ?_));(case lx=>rfl);refine fA (hM.rng 0 rfl 12 (aY vV.2) rfl) Tryz.underlying173 rfl eF rfl (.tmp 100) rfl rfl ?_) | ((with_reducible (refine aI 173 (.tmp 100) ?lx ?_));(case lx=>rfl);refine eu (hM.rng 0 rfl 12 (aY vV.2) rfl) Tryz.underlying173 rfl eF (.tmp 100) rfl rfl ?_) | (go_at_call 103;refine (Ho.out _).mono ?_;rintro e w1 ⟨rfl,hb1⟩;have hM:=hM.call hb1) | (go_at_call 104;refine (HO1.out _ hM.bw).mono ?_;rintro e w2 ⟨rfl,hb2⟩;have hM:=hM.call hb2))
              go_roundw
              case rel=>exact ⟨1,by omega,by go_num,.inl ⟨by omega,hM.tail⟩⟩
              case measure=>simp [intOf]
           · by_cases h1:k=1
             · subst h1
               replace hM:=(hM.resolve_right (by simp)).2;have OW:=hr2 _ hM.bw
               go_upto_region 19 with (fail)
               go_cut [21] from 81 to 83 (fun v21 wx=>∃ V5,v21=ptr V5∧Bx wl wx [(V5,dN lF,175),(U6,tJ,175)])
               case first=>
                go_wp2_with (first | ((with_reducible (refine ah 175 (.tmp 81) ?lx ?_));(case lx=>rfl);refine aK OW Tryz.underlying175 rfl lQ rfl (.tmp 81) rfl rfl ?_) | ((with_reducible (refine aH 175 (.tmp 21) (.tmp 82) ?lx ?_));(case lx=>rfl);refine aC ((hM.add [.int .i64 0,.slice none 0 0,.int .i64 0,.slice none 0 0,.int .i64 0,.slice none 0 0,.int .i64 0,.slice none 0 0,.int .i64 0,.slice none 0 0,.int .i64 0,.slice none 0 0,.int .i64 0,.slice none 0 0,.int .i64 0,.slice none 0 0,.int .i64 0,.slice none 0 0,.int .i64 0,.slice none 0 0,.int .i64 0,.slice none 0 0,.int .i64 0,.slice none 0 0,.bool false] 175).head) (dN lF) rfl lQ (D9 _) rfl (.tmp 21) (.tmp 82) rfl rfl rfl ?_))
                go_meet;exact ⟨_,rfl,(hM.add [.int .i64 0,.slice none 0 0,.int .i64 0,.slice none 0 0,.int .i64 0,.slice none 0 0,.int .i64 0,.slice none 0 0,.int .i64 0,.slice none 0 0,.int .i64 0,.slice none 0 0,.int .i64 0,.slice none 0 0,.int .i64 0,.slice none 0 0,.int .i64 0,.slice none 0 0,.int .i64 0,.slice none 0 0,.int .i64 0,.slice none 0 0,.int .i64 0,.slice none 0 0,.bool false] 175).put (dN lF) rfl⟩
               case rest=>
                obtain ⟨V5,rfl,hM⟩:=hcut;clear OW;have k24:=(hM.get 0 rfl).cell (j:=24) rfl
                go_upto_region 21 with (first | ((with_reducible (refine ah 164 (.tmp 87) ?lx ?_));(case lx=>rfl);refine aK (hM.rng 0 rfl 12 (aj ⟨4,1⟩) rfl) Tryz.underlying164 rfl aZ rfl (.tmp 87) rfl rfl ?_) | ((with_reducible (refine ah 164 (.tmp 87) ?lx ?_));(case lx=>rfl);refine fA (hM.rng 0 rfl 12 (aj ⟨4,1⟩) rfl) Tryz.underlying164 rfl aZ rfl (.tmp 87) rfl rfl ?_) | ((with_reducible (refine aI 164 (.tmp 87) ?lx ?_));(case lx=>rfl);refine eu (hM.rng 0 rfl 12 (aj ⟨4,1⟩) rfl) Tryz.underlying164 rfl aZ (.tmp 87) rfl rfl ?_) | ((with_reducible (refine ah 164 (.tmp 90) ?lx ?_));(case lx=>rfl);refine aK (hM.rng 0 rfl 16 (aj ⟨1,1⟩) rfl) Tryz.underlying164 rfl aZ rfl (.tmp 90) rfl rfl ?_) | ((with_reducible (refine ah 164 (.tmp 90) ?lx ?_));(case lx=>rfl);refine fA (hM.rng 0 rfl 16 (aj ⟨1,1⟩) rfl) Tryz.underlying164 rfl aZ rfl (.tmp 90) rfl rfl ?_) | ((with_reducible (refine aI 164 (.tmp 90) ?lx ?_));(case lx=>rfl);refine eu (hM.rng 0 rfl 16 (aj ⟨1,1⟩) rfl) Tryz.underlying164 rfl aZ (.tmp 90) rfl rfl ?_) | ((with_reducible (refine ah 164 (.tmp 93) ?lx ?_));(case lx=>rfl);refine aK (hM.rng 0 rfl 20 (aj ⟨4,1⟩) rfl) Tryz.underlying164 rfl aZ rfl (.tmp 93) rfl rfl ?_) | ((with_reducible (refine ah 164 (.tmp 93) ?lx ?_));(case lx=>rfl);refine fA (hM.rng 0 rfl 20 (aj ⟨4,1⟩) rfl) Tryz.underlying164 rfl aZ rfl (.tmp 93) rfl rfl ?_) | ((with_reducible (refine aI 164 (.tmp 93) ?lx ?_));(case lx=>rfl);refine eu (hM.rng 0 rfl 20 (aj ⟨4,1⟩) rfl) Tryz.underlying164 rfl aZ (.tmp 93) rfl rfl ?_) | ((with_reducible (refine ah 173 (.tmp 100) ?lx ?_));(case lx=>rfl);refine aK (hM.rng 0 rfl 12 (aY lF.2) rfl) Tryz.underlying173 rfl eF rfl (.tmp 100) rfl rfl ?_) | ((with_reducible (refine ah 173 (.tmp 100) ?lx ?_));(case lx=>rfl);refine fA (hM.rng 0 rfl 12 (aY lF.2) rfl) Tryz.underlying173 rfl eF rfl (.tmp 100) rfl rfl ?_) | ((with_reducible (refine aI 173 (.tmp 100) ?lx ?_));(case lx=>rfl);refine eu (hM.rng 0 rfl 12 (aY lF.2) rfl) Tryz.underlying173 rfl eF (.tmp 100) rfl rfl ?_) | (go_at_call 103;refine (HS2.out _).mono ?_;rintro e w1 ⟨rfl,hb1⟩;have hM:=hM.call hb1) | (go_at_call 104;refine (HO2.out _ hM.bw).mono ?_;rintro e w2 ⟨rfl,hb2⟩;have hM:=hM.call hb2))
                have k19:=(hM.get 1 rfl).cell (j:=24) rfl
                go_wp2_with (first | ((with_reducible (refine ah 173 (.tmp 105) ?lx ?_));(case lx=>rfl);refine aK (hM.rng 0 rfl 12 (aY lF.2) rfl) Tryz.underlying173 rfl eF rfl (.tmp 105) rfl rfl ?_) | ((with_reducible (refine ah 173 (.tmp 105) ?lx ?_));(case lx=>rfl);refine fA (hM.rng 0 rfl 12 (aY lF.2) rfl) Tryz.underlying173 rfl eF rfl (.tmp 105) rfl rfl ?_) | ((with_reducible (refine aI 173 (.tmp 105) ?lx ?_));(case lx=>rfl);refine eu (hM.rng 0 rfl 12 (aY lF.2) rfl) Tryz.underlying173 rfl eF (.tmp 105) rfl rfl ?_) | ((with_reducible (refine ah 175 (.tmp 21) ?lx ?_));(case lx=>rfl);refine au (hM.get 0 rfl) Tryz.underlying175 rfl lQ rfl (.tmp 21) rfl rfl ?_) | ((with_reducible (refine aH 175 (.tmp 19) (.tmp 117) ?lx ?_));(case lx=>rfl);refine aC (hM.swap.head) (dN lF) rfl lQ (D9 _) rfl (.tmp 19) (.tmp 117) rfl rfl rfl ?_))
                have hM:=hM.swap.put (dN lF) rfl
                go_roundw
                case rel=>exact ⟨2,by omega,by go_num,.inr ⟨rfl,hM.swap.tail⟩⟩
                case measure=>simp [intOf]
             · obtain rfl:k=2:=by omega
               replace hM:=(hM.resolve_left (by simp)).2;clear hk h0 h1 hr1 hr2
               go_upto_region 25 with (fail)
               go_cut [23] from 119 to 121 (fun v23 wx=>∃ RV,v23=ptr RV∧Bx wl wx [(RV,aY lF.2,173),(U6,dN lF,175)])
               case first=>
                go_wp2_with (first | ((with_reducible (refine ah 173 (.tmp 119) ?lx ?_));(case lx=>rfl);refine aK (hM.rng 0 rfl 12 (aY lF.2) rfl) Tryz.underlying173 rfl eF rfl (.tmp 119) rfl rfl ?_) | ((with_reducible (refine ah 173 (.tmp 119) ?lx ?_));(case lx=>rfl);refine fA (hM.rng 0 rfl 12 (aY lF.2) rfl) Tryz.underlying173 rfl eF rfl (.tmp 119) rfl rfl ?_) | ((with_reducible (refine aI 173 (.tmp 119) ?lx ?_));(case lx=>rfl);refine eu (hM.rng 0 rfl 12 (aY lF.2) rfl) Tryz.underlying173 rfl eF (.tmp 119) rfl rfl ?_) | ((with_reducible (refine aH 173 (.tmp 23) (.tmp 120) ?lx ?_));(case lx=>rfl);refine aC ((hM.add (aY (⟨0,0⟩,⟨0,0⟩,⟨0,0⟩)) 173).head) (aY lF.2) rfl eF (AY _) rfl (.tmp 23) (.tmp 120) rfl rfl rfl ?_))
                go_meet;exact ⟨_,rfl,(hM.add (aY (⟨0,0⟩,⟨0,0⟩,⟨0,0⟩)) 173).put (aY lF.2) rfl⟩
               case rest=>
                obtain ⟨RV,rfl,hM⟩:=hcut;have HL1:=hide (fun W=>Dj ⟨4,1⟩ W (by rfl));have HL2:=hide (fun W=>Dj ⟨1,1⟩ W (by rfl));have tk1:=hide True.intro;have tk2:=hide True.intro
                go_upto_region 28 with (first | ((with_reducible (refine ah 164 (.tmp 121) ?lx ?_));(case lx=>rfl);refine aK (hM.rng 0 rfl 0 (aj ⟨4,1⟩) rfl) Tryz.underlying164 rfl aZ rfl (.tmp 121) rfl rfl ?_) | ((with_reducible (refine ah 164 (.tmp 121) ?lx ?_));(case lx=>rfl);refine fA (hM.rng 0 rfl 0 (aj ⟨4,1⟩) rfl) Tryz.underlying164 rfl aZ rfl (.tmp 121) rfl rfl ?_) | ((with_reducible (refine aI 164 (.tmp 121) ?lx ?_));(case lx=>rfl);refine eu (hM.rng 0 rfl 0 (aj ⟨4,1⟩) rfl) Tryz.underlying164 rfl aZ (.tmp 121) rfl rfl ?_) | ((with_reducible (refine ah 164 (.tmp 125) ?lx ?_));(case lx=>rfl);refine aK (hM.rng 0 rfl 4 (aj ⟨1,1⟩) rfl) Tryz.underlying164 rfl aZ rfl (.tmp 125) rfl rfl ?_) | ((with_reducible (refine ah 164 (.tmp 125) ?lx ?_));(case lx=>rfl);refine fA (hM.rng 0 rfl 4 (aj ⟨1,1⟩) rfl) Tryz.underlying164 rfl aZ rfl (.tmp 125) rfl rfl ?_) | ((with_reducible (refine aI 164 (.tmp 125) ?lx ?_));(case lx=>rfl);refine eu (hM.rng 0 rfl 4 (aj ⟨1,1⟩) rfl) Tryz.underlying164 rfl aZ (.tmp 125) rfl rfl ?_) | ((with_reducible (refine ah 164 (.tmp 130) ?lx ?_));(case lx=>rfl);refine aK (hM.rng 0 rfl 8 (aj ⟨4,1⟩) rfl) Tryz.underlying164 rfl aZ rfl (.tmp 130) rfl rfl ?_) | ((with_reducible (refine ah 164 (.tmp 130) ?lx ?_));(case lx=>rfl);refine fA (hM.rng 0 rfl 8 (aj ⟨4,1⟩) rfl) Tryz.underlying164 rfl aZ rfl (.tmp 130) rfl rfl ?_) | ((with_reducible (refine aI 164 (.tmp 130) ?lx ?_));(case lx=>rfl);refine eu (hM.rng 0 rfl 8 (aj ⟨4,1⟩) rfl) Tryz.underlying164 rfl aZ (.tmp 130) rfl rfl ?_) | (clear tk1;go_at_call 106;refine (HL1.out _).mono ?_;rintro e w1 ⟨rfl,hb1⟩;have hM:=hM.call hb1) | (clear tk2;go_at_call 106;refine (HL2.out _).mono ?_;rintro e w2 ⟨rfl,hb2⟩;have hM:=hM.call hb2) | (go_at_call 106;refine (HL1.out _).mono ?_;rintro e w3 ⟨rfl,hb3⟩;have hM:=hM.call hb3))
                have HT4:Hid (∀ W,Glob W→Calls Tryz.prog 107 #[fQ ⟨4,1⟩] W fun e w'=>e= .returned (.string s4)∧Below W.heap.size W w'):=hide (fun W h=>by have:=G7 ⟨4,1⟩ W h (by rfl);rwa [N9] at this);have HT1:Hid (∀ W,Glob W→Calls Tryz.prog 107 #[fQ ⟨1,1⟩] W fun e w'=>e= .returned (.string s1)∧Below W.heap.size W w'):=hide (fun W h=>by have:=G7 ⟨1,1⟩ W h (by rfl);rwa [N8] at this);have hL:=(Bx.join hL.tail.tail.tail hM.swap.tail).swap;have I5:∀ W:World,Bx w W [(RV,aY lF.2,173)]→W.rangeAt (RV) 0 (aj ⟨4,1⟩):=fun W h=>h.rng 0 rfl 0 _ rfl;have I7:∀ W:World,Bx w W [(RV,aY lF.2,173)]→W.rangeAt (RV) 4 (aj ⟨1,1⟩):=fun W h=>h.rng 0 rfl 4 _ rfl;have I8:∀ W:World,Bx w W [(RV,aY lF.2,173)]→W.rangeAt (RV) 8 (aj ⟨4,1⟩):=fun W h=>h.rng 0 rfl 8 _ rfl;have hL:=hL.drew;refine wp_region_held_drew (S:=(fun w':World=>Bx w w' [(RV,aY lF.2,173)])) (by kernel_rfl) ?iJ (fun hHeld=>?_)
                case iJ=>exact hL.tail
                refine aF 0 ?_;refine aF 1 ?_;refine bJ 2 I5 Tryz.underlying164 ?_;refine aF 4 ?_;refine bJ 5 I7 Tryz.underlying164 ?_;refine aF 7 ?_;refine bJ 8 I8 Tryz.underlying164 ?_;refine aG 3 fun K hK=>?_;go_simp
                (go_at_call 107;refine (HT4.out _ (HG.out.below hL.bw)).mono ?_;rintro e awh ⟨rfl,Zn⟩)
                have hL:=hL.call Zn;refine ay hK (hL.tail) fun hHeld=>?_;clear hK K;refine aG 6 fun K hK=>?_;go_simp
                (go_at_call 107;refine (HT1.out _ (HG.out.below hL.bw)).mono ?_;rintro e awo ⟨rfl,Zo⟩)
                have hL:=hL.call Zo;refine ay hK (hL.tail) fun hHeld=>?_;clear hK K;refine aG 9 fun K hK=>?_;go_simp
                (go_at_call 107;refine (HT4.out _ (HG.out.below hL.bw)).mono ?_;rintro e aww ⟨rfl,Zp⟩)
                have hL:=hL.call Zp;refine ay hK (hL.tail) fun hHeld=>?_;clear hK K;refine aF 10 ?_;refine aF 11 ?_;refine aG 12 fun K hK=>?_;refine aU hL.head [.string s4,.string s1,.string s4] rfl zu (H7 _ _ _) (.tmp 11) (.tmp 145) rfl rfl rfl ?_;have hL:=hL.put [.string s4,.string s1,.string s4] rfl;refine ay hK (hL.tail) fun hHeld=>?_;clear hK K;refine aF 13 ?_;refine wpAnyH_done (by kernel_rfl) ?_ _;go_wp2
                try rw [Exit.noGoto_ret]
                exact bodyPost_ret (LG (p:=11) hL.head Tryz.underlying110 rfl zu rfl _ rfl) rfl ⟨rfl,hL.bw⟩
theorem D7 (g:Sk.Game):∀ v∈bT g,v.oneCell'=true:=by simp [bT,Value.oneCell']
def eH:Sk.Game:=⟨Sk.aW,1,0,0⟩
def sJ (c b:ByteArray):Sk.Entry:=⟨Sk.dJ,c,[b],[b],0⟩
def mF:List Sk.Entry:=[sJ Sk.dH Sk.dw,sJ Sk.qj Sk.qj,⟨Sk.dJ,Sk.dH,[Sk.jZ],[],0⟩,⟨Sk.kL,Sk.dH,[],[],0⟩,sJ Sk.ql Sk.ql,sJ Sk.dH Sk.cu]
theorem Bz {W:World} {S:Nat→Prop} {size n c:Nat} {A:Option Addr} {xs:List Value} (h:Reads W S size A n c xs) {g:Nat} (hg:∀ b,S b→b≠g) (vs:List Value) (o:Nat):Reads (W.setCells g o vs) S size A n c xs:=
 h.keep (by rw [setCells_size];exact Nat.le_refl _) fun b q hb _=>World.cell?_of_block (Held.nH (hg b hb) vs o W)
theorem iZ (w:World):Calls Tryz.prog 59 #[] w fun e w'=>e= .returned (lZ eH)∧Below w.heap.size w w':=by
 go_enter Tryz.func59,Tryz.ntmps59
 have hL:=Bx.nil w
 go_wp2_with (((with_reducible (refine aH 23 (.tmp 0) (.tmp 1) ?lx ?_));(case lx=>rfl);refine aC ((hL.add (bT ⟨⟨#[]⟩,0,0,0⟩) 23).head) (bT eH) rfl cZ (D7 _) rfl (.tmp 0) (.tmp 1) rfl rfl rfl ?_))
 have hM:=(hL.add (bT ⟨⟨#[]⟩,0,0,0⟩) 23).put (bT eH) rfl;exact bodyPost_ret (aX (p:=0) (hM.head) Tryz.underlying23 rfl cZ rfl _ rfl) rfl ⟨rfl,hM.bw⟩
theorem oH (c b:ByteArray) (w:World):Calls Tryz.prog 51 #[.string c,.string b] w fun e w'=>∃ x:En,e= .returned (wF x)∧x.x=sJ c b∧iW w' (fun p=>w.heap.size≤p) x∧Below w.heap.size w w':=by
 go_enter Tryz.func51,Tryz.ntmps51
 have hL:=(Bx.nil w).add [.string ⟨#[]⟩,.string ⟨#[]⟩,.slice none 0 0,.slice none 0 0,.int .i64 0] 83;have hM:=(hL.alloc (.cells #[.string b] 9)).alloc (.cells #[.string b] 9)
 go_wp2_with (((with_reducible (refine aH 83 (.tmp 4) (.tmp 10) ?lx ?_));(case lx=>rfl);refine aC (hM.head) (dU ⟨sJ c b,some ⟨w.heap.size+1,0,none⟩,1,some ⟨w.heap.size+1+1,0,none⟩,1⟩) rfl bF (zy _) rfl (.tmp 4) (.tmp 10) rfl rfl rfl ?_))
 have hZ:=hM.put (dU ⟨sJ c b,some ⟨w.heap.size+1,0,none⟩,1,some ⟨w.heap.size+1+1,0,none⟩,1⟩) rfl;refine bodyPost_ret (aX (p:=4) hZ.head Tryz.underlying83 rfl bF rfl _ rfl) rfl ⟨⟨sJ c b,some ⟨w.heap.size+1,0,none⟩,1,some ⟨w.heap.size+1+1,0,none⟩,1⟩,rfl,rfl,?_,hZ.bw⟩;have h1:=Reads.lit (w.alloc (.cells ([.string ⟨#[]⟩,.string ⟨#[]⟩,.slice none 0 0,.slice none 0 0,.int .i64 0]:List Value).toArray 83)) 9 (fun p=>w.heap.size<p) 1 1 [.string b] (by omega) rfl (by simp);have h2:=Reads.lit ((w.alloc (.cells ([.string ⟨#[]⟩,.string ⟨#[]⟩,.slice none 0 0,.slice none 0 0,.int .i64 0]:List Value).toArray 83)).alloc (.cells ([.string b]:List Value).toArray 9)) 9 (fun p=>w.heap.size<p) 1 1 [.string b] (by omega) rfl (by simp;omega)
 have hsz:(w.alloc (.cells ([.string ⟨#[]⟩,.string ⟨#[]⟩,.slice none 0 0,.slice none 0 0,.int .i64 0]:List Value).toArray 83)).heap.size=w.heap.size+1:=by simp
 rw [hsz] at h1
 have hsz2:((w.alloc (.cells ([.string ⟨#[]⟩,.string ⟨#[]⟩,.slice none 0 0,.slice none 0 0,.int .i64 0]:List Value).toArray 83)).alloc (.cells ([.string b]:List Value).toArray 9)).heap.size=w.heap.size+1+1:=by simp
 rw [hsz2] at h2;exact ⟨(Bz (Reads.alloc h1 _) (fun b h=>by omega) _ _).more (fun b _ h=>Nat.le_of_lt h),(Bz h2 (fun b h=>by omega) _ _).more (fun b _ h=>Nat.le_of_lt h)⟩
def uK (l:List En):Prop:=∃ (x1 x2 x5 x6:En) (g:Nat),l=[x1,x2,⟨⟨Sk.dJ,Sk.dH,[Sk.jZ],[],0⟩,some ⟨g,0,none⟩,1,none,0⟩,⟨⟨Sk.kL,Sk.dH,[],[],0⟩,none,0,none,0⟩,x5,x6]∧x1.x=sJ Sk.dH Sk.dw∧x2.x=sJ Sk.qj Sk.qj∧x5.x=sJ Sk.ql Sk.ql∧x6.x=sJ Sk.dH Sk.cu
theorem uK.bare {l:List En} (h:uK l):bare l=mF:=by
 obtain ⟨x1,x2,x5,x6,g,rfl,h1,h2,h5,h6⟩:=h
 simp only [Proofs.YtjbbfmofpjflmaaGreatDoor.bare,List.map_cons,List.map_nil,h1,h2,h5,h6];rfl
theorem uK.len {l:List En} (h:uK l):l.length=6:=by
 obtain ⟨x1,x2,x5,x6,g,rfl,_⟩:=h;rfl
theorem jM (w:World):Calls Tryz.prog 60 #[] w fun e w'=>∃ (l:List En) (g:Nat),e= .returned (.slice (some ⟨g,0,none⟩) 6 6)∧uK l∧qh w' (fun p=>w.heap.size≤p) (some ⟨g,0,none⟩) 6 l∧Below w.heap.size w w':=by
 have tk1:=hide True.intro;have tk2:=hide True.intro;have tk5:=hide True.intro;have tk6:=hide True.intro
 go_enter Tryz.func60,Tryz.ntmps60
 go_wp2_with (first | (clear tk1;go_at_call 51;refine (oH _ _ _).mono ?_;rintro e w1 ⟨x1,rfl,hy1,hk1,hb1⟩;have HY1:=hide hy1;clear hy1) | (clear tk2;go_at_call 51;refine (oH _ _ _).mono ?_;rintro e w2 ⟨x2,rfl,hy2,hk2,hb2⟩;have HY2:=hide hy2;clear hy2) | (clear tk5;go_at_call 51;refine (oH _ _ _).mono ?_;rintro e w5 ⟨x5,rfl,hy5,hk5,hb5⟩;have HY5:=hide hy5;clear hy5) | (clear tk6;go_at_call 51;refine (oH _ _ _).mono ?_;rintro e w6 ⟨x6,rfl,hy6,hk6,hb6⟩;have Wi:=hide hy6;clear hy6))
 go_ret;have c2:=hb1.trans (hb2.mono hb1.size);have g2:Below w.heap.size w (w2.alloc (.cells ([.string Sk.jZ]:List Value).toArray 9)):=c2.alloc c2.size _;have c5:=g2.trans (hb5.mono g2.size);have c6:=c5.trans (hb6.mono c5.size);have hg:=Reads.lit w2 9 (fun p=>w.heap.size≤p) 1 1 [.string Sk.jZ] (by omega) rfl c2.size;have b25:Below w2.heap.size w2 w6:=(((Below.refl _ _).alloc (Nat.le_refl _) (.cells ([.string Sk.jZ]:List Value).toArray 9)).trans (hb5.mono (by simp))).trans (hb6.mono (by have:=hb5.size;simp at this;omega));have g56:Below (w2.alloc (.cells ([.string Sk.jZ]:List Value).toArray 9)).heap.size (w2.alloc (.cells ([.string Sk.jZ]:List Value).toArray 9)) w6:=hb5.trans (hb6.mono hb5.size);refine ⟨[x1,x2,⟨⟨Sk.dJ,Sk.dH,[Sk.jZ],[],0⟩,some ⟨w2.heap.size,0,none⟩,1,none,0⟩,⟨⟨Sk.kL,Sk.dH,[],[],0⟩,none,0,none,0⟩,x5,x6],_,rfl,?_,⟨?_,?_⟩,c6.alloc c6.size _⟩
 · exact ⟨x1,x2,x5,x6,_,rfl,HY1.out,HY2.out,HY5.out,Wi.out⟩
 · exact Reads.lit w6 83 (fun p=>w.heap.size≤p) 5 6 (yQ [x1,x2,⟨⟨Sk.dJ,Sk.dH,[Sk.jZ],[],0⟩,some ⟨w2.heap.size,0,none⟩,1,none,0⟩,⟨⟨Sk.kL,Sk.dH,[],[],0⟩,none,0,none,0⟩,x5,x6]) (by omega) rfl c6.size
 · intro e he
   refine iW.below ?_ ((Below.refl _ _).alloc (Nat.le_refl _) _)
   simp only [List.mem_cons,List.not_mem_nil,or_false] at he
   rcases he with rfl | rfl | rfl | rfl | rfl | rfl
   · exact (hk1.below hb2).below b25
   · exact (hk2.more (fun b _ h=>Nat.le_trans hb1.size h)).below b25
   · exact ⟨Reads.below hg g56,Reads.none_ _ _ _⟩
   · exact ⟨Reads.none_ _ _ _,Reads.none_ _ _ _⟩
   · exact (hk5.more (fun b _ h=>Nat.le_trans g2.size h)).below hb6
   · exact hk6.more (fun b _ h=>Nat.le_trans c5.size h)
theorem FT {W:World} {S:Nat→Prop} {A:Option Addr} {c:Nat} {l:List Int} (h:jV W S A c l) (k:Nat) (hk:k<l.length):∃ b o,A=some ⟨b,o,none⟩∧W.cell? ⟨b,o+k,none⟩=some (.int .i64 l[k]):=by
 obtain ⟨b,o,e,_,_,hc⟩:=Reads.at_ h (by omega);exact ⟨b,o,e,hc k _ (by rw [List.getElem?_map,List.getElem?_eq_getElem hk];rfl)⟩
theorem uy (S S':Nat→Prop) (a b:List Int) (A B:Option Addr) (c d:Nat) (w:World) (ha:jV w S A c a) (hb:jV w S' B d b):Calls Tryz.prog 61 #[.slice A a.length c,.slice B b.length d] w fun e w'=>e= .returned (.bool (decide (a=b)))∧Below w.heap.size w w':=by
 obtain ⟨a1,a2,a3⟩:=Reads.bd ha;obtain ⟨b1,b2,b3⟩:=Reads.bd hb
 by_cases hl:a.length=b.length
 rotate_left
 · have hl':((a.length:Int) != (b.length:Int))=true:=by simp;omega
   have HM:=hide (show decide (a=b)=false from decide_eq_false (fun h=>hl (by rw [h])));clear hl
   go_enter Tryz.func61,Tryz.ntmps61
   go_wp2;go_ret;exact ⟨aN HM.out.symm,Below.refl _ _⟩
 · have hl':((a.length:Int) != (b.length:Int))=false:=by simp;omega
   have HL:=hide hl;clear hl
   go_enter Tryz.func61,Tryz.ntmps61
   go_wp2
   go_loopw [5] (fun i wr=>∃ k:Nat,k≤a.length∧i= .int .i64 k∧Aside (a.take k=b.take k)∧Below w.heap.size w wr) (fun i _=>a.length - (intOf i).toNat)
   case atStart=>exact ⟨0,by omega,rfl,rfl,Below.refl _ _⟩
   case round=>
    obtain ⟨k,hk,rfl,heq,hbw⟩:=hrel
    by_cases hlt:k<a.length
    · have hlt2:k<b.length:=by have:=HL.out;omega
      obtain ⟨p,o,rfl,hca⟩:=FT (Reads.below ha hbw) k hlt;obtain ⟨q,r,rfl,hcb⟩:=FT (Reads.below hb hbw) k hlt2;have hck:decide ((k:Int)<(a.length:Int))=true:=decide_eq_true (by omega)
      have i1:(0:Int)≤(k:Int):=by omega
      have i2:(k:Int)<(a.length:Int):=by omega
      have i3:(k:Int)<(b.length:Int):=by omega
      have hta:a.take (k+1)=a.take k++[a[k]]:=List.take_succ_eq_append_getElem hlt;have htb:b.take (k+1)=b.take k++[b[k]]:=List.take_succ_eq_append_getElem hlt2;have HT:=hide (And.intro hta htb);have HE:Hid (∀ h:a=b,a[k]=b[k]):=hide (fun h=>by subst h;rfl);obtain ⟨x,hx⟩:∃ x,a[k]=x:=⟨_,rfl⟩;obtain ⟨y,hy⟩:∃ y,b[k]=y:=⟨_,rfl⟩
      simp only [hx,hy] at hca hcb HE HT
      clear hta htb hx hy
      by_cases hxy:x=y
      · have hne:(x != y)=false:=by simp [hxy]
        have HX:=hide hxy;clear hxy;go_wp2
        go_quiet (fail)
        go_wp2
        go_roundw
        case rel=>exact ⟨k+1,by omega,by go_num,by rw [HT.out.1,HT.out.2,heq.out,HX.out];exact rfl,below_drewN hbw nq⟩
        case measure=>simp [intOf];omega
      · have hne:(x != y)=true:=by simp [hxy]
        have HM:=hide (show decide (a=b)=false from decide_eq_false (fun h=>hxy (HE.out h)));clear hxy;go_wp2
        go_quiet (fail)
        go_wp2;go_ret;exact ⟨aN HM.out.symm,below_drewN hbw nq⟩
    · have hck:decide ((k:Int)<(a.length:Int))=false:=decide_eq_false (by omega)
      have HM:=hide (show decide (a=b)=true from decide_eq_true (by have h:=heq.out;have:=HL.out;rwa [List.take_of_length_le (by omega),List.take_of_length_le (by omega)] at h));go_wp2;go_ret;exact ⟨aN HM.out.symm,hbw⟩
def kN:Sk.State:=⟨0,0,0,0,Sk.iI,1,0,false,false,0,0,0, -1⟩
def jw:Sk.State:=⟨0,8,0,8,Sk.dG,0,2,false,false,0,0,0, -1⟩
def jK:Sk.State:=⟨1,8,8,4,Sk.dG,0,3,false,false,0,0,0, -1⟩
def wS:Sk.State:=⟨1,40,0,0,Sk.dG,0,3,false,false,0,0,0, -1⟩
def jR:Sk.Game:=⟨Sk.bM,0,100,0⟩
def sN:Sk.State:=⟨0,0,0,0,Sk.pU,0,0,false,false,0,0,0, -1⟩
def zB:Sk.Entry:=⟨Sk.dJ,Sk.dH,[Sk.dw,Sk.cu],[Sk.dw,Sk.bQ],0⟩
def kK:Sk.Game:=⟨Sk.dZ,0,2,10⟩
def iT:Sk.Entry:=⟨Sk.dJ,Sk.dH,[Sk.dw,Sk.cu],[],3⟩
def je:Sk.Entry:=⟨Sk.dJ,Sk.dH,[Sk.bQ,Sk.dw],[],3⟩
def tH:Sk.State:=⟨0,2,2,0,Sk.pU,0,0,false,false,0,1,1,2⟩
theorem KU:Sk.final eH (Sk.start eH) (mF.take 2)=jw:=by kernel_rfl
theorem KW:Sk.final eH (Sk.start eH) mF=jK:=by kernel_rfl
theorem J7:Sk.gu eH (Sk.start eH) 1 (mF.take 2)=[]∧Sk.gu eH (Sk.start eH) 1 mF=[]:=⟨by kernel_rfl,by kernel_rfl⟩
theorem DX:Sk.iq eH (mF.take 2)=0∧Sk.iq eH mF=0:=⟨by kernel_rfl,by kernel_rfl⟩
theorem xR:Sk.final kK (Sk.start kK) [iT,iT,je,je]=tH∧Sk.gu kK (Sk.start kK) 1 [iT,iT,je,je]=[]∧Sk.iq kK [iT,iT,je,je]=0:=⟨by kernel_rfl,by kernel_rfl,by kernel_rfl⟩
theorem Tc (W:World):Calls Tryz.prog 22 #[lZ eH] W fun e w'=>e= .returned (.tuple #[kW kN,.int .i64 0])∧Below W.heap.size W w':=by
 have h:=uz eH W;rw [show (if Sk.dn eH=0 then Sk.start eH else Sk.zero)=kN by kernel_rfl,show Sk.dn eH=0 by kernel_rfl] at h;exact h
theorem NZ (W:World):Calls Tryz.prog 22 #[lZ jR] W fun e w'=>e= .returned (.tuple #[kW sN,.int .i64 0])∧Below W.heap.size W w':=by
 have h:=uz jR W;rw [show (if Sk.dn jR=0 then Sk.start jR else Sk.zero)=sN by kernel_rfl,show Sk.dn jR=0 by kernel_rfl] at h;exact h
theorem SS (W:World):Calls Tryz.prog 37 #[lZ eH,kW kN] W fun e w'=>e= .returned (.tuple #[.int .i64 35,.int .i64 0])∧Below W.heap.size W w':=by
 have h:=wB eH kN W;rw [show (if fst [Sk.bP eH kN,iL (decide (eH.kind≠Sk.aW)) 13]=0 then Sk.left kN else 0)=35 by kernel_rfl,show fst [Sk.bP eH kN,iL (decide (eH.kind≠Sk.aW)) 13]=0 by kernel_rfl] at h;exact h
theorem SV (W:World):Calls Tryz.prog 37 #[lZ eH,kW jK] W fun e w'=>e= .returned (.tuple #[.int .i64 25,.int .i64 0])∧Below W.heap.size W w':=by
 have h:=wB eH jK W;rw [show (if fst [Sk.bP eH jK,iL (decide (eH.kind≠Sk.aW)) 13]=0 then Sk.left jK else 0)=25 by kernel_rfl,show fst [Sk.bP eH jK,iL (decide (eH.kind≠Sk.aW)) 13]=0 by kernel_rfl] at h;exact h
theorem NY (g:Sk.Game) (es:List Sk.Entry) (S1:Sk.State) (n:Nat) (hck:Sk.iq g es=0) (hf:Sk.final g (Sk.start g) es=S1) (hr:Sk.gu g (Sk.start g) 1 es=[]) (S:Nat→Prop) (l:List En) (A:Option Addr) (c:Nat) (hb:bare l=es) (hn:l.length=n) (W:World) (hp:qh W S A c l):
 Calls Tryz.prog 25 #[lZ g,.slice A n c] W fun e w'=>(∃ A2 c2,e= .returned (.tuple #[kW S1,.slice A2 0 c2,.int .i64 0]))∧Below W.heap.size W w':=by
 subst hn;refine (xH S g l A c W hp).mono ?_
 rintro e w' ⟨A2,c2,rfl,_,hbw⟩
 have h1:X6 g l=S1:=by unfold X6;rw [hb,if_pos hck,hf]
 have h2:UL g l=[]:=by unfold UL;rw [hb,if_pos hck,hr]
 exact ⟨⟨A2,c2,by rw [h1,h2,hb,hck];rfl⟩,hbw⟩
def afU (p:Int):Int:=fst [0,iL (Sk.out p 0 1) 3]
theorem Vg (p:Int) (v:Int) (hE:afU p=0) (hv:Sk.breaks eH p mF=[v]) (S:Nat→Prop) (l:List En) (A:Option Addr) (c:Nat) (hl:uK l) (W:World) (hp:qh W S A c l):
 Calls Tryz.prog 26 #[lZ eH,.slice A 6 c,.int .i64 p] W fun e w'=>∃ A2 c2,e= .returned (.tuple #[.slice A2 1 c2,.int .i64 0])∧jV w' (fun _=>True) A2 c2 [v]∧Below W.heap.size W w':=by
 have h0:=xE S eH l A c p W hp;rw [hl.len] at h0;refine h0.mono ?_
 rintro e w' ⟨A2,c2,rfl,hr,hbw⟩
 have h1:Vd eH l p=0:=by unfold Vd;rw [hl.bare,DX.2];exact hE
 have h2:Ve eH l p=[v]:=by unfold Ve;rw [if_pos h1,hl.bare,hv]
 rw [h2] at hr;exact ⟨A2,c2,by rw [h1,h2];rfl,hr.more (fun _ _ _=>trivial),hbw⟩
theorem YS (S S':Nat→Prop) (l:List En) (A B:Option Addr) (c d:Nat) (hl:bare l=mF.take 2) (W:World) (hp:qh W S A c l) (hq:RdQ W S' B d [(1,0),(7,0)]):
 Calls Tryz.prog 34 #[lZ eH,.slice A 2 c,.slice B 2 d] W fun e w'=>e= .returned (.tuple #[.int .i64 2,.int .i64 0])∧Below W.heap.size W w':=by
 have hn:l.length=2:=by rw [← kQ,hl];rfl
 have h:=zf S S' eH l [(1,0),(7,0)] A B c d W hp hq
 have hE:RZ eH l [(1,0),(7,0)]=0:=by unfold RZ;rw [hl,hn];kernel_rfl
 have hV:Wq eH l [(1,0),(7,0)]=2:=by unfold Wq;rw [if_pos hE,hl];kernel_rfl
 rw [hE,hV,hn] at h;exact h
theorem WC (W:World):Calls Tryz.prog 38 #[lZ eH,kW wS,.int .i64 1] W fun e w'=>e= .returned (.tuple #[.int .i64 4,.int .i64 0])∧Below W.heap.size W w':=by
 have h:=xG eH wS 1 W;rw [show YG eH wS 1=4 by kernel_rfl,show Pq eH wS 1=0 by kernel_rfl] at h;exact h
theorem CV (g:Sk.Game) (s:Sk.State) (y:Sk.Entry) (v:Sk.fF) (hE:Jb g s y=0) (hv:Sk.judge g s y=v) (S:Nat→Prop) (e:En) (he:e.x=y) (W:World) (hp:iW W S e):
 Calls Tryz.prog 43 #[lZ g,kW s,wF e] W fun r w'=>r= .returned (.tuple #[RH v,.int .i64 0])∧Below W.heap.size W w':=by
 have h:=zh S g s e W hp;rw [show Uo g s e.x=v by unfold Uo;rw [he,if_pos hE,hv],show Jb g s e.x=0 by rw [he];exact hE] at h;exact h
theorem ng:Jb eH jw ⟨Sk.dJ,Sk.dH,[Sk.jZ],[],0⟩=0∧Sk.judge eH jw ⟨Sk.dJ,Sk.dH,[Sk.jZ],[],0⟩=⟨0,2,4,false⟩:=⟨by kernel_rfl,by kernel_rfl⟩
theorem J6:Jb jR sN zB=0∧Sk.judge jR sN zB=⟨8,0,0,true⟩:=⟨by kernel_rfl,by kernel_rfl⟩
theorem rV (n:Nat) (h:n<10):Lib.itoa (n:Int)=[(48+n).toUInt8]:=by
 unfold Lib.itoa
 rw [if_neg (by omega),Int.toNat_natCast,Lib.decDigits,dif_pos h]
theorem zU:Pn eH jw=[56,58,48,32,102,105,110,97,108,32,50]∧Pn eH jK=[56,58,56,32,102,105,110,97,108,32,51]∧Pn kK tH=[50,58,50,32,100,114,97,119,110]:=by
 have d0:=rV 0 (by omega);have d2:=rV 2 (by omega);have d3:=rV 3 (by omega);have d8:=rV 8 (by omega);have h2:Lib.itoa jw.s0=[56]∧Lib.itoa jw.s1=[48]∧Lib.itoa jw.colour=[50]:=⟨d8,d0,d2⟩;have h6:Lib.itoa jK.s0=[56]∧Lib.itoa jK.s1=[56]∧Lib.itoa jK.colour=[51]:=⟨d8,d8,d3⟩;have h4:Lib.itoa tH.s0=[50]∧Lib.itoa tH.s1=[50]:=⟨d2,d2⟩;refine ⟨?_,?_,?_⟩
 · unfold Pn Jj nY
   rw [if_pos (by kernel_rfl),if_neg (by decide),if_neg (by decide),if_neg (by decide),if_pos (show jw.phase=Sk.dG from rfl),h2.1,h2.2.1,h2.2.2]
   rfl
 · unfold Pn Jj nY
   rw [if_pos (by kernel_rfl),if_neg (by decide),if_neg (by decide),if_neg (by decide),if_pos (show jK.phase=Sk.dG from rfl),h6.1,h6.2.1,h6.2.2]
   rfl
 · unfold Pn Jj nY
   rw [if_pos (by kernel_rfl),if_pos (show tH.aB=2 from rfl),h4.1,h4.2]
   rfl
theorem SX (W:World) (hg:Glob W):Calls Tryz.prog 39 #[lZ eH,kW jw] W fun e w'=>e= .returned (.tuple #[.string ⟨#[56,58,48,32,102,105,110,97,108,32,50]⟩,.int .i64 0])∧Below W.heap.size W w':=by
 have h:=sD eH jw W hg;rw [zU.1,show Sk.bP eH jw=0 by kernel_rfl] at h;exact h
theorem SY (W:World) (hg:Glob W):Calls Tryz.prog 39 #[lZ eH,kW jK] W fun e w'=>e= .returned (.tuple #[.string ⟨#[56,58,56,32,102,105,110,97,108,32,51]⟩,.int .i64 0])∧Below W.heap.size W w':=by
 have h:=sD eH jK W hg;rw [zU.2.1,show Sk.bP eH jK=0 by kernel_rfl] at h;exact h
theorem S9 (W:World) (hg:Glob W):Calls Tryz.prog 39 #[lZ kK,kW tH] W fun e w'=>e= .returned (.tuple #[.string ⟨#[50,58,50,32,100,114,97,119,110]⟩,.int .i64 0])∧Below W.heap.size W w':=by
 have h:=sD kK tH W hg;rw [zU.2.2,show Sk.bP kK tH=0 by kernel_rfl] at h;exact h
end Go.Proofs.YtjbbfmofpjflmaaGreatDoor
