/- Parts of a proof. -/
import Derived.Test.YtcbmedfongiojaaGreatDoorKa7
import Derived.Test.YtcbmedfongiojaaGreatDoorKa8
set_option maxHeartbeats 8000000
set_option maxRecDepth 100000
set_option linter.unusedVariables false
set_option linter.unusedSimpArgs false
namespace Go.Proofs.YtcbmedfongiojaaGreatDoor
open Go.RowKit
def aBz (n:Int) (e:En):List Value:=[.int .u8 n,.string e.x.kind,.string e.x.called,.slice e.A e.x.hits.length e.a,.slice e.B e.x.aV.length e.b,.int .i64 e.x.dM]
@[reducible] def aBG (n:Int) (e:En):Value:= .agg #[.int .u8 n,.string e.x.kind,.string e.x.called,.slice e.A e.x.hits.length e.a,.slice e.B e.x.aV.length e.b,.int .i64 e.x.dM]
theorem at7:(Tryz.prog.info? 45).map (fun i=>(i.zero,i.size,i.bytes))=some (some (.agg #[.string ⟨#[]⟩,.string ⟨#[]⟩,.slice none 0 0,.slice none 0 0,.int .i64 0]),5,88):=by kernel_rfl
theorem av8 {ops:Array Oper} {o:Oper} {a:Act} {rest:List Oper} {Q:Exit→Act→World→Prop} {D k:Nat} {W:World} {v:Value} {xs:List Value} {x:En} (hO:W.ownsRow D 45 5 v k xs) (hD:D≤W.heap.size) (hl:k≤17592186044416) (hl2:(k+1)*88≤140737488355328) (hgd:o.guard=none) (s y:Operand)
 (ho:o.op= .call {callee:= .builtin .append,args:= #[s,y],argTypes:= #[44,44] }) (hs:a.eval s=v) (hx:a.eval y= .slice (some ⟨W.heap.size,0,none⟩) 1 1)
 (h:∀ g cap W',W'.ownsRow D 45 5 (.slice (some ⟨g,0,none⟩) (k+1) cap) (k+1) (xs++fC x)→Below D W W'→wpList Tryz.prog ops Q rest (a.put o.dst (.slice (some ⟨g,0,none⟩) (k+1) cap)) W'):
 wpList Tryz.prog ops Q (o::rest) a (W.alloc (.cells (fC x).toArray 45)):=by
 obtain ⟨i0,hi0,hz0,hz1,hz2⟩:=info_parts at7;have hO2:=hO.alloc (.cells (fC x).toArray 45);refine wpList_append_lies _ hgd s y _ ho D 45 i0 _ 5 88 Tryz.underlying44 hi0 hz0 hz1 hz2 rfl (by omega) v k xs hs hO2 ⟨W.heap.size,0,none⟩ 1 1 (fC x) hx rfl (jU _ _ _ _ rfl) (TG x) (by omega) (by simp only [maxLen];omega) hl2 (by simp;omega) _ rfl ?_;intro g cap W' h2 h3 h4 h5;exact h g cap W' h2 (((Below.refl _ _).alloc hD _).trans (Cb hO2 h3 (Nat.le_refl _) (by simp;omega)))
theorem aox (S:Nat→Prop) (g:Sk.Game) (l:List En) (A:Option Addr) (c:Nat) (n:Int) (e:En) (hu:0≤n∧n≤255) (w:World) (hG:Glob w) (hl:wF w S A c l) (hn:l.length*88≤140737488355328) (he:je w S e):
 Calls Tryz.prog 4 #[rF g,.slice A l.length c,aBG n e] w fun e w'=>e= .returned (.bool true)∧Below w.heap.size w w':=by
 have HG:=hide hG;have HR:=hide hl;have HN:=hide hn;have HEN:=hide (fun W (hb:Below w.heap.size w W)=>he.below hb);have HU:=hide hu;obtain ⟨b1,b2,b3⟩:=hl.bd;clear hG hl hn he hu
 go_enter Tryz.func4,Tryz.ntmps4
 go_upto_region 0 with (fail)
 go_cut [3,5,6] (fun v3 v5 v6 wx=>v3=ptr (w.heap.size)∧v5=ptr (w.heap.size+1)∧v6= .bool false∧Bx w wx [(w.heap.size,dN g,23),(w.heap.size+1,(aBz n e),43)])
 case first=>
  go_wp2;go_meet;exact ⟨rfl,rfl,rfl,Bx.of (((aC.nil w).new (by simp) (dN g) 23).new (by simp) ((aBz n e)) 43) _ rfl⟩
 case rest=>
  obtain ⟨rfl,rfl,rfl,hL⟩:=hcut
  rename World=>wb
  have HB0:=hide (fun (W:World) (hb:Below wb.heap.size wb W)=>hL.call hb);have aCm:=hL.bw.size;clear hL;go_wp2
  go_loopw [7,25] (fun v7 v25 wr=>∃ (k:Nat) (A':Option Addr) (c':Nat),k≤l.length∧v25= .int .i64 (k:Int)∧v7= .slice A' k c'∧wr.ownsRow wb.heap.size 45 5 (.slice A' k c') k (tJ (l.take k))∧Below wb.heap.size wb wr) (fun _ v25 _=>l.length - (intOf v25).toNat)
  case atStart=>exact ⟨0,none,0,Nat.zero_le _,rfl,rfl,World.ownsRow_nil _ _ _ _,Below.refl _ _⟩
  case round=>
   obtain ⟨k,A',c',hk,rfl,rfl,hown,hbw⟩:=hrel;have aus:=hbw.size
   by_cases hlt:k<l.length
   · have hrb:=HR.out.below (HB0.out _ hbw).bw
     obtain ⟨b,o,rfl,_,hbl,_⟩:=hrb.at_ k hlt;have h00:wr.rangeAt b (o+k*5) [.string l[k].x.kind,.string l[k].x.called,.slice l[k].A l[k].x.hits.length l[k].a,.slice l[k].B l[k].x.aV.length l[k].b,.int .i64 l[k].x.dM]:=Oc hrb hlt (Below.refl _ _) rfl
     have i1:(0:Int)≤(k:Int):=by omega
     have i2:(k:Int)<(l.length:Int):=by omega
     have HES:=hide (show tJ (l.take (k+1))=tJ (l.take k)++fC l[k] from avT l k hlt)
     have hkb:(k+1)*88≤140737488355328:=by have:=HN.out;omega
     obtain ⟨x,hx⟩:∃ q,l[k]=q:=⟨_,rfl⟩
     simp only [hx] at h00 HES
     clear hx hrb
     go_wp2_with (first | ((with_reducible (refine dA 41 (.tmp 31) ?lx ?_));(case lx=>rfl);refine iJ (g:=b) (o:=o+k*5) h00 Tryz.underlying41 rfl bY rfl (.tmp 31) rfl rfl ?_) | (at_builtin;refine av8 (x:=x) hown aus (by omega) hkb rfl (.tmp 28) (.tmp 33) rfl rfl rfl ?_;intro g1 c1 w4 hown4 hb4))
     have HO:=hide (show w4.ownsRow wb.heap.size 45 5 (.slice (some ⟨g1,0,none⟩) (k+1) c1) (k+1) (tJ (l.take (k+1))) by rw [HES.out];exact hown4);have HB4:=hide (hbw.trans hb4);clear hown4 hb4
     go_roundw
     case rel=>exact ⟨k+1,_,_,by omega,by go_num,rfl,HO.out,HB4.out⟩
     case measure=>simp [intOf];omega
   · have hke:k=l.length:=by omega
     subst hke;rw [List.take_length] at hown;have hown2:wF wr (fun b=>S b∨w.heap.size≤b) A' c' l:=⟨Reads.more (Reads.Jd hown (fun b h=>h) b3) (fun b _ h=> .inr (Nat.le_trans aCm h)),fun e he=>((HR.out.2 e he).below (HB0.out _ hbw).bw).more (fun b _ h=> .inl h)⟩;have HOWN:=hide (fun (W:World) (hb:Below wr.heap.size wr W)=>hown2.below hb)
     rename World=>wo
     have He:=hide (fun (W:World) (hb:Below wo.heap.size wo W)=>(HB0.out _ hbw).call hb);have hL:=Bx.nil wo;clear hown hown2 hbw;obtain ⟨K,hK⟩:∃ q,Sk.aaT g (bare l)=q:=⟨_,rfl⟩;obtain ⟨E,hE⟩:∃ q,Sk.aep g e.x=q:=⟨_,rfl⟩;have hck:=fun W (h:wF W (fun b=>S b∨w.heap.size≤b) A' c' l)=>arR _ g l A' c' W h;have hce:=fun W (hb:Below w.heap.size w W)=>an9 S g e W (HEN.out W hb);rw [hK] at hck;rw [hE] at hce;have uP:=hide (fun W (h:wF W (fun b=>S b∨w.heap.size≤b) A' c' l)=>hck W h);have HCE:=hide hce;have HK:=hide hK;have HE:=hide hE;clear hck hce hK hE
     go_upto_region 7 with (fail)
     go_cut [73] from 23 to 74 (fun v73 wx=>∃ b,v73= .bool b∧(b=false→0<l.length∧l.length≤14∧Sk.aaT g (bare l)=0∧Sk.aep g e.x=0)∧Bx wo wx [])
     case first=>
      have kg:=((He.out _ hL.bw).get 0 rfl).cell (j:=0) rfl
      by_cases h1:20<(g.kind.size:Int)
      · have h1t:decide (20<(g.kind.size:Int))=true:=decide_eq_true h1
        go_wp2_with (first | ((with_reducible refine dh 23 3 ?_);refine nI ((He.out _ hL.bw).rn 0 0 ([.string g.kind,.int .i64 g.aW,.int .i64 g.target,.int .i64 g.turns])) Tryz.underlying23 fG ?_) | ((with_reducible refine iV 23 3 ?_);refine nJ ((He.out _ hL.bw).rn 0 0 ([.string g.kind,.int .i64 g.aW,.int .i64 g.target,.int .i64 g.turns])) Tryz.underlying23 fG ?_) | ((with_reducible refine dh 41 62 ?_);refine nI ((He.out _ hL.bw).rn 1 1 ([.string e.x.kind,.string e.x.called,.slice e.A e.x.hits.length e.a,.slice e.B e.x.aV.length e.b,.int .i64 e.x.dM])) Tryz.underlying41 bY ?_) | ((with_reducible refine iV 41 62 ?_);refine nJ ((He.out _ hL.bw).rn 1 1 ([.string e.x.kind,.string e.x.called,.slice e.A e.x.hits.length e.a,.slice e.B e.x.aV.length e.b,.int .i64 e.x.dM])) Tryz.underlying41 bY ?_) | ((with_reducible refine dh 41 69 ?_);refine nI ((He.out _ hL.bw).rn 1 1 ([.string e.x.kind,.string e.x.called,.slice e.A e.x.hits.length e.a,.slice e.B e.x.aV.length e.b,.int .i64 e.x.dM])) Tryz.underlying41 bY ?_) | ((with_reducible refine iV 41 69 ?_);refine nJ ((He.out _ hL.bw).rn 1 1 ([.string e.x.kind,.string e.x.called,.slice e.A e.x.hits.length e.a,.slice e.B e.x.aV.length e.b,.int .i64 e.x.dM])) Tryz.underlying41 bY ?_) | (go_at_call 10;refine (adq _ A' c' l 14 _ (HOWN.out _ hL.bw)).mono ?_;rintro e' w2 ⟨⟨bs,rfl⟩,hb2⟩;have hL:=hL.call hb2;cases bs) | (go_at_call 11;refine (uP.out _ (HOWN.out _ hL.bw)).mono ?_;rintro e' w3 ⟨rfl,hb3⟩;have hL:=hL.call hb3) | (go_at_call 12;refine (acz S e _ (HEN.out _ (He.out _ hL.bw).bw)).mono ?_;rintro e' w4 ⟨⟨bt,rfl⟩,hb4⟩;have hL:=hL.call hb4;cases bt) | (go_at_call 13;refine (HCE.out _ (He.out _ hL.bw).bw).mono ?_;rintro e' w5 ⟨rfl,hb5⟩;have hL:=hL.call hb5))
        all_goals go_meet
        all_goals first | exact ⟨true,rfl,fun h=>(nomatch h),hL⟩ | exact ⟨false,rfl,fun _=>⟨by omega,by omega,HK.out.trans KK.out,HE.out.trans EE.out⟩,hL⟩
      have h1t:decide (20<(g.kind.size:Int))=false:=decide_eq_false h1
      by_cases h2:l.length=0
      · have h2t:((l.length:Int) == 0)=true:=by simp [h2]
        clear h2
        go_wp2_with (first | ((with_reducible refine dh 23 3 ?_);refine nI ((He.out _ hL.bw).rn 0 0 ([.string g.kind,.int .i64 g.aW,.int .i64 g.target,.int .i64 g.turns])) Tryz.underlying23 fG ?_) | ((with_reducible refine iV 23 3 ?_);refine nJ ((He.out _ hL.bw).rn 0 0 ([.string g.kind,.int .i64 g.aW,.int .i64 g.target,.int .i64 g.turns])) Tryz.underlying23 fG ?_) | ((with_reducible refine dh 41 62 ?_);refine nI ((He.out _ hL.bw).rn 1 1 ([.string e.x.kind,.string e.x.called,.slice e.A e.x.hits.length e.a,.slice e.B e.x.aV.length e.b,.int .i64 e.x.dM])) Tryz.underlying41 bY ?_) | ((with_reducible refine iV 41 62 ?_);refine nJ ((He.out _ hL.bw).rn 1 1 ([.string e.x.kind,.string e.x.called,.slice e.A e.x.hits.length e.a,.slice e.B e.x.aV.length e.b,.int .i64 e.x.dM])) Tryz.underlying41 bY ?_) | ((with_reducible refine dh 41 69 ?_);refine nI ((He.out _ hL.bw).rn 1 1 ([.string e.x.kind,.string e.x.called,.slice e.A e.x.hits.length e.a,.slice e.B e.x.aV.length e.b,.int .i64 e.x.dM])) Tryz.underlying41 bY ?_) | ((with_reducible refine iV 41 69 ?_);refine nJ ((He.out _ hL.bw).rn 1 1 ([.string e.x.kind,.string e.x.called,.slice e.A e.x.hits.length e.a,.slice e.B e.x.aV.length e.b,.int .i64 e.x.dM])) Tryz.underlying41 bY ?_) | (go_at_call 10;refine (adq _ A' c' l 14 _ (HOWN.out _ hL.bw)).mono ?_;rintro e' w2 ⟨⟨bs,rfl⟩,hb2⟩;have hL:=hL.call hb2;cases bs) | (go_at_call 11;refine (uP.out _ (HOWN.out _ hL.bw)).mono ?_;rintro e' w3 ⟨rfl,hb3⟩;have hL:=hL.call hb3) | (go_at_call 12;refine (acz S e _ (HEN.out _ (He.out _ hL.bw).bw)).mono ?_;rintro e' w4 ⟨⟨bt,rfl⟩,hb4⟩;have hL:=hL.call hb4;cases bt) | (go_at_call 13;refine (HCE.out _ (He.out _ hL.bw).bw).mono ?_;rintro e' w5 ⟨rfl,hb5⟩;have hL:=hL.call hb5))
        all_goals go_meet
        all_goals first | exact ⟨true,rfl,fun h=>(nomatch h),hL⟩ | exact ⟨false,rfl,fun _=>⟨by omega,by omega,HK.out.trans KK.out,HE.out.trans EE.out⟩,hL⟩
      have h2t:((l.length:Int) == 0)=false:=by simp [h2]
      have h2u:0<l.length:=by omega
      clear h2
      by_cases h3:14<(l.length:Int)
      · have h3t:decide (14<(l.length:Int))=true:=decide_eq_true h3
        go_wp2_with (first | ((with_reducible refine dh 23 3 ?_);refine nI ((He.out _ hL.bw).rn 0 0 ([.string g.kind,.int .i64 g.aW,.int .i64 g.target,.int .i64 g.turns])) Tryz.underlying23 fG ?_) | ((with_reducible refine iV 23 3 ?_);refine nJ ((He.out _ hL.bw).rn 0 0 ([.string g.kind,.int .i64 g.aW,.int .i64 g.target,.int .i64 g.turns])) Tryz.underlying23 fG ?_) | ((with_reducible refine dh 41 62 ?_);refine nI ((He.out _ hL.bw).rn 1 1 ([.string e.x.kind,.string e.x.called,.slice e.A e.x.hits.length e.a,.slice e.B e.x.aV.length e.b,.int .i64 e.x.dM])) Tryz.underlying41 bY ?_) | ((with_reducible refine iV 41 62 ?_);refine nJ ((He.out _ hL.bw).rn 1 1 ([.string e.x.kind,.string e.x.called,.slice e.A e.x.hits.length e.a,.slice e.B e.x.aV.length e.b,.int .i64 e.x.dM])) Tryz.underlying41 bY ?_) | ((with_reducible refine dh 41 69 ?_);refine nI ((He.out _ hL.bw).rn 1 1 ([.string e.x.kind,.string e.x.called,.slice e.A e.x.hits.length e.a,.slice e.B e.x.aV.length e.b,.int .i64 e.x.dM])) Tryz.underlying41 bY ?_) | ((with_reducible refine iV 41 69 ?_);refine nJ ((He.out _ hL.bw).rn 1 1 ([.string e.x.kind,.string e.x.called,.slice e.A e.x.hits.length e.a,.slice e.B e.x.aV.length e.b,.int .i64 e.x.dM])) Tryz.underlying41 bY ?_) | (go_at_call 10;refine (adq _ A' c' l 14 _ (HOWN.out _ hL.bw)).mono ?_;rintro e' w2 ⟨⟨bs,rfl⟩,hb2⟩;have hL:=hL.call hb2;cases bs) | (go_at_call 11;refine (uP.out _ (HOWN.out _ hL.bw)).mono ?_;rintro e' w3 ⟨rfl,hb3⟩;have hL:=hL.call hb3) | (go_at_call 12;refine (acz S e _ (HEN.out _ (He.out _ hL.bw).bw)).mono ?_;rintro e' w4 ⟨⟨bt,rfl⟩,hb4⟩;have hL:=hL.call hb4;cases bt) | (go_at_call 13;refine (HCE.out _ (He.out _ hL.bw).bw).mono ?_;rintro e' w5 ⟨rfl,hb5⟩;have hL:=hL.call hb5))
        all_goals go_meet
        all_goals first | exact ⟨true,rfl,fun h=>(nomatch h),hL⟩ | exact ⟨false,rfl,fun _=>⟨by omega,by omega,HK.out.trans KK.out,HE.out.trans EE.out⟩,hL⟩
      have h3t:decide (14<(l.length:Int))=false:=decide_eq_false h3
      by_cases h4:K=0
      rotate_left
      · have h4t:(K != 0)=true:=by simp [h4]
        clear h4
        go_wp2_with (first | ((with_reducible refine dh 23 3 ?_);refine nI ((He.out _ hL.bw).rn 0 0 ([.string g.kind,.int .i64 g.aW,.int .i64 g.target,.int .i64 g.turns])) Tryz.underlying23 fG ?_) | ((with_reducible refine iV 23 3 ?_);refine nJ ((He.out _ hL.bw).rn 0 0 ([.string g.kind,.int .i64 g.aW,.int .i64 g.target,.int .i64 g.turns])) Tryz.underlying23 fG ?_) | ((with_reducible refine dh 41 62 ?_);refine nI ((He.out _ hL.bw).rn 1 1 ([.string e.x.kind,.string e.x.called,.slice e.A e.x.hits.length e.a,.slice e.B e.x.aV.length e.b,.int .i64 e.x.dM])) Tryz.underlying41 bY ?_) | ((with_reducible refine iV 41 62 ?_);refine nJ ((He.out _ hL.bw).rn 1 1 ([.string e.x.kind,.string e.x.called,.slice e.A e.x.hits.length e.a,.slice e.B e.x.aV.length e.b,.int .i64 e.x.dM])) Tryz.underlying41 bY ?_) | ((with_reducible refine dh 41 69 ?_);refine nI ((He.out _ hL.bw).rn 1 1 ([.string e.x.kind,.string e.x.called,.slice e.A e.x.hits.length e.a,.slice e.B e.x.aV.length e.b,.int .i64 e.x.dM])) Tryz.underlying41 bY ?_) | ((with_reducible refine iV 41 69 ?_);refine nJ ((He.out _ hL.bw).rn 1 1 ([.string e.x.kind,.string e.x.called,.slice e.A e.x.hits.length e.a,.slice e.B e.x.aV.length e.b,.int .i64 e.x.dM])) Tryz.underlying41 bY ?_) | (go_at_call 10;refine (adq _ A' c' l 14 _ (HOWN.out _ hL.bw)).mono ?_;rintro e' w2 ⟨⟨bs,rfl⟩,hb2⟩;have hL:=hL.call hb2;cases bs) | (go_at_call 11;refine (uP.out _ (HOWN.out _ hL.bw)).mono ?_;rintro e' w3 ⟨rfl,hb3⟩;have hL:=hL.call hb3) | (go_at_call 12;refine (acz S e _ (HEN.out _ (He.out _ hL.bw).bw)).mono ?_;rintro e' w4 ⟨⟨bt,rfl⟩,hb4⟩;have hL:=hL.call hb4;cases bt) | (go_at_call 13;refine (HCE.out _ (He.out _ hL.bw).bw).mono ?_;rintro e' w5 ⟨rfl,hb5⟩;have hL:=hL.call hb5))
        all_goals go_meet
        all_goals first | exact ⟨true,rfl,fun h=>(nomatch h),hL⟩ | exact ⟨false,rfl,fun _=>⟨by omega,by omega,HK.out.trans KK.out,HE.out.trans EE.out⟩,hL⟩
      have h4t:(K != 0)=false:=by simp [h4]
      have KK:=hide h4;clear h4
      by_cases h5:E=0
      rotate_left
      · have h5t:(E != 0)=true:=by simp [h5]
        clear h5
        go_wp2_with (first | ((with_reducible refine dh 23 3 ?_);refine nI ((He.out _ hL.bw).rn 0 0 ([.string g.kind,.int .i64 g.aW,.int .i64 g.target,.int .i64 g.turns])) Tryz.underlying23 fG ?_) | ((with_reducible refine iV 23 3 ?_);refine nJ ((He.out _ hL.bw).rn 0 0 ([.string g.kind,.int .i64 g.aW,.int .i64 g.target,.int .i64 g.turns])) Tryz.underlying23 fG ?_) | ((with_reducible refine dh 41 62 ?_);refine nI ((He.out _ hL.bw).rn 1 1 ([.string e.x.kind,.string e.x.called,.slice e.A e.x.hits.length e.a,.slice e.B e.x.aV.length e.b,.int .i64 e.x.dM])) Tryz.underlying41 bY ?_) | ((with_reducible refine iV 41 62 ?_);refine nJ ((He.out _ hL.bw).rn 1 1 ([.string e.x.kind,.string e.x.called,.slice e.A e.x.hits.length e.a,.slice e.B e.x.aV.length e.b,.int .i64 e.x.dM])) Tryz.underlying41 bY ?_) | ((with_reducible refine dh 41 69 ?_);refine nI ((He.out _ hL.bw).rn 1 1 ([.string e.x.kind,.string e.x.called,.slice e.A e.x.hits.length e.a,.slice e.B e.x.aV.length e.b,.int .i64 e.x.dM])) Tryz.underlying41 bY ?_) | ((with_reducible refine iV 41 69 ?_);refine nJ ((He.out _ hL.bw).rn 1 1 ([.string e.x.kind,.string e.x.called,.slice e.A e.x.hits.length e.a,.slice e.B e.x.aV.length e.b,.int .i64 e.x.dM])) Tryz.underlying41 bY ?_) | (go_at_call 10;refine (adq _ A' c' l 14 _ (HOWN.out _ hL.bw)).mono ?_;rintro e' w2 ⟨⟨bs,rfl⟩,hb2⟩;have hL:=hL.call hb2;cases bs) | (go_at_call 11;refine (uP.out _ (HOWN.out _ hL.bw)).mono ?_;rintro e' w3 ⟨rfl,hb3⟩;have hL:=hL.call hb3) | (go_at_call 12;refine (acz S e _ (HEN.out _ (He.out _ hL.bw).bw)).mono ?_;rintro e' w4 ⟨⟨bt,rfl⟩,hb4⟩;have hL:=hL.call hb4;cases bt) | (go_at_call 13;refine (HCE.out _ (He.out _ hL.bw).bw).mono ?_;rintro e' w5 ⟨rfl,hb5⟩;have hL:=hL.call hb5))
        all_goals go_meet
        all_goals first | exact ⟨true,rfl,fun h=>(nomatch h),hL⟩ | exact ⟨false,rfl,fun _=>⟨by omega,by omega,HK.out.trans KK.out,HE.out.trans EE.out⟩,hL⟩
      have h5t:(E != 0)=false:=by simp [h5]
      have EE:=hide h5;clear h5
      go_wp2_with (first | ((with_reducible refine dh 23 3 ?_);refine nI ((He.out _ hL.bw).rn 0 0 ([.string g.kind,.int .i64 g.aW,.int .i64 g.target,.int .i64 g.turns])) Tryz.underlying23 fG ?_) | ((with_reducible refine iV 23 3 ?_);refine nJ ((He.out _ hL.bw).rn 0 0 ([.string g.kind,.int .i64 g.aW,.int .i64 g.target,.int .i64 g.turns])) Tryz.underlying23 fG ?_) | ((with_reducible refine dh 41 62 ?_);refine nI ((He.out _ hL.bw).rn 1 1 ([.string e.x.kind,.string e.x.called,.slice e.A e.x.hits.length e.a,.slice e.B e.x.aV.length e.b,.int .i64 e.x.dM])) Tryz.underlying41 bY ?_) | ((with_reducible refine iV 41 62 ?_);refine nJ ((He.out _ hL.bw).rn 1 1 ([.string e.x.kind,.string e.x.called,.slice e.A e.x.hits.length e.a,.slice e.B e.x.aV.length e.b,.int .i64 e.x.dM])) Tryz.underlying41 bY ?_) | ((with_reducible refine dh 41 69 ?_);refine nI ((He.out _ hL.bw).rn 1 1 ([.string e.x.kind,.string e.x.called,.slice e.A e.x.hits.length e.a,.slice e.B e.x.aV.length e.b,.int .i64 e.x.dM])) Tryz.underlying41 bY ?_) | ((with_reducible refine iV 41 69 ?_);refine nJ ((He.out _ hL.bw).rn 1 1 ([.string e.x.kind,.string e.x.called,.slice e.A e.x.hits.length e.a,.slice e.B e.x.aV.length e.b,.int .i64 e.x.dM])) Tryz.underlying41 bY ?_) | (go_at_call 10;refine (adq _ A' c' l 14 _ (HOWN.out _ hL.bw)).mono ?_;rintro e' w2 ⟨⟨bs,rfl⟩,hb2⟩;have hL:=hL.call hb2;cases bs) | (go_at_call 11;refine (uP.out _ (HOWN.out _ hL.bw)).mono ?_;rintro e' w3 ⟨rfl,hb3⟩;have hL:=hL.call hb3) | (go_at_call 12;refine (acz S e _ (HEN.out _ (He.out _ hL.bw).bw)).mono ?_;rintro e' w4 ⟨⟨bt,rfl⟩,hb4⟩;have hL:=hL.call hb4;cases bt) | (go_at_call 13;refine (HCE.out _ (He.out _ hL.bw).bw).mono ?_;rintro e' w5 ⟨rfl,hb5⟩;have hL:=hL.call hb5))
      all_goals go_meet
      all_goals first | exact ⟨true,rfl,fun h=>(nomatch h),hL⟩ | exact ⟨false,rfl,fun _=>⟨by omega,by omega,HK.out.trans KK.out,HE.out.trans EE.out⟩,hL⟩
     case rest=>
      obtain ⟨b,rfl,hb,hL⟩:=hcut
      cases b with
      | true=>
        clear hb
        go_wp2_with (first | (go_at_call 6;refine (ED _ (HG.out.below (He.out _ hL.bw).bw)).mono ?_;rintro e' w1 ⟨rfl,hb1⟩;have hL:=hL.call hb1))
        go_ret;exact ⟨rfl,(He.out _ hL.bw).bw⟩
      | false=>
        obtain ⟨h1,h2,h3,h4⟩:=hb rfl;clear hb
        have hen:Sk.jc g e.x=0:=by unfold Sk.aep at h4;rw [if_neg (by simp [(Sk.ae6.1 h3).1])] at h4;exact h4
        obtain ⟨q,hq,hql⟩:∃ q:Nat,n.tmod (l.length:Int)=(q:Int)∧q<l.length:=by
         have hu:=HU.out;refine ⟨(n % (l.length:Int)).toNat,?_,?_⟩
         · rw [Int.tmod_eq_emod_of_nonneg hu.1]
           have:=Int.emod_nonneg n (show (l.length:Int)≠0 by omega)
           omega
         · have:=Int.emod_lt_of_pos n (show (0:Int)<(l.length:Int) by omega)
           have:=Int.emod_nonneg n (show (l.length:Int)≠0 by omega)
           omega
        have hwn:IntKind.i64.wrap n=n:=by have:=HU.out;rw [IntKind.wrap_i64];omega
        have hwq:IntKind.i64.wrap (q:Int)=(q:Int):=by rw [IntKind.wrap_i64];omega
        have hne0:¬ l.length=0:=by omega
        have hne:((l.length:Int) == 0)=false:=by simp [hne0]
        have hne2:¬ (l.length:Int)=0:=by omega
        have kt:=((He.out _ hL.bw).get 1 rfl).cell (j:=0) rfl
        go_upto_region 9 with (fail)
        go_cut [9] from 23 to 81 (fun v9 wx=>v9= .int .i64 (q:Int)∧Bx wo wx [])
        case first=>
         go_wp2;go_meet;exact ⟨by rw [← hq],hL⟩
        case rest=>
         obtain ⟨rfl,hL⟩:=hcut;clear kt hwn hq;have aCt:=hL.bw.size
         have i1:(0:Int)≤(q:Int):=by omega
         have i2:(q:Int)<(l.length:Int):=by omega
         have hgl:=hide (HR.out.below (He.out _ hL.bw).bw)
         go_upto_region 12 with (first | (at_builtin;refine aqX hgl.out h1 (by omega) rfl (.tmp 81) (.tmp 82) rfl rfl rfl ?_;intro g5 c5 w5 hrow hg5 hb5;have hL:=hL.call hb5) | ((with_reducible refine dh 41 86 ?_);refine nI ((He.out _ hL.bw).rn 1 1 ([.string e.x.kind,.string e.x.called,.slice e.A e.x.hits.length e.a,.slice e.B e.x.aV.length e.b,.int .i64 e.x.dM])) Tryz.underlying41 bY ?_) | ((with_reducible refine iV 41 86 ?_);refine nJ ((He.out _ hL.bw).rn 1 1 ([.string e.x.kind,.string e.x.called,.slice e.A e.x.hits.length e.a,.slice e.B e.x.aV.length e.b,.int .i64 e.x.dM])) Tryz.underlying41 bY ?_) | ((with_reducible (refine fO 41 (.tmp 88) (.tmp 87) ?lx ?_));(case lx=>rfl);refine ahq (vs:=[.string e.x.kind,.string e.x.called,.slice e.A e.x.hits.length e.a,.slice e.B e.x.aV.length e.b,.int .i64 e.x.dM]) (hrow.there hql) bY (TG e) rfl (.tmp 88) (.tmp 87) rfl rfl rfl ?_))
         refine aAx (p:=fun W=>Code.wp _ _ _ _ W) (fun w6 hw6=>?_)
         try simp only [Act.put,la,lz,ls]
         have hL6:Below wo.heap.size wo w6:=by rw [hw6];exact below_setCells _ (Nat.le_trans aCt hg5) _ _ _ _ hL.bw
         have hrow2:alN w6 g5 c5 (l.set q e):=by rw [hw6];exact hrow.put hql e
         have aqz:=hide (fun (W:World) (hb:Below w6.heap.size w6 W)=>He.out _ (hL6.trans (hb.mono hL6.size)))
         have hmr:wF w6 (fun _=>True) (some ⟨g5,0,none⟩) c5 (l.set q e):=⟨Reads.more (hrow2.rd (by simp;omega)) (fun _ _ _=>trivial),fun x hx=>by
          have hb6:=(aqz.out _ (Below.refl _ _)).bw
          rcases List.mem_or_eq_of_mem_set hx with h | rfl
          · exact ((HR.out.2 x h).below hb6).more (fun _ _ _=>trivial)
          · exact (HEN.out _ hb6).more (fun _ _ _=>trivial)⟩
         have axP:=auP (k:=q) h3 hen;have avf:=hide (awF (g:=g) (l:=l) (k:=q) (e:=e));obtain ⟨M,hM⟩:∃ M,l.set q e=M:=⟨_,rfl⟩
         have hml:M.length=l.length:=by rw [← hM];simp
         rw [hM] at hmr axP;have axI:=avf.out;rw [hM] at axI;obtain ⟨Wt,hWt⟩:∃ z,taW g l M 0=z:=⟨_,rfl⟩;rw [hWt] at axI;have az5:=hide axI;have HLR:=hide (fun (W:World) (hb:Below w6.heap.size w6 W)=>HR.out.below (aqz.out _ hb).bw);have HMR:=hide (fun (W:World) (hb:Below w6.heap.size w6 W)=>hmr.below hb);have TA:=hide (fun (W:World) (hb:Below w6.heap.size w6 W)=>ahG S g l A c W (HLR.out W hb) h3 (by omega));have tb:=fun (W:World) (hb:Below w6.heap.size w6 W)=>ahG (fun _=>True) g M (some ⟨g5,0,none⟩) c5 W (HMR.out W hb) axP (by omega);have htm:ajc g M M.length=taA g M:=rfl;rw [htm,hml] at tb;have TB:=hide tb;have HWT:=hide hWt;have ayX:=hide (And.intro h3 axP);have HML:=hide hml;have aCV:l.length≤14:=h2;have hL:=Bx.nil w6;clear tb htm hmr axP avf axI hM hWt hw6 hrow hrow2 hg5 hb5 h3 h4 hen hml hgl
         go_upto_region 12 with (fail)
         go_cut [11,12] from 11 to 95 (fun v11 v12 wx=>∃ A2 c2,v11= .slice A2 l.length c2∧v12= .bool true∧RdQ wx (fun _=>True) A2 c2 (taA g l)∧Bx w6 wx [])
         case first=>
          go_wp2_with (first | ((with_reducible refine dh 23 3 ?_);refine nI ((aqz.out _ hL.bw).rn 0 0 ([.string g.kind,.int .i64 g.aW,.int .i64 g.target,.int .i64 g.turns])) Tryz.underlying23 fG ?_) | ((with_reducible refine iV 23 3 ?_);refine nJ ((aqz.out _ hL.bw).rn 0 0 ([.string g.kind,.int .i64 g.aW,.int .i64 g.target,.int .i64 g.turns])) Tryz.underlying23 fG ?_) | (go_at_call 14;refine (TA.out _ hL.bw).mono ?_;rintro e' w7 ⟨A2,c2,rfl,hrq,hb7⟩;have hL:=hL.call hb7))
          go_meet;exact ⟨A2,c2,rfl,rfl,Reads.more hrq (fun _ _ _=>trivial),hL⟩
         case rest=>
          obtain ⟨A2,c2,rfl,rfl,atK,hL⟩:=hcut
          go_upto_region 13 with (fail)
          go_cut [13,14] from 13 to 101 (fun v13 v14 wx=>∃ A3 c3,v13= .slice A3 l.length c3∧v14= .bool true∧RdQ wx (fun _=>True) A3 c3 (taA g M)∧RdQ wx (fun _=>True) A2 c2 (taA g l)∧Bx w6 wx [])
          case first=>
           go_wp2_with (first | ((with_reducible refine dh 23 3 ?_);refine nI ((aqz.out _ hL.bw).rn 0 0 ([.string g.kind,.int .i64 g.aW,.int .i64 g.target,.int .i64 g.turns])) Tryz.underlying23 fG ?_) | ((with_reducible refine iV 23 3 ?_);refine nJ ((aqz.out _ hL.bw).rn 0 0 ([.string g.kind,.int .i64 g.aW,.int .i64 g.target,.int .i64 g.turns])) Tryz.underlying23 fG ?_) | (go_at_call 14;refine (TB.out _ hL.bw).mono ?_;rintro e' w7 ⟨A3,c3,rfl,hrq,hb7⟩;have hL:=hL.call hb7;have atK:=Reads.below atK hb7))
           go_meet;exact ⟨A3,c3,rfl,rfl,Reads.more hrq (fun _ _ _=>trivial),atK,hL⟩
          case rest=>
           obtain ⟨A3,c3,rfl,rfl,aAZ,atK,hL⟩:=hcut
           rename World=>wq
           have hLq:=hide hL.bw;have HRA:=hide (fun (W:World) (hb:Below wq.heap.size wq W)=>Reads.below atK hb);have HRB:=hide (fun (W:World) (hb:Below wq.heap.size wq W)=>Reads.below aAZ hb)
           have hlw:IntKind.i64.wrap ((l.length:Int) - 1)=(l.length:Int) - 1:=by rw [IntKind.wrap_i64];omega
           clear atK aAZ hL;go_wp2
           go_loopw [15,16] (fun v15 v16 wr=>∃ k:Nat,k≤l.length∧v16= .int .i64 ((k:Int) - 1)∧v15= .int .i64 (taW g l M k)∧Below wq.heap.size wq wr) (fun _ v16 _=>(intOf v16+1).toNat)
           case atStart=>exact ⟨l.length,Nat.le_refl _,rfl,by rw [ayC],Below.refl _ _⟩
           case round=>
            obtain ⟨k,hk,rfl,rfl,hbw⟩:=hrel
            cases k with
            | succ j=>
              have hd:decide ((0:Int)≤(j:Int))=true:=decide_eq_true (by omega)
              have hja:j<(taA g l).length:=by rw [adZ];omega
              have hjb:j<(taA g M).length:=by rw [adZ,HML.out];omega
              have hst:=awM (g:=g) (l:=l) (m:=M) hja hjb;have hr1:=HRA.out _ hbw;have hr2:=HRB.out _ hbw;have g1:=hr1.at_ (by omega);have g2:=hr2.at_ (by omega);obtain ⟨ba,oa,rfl,_,hba,hca⟩:=g1;obtain ⟨bb,ob,rfl,_,hbb,hcb⟩:=g2;have hra:∀ W,Below wr.heap.size wr W→W.rangeAt ba (oa+j*2) [.int .i64 (taA g l)[j].1,.int .i64 (taA g l)[j].2]:=fun W h i v hv=>(h.cell (p:=⟨ba,oa+j*2+i,none⟩) hba).trans (by rw [Nat.add_assoc];exact hca _ _ (xw (f:=auy) (n:=2) (fun _=>rfl) j hja hv));have hrb:∀ W,Below wr.heap.size wr W→W.rangeAt bb (ob+j*2) [.int .i64 (taA g M)[j].1,.int .i64 (taA g M)[j].2]:=fun W h i v hv=>(h.cell (p:=⟨bb,ob+j*2+i,none⟩) hbb).trans (by rw [Nat.add_assoc];exact hcb _ _ (xw (f:=auy) (n:=2) (fun _=>rfl) j hjb hv));obtain ⟨a,ha⟩:∃ z,(taA g l)[j]=z:=⟨_,rfl⟩;obtain ⟨b,hb⟩:∃ z,(taA g M)[j]=z:=⟨_,rfl⟩
              simp only [ha] at hra hst
              simp only [hb] at hrb hst
              have hra:=hide hra;have hrb:=hide hrb
              have hwj:IntKind.i64.wrap ((j:Int) - 1)=(j:Int) - 1:=by rw [IntKind.wrap_i64];omega
              have aDg:IntKind.i64.wrap ((j:Int)+1)=(j:Int)+1:=by rw [IntKind.wrap_i64];omega
              have j1:(0:Int)≤(j:Int):=by omega
              have j2:(j:Int)<(l.length:Int):=by omega
              rw [show (((j+1:Nat):Int) - 1)=(j:Int) by omega];have hgp:=am1;have hL:=Bx.nil wr;clear ha hb hr1 hr2 hca hcb hja hjb
              by_cases hp:a=b
              · have hsc:=fun W=>alx a.1 a.2 b.1 b.2 W
                rw [show (a.1 == b.1 && a.2 == b.2)=true by rw [hp];simp] at hsc;have HST:=hide (show taW g l M (j+1)=taW g l M j by rw [hst,if_pos hp]);clear hst hp
                go_upto_region 20 with (fail)
                have aq5:∀ W:World,Bx wr W []→W.rangeAt (ba) (oa+j*2) ([.int .i64 a.1,.int .i64 a.2]):=fun W h=>(hra.out W h.bw);have arh:∀ W:World,Bx wr W []→W.rangeAt (bb) (ob+j*2) ([.int .i64 b.1,.int .i64 b.2]):=fun W h=>(hrb.out W h.bw);have hL:=hL.drew;refine wp_region_held_drew (S:=(fun w':World=>Bx wr w' [])) (by kernel_rfl) ?bU (fun hHeld=>?_)
                case bU=>exact hL
                refine aA 0 ?_;refine aA 1 ?_;refine aA 2 ?_;refine bP 3 aq5 Tryz.underlying24 ?_;refine aA 4 ?_;refine aA 5 ?_;refine aA 6 ?_;refine bP 7 arh Tryz.underlying24 ?_;refine aA 8 ?_;refine wpAnyH_done (by kernel_rfl) ?_ _;go_wp2
                go_roundw
                case rel=>exact ⟨j,by omega,by go_num,congrArg (Value.int .i64) HST.out,hbw.trans (hL.bw.mono hbw.size)⟩
                case measure=>simp [intOf]
              · have hsc:=fun W=>alx a.1 a.2 b.1 b.2 W
                rw [show (a.1 == b.1 && a.2 == b.2)=false by rw [Bool.eq_false_iff];intro h;apply hp;simp at h;exact Prod.ext h.1 h.2] at hsc;have HST:=hide (show ((j:Int)+1)=taW g l M j by rw [hst,if_neg hp]);clear hst hp
                go_upto_region 20 with (fail)
                have aq5:∀ W:World,Bx wr W []→W.rangeAt (ba) (oa+j*2) ([.int .i64 a.1,.int .i64 a.2]):=fun W h=>(hra.out W h.bw);have arh:∀ W:World,Bx wr W []→W.rangeAt (bb) (ob+j*2) ([.int .i64 b.1,.int .i64 b.2]):=fun W h=>(hrb.out W h.bw);have hL:=hL.drew;refine wp_region_held_drew (S:=(fun w':World=>Bx wr w' [])) (by kernel_rfl) ?kP (fun hHeld=>?_)
                case kP=>exact hL
                refine aA 0 ?_;refine aA 1 ?_;refine aA 2 ?_;refine bP 3 aq5 Tryz.underlying24 ?_;refine aA 4 ?_;refine aA 5 ?_;refine aA 6 ?_;refine bP 7 arh Tryz.underlying24 ?_;refine aA 8 ?_;refine wpAnyH_done (by kernel_rfl) ?_ _;go_wp2
                go_roundw
                case rel=>exact ⟨j,by omega,by go_num,congrArg (Value.int .i64) HST.out,hbw.trans (hL.bw.mono hbw.size)⟩
                case measure=>simp [intOf]
            | zero=>
              rw [show (((0:Nat):Int) - 1)= -1 from rfl,HWT.out];have hz6:=hLq.out.trans (hbw.mono hLq.out.size);have hra:=HRA.out _ hbw;have hrb:=HRB.out _ hbw
              rename World=>wz
              have alV:=hide (fun (W:World) (hb:Below wz.heap.size wz W)=>aqz.out _ (hz6.trans (hb.mono hz6.size)));have au1:=fun (W:World) (hb:Below wz.heap.size wz W)=>agl (fun _=>True) (fun _=>True) g M (taA g l) (some ⟨g5,0,none⟩) A2 c5 c2 W (HMR.out W (hz6.trans (hb.mono hz6.size))) (Reads.below hra hb);have au2:=fun (W:World) (hb:Below wz.heap.size wz W)=>agl S (fun _=>True) g l (taA g M) A A3 c c3 W (HLR.out W (hz6.trans (hb.mono hz6.size))) (Reads.below hrb hb);have au3:=fun (W:World) (hb:Below wz.heap.size wz W)=>agl S (fun _=>True) g l (taA g l) A A2 c c2 W (HLR.out W (hz6.trans (hb.mono hz6.size))) (Reads.below hra hb);have e1:=alF (C:=taA g l) ayX.out.2 (by rw [adZ,HML.out]);have e2:=alF (C:=taA g M) ayX.out.1 (by rw [adZ,HML.out]);have e3:=alF (C:=taA g l) ayX.out.1 (by rw [adZ]);have hw0:Sk.aaC 1 (taA g l) (taA g M)=Wt:=HWT.out;rw [e1.1,e1.2,Sk.amb,hw0,adZ,HML.out] at au1;rw [e2.1,e2.2,hw0,adZ,HML.out] at au2;rw [e3.1,e3.2,Sk.amu,adZ] at au3;have AU1:=hide au1;have AU2:=hide au2;have AU3:=hide au3;have hL:=Bx.nil wz;clear au1 au2 au3 e1 e2 e3 hw0 hra hrb hbw
              go_upto_region 22 with (fail)
              go_cut [17,18] from 17 to 132 (fun v17 v18 wx=>v17= .int .i64 (Wt)∧v18= .int .i64 0∧Bx wz wx [])
              case first=>
               go_wp2_with (first | ((with_reducible refine dh 23 3 ?_);refine nI ((alV.out _ hL.bw).rn 0 0 ([.string g.kind,.int .i64 g.aW,.int .i64 g.target,.int .i64 g.turns])) Tryz.underlying23 fG ?_) | ((with_reducible refine iV 23 3 ?_);refine nJ ((alV.out _ hL.bw).rn 0 0 ([.string g.kind,.int .i64 g.aW,.int .i64 g.target,.int .i64 g.turns])) Tryz.underlying23 fG ?_) | (go_at_call 15;refine (AU1.out _ hL.bw).mono ?_;rintro e' w9 ⟨rfl,xU⟩;have hL:=hL.call xU))
               go_meet;exact ⟨rfl,rfl,hL⟩
              case rest=>
               obtain ⟨rfl,rfl,hL⟩:=hcut
               go_upto_region 23 with (fail)
               go_cut [19,20] from 19 to 139 (fun v19 v20 wx=>v19= .int .i64 (Wt)∧v20= .int .i64 0∧Bx wz wx [])
               case first=>
                go_wp2_with (first | ((with_reducible refine dh 23 3 ?_);refine nI ((alV.out _ hL.bw).rn 0 0 ([.string g.kind,.int .i64 g.aW,.int .i64 g.target,.int .i64 g.turns])) Tryz.underlying23 fG ?_) | ((with_reducible refine iV 23 3 ?_);refine nJ ((alV.out _ hL.bw).rn 0 0 ([.string g.kind,.int .i64 g.aW,.int .i64 g.target,.int .i64 g.turns])) Tryz.underlying23 fG ?_) | (go_at_call 15;refine (AU2.out _ hL.bw).mono ?_;rintro e' w9 ⟨rfl,xU⟩;have hL:=hL.call xU))
                go_meet;exact ⟨rfl,rfl,hL⟩
               case rest=>
                obtain ⟨rfl,rfl,hL⟩:=hcut
                go_upto_region 24 with (fail)
                go_cut [21,22] from 21 to 146 (fun v21 v22 wx=>v21= .int .i64 (0)∧v22= .int .i64 0∧Bx wz wx [])
                case first=>
                 go_wp2_with (first | ((with_reducible refine dh 23 3 ?_);refine nI ((alV.out _ hL.bw).rn 0 0 ([.string g.kind,.int .i64 g.aW,.int .i64 g.target,.int .i64 g.turns])) Tryz.underlying23 fG ?_) | ((with_reducible refine iV 23 3 ?_);refine nJ ((alV.out _ hL.bw).rn 0 0 ([.string g.kind,.int .i64 g.aW,.int .i64 g.target,.int .i64 g.turns])) Tryz.underlying23 fG ?_) | (go_at_call 15;refine (AU3.out _ hL.bw).mono ?_;rintro e' w9 ⟨rfl,xU⟩;have hL:=hL.call xU))
                 go_meet;exact ⟨rfl,rfl,hL⟩
                case rest=>
                 obtain ⟨rfl,rfl,hL⟩:=hcut
                 by_cases hz:Wt=0
                 · have hz1:(Wt == 0)=true:=by simp [hz]
                   have hz2:(Wt == Wt)=true:=by simp
                   clear hz
                   go_wp2_with (first | (go_at_call 6;refine (ED _ (HG.out.below (alV.out _ hL.bw).bw)).mono ?_;rintro e' w1 ⟨rfl,hb1⟩;have hL:=hL.call hb1))
                   go_ret;exact ⟨rfl,(alV.out _ hL.bw).bw⟩
                 · have hz1:(Wt == 0)=false:=by simp [hz]
                   have hz2:(Wt == Wt)=true:=by simp
                   have hz3:decide ((q:Int)<Wt)=true:=decide_eq_true (az5.out.resolve_left hz);clear hz
                   go_wp2_with (first | (go_at_call 6;refine (ED _ (HG.out.below (alV.out _ hL.bw).bw)).mono ?_;rintro e' w1 ⟨rfl,hb1⟩;have hL:=hL.call hb1))
                   go_ret;exact ⟨rfl,(alV.out _ hL.bw).bw⟩
end Go.Proofs.YtcbmedfongiojaaGreatDoor
namespace Go.Proofs.YtcbmedfongiojaaGreatDoor
open Go.RowKit Go.ChangeShapes Go.WideShapes
section
variable {H:Type} {enc:TypeId × Value→H} {W:World} {b0:Nat} {v:Value} {d:DataW H} {ps:List MemPlace}
theorem aAq:Tryz.prog.cellsOf 5=1:=by kernel_rfl
theorem aAj:Tryz.prog.cellsOf 43=6:=by kernel_rfl
theorem tl6 {α:Type} {l:List α} (h:l.length=6):∃ a b c d e f,l=[a,b,c,d,e,f]:=by match l,h with | [a,b,c,d,e,f],_=>exact ⟨a,b,c,d,e,f,rfl⟩
theorem av1 {n:Nat} {cs:List Value} {x:DataW H × List MemPlace} (h:DataW.trod enc Tryz.prog W 0 (fun _=>true) true n 43 cs=some x) (hw:(x.1.weights Tryz.prog 43).all (· ≤reachBytes)=true):
 ∃ (n:Int) (e:En),cs= .int .u8 n::fC e∧(0≤n∧n≤255)∧je W (fun _=>True) e:=by
 obtain ⟨y0,y1,m,rfl,hl,h0,h1⟩:=trod_struct2 Tryz.underlying43 h;obtain ⟨a,b,c,d,e,f,rfl⟩:=tl6 (hl.trans aAj);clear h
 simp [aAq,azb] at h0 h1
 rw [DataW.weights.eq_def] at hw
 simp only [Tryz.underlying43,List.map_cons,List.map_nil,DataW.weightsEach] at hw
 have hw1:=aaK (aau hw);obtain ⟨z0,e0,_,hz⟩:=DataW.trod_int Tryz.underlying5 h0;obtain ⟨s,e1,hs⟩:=ana h1 hw1
 cases e0
 exact ⟨z0,s,by rw [e1],asi hz,hs⟩
theorem ayo (hv:Value.okWide Tryz.prog W .any b0 43 v) (h:DataW.Trod enc Tryz.prog W 0 (fun _=>true) true 43 v d ps) (hw:(d.weights Tryz.prog 43).all (· ≤reachBytes)=true):
 ∃ (n:Int) (e:En),v=aBG n e∧(0≤n∧n≤255)∧je W (fun _=>True) e:=by
 obtain ⟨k,hn⟩:=h;obtain ⟨n,e,he,hr,hf⟩:=av1 hn hw;exact ⟨n,e,NM (P:=Tryz.prog) Tryz.underlying43 hv he,hr,hf⟩
end
end Go.Proofs.YtcbmedfongiojaaGreatDoor
