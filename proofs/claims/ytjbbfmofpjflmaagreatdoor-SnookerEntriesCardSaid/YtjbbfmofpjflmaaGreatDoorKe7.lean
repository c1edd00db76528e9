/- Parts of a proof. -/
import Derived.Test.YtjbbfmofpjflmaaGreatDoorKb23
import Derived.Test.YtjbbfmofpjflmaaGreatDoorKe5
import Derived.Test.YtjbbfmofpjflmaaGreatDoorKe6
set_option maxHeartbeats 2000000
set_option maxRecDepth 100000
set_option linter.unusedVariables false
set_option linter.unusedSimpArgs false
namespace Go.Proofs.YtjbbfmofpjflmaaGreatDoor
open Go.RowKit
theorem acn {W:World} {S:Nat→Prop} {A:Option Addr} {c:Nat} {l:List ByteArray} (h:lT W S A c l) (k:Nat) (hk:k<l.length):∃ b o,A=some ⟨b,o,none⟩∧W.cell? ⟨b,o+k,none⟩=some (.string l[k]):=by
 obtain ⟨b,o,e,_,_,hc⟩:=h.at_ k hk;exact ⟨b,o,e,hc k hk⟩
theorem ab1 (S S':Nat→Prop) (a b:List ByteArray) (A B:Option Addr) (c d:Nat) (w:World) (ha:lT w S A c a) (hb:lT w S' B d b) (hab:a=b):Calls Tryz.prog 57 #[.slice A a.length c,.slice B b.length d] w fun e w'=>e= .returned (.bool true)∧Below w.heap.size w w':=by
 obtain ⟨a1,a2,a3⟩:=ha.bd;subst hab;obtain ⟨b1,b2,b3⟩:=hb.bd
 have hl':((a.length:Int) != (a.length:Int))=false:=by simp
 go_enter Tryz.func57,Tryz.ntmps57
 go_wp2
 go_loopw [5] (fun i wr=>∃ k:Nat,k≤a.length∧i= .int .i64 k∧Below w.heap.size w wr) (fun i _=>a.length - (intOf i).toNat)
 case atStart=>exact ⟨0,by omega,rfl,Below.refl _ _⟩
 case round=>
  obtain ⟨k,hk,rfl,hbw⟩:=hrel
  by_cases hlt:k<a.length
  · obtain ⟨p,o,rfl,hca⟩:=acn (ha.below hbw) k hlt
    obtain ⟨q,r,rfl,hcb⟩:=acn (hb.below hbw) k hlt;have hck:decide ((k:Int)<(a.length:Int))=true:=decide_eq_true (by omega)
    have i1:(0:Int)≤(k:Int):=by omega
    have i2:(k:Int)<(a.length:Int):=by omega
    obtain ⟨x,hx⟩:∃ x,a[k]=x:=⟨_,rfl⟩
    simp only [hx] at hca hcb
    clear hx
    have hne:(x.toList != x.toList)=false:=by simp
    go_wp2
    go_quiet (fail)
    go_wp2
    go_roundw
    case rel=>exact ⟨k+1,by omega,by go_num,below_drewN hbw nq⟩
    case measure=>simp [intOf];omega
  · have hck:decide ((k:Int)<(a.length:Int))=false:=decide_eq_false (by omega)
    go_wp2;go_ret;exact ⟨rfl,hbw⟩
theorem ab9 {W:World} {base e size n:Nat} {v:Value} {xs:List Value} (h:W.ownsRow base e size v n xs):W.drew.ownsRow base e size v n xs:=h
def onL (w:World) (G:Nat) (g:Sk.Game) (s:Sk.State):List (Nat × List Value × TypeId):=[(G,Sk.cO.map Value.string,9),(w.heap.size,bT g,28),(w.heap.size+1,aO s,39)]
def acX (s:Sk.State) (k:Nat):List ByteArray:=(([1,2,3,4,5,6,7]:List Int).take (k - 1)).filterMap fun n=>if Sk.aal s n=true∨Sk.callable s (Sk.gQ n)=true then some (Sk.gQ n) else none
theorem adF (s:Sk.State) {k:Nat} (h1:1≤k) (h7:k≤7):acX s (k+1)=acX s k++if (Sk.aal s k || Sk.aad s (Sk.gQ k))=true then [Sk.gQ k] else []:=by
 have h:([1,2,3,4,5,6,7]:List Int).take (k+1 - 1)=([1,2,3,4,5,6,7]:List Int).take (k - 1)++[(k:Int)]:=by
  rcases (by omega:k=1∨k=2∨k=3∨k=4∨k=5∨k=6∨k=7) with rfl | rfl | rfl | rfl | rfl | rfl | rfl <;> rfl
 unfold acX
 rw [h,List.filterMap_append,Sk.acy]
 congr 1
 by_cases h2:Sk.aal s k=true∨Sk.callable s (Sk.gQ k)=true
 · rw [if_pos (by simpa using h2),List.filterMap_cons,if_pos h2];rfl
 · rw [if_neg (by simpa using h2),List.filterMap_cons,if_neg h2];rfl
theorem aev (s:Sk.State) (k:Nat) (h7:k≤8):(acX s k).length≤7:=Nat.le_trans (List.length_filterMap_le _ _) (by rw [List.length_take];simp;omega)
theorem afX (s:Sk.State) (k:Nat):Sk.aal s k=(((s.phase.toList == [114,101,100]) && ((k:Int) == 1)) || ((s.phase.toList == [99,111,108,111,117,114]) && decide (1<(k:Int))) || ((s.phase.toList == [102,105,110,97,108]) && ((k:Int) == s.colour))):=by
 unfold Sk.aal
 rw [gG,gG,gG,Bool.eq_iff_iff]
 simp [or_assoc,Sk.iI,Sk.dW,Sk.dG]
theorem agP (g:Sk.Game) (s:Sk.State) (ht:s.turn=0∨s.turn=1) (w:World):Calls Tryz.prog 58 #[lZ g,kW s] w fun e w'=>∃ A c,e= .returned (.slice A (Sk.rOn g s).length c)∧lT w' (fun b=>w.heap.size≤b) A c (Sk.rOn g s)∧Below w.heap.size w w':=by
 obtain ⟨i0,hi0,hz0,hz1,hz2⟩:=info_parts Na
 by_cases hg:g.kind=Sk.aW
 rotate_left
 · have hg2:=wf hg
   have hw:IntKind.i64.wrap (1 - s.turn)=1 - s.turn:=by rw [IntKind.wrap_i64];omega
   have HH:=hide (show Sk.rOn g s=[Sk.mine (1 - s.turn),Sk.dw] by unfold Sk.rOn;rw [if_pos hg]);clear hg ht
   go_enter Tryz.func58,Tryz.ntmps58
   go_upto_region 0 with (fail)
   go_cut [2,3,4] (fun v2 v3 v4 wx=>v2=ptr (w.heap.size)∧v3=ptr (w.heap.size+1)∧v4= .slice none 0 0∧Bx w wx [(w.heap.size,bT g,28),(w.heap.size+1,aO s,39)])
   case first=>
    go_wp2;go_meet;exact ⟨rfl,rfl,rfl,Bx.of (((aJ.nil w).new (by simp) (bT g) 28).new (by simp) (aO s) 39) _ rfl⟩
   case rest=>
    obtain ⟨rfl,rfl,rfl,hL⟩:=hcut;have k0:=(hL.get 0 rfl).cell (j:=0) rfl;have k1:=(hL.get 1 rfl).cell (j:=0) rfl;have hz:=hL.bw.size
    go_wp2_with (first | (go_at_call 96;refine (ad5 _ _).mono ?_;rintro e1 w1 ⟨rfl,rfl⟩))
    go_ret;exact ⟨some ⟨wc.heap.size,0,none⟩,2,by rw [HH.out];rfl,by rw [HH.out];exact lT.lit wc 9 [Sk.mine (1 - s.turn),Sk.dw] (by simp) _ hz,hL.bw.alloc hz _⟩
 · have hg2:=wt hg
   have HH:=hide (show Sk.rOn g s=acX s 8 by unfold Sk.rOn;rw [if_neg (by simp [hg])];rfl);clear hg ht
   go_enter Tryz.func58,Tryz.ntmps58
   go_upto_region 0 with (fail)
   go_cut [2,3,4] (fun v2 v3 v4 wx=>v2=ptr (w.heap.size)∧v3=ptr (w.heap.size+1)∧v4= .slice none 0 0∧Bx w wx [(w.heap.size,bT g,28),(w.heap.size+1,aO s,39)])
   case first=>
    go_wp2;go_meet;exact ⟨rfl,rfl,rfl,Bx.of (((aJ.nil w).new (by simp) (bT g) 28).new (by simp) (aO s) 39) _ rfl⟩
   case rest=>
    obtain ⟨rfl,rfl,rfl,hL⟩:=hcut;have k0:=(hL.get 0 rfl).cell (j:=0) rfl
    go_upto_region 5 with (first | (go_at_call 52;refine (JB _).mono ?_;rintro e1 w1 ⟨rfl,rfl⟩))
    go_cut [6,7] from 9 to 18 (fun v6 v7 wx=>∃ G,v6= .slice (some ⟨G,0,none⟩) 8 8∧v7= .int .i64 1∧w.heap.size+2≤G∧Bx w wx (onL w G g s))
    case first=>
     go_wp2;go_meet;have hlt:w.heap.size+1<wc.heap.size:=hL.lt (w.heap.size+1,aO s,39) (by simp);exact ⟨_,rfl,rfl,by omega,hL.add (Sk.cO.map Value.string) 9⟩
    case rest=>
     obtain ⟨G,rfl,rfl,hG,hL⟩:=hcut;clear k0;go_wp2
     go_loopw [5,7,8] (fun v5 i _ wr=>∃ (k:Nat) (o:List ByteArray) (A5:Option Addr) (c5:Nat),1≤k∧k≤8∧i= .int .i64 k∧v5= .slice A5 o.length c5∧Aside (o=acX s k)∧Bx w wr (onL w G g s)∧wr.ownsRow (G+1) 9 1 (.slice A5 o.length c5) o.length (o.map Value.string)) (fun _ i _ _=>8 - (intOf i).toNat)
     case atStart=>exact ⟨1,[],none,0,by omega,by omega,rfl,rfl,hide rfl,hL,World.ownsRow_nil _ _ _ _⟩
     case round=>
      obtain ⟨k,o,A5,c5,hk1,hk8,rfl,rfl,hx0,hL,hO⟩:=hrel
      have hol:o.length≤7:=by rw [hx0.out];exact aev s k hk8
      by_cases hlt:k<8
      · have hd:decide ((k:Int)<8)=true:=decide_eq_true (by omega)
        have i1:(0:Int)≤(k:Int):=by omega
        have i2:(k:Int)<8:=by omega
        have hkl:k<Sk.cO.length:=hlt;have hst:=adF s hk1 (by omega:k≤7);have hcl:=fun W=>abS s (Sk.gQ k) W
        have hkb:(Sk.cO.map Value.string)[k]? =some (.string (Sk.gQ k)):=by
         rw [af7 (k:Int) (by rw [Int.toNat_natCast];exact hkl),List.getElem?_map]
         simp only [Int.toNat_natCast]
         rw [List.getElem?_eq_getElem hkl];rfl
        have hb1:=(afX s k).symm;obtain ⟨b1,aik⟩:∃ q,Sk.aal s k=q:=⟨_,rfl⟩;obtain ⟨b2,ait⟩:∃ q,Sk.aad s (Sk.gQ k)=q:=⟨_,rfl⟩;obtain ⟨b,hbe⟩:∃ q,Sk.gQ (k:Int)=q:=⟨_,rfl⟩;rw [aik] at hst hb1;rw [ait] at hst hcl;rw [hbe] at hst hcl hkb;rw [← hx0.out] at hst;have HST:=hide hst;have Va:=hide hcl;have HKB:=hide hkb;have HB1:=hide hb1;clear hst hcl hb1 aik ait hbe hx0;have k4:=(hL.get 2 rfl).cell (j:=4) rfl;have k6:=(hL.get 2 rfl).cell (j:=6) rfl
        go_upto_region 8 with (fail)
        go_cut [8] from 18 to 51 (fun v8 wx=>v8= .bool b1∧wx=wr)
        case first=>
         rcases ha0:((s.phase.toList == [114,101,100])) with _ | _
         · rcases ha1:((s.phase.toList == [99,111,108,111,117,114])) with _ | _
           · rcases ha2:((s.phase.toList == [102,105,110,97,108])) with _ | _
             · go_wp2
               go_meet;exact ⟨congrArg Value.bool (by rw [← HB1.out];simp only [ha0,ha1,ha2];rfl),rfl⟩
             · rcases l7:(((k:Int) == s.colour)) with _ | _
               · go_wp2
                 go_meet;exact ⟨congrArg Value.bool (by rw [← HB1.out];simp only [ha0,ha1,ha2,l7];rfl),rfl⟩
               · go_wp2
                 go_meet;exact ⟨congrArg Value.bool (by rw [← HB1.out];simp only [ha0,ha1,ha2,l7];rfl),rfl⟩
           · rcases ha2:(decide (1<(k:Int))) with _ | _
             · rcases l7:((s.phase.toList == [102,105,110,97,108])) with _ | _
               · go_wp2
                 go_meet;exact ⟨congrArg Value.bool (by rw [← HB1.out];simp only [ha0,ha1,ha2,l7];rfl),rfl⟩
               · rcases wX:(((k:Int) == s.colour)) with _ | _
                 · go_wp2
                   go_meet;exact ⟨congrArg Value.bool (by rw [← HB1.out];simp only [ha0,ha1,ha2,l7,wX];rfl),rfl⟩
                 · go_wp2
                   go_meet;exact ⟨congrArg Value.bool (by rw [← HB1.out];simp only [ha0,ha1,ha2,l7,wX];rfl),rfl⟩
             · go_wp2
               go_meet;exact ⟨congrArg Value.bool (by rw [← HB1.out];simp only [ha0,ha1,ha2];rfl),rfl⟩
         · rcases ha1:(((k:Int) == 1)) with _ | _
           · rcases ha2:((s.phase.toList == [99,111,108,111,117,114])) with _ | _
             · rcases l7:((s.phase.toList == [102,105,110,97,108])) with _ | _
               · go_wp2
                 go_meet;exact ⟨congrArg Value.bool (by rw [← HB1.out];simp only [ha0,ha1,ha2,l7];rfl),rfl⟩
               · rcases wX:(((k:Int) == s.colour)) with _ | _
                 · go_wp2
                   go_meet;exact ⟨congrArg Value.bool (by rw [← HB1.out];simp only [ha0,ha1,ha2,l7,wX];rfl),rfl⟩
                 · go_wp2
                   go_meet;exact ⟨congrArg Value.bool (by rw [← HB1.out];simp only [ha0,ha1,ha2,l7,wX];rfl),rfl⟩
             · rcases l7:(decide (1<(k:Int))) with _ | _
               · rcases wX:((s.phase.toList == [102,105,110,97,108])) with _ | _
                 · go_wp2
                   go_meet;exact ⟨congrArg Value.bool (by rw [← HB1.out];simp only [ha0,ha1,ha2,l7,wX];rfl),rfl⟩
                 · rcases TQ:(((k:Int) == s.colour)) with _ | _
                   · go_wp2
                     go_meet;exact ⟨congrArg Value.bool (by rw [← HB1.out];simp only [ha0,ha1,ha2,l7,wX,TQ];rfl),rfl⟩
                   · go_wp2
                     go_meet;exact ⟨congrArg Value.bool (by rw [← HB1.out];simp only [ha0,ha1,ha2,l7,wX,TQ];rfl),rfl⟩
               · go_wp2
                 go_meet;exact ⟨congrArg Value.bool (by rw [← HB1.out];simp only [ha0,ha1,ha2,l7];rfl),rfl⟩
           · go_wp2
             go_meet;exact ⟨congrArg Value.bool (by rw [← HB1.out];simp only [ha0,ha1];rfl),rfl⟩
        case rest=>
         obtain ⟨rfl,rfl⟩:=hcut;clear k4 k6
         go_upto_region 9 with (fail)
         go_cut [59] from 51 to 60 (fun v59 wx=>v59= .bool (b1 || b2)∧Bx w wx (onL w G g s)∧wx.ownsRow (G+1) 9 1 (.slice A5 o.length c5) o.length (o.map Value.string))
         case first=>
          cases b1
          · have HB2:=hide (show b2=(false || b2) by simp)
            have hO:=ab9 hO;have ZN:∀ W:World,Bx w W (onL w G g s)∧W.cell? ⟨G,k,none⟩=some (.string b)→W.rangeAt (w.heap.size+1) 0 ([.int .i64 s.turn,.int .i64 s.s0,.int .i64 s.s1,.int .i64 s.brk,.string s.phase,.int .i64 s.bI,.int .i64 s.colour,.bool s.free,.bool s.aT,.int .i64 s.aP,.int .i64 s.t0,.int .i64 s.t1,.int .i64 s.aB]):=fun W h=>h.1.rng 2 rfl 0 _ rfl;have hL:=hL.drew;refine wp_region_held_drew (S:=(fun w':World=>Bx w w' (onL w G g s)∧w'.cell? ⟨G,k,none⟩=some (.string b))) (by kernel_rfl) ?bW (fun hHeld=>?_)
            case bW=>exact ⟨hL,(hL.get 0 rfl).cell (j:=k) HKB.out⟩
            refine tk 0 ?_;refine tk 1 ?_;refine wpAnyH_take (i:=2) (oi:=_) (v:=_) (ga rfl) (by kernel_rfl) (by kernel_rfl) (by kernel_rfl) (fun _ _ _ h=>h) (yieldsIf_load_mid (by rfl) _ _ (by rfl) _ _ (by rfl) _ _ ZN Tryz.underlying39 rfl (by kernel_rfl)) (by assumption) ?_
            try simp only [Act.put,la,lz,ls]
            refine tk 3 ?_;refine tk 4 ?_;refine tr 5 fun K hK=>?_;go_simp;refine hK.out _ _ ?P8 (fun hHeld=>?_)
            case P8=>(exact ⟨hL,(hL.get 0 rfl).cell (j:=k) HKB.out⟩)
            clear hK K
            try simp only [Act.put,la,lz,ls]
            refine tk 6 ?_;refine tr 7 fun K hK=>?_;go_simp
            (go_at_call 97;refine (Va.out _).mono ?_;rintro e w9a ⟨rfl,aiL⟩)
            have hL:=hL.call aiL;have hO:=abA hO aiL;refine hK.out _ _ ?aaE (fun hHeld=>?_)
            case aaE=>(exact ⟨hL,(hL.get 0 rfl).cell (j:=k) HKB.out⟩)
            clear hK K
            try simp only [Act.put,la,lz,ls]
            refine tk 8 ?_;refine wpAnyH_done (by kernel_rfl) ?_ _;go_wp2;go_meet;exact ⟨congrArg _ HB2.out,hL,hO⟩
          · have HB2:=hide (show true=(true || b2) by simp)
            have hO:=ab9 hO;have hL:=hL.drew;refine wp_region_held_drew (S:=(fun w':World=>Bx w w' (onL w G g s))) (by kernel_rfl) ?dI (fun hHeld=>?_)
            case dI=>exact hL
            refine tk 0 ?_;refine tk 1 ?_;refine tu 2 ?_;refine tu 3 ?_;refine tu 4 ?_;refine tu 5 ?_;refine tu 6 ?_;refine tu 7 ?_;refine tk 8 ?_;refine wpAnyH_done (by kernel_rfl) ?_ _;go_wp2;go_meet;exact ⟨congrArg _ HB2.out,hL,hO⟩
         case rest=>
          obtain ⟨rfl,hL,hO⟩:=hcut;obtain ⟨bb,hbb⟩:∃ q,(b1 || b2)=q:=⟨_,rfl⟩;rw [hbb] at HST;rw [hbb]
          cases bb
          · have HM:=hide (show o=acX s (k+1) by rw [HST.out];simp)
            have HL:=hide hL;have HO:=hide hO;clear hL hO hbb;go_wp2
            go_roundw
            case rel=>exact ⟨k+1,o,A5,c5,by omega,by omega,by go_num,rfl,HM,HL.out,HO.out⟩
            case measure=>simp [intOf];omega
          · have HM:=hide (show o++[b]=acX s (k+1) by rw [HST.out];simp)
            have HES:=hide (show (o++[b]).map Value.string=o.map Value.string++[.string b] by simp);have auY:=hL.bw.size;have hGl:=hL.lt (G,Sk.cO.map Value.string,9) (by unfold onL;simp);have kb:=(hL.get 0 rfl).cell (j:=k) HKB.out;clear hbb
            go_wp2_with (first | (at_builtin;refine wpList_append_lies _ rfl _ _ _ rfl (G+1) 9 i0 (.string ⟨#[]⟩) 1 16 Tryz.underlying81 hi0 hz0 hz1 hz2 rfl (by omega) _ _ _ rfl (hO.alloc _) ⟨wc.heap.size,0,none⟩ 1 1 [.string b] rfl rfl (jW _ _ _ _ (by simp)) (by simp [Value.oneCell']) (by omega) (by simp only [maxLen];omega) (by omega) (by simp;omega) (wc.heap.size+1) (by simp) ?_))
            intro g1 cap w4 hown4 hgrow hat _;have hL4:=(hL.alloc (.cells ([.string b]:List Value).toArray 9)).ah0 (hO.alloc _) (by omega) hgrow (by unfold onL;simp);rw [← HES.out] at hown4;have HO:=hide hown4;have HL:=hide hL4;clear hown4 hgrow hL hO hL4 kb;go_wp2
            go_roundw
            case rel=>exact ⟨k+1,o++[b],_,_,by omega,by omega,by go_num,by rw [List.length_append];rfl,HM,HL.out,by rw [List.length_append];exact HO.out⟩
            case measure=>simp [intOf];omega
      · have hke:k=8:=by omega
        subst hke;have hR:=HH.out.trans hx0.out.symm;have HR:=hide hR;have HRD:=hide (Reads.Aw hO (S:=fun b=>w.heap.size≤b) (fun b h=>by omega) (by omega));clear hR hO;go_wp2;go_ret;exact ⟨A5,c5,by rw [HR.out];rfl,by rw [HR.out];exact HRD.out,hL.bw⟩
theorem adV (W:World) (D:Nat) (e:TypeId) (size:Nat) (g:Nat) (hg:D≤g) (h:W.heap[g]? =some (.cells #[] e (0,0))):W.ownsRow D e size (.slice (some ⟨g,0,none⟩) 0 0) 0 []:=
 ⟨by simp,.inr ⟨g,0, #[],rfl,hg,h,Nat.le_refl _,Nat.zero_le _,by simp,by simp⟩⟩
theorem adp (S:Nat→Prop) (l:List ByteArray) (A:Option Addr) (c D:Nat) (w:World) (h:lT w S A c l) (h0:0<l.length) (h8:l.length≤1000) (hD:D≤w.heap.size):
 Calls Tryz.prog 92 #[.slice A l.length c] w fun e w'=>∃ B d,e= .returned (.slice B l.length d)∧w'.ownsRow D 9 1 (.slice B l.length d) l.length (l.map Value.string)∧Below w.heap.size w w':=by
 obtain ⟨i0,hi0,hz0,hz1,hz2⟩:=info_parts Na;obtain ⟨b1,b2,b3⟩:=h.bd;obtain ⟨b,o,rfl,_,_,hc⟩:=Reads.at_ (h.alloc (.cells #[] 9)) h0
 have hn:∀ j u,(l.map Value.string)[j]? =some u→(w.alloc (.cells #[] 9)).cell? ((⟨b,o,none⟩:Addr).add j)=some u:=fun j u hu=>by rw [oJ];exact hc j u hu
 clear hc h
 have hnil:∀ n W,(binOp BinOp.eql 81 (.slice (some ⟨b,o,none⟩) n c) (.slice none 0 0)).run Tryz.prog W= .ok (.bool false) W:=fun _ _=>by kernel_rfl
 go_enter Tryz.func92,Tryz.ntmps92
 go_wp2_with ((at_builtin;refine wpList_append_lies _ rfl _ _ _ rfl D 9 i0 (.string ⟨#[]⟩) 1 16 Tryz.underlying81 hi0 hz0 hz1 hz2 rfl (by omega) _ _ _ rfl (adV (w.alloc (.cells #[] 9)) D 9 1 w.heap.size hD (World.alloc_heap_new _ _)) ⟨b,o,none⟩ l.length c (l.map Value.string) rfl (by simp) hn (by simp [Value.oneCell']) (by omega) (by simp only [maxLen];omega) (by omega) (by simp;omega) (w.heap.size+1) (by simp) ?_))
 intro g1 cap w4 hown4 hgrow hat _;have hbw:=((Below.refl w.heap.size w).alloc (Nat.le_refl _) (.cells #[] 9)).grown hgrow (by simp) (fun g hg=>by cases hg;exact Nat.le_refl _)
 try simp only [Nat.zero_add,List.nil_append] at hown4
 try simp only [Nat.zero_add]
 have HO:=hide hown4;clear hown4 hgrow;go_wp2;go_ret;exact ⟨_,_,rfl,HO.out,hbw⟩
theorem aeU (s:Sk.State):0<(Sk.on s).length∧(Sk.on s).length≤6:=by
 unfold Sk.on
 by_cases h1:s.phase=Sk.iI
 · rw [if_pos h1];simp
 · rw [if_neg h1]
   by_cases h2:s.phase=Sk.dW
   · rw [if_pos h2];decide
   · rw [if_neg h2];simp
def onErr (g:Sk.Game) (s:Sk.State):Int:=fst [Sk.bP g s,iL (decide (0≤s.aB)) 20]
def adx (g:Sk.Game) (s:Sk.State):List ByteArray:=if onErr g s=0 then Sk.aaB g s else []
def abJ (s:Sk.State) (k:Nat):List ByteArray:=Sk.on s++(Sk.cO.take k).filter (Sk.callable s ·)
theorem adN (s:Sk.State) {k:Nat} (hk:k<Sk.cO.length):abJ s (k+1)=abJ s k++if Sk.callable s (Sk.cO[k]'hk)=true then [Sk.cO[k]'hk] else []:=by
 unfold abJ
 rw [List.take_succ_eq_append_getElem hk,List.filter_append,List.append_assoc]
 congr 2
 by_cases h:Sk.callable s (Sk.cO[k]'hk)=true
 · rw [if_pos h,List.filter_cons,if_pos h];rfl
 · rw [if_neg h,List.filter_cons,if_neg h];rfl
theorem aeD (s:Sk.State) (k:Nat) (hk:k≤8):(abJ s k).length≤14:=by
 have h1:=(aeU s).2;have h2:=List.length_filter_le (Sk.callable s ·) (Sk.cO.take k)
 have h3:(Sk.cO.take k).length≤8:=by rw [List.length_take];omega
 unfold abJ
 rw [List.length_append]
 omega
theorem adf (k:Nat) (hk:k<Sk.cO.length) (W:World):(Instr.index 155 (.agg #[.string Sk.bQ,.string Sk.dw,.string Sk.cu,.string Sk.jZ,.string Sk.ql,.string Sk.CO,.string Sk.CP,.string Sk.qj]) (.int .i64 (k:Int))).run Tryz.prog W= .ok (.string (Sk.cO[k]'hk)) W:=by
 have hk8:k<8:=hk
 rcases (by omega:k=0∨k=1∨k=2∨k=3∨k=4∨k=5∨k=6∨k=7) with rfl | rfl | rfl | rfl | rfl | rfl | rfl | rfl
 all_goals
  have h:∀ x y:Sem Value,x=y→x=y:=fun _ _ h=>h
  show Sem.run _ _ _=Result.ok _ _
  kernel_rfl
def onP (w:World) (g:Sk.Game) (s:Sk.State):List (Nat × List Value × TypeId):=[(w.heap.size,bT g,23),(w.heap.size+1,aO s,26)]
theorem agh (g:Sk.Game) (s:Sk.State) (w:World):Calls Tryz.prog 56 #[lZ g,kW s] w fun e w'=>∃ A c,e= .returned (.tuple #[.slice A (adx g s).length c,.int .i64 (onErr g s)])∧lT w' (fun b=>w.heap.size≤b) A c (adx g s)∧Below w.heap.size w w':=by
 obtain ⟨i0,hi0,hz0,hz1,hz2⟩:=info_parts Na;have c1:=fun W=>CG g s W;obtain ⟨C,hC⟩:∃ q,Sk.bP g s=q:=⟨_,rfl⟩;obtain ⟨O,hO⟩:∃ q,onErr g s=q:=⟨_,rfl⟩;obtain ⟨X,hX⟩:∃ q,adx g s=q:=⟨_,rfl⟩
 have hO2:fst [C,iL (decide (0≤s.aB)) 20]=O:=by rw [← hC];exact hO
 have hX2:X=if O=0 then Sk.aaB g s else []:=by rw [← hX, ← hO];rfl
 have hck:O=0→Sk.bP g s=0:=fun h0=>by
  rw [h0,rQ] at hO2
  by_cases h:C=0
  · exact hC.trans h
  · rw [if_pos h] at hO2;exact absurd hO2 h
 rw [hC] at c1;rw [hO,hX];have C1:=hide c1;have HO:=hide hO2;have HX:=hide hX2;have pq:=hide hck;clear c1 hC hO hX hO2 hX2 hck
 go_enter Tryz.func56,Tryz.ntmps56
 go_upto_region 0 with (fail)
 go_cut [2,3,4,5] (fun v2 v3 v4 v5 wx=>v2=ptr (w.heap.size)∧v3=ptr (w.heap.size+1)∧v4= .slice none 0 0∧v5= .int .i64 0∧Bx w wx [(w.heap.size,bT g,23),(w.heap.size+1,aO s,26)])
 case first=>
  go_wp2;go_meet;exact ⟨rfl,rfl,rfl,rfl,Bx.of (((aJ.nil w).new (by simp) (bT g) 23).new (by simp) (aO s) 26) _ rfl⟩
 case rest=>
  obtain ⟨rfl,rfl,rfl,rfl,hL⟩:=hcut
  go_upto_region 1 with (fail)
  go_cut [6] from 10 to 19 (fun v6 wx=>v6= .int .i64 O∧Bx w wx (onP w g s))
  case first=>
   have Zz:∀ W:World,Bx w W (onP w g s)∧W.cell? ⟨w.heap.size+1,12,none⟩=some (.int .i64 s.aB)→W.rangeAt (w.heap.size) 0 ([.string g.kind,.int .i64 g.bI,.int .i64 g.target,.int .i64 g.turns]):=fun W h=>h.1.rng 0 rfl 0 _ rfl;have ZA:∀ W:World,Bx w W (onP w g s)∧W.cell? ⟨w.heap.size+1,12,none⟩=some (.int .i64 s.aB)→W.rangeAt (w.heap.size+1) 0 ([.int .i64 s.turn,.int .i64 s.s0,.int .i64 s.s1,.int .i64 s.brk,.string s.phase,.int .i64 s.bI,.int .i64 s.colour,.bool s.free,.bool s.aT,.int .i64 s.aP,.int .i64 s.t0,.int .i64 s.t1,.int .i64 s.aB]):=fun W h=>h.1.rng 1 rfl 0 _ rfl;have hL:=hL.drew;refine wp_region_held_drew (S:=(fun w':World=>Bx w w' (onP w g s)∧w'.cell? ⟨w.heap.size+1,12,none⟩=some (.int .i64 s.aB))) (by kernel_rfl) ?bW (fun hHeld=>?_)
   case bW=>exact ⟨hL,(hL.get 1 rfl).cell (j:=12) rfl⟩
   refine wpAnyH_take (i:=0) (oi:=_) (v:=_) (ga rfl) (by kernel_rfl) (by kernel_rfl) (by kernel_rfl) (fun _ _ _ h=>h) (yieldsIf_load_mid (by rfl) _ _ (by rfl) _ _ (by rfl) _ _ Zz Tryz.underlying23 rfl (by kernel_rfl)) (by assumption) ?_
   try simp only [Act.put,la,lz,ls]
   refine wpAnyH_take (i:=1) (oi:=_) (v:=_) (ga rfl) (by kernel_rfl) (by kernel_rfl) (by kernel_rfl) (fun _ _ _ h=>h) (yieldsIf_load_mid (by rfl) _ _ (by rfl) _ _ (by rfl) _ _ ZA Tryz.underlying26 rfl (by kernel_rfl)) (by assumption) ?_
   try simp only [Act.put,la,lz,ls]
   refine tk 3 ?_;refine tk 4 ?_;refine tk 5 ?_;refine tr 2 fun K hK=>?_;go_simp
   (go_at_call 18;refine (C1.out _).mono ?_;rintro e w1a ⟨rfl,OC⟩)
   have hL:=hL.call OC;refine hK.out _ _ ?PO (fun hHeld=>?_)
   case PO=>(exact ⟨hL,(hL.get 1 rfl).cell (j:=12) rfl⟩)
   clear hK K
   try simp only [Act.put,la,lz,ls]
   refine tr 6 fun K hK=>?_;go_simp
   (go_at_call 64;refine (dF _ _ _).mono ?_;rintro e YK ⟨rfl,rfl⟩)
   refine hK.out _ _ ?aax (fun hHeld=>?_)
   case aax=>(exact ⟨hL,(hL.get 1 rfl).cell (j:=12) rfl⟩)
   clear hK K
   try simp only [Act.put,la,lz,ls]
   refine tr 7 fun K hK=>?_;go_simp;refine hK.out _ _ ?aaE (fun hHeld=>?_)
   case aaE=>(exact ⟨hL.alloc _,(((hL.alloc _).get 1 rfl).cell (j:=12) rfl)⟩)
   clear hK K
   try simp only [Act.put,la,lz,ls]
   refine tr 8 fun K hK=>?_;go_simp
   (go_at_call 67;refine (fZ (fun _=>True) _ _ [_,_] _ (jV.row _ _ [_,_] (by simp) _ trivial)).mono ?_;rintro e w1c ⟨rfl,rfl⟩)
   refine hK.out _ _ ?aiJ (fun hHeld=>?_)
   case aiJ=>(exact hHeld)
   clear hK K
   try simp only [Act.put,la,lz,ls]
   refine tk 9 ?_;refine wpAnyH_done (by kernel_rfl) ?_ _;go_wp2;go_meet;exact ⟨congrArg _ HO.out,hHeld.1⟩
  case rest=>
   obtain ⟨rfl,hL⟩:=hcut
   by_cases h0:O=0
   rotate_left
   · have hd:(O != 0)=true:=by simp [h0]
     have HX2:=hide (show X=[] by rw [HX.out,if_neg h0]);clear h0;go_wp2;go_ret2;exact ⟨none,0,by rw [HX2.out];rfl,by rw [HX2.out];exact Reads.none_ _ _ _,hL.bw⟩
   have hd:(O != 0)=false:=by simp [h0]
   obtain ⟨OL,I9,htn⟩:=xQ (pq.out h0);have HX2:=hide (show X=Sk.aaB g s by rw [HX.out,if_pos h0]);have HZ:=hide h0;clear h0;have k0:=(hL.get 0 rfl).cell (j:=0) rfl
   by_cases hg:g.kind=Sk.aW
   rotate_left
   · have hg2:=wf hg
     have HH:=hide (show X=[Sk.theirs s,Sk.dw] by rw [HX2.out];unfold Sk.aaB;rw [if_neg hg]);clear hg
     go_wp2_with (first | ((with_reducible refine isL 26 3 ?_);refine nLr (hL.rn 1 0 ([.int .i64 s.turn,.int .i64 s.s0,.int .i64 s.s1,.int .i64 s.brk,.string s.phase,.int .i64 s.bI,.int .i64 s.colour,.bool s.free,.bool s.aT,.int .i64 s.aP,.int .i64 s.t0,.int .i64 s.t1,.int .i64 s.aB])) Tryz.underlying26 ak ?_) | ((with_reducible refine isW 26 3 ?_);refine nWr (hL.rn 1 0 ([.int .i64 s.turn,.int .i64 s.s0,.int .i64 s.s1,.int .i64 s.brk,.string s.phase,.int .i64 s.bI,.int .i64 s.colour,.bool s.free,.bool s.aT,.int .i64 s.aP,.int .i64 s.t0,.int .i64 s.t1,.int .i64 s.aB])) Tryz.underlying26 ak ?_) | ((with_reducible refine isL 26 3 ?_);refine nLr (hL.rn 1 0 ([.int .i64 s.turn,.int .i64 s.s0,.int .i64 s.s1,.int .i64 s.brk,.string s.phase,.int .i64 s.bI,.int .i64 s.colour,.bool s.free,.bool s.aT,.int .i64 s.aP,.int .i64 s.t0,.int .i64 s.t1,.int .i64 s.aB])) Tryz.underlying26 ak ?_) | (go_at_call 91;refine (zi s htn _).mono ?_;rintro e' w1 ⟨rfl,hb1⟩;have hL:=hL.call hb1))
     go_ret2;exact ⟨some ⟨w1.heap.size,0,none⟩,2,by rw [HH.out,HZ.out];rfl,by rw [HH.out];exact lT.lit w1 9 [Sk.theirs s,Sk.dw] (by simp) _ hL.bw.size,hL.bw.alloc hL.bw.size _⟩
   have hg2:=wt hg;have HH:=hide (show X=abJ s 8 by rw [HX2.out];unfold Sk.aaB;rw [if_pos hg];rfl);have hol:=aeU s;clear hg;have aj3:=hol.2
   go_wp2_with (first | ((with_reducible refine isL 26 3 ?_);refine nLr (hL.rn 1 0 ([.int .i64 s.turn,.int .i64 s.s0,.int .i64 s.s1,.int .i64 s.brk,.string s.phase,.int .i64 s.bI,.int .i64 s.colour,.bool s.free,.bool s.aT,.int .i64 s.aP,.int .i64 s.t0,.int .i64 s.t1,.int .i64 s.aB])) Tryz.underlying26 ak ?_) | ((with_reducible refine isW 26 3 ?_);refine nWr (hL.rn 1 0 ([.int .i64 s.turn,.int .i64 s.s0,.int .i64 s.s1,.int .i64 s.brk,.string s.phase,.int .i64 s.bI,.int .i64 s.colour,.bool s.free,.bool s.aT,.int .i64 s.aP,.int .i64 s.t0,.int .i64 s.t1,.int .i64 s.aB])) Tryz.underlying26 ak ?_) | ((with_reducible refine isL 26 3 ?_);refine nLr (hL.rn 1 0 ([.int .i64 s.turn,.int .i64 s.s0,.int .i64 s.s1,.int .i64 s.brk,.string s.phase,.int .i64 s.bI,.int .i64 s.colour,.bool s.free,.bool s.aT,.int .i64 s.aP,.int .i64 s.t0,.int .i64 s.t1,.int .i64 s.aB])) Tryz.underlying26 ak ?_) | (go_at_call 93;refine (kX s OL _).mono ?_;rintro e' w1 ⟨A1,c1,rfl,hr1,hb1⟩;have hL:=hL.call hb1) | (go_at_call 92;refine (adp _ (Sk.on s) _ _ w.heap.size _ hr1 hol.1 (by omega) hL.bw.size).mono ?_;rintro e' w2 ⟨A2,c2,rfl,hO,hb2⟩;have hL:=hL.call hb2) | (go_at_call 94;refine (pK _).mono ?_;rintro e' w3 ⟨rfl,hb3⟩;have hL:=hL.call hb3))
   have hO:=abA hO hb3;clear hr1 hb1 hb2 hb3;clear hol
   go_loopw [7,9,32] (fun v7 _ i wr=>∃ (k:Nat) (o:List ByteArray) (A5:Option Addr) (c5:Nat),k≤8∧i= .int .i64 k∧v7= .slice A5 o.length c5∧Aside (o=abJ s k)∧Bx w wr (onP w g s)∧wr.ownsRow w.heap.size 9 1 (.slice A5 o.length c5) o.length (o.map Value.string)) (fun _ _ i _=>8 - (intOf i).toNat)
   case atStart=>exact ⟨0,Sk.on s,A2,c2,by omega,rfl,rfl,hide (by unfold abJ;simp),hL,hO⟩
   case round=>
    obtain ⟨k,o,A5,c5,hk8,rfl,rfl,hx0,hL,hO⟩:=hrel
    have ajV:o.length≤14:=by rw [hx0.out];exact aeD s k hk8
    by_cases hlt:k<8
    · have hd:decide ((k:Int)<8)=true:=decide_eq_true (by omega)
      have i1:(0:Int)≤(k:Int):=by omega
      have i2:(k:Int)<8:=by omega
      have hkl:k<Sk.cO.length:=hlt;have hst:=adN s hkl;have hix:=fun W=>adf k hkl W;obtain ⟨b,hbe⟩:∃ q,Sk.cO[k]'hkl=q:=⟨_,rfl⟩;have hcl:=fun W=>DT s b W;obtain ⟨bb,hbb⟩:∃ q,Sk.callable s b=q:=⟨_,rfl⟩;rw [hbb] at hcl;rw [hbe] at hst hix;rw [hbb, ← hx0.out] at hst;have HST:=hide hst;have Va:=hide hcl;clear hst hcl hbe hbb hx0 hkl
      go_upto_region 10 with (fail)
      go_cut [37] from 35 to 38 (fun v37 wx=>v37= .bool bb∧Bx w wx (onP w g s)∧wx.ownsRow w.heap.size 9 1 (.slice A5 o.length c5) o.length (o.map Value.string))
      case first=>
       go_wp2_with (first | ((with_reducible refine isL 26 3 ?_);refine nLr (hL.rn 1 0 ([.int .i64 s.turn,.int .i64 s.s0,.int .i64 s.s1,.int .i64 s.brk,.string s.phase,.int .i64 s.bI,.int .i64 s.colour,.bool s.free,.bool s.aT,.int .i64 s.aP,.int .i64 s.t0,.int .i64 s.t1,.int .i64 s.aB])) Tryz.underlying26 ak ?_) | ((with_reducible refine isW 26 3 ?_);refine nWr (hL.rn 1 0 ([.int .i64 s.turn,.int .i64 s.s0,.int .i64 s.s1,.int .i64 s.brk,.string s.phase,.int .i64 s.bI,.int .i64 s.colour,.bool s.free,.bool s.aT,.int .i64 s.aP,.int .i64 s.t0,.int .i64 s.t1,.int .i64 s.aB])) Tryz.underlying26 ak ?_) | ((with_reducible refine isL 26 3 ?_);refine nLr (hL.rn 1 0 ([.int .i64 s.turn,.int .i64 s.s0,.int .i64 s.s1,.int .i64 s.brk,.string s.phase,.int .i64 s.bI,.int .i64 s.colour,.bool s.free,.bool s.aT,.int .i64 s.aP,.int .i64 s.t0,.int .i64 s.t1,.int .i64 s.aB])) Tryz.underlying26 ak ?_) | (go_at_call 95;refine (Va.out _).mono ?_;rintro e' w4 ⟨rfl,hb4⟩;have hL:=hL.call hb4;have hO:=abA hO hb4))
       go_meet;exact ⟨rfl,hL,hO⟩
      case rest=>
       obtain ⟨rfl,hL,hO⟩:=hcut;clear hix
       cases bb
       · have HM:=hide (show o=abJ s (k+1) by rw [HST.out];simp)
         have HL:=hide hL;have HO:=hide hO;clear hL hO;go_wp2
         go_roundw
         case rel=>exact ⟨k+1,o,A5,c5,by omega,by go_num,rfl,HM,HL.out,HO.out⟩
         case measure=>simp [intOf];omega
       · have HM:=hide (show o++[b]=abJ s (k+1) by rw [HST.out];simp)
         have HES:=hide (show (o++[b]).map Value.string=o.map Value.string++[.string b] by simp);have auY:=hL.bw.size
         go_wp2_with (first | (at_builtin;refine wpList_append_lies _ rfl _ _ _ rfl w.heap.size 9 i0 (.string ⟨#[]⟩) 1 16 Tryz.underlying81 hi0 hz0 hz1 hz2 rfl (by omega) _ _ _ rfl (hO.alloc _) ⟨wc.heap.size,0,none⟩ 1 1 [.string b] rfl rfl (jW _ _ _ _ (by simp)) (by simp [Value.oneCell']) (by omega) (by simp only [maxLen];omega) (by omega) (by simp;omega) (wc.heap.size+1) (by simp) ?_))
         intro g1 cap w4 hown4 hgrow hat _;have hL4:=(hL.alloc _).ah9 (hO.alloc _) hgrow (by unfold onP;simp);rw [← HES.out] at hown4;have HO:=hide hown4;have HL:=hide hL4;clear hown4 hgrow hL hO hL4;go_wp2
         go_roundw
         case rel=>exact ⟨k+1,o++[b],_,_,by omega,by go_num,by rw [List.length_append];rfl,HM,HL.out,by rw [List.length_append];exact HO.out⟩
         case measure=>simp [intOf];omega
    · have hke:k=8:=by omega
      subst hke;have HR:=hide (HH.out.trans hx0.out.symm);have HRD:=hide (Reads.Aw hO (S:=fun b=>w.heap.size≤b) (fun b h=>h) (by omega));clear hO;go_wp2;go_ret2;exact ⟨A5,c5,by rw [HR.out,HZ.out];rfl,by rw [HR.out];exact HRD.out,hL.bw⟩
end Go.Proofs.YtjbbfmofpjflmaaGreatDoor
