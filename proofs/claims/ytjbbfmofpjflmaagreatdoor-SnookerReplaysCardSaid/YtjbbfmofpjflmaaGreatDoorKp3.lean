/- Parts of a proof. -/
import Derived.Test.YtjbbfmofpjflmaaGreatDoorKp2
import Derived.Test.YtjbbfmofpjflmaaGreatDoorKr35
set_option maxHeartbeats 3000000
set_option maxRecDepth 100000
set_option linter.unusedVariables false
set_option linter.unusedSimpArgs false
namespace Go.Proofs.YtjbbfmofpjflmaaGreatDoor
open Go.RowKit
theorem aa8 {W:World} {base e size n:Nat} {v:Value} {xs:List Value} (h:W.ownsRow base e size v n xs):W.drew.ownsRow base e size v n xs:=h
theorem ab9:(Tryz.prog.info? 141).map (fun i=>(i.zero,i.size,i.bytes))=some (some (.agg #[.int .i64 0,.int .i64 0]),2,16):=by kernel_rfl
theorem adp (S:Nat→Prop) (g:Sk.Game) (l:List En) (A:Option Addr) (c:Nat) (w:World) (hl:ni w S A c l) (hc0:Sk.iO g (bare l)=0):
 Calls Tryz.prog 30 #[lX g,.slice A l.length c] w fun e w'=>∃ A' c',e= .returned (.tuple #[jE (Sk.final g (Sk.start g) (bare l)),.slice A' (Sk.iE g (Sk.start g) 1 (bare l)).length c'])∧Reads w' (fun b=>w.heap.size≤b) 2 A' (Sk.iE g (Sk.start g) 1 (bare l)).length c' (WV (Sk.iE g (Sk.start g) 1 (bare l)))∧Below w.heap.size w w':=by
 have hck:=tK hc0;have hln:=hck.2.2;obtain ⟨p1,p2,p3⟩:=hl.bd;obtain ⟨i0,hi0,hz0,hz1,hz2⟩:=info_parts ab9
 go_enter Tryz.func30,Tryz.ntmps30
 go_upto_region 0 with (fail)
 go_cut [2,4,5] (fun v2 v4 v5 wx=>v2=ptr (w.heap.size)∧v4=ptr (w.heap.size+1)∧v5= .slice none 0 0∧Bx w wx [(w.heap.size,bK g,28),(w.heap.size+1,aC Sk.zero,39)])
 case first=>
  go_wp2;go_meet;exact ⟨rfl,rfl,rfl,Bx.of (((aG.nil w).new (by simp) (bK g) 28).new (by simp) (aC Sk.zero) 39) _ rfl⟩
 case rest=>
  obtain ⟨rfl,rfl,rfl,hL⟩:=hcut
  go_upto_region 1 with (fail)
  go_cut [6] from 10 to 12 (fun v6 wx=>∃ B6,v6=ptr B6∧Bx w wx [(B6,aC (Sk.start g),39),(w.heap.size,bK g,28),(w.heap.size+1,aC Sk.zero,39)])
  case first=>
   go_wp2_with (first | ((with_reducible refine bJ 28 2 ?_);refine ig (hL.rn 0 0 ([.string g.kind,.int .i64 g.aY,.int .i64 g.target,.int .i64 g.turns])) Tryz.underlying28 dP ?_) | ((with_reducible refine iy 28 2 ?_);refine kP (hL.rn 0 0 ([.string g.kind,.int .i64 g.aY,.int .i64 g.target,.int .i64 g.turns])) Tryz.underlying28 dP ?_) | (go_at_call 24;refine (JZ g _).mono ?_;rintro e1 w1 ⟨rfl,hb1⟩;have hL:=(hL.call hb1).add (aC Sk.zero) 39) | ((with_reducible refine isS 39 6 11 ?_);refine fU (hL.get 0 rfl) (aC (Sk.start g)) aJ (aT _) ?_))
   go_meet;exact ⟨_,rfl,hL.put (aC (Sk.start g)) rfl⟩
  case rest=>
   obtain ⟨B6,rfl,hL⟩:=hcut;go_wp2
   go_loopw [7,8,9] (fun v7 i _ wr=>∃ (k:Nat) (A7:Option Addr) (c7:Nat),k≤l.length∧i= .int .i64 k∧v7= .slice A7 (kU g l k).length c7∧Bx w wr [(B6,aC (jr g l k),39),(w.heap.size,bK g,28),(w.heap.size+1,aC Sk.zero,39)]∧wr.ownsRow w.heap.size 141 2 (.slice A7 (kU g l k).length c7) (kU g l k).length (WV (kU g l k))) (fun _ i _ _=>l.length - (intOf i).toNat)
   case atStart=>exact ⟨0,none,0,Nat.zero_le _,rfl,rfl,by rw [rM];exact hL,World.ownsRow_nil _ _ _ _⟩
   case round=>
    obtain ⟨k,A7,c7,hk,rfl,rfl,hL,hO⟩:=hrel
    by_cases hlt:k<l.length
    · obtain ⟨b,o,hAb,_,hbl,_⟩:=hl.at_ k hlt
      have h01:w.rangeAt b (o+k*5) ([.string l[k].x.kind,.string l[k].x.called,.slice l[k].A l[k].x.hits.length l[k].a,.slice l[k].B l[k].x.aF.length l[k].b,.int .i64 l[k].x.aX]):=tV hl hlt (Below.refl _ _) hAb;have hent:=hl.ent k hlt;have hok:=zY hck.1 hck.2.1 k hk;have hsx:=hck.2.1 _ (List.getElem_mem hlt);have hs1:=rJ g l k hlt;have hrf:=Hy g l k hlt;have hrl:=BZ g l k;obtain ⟨s,hs⟩:∃ q,jr g l k=q:=⟨_,rfl⟩;obtain ⟨x,hx⟩:∃ q,l[k]=q:=⟨_,rfl⟩;rw [hs] at hok hs1 hrf hL;rw [hx] at h01 hent hsx hs1 hrf;obtain ⟨n,hn⟩:∃ q,Sk.legal g s x.x=q:=⟨_,rfl⟩;have hlg:=fun W h=>G8 S g s x W hok hsx h;have hnx:=fun W (h:iL W S x) (h0:Sk.legal g s x.x=0)=>JV S g s x W hok hsx h0 h;rw [hn] at hlg hrf;have hnr:=Gv g s x.x;rw [hn] at hnr;have HLG:=hide hlg;have HS:=hide hs;have HX:=hide hx;have Ig:=hide hs1;have HRF:=hide hrf;have HN:=hide hn
      have i1:(0:Int)≤(k:Int):=by omega
      have i2:(k:Int)<(l.length:Int):=by omega
      subst hAb;obtain ⟨rr,hrr⟩:∃ q,kU g l k=q:=⟨_,rfl⟩;rw [hrr] at HRF hrl hO ⊢;have HRR:=hide hrr;clear hlg hs hx hs1 hrf hn hrr
      go_upto_region 6 with (fail)
      go_cut [9] from 12 to 25 (fun v9 wx=>v9= .int .i64 n∧Bx w wx [(B6,aC s,39),(w.heap.size,bK g,28),(w.heap.size+1,aC Sk.zero,39)]∧wx.ownsRow w.heap.size 141 2 (.slice A7 rr.length c7) rr.length (WV rr))
      case first=>
       have hO:=aa8 hO;have aep:∀ W:World,Bx w W [(B6,aC s,39),(w.heap.size,bK g,28),(w.heap.size+1,aC Sk.zero,39)]→W.rangeAt (w.heap.size) 0 ([.string g.kind,.int .i64 g.aY,.int .i64 g.target,.int .i64 g.turns]):=fun W h=>h.rng 1 rfl 0 _ rfl;have aey:∀ W:World,Bx w W [(B6,aC s,39),(w.heap.size,bK g,28),(w.heap.size+1,aC Sk.zero,39)]→W.rangeAt (B6) 0 ([.int .i64 s.turn,.int .i64 s.s0,.int .i64 s.s1,.int .i64 s.brk,.string s.phase,.int .i64 s.aY,.int .i64 s.colour,.bool s.free,.bool s.aN,.int .i64 s.aO,.int .i64 s.t0,.int .i64 s.t1,.int .i64 s.ay]):=fun W h=>h.rng 0 rfl 0 _ rfl;have ah0:∀ W:World,Bx w W [(B6,aC s,39),(w.heap.size,bK g,28),(w.heap.size+1,aC Sk.zero,39)]→W.rangeAt (b) (o+k*5) ([.string x.x.kind,.string x.x.called,.slice x.A x.x.hits.length x.a,.slice x.B x.x.aF.length x.b,.int .i64 x.x.aX]):=fun W h=>fun j v hj=>((h.bw.cell (p:=⟨b,o+k*5+j,none⟩) hbl).trans (h01 j v hj));have hL:=hL.drew;refine wp_region_held_drew (S:=(fun w':World=>Bx w w' [(B6,aC s,39),(w.heap.size,bK g,28),(w.heap.size+1,aC Sk.zero,39)])) (by kernel_rfl) ?bg (fun hHeld=>?_)
       case bg=>exact hL
       refine wpAnyH_take (i:=0) (oi:=_) (v:=_) (ga rfl) (by kernel_rfl) (by kernel_rfl) (by kernel_rfl) (fun _ _ _ h=>h) (yieldsIf_load_mid (by rfl) _ _ (by rfl) _ _ (by rfl) _ _ aep Tryz.underlying28 rfl (by kernel_rfl)) (by assumption) ?_
       try simp only [Act.put,la,lz,ls]
       refine wpAnyH_take (i:=1) (oi:=_) (v:=_) (ga rfl) (by kernel_rfl) (by kernel_rfl) (by kernel_rfl) (fun _ _ _ h=>h) (yieldsIf_load_mid (by rfl) _ _ (by rfl) _ _ (by rfl) _ _ aey Tryz.underlying39 rfl (by kernel_rfl)) (by assumption) ?_
       try simp only [Act.put,la,lz,ls]
       refine tk 2 ?_;refine tk 3 ?_;refine tk 4 ?_;refine wpAnyH_take (i:=5) (oi:=_) (v:=_) (ga rfl) (by kernel_rfl) (by kernel_rfl) (by kernel_rfl) (fun _ _ _ h=>h) (yieldsIf_load_mid (by rfl) _ _ (by rfl) _ _ (by rfl) _ _ ah0 Tryz.underlying85 rfl (by kernel_rfl)) (by assumption) ?_
       try simp only [Act.put,la,lz,ls]
       refine tr 6 fun K hK=>?_;go_simp
       (go_at_call 48;refine (HLG.out _ (hent.below hL.bw)).mono ?_;rintro e w6a ⟨rfl,AX⟩)
       have hL:=hL.call AX;have hO:=aaB hO AX;refine hK.out _ _ ?GZ (fun hHeld=>?_)
       case GZ=>(exact hL)
       clear hK K
       try simp only [Act.put,la,lz,ls]
       refine tk 7 ?_;refine wpAnyH_done (by kernel_rfl) ?_ _;go_wp2;go_meet;exact ⟨rfl,hL,hO⟩
      case rest=>
       obtain ⟨rfl,hL,hO⟩:=hcut
       by_cases h0:n=0
       · have hd:(n == 0)=true:=by simpa using h0
         obtain ⟨t,ht⟩:∃ q,Sk.next g s x.x=q:=⟨_,rfl⟩
         have hnx2:=fun W h=>hnx W h (HN.out.trans h0);rw [ht] at hnx2;have HNX:=hide hnx2;have HT:=hide (show jr g l (k+1)=t by rw [Ig.out,Sk.acn (HN.out.trans h0),ht]);have HQ:=hide (show kU g l (k+1)=rr by rw [HRF.out,if_pos h0,List.append_nil]);subst h0;clear hnx hnx2 ht hd
         go_upto_region 8 with (fail)
         have hO:=aa8 hO;have aeT:∀ W:World,Bx w W [(w.heap.size,bK g,28),(w.heap.size+1,aC Sk.zero,39)]→W.rangeAt (w.heap.size) 0 ([.string g.kind,.int .i64 g.aY,.int .i64 g.target,.int .i64 g.turns]):=fun W h=>h.rng 0 rfl 0 _ rfl;have ael:∀ W:World,Bx w W [(w.heap.size,bK g,28),(w.heap.size+1,aC Sk.zero,39)]→W.rangeAt (b) (o+k*5) ([.string x.x.kind,.string x.x.called,.slice x.A x.x.hits.length x.a,.slice x.B x.x.aF.length x.b,.int .i64 x.x.aX]):=fun W h=>fun j v hj=>((h.bw.cell (p:=⟨b,o+k*5+j,none⟩) hbl).trans (h01 j v hj));have hL:=hL.drew;refine wp_region_held_drew (S:=(fun w':World=>Bx w w' [(w.heap.size,bK g,28),(w.heap.size+1,aC Sk.zero,39)])) (by kernel_rfl) ?bV (fun hHeld=>?_)
         case bV=>exact hL.tail
         refine wpAnyH_take (i:=0) (oi:=_) (v:=_) (ga rfl) (by kernel_rfl) (by kernel_rfl) (by kernel_rfl) (fun _ _ _ h=>h) (yieldsIf_load_mid (by rfl) _ _ (by rfl) _ _ (by rfl) _ _ aeT Tryz.underlying28 rfl (by kernel_rfl)) (by assumption) ?_
         try simp only [Act.put,la,lz,ls]
         refine tk 2 ?_;refine tk 3 ?_;refine tk 4 ?_;refine wpAnyH_take (i:=5) (oi:=_) (v:=_) (ga rfl) (by kernel_rfl) (by kernel_rfl) (by kernel_rfl) (fun _ _ _ h=>h) (yieldsIf_load_mid (by rfl) _ _ (by rfl) _ _ (by rfl) _ _ ael Tryz.underlying85 rfl (by kernel_rfl)) (by assumption) ?_
         try simp only [Act.put,la,lz,ls]
         refine tr 1 fun K hK=>?_;refine Lh (hL.rng 0 rfl 0 ([.int .i64 s.turn,.int .i64 s.s0,.int .i64 s.s1,.int .i64 s.brk,.string s.phase,.int .i64 s.aY,.int .i64 s.colour,.bool s.free,.bool s.aN,.int .i64 s.aO,.int .i64 s.t0,.int .i64 s.t1,.int .i64 s.ay]) rfl) Tryz.underlying39 rfl aJ (.tmp 6) rfl rfl ?_;refine hK.out _ _ ?aiJ (fun hHeld=>?_)
         case aiJ=>(exact hL.tail)
         clear hK K
         try simp only [Act.put,la,lz,ls]
         refine tr 6 fun K hK=>?_;go_simp
         (go_at_call 50;refine (HNX.out _ (hent.below hL.bw)).mono ?_;rintro e w8a ⟨rfl,PL⟩)
         have hL:=hL.call PL;have hO:=aaB hO PL;refine hK.out _ _ ?xQ (fun hHeld=>?_)
         case xQ=>(exact hL.tail)
         clear hK K
         try simp only [Act.put,la,lz,ls]
         refine tr 7 fun K hK=>?_;refine aQ hL.head (aC t) rfl aJ (aT _) (.tmp 6) (.tmp 33) rfl rfl rfl ?_;have hO:=ab1 hO (own_ne hO hL.head (by decide)) (aC t) 0;have hL:=hL.put (aC t) rfl;refine hK.out _ _ ?aiR (fun hHeld=>?_)
         case aiR=>(exact hL.tail)
         clear hK K
         try simp only [Act.put,la,lz,ls]
         refine wpAnyH_done (by kernel_rfl) ?_ _;have HO:=hide hO;have HL:=hide hL;clear hO hL hent h01;go_wp2
         go_roundw
         case rel=>exact ⟨k+1,A7,c7,by omega,by go_num,by rw [HQ.out],by rw [HT.out];exact HL.out,by rw [HQ.out];exact HO.out⟩
         case measure=>simp [intOf];omega
       · have hd:(n == 0)=false:=by simpa using h0
         have HT:=hide (show jr g l (k+1)=s by rw [Ig.out,Sk.acX (by rw [HN.out];exact h0)]);have HQ:=hide (show kU g l (k+1)=rr++[⟨(k:Int)+1,n⟩] by rw [HRF.out,if_neg h0])
         have hes:WV (rr++[⟨(k:Int)+1,n⟩])=WV rr++[.int .i64 ((k:Int)+1),.int .i64 n]:=by rw [J4];rfl
         have HES:=hide hes;clear h0 hes hnx hent h01;have aA8:=hL.bw.size
         go_wp2_with (first | (at_builtin;refine wpList_append_lies _ rfl _ _ _ rfl w.heap.size 141 i0 (.agg #[.int .i64 0,.int .i64 0]) 2 16 Tryz.underlying56 hi0 hz0 hz1 hz2 rfl (by omega) _ _ _ rfl (hO.alloc _) ⟨wc.heap.size,0,none⟩ 1 1 ([.int .i64 ((k:Int)+1),.int .i64 n]) rfl rfl (jK _ _ _ _ (by simp)) (by simp [Value.oneCell']) (by omega) (by simp only [maxLen];omega) (by omega) (by simp;omega) (wc.heap.size+1) (by simp) ?_))
         intro g1 cap w4 hown4 hgrow hat _;have hL4:=(hL.alloc _).ad5 (hO.alloc _) hgrow (by simp);rw [← HES.out] at hown4;have HO:=hide hown4;have HL:=hide hL4;clear hown4 hgrow hL hO hL4;go_wp2
         go_roundw
         case rel=>exact ⟨k+1,_,_,by omega,by go_num,by rw [HQ.out,List.length_append];rfl,by rw [HT.out];exact HL.out,by rw [HQ.out,List.length_append];exact HO.out⟩
         case measure=>simp [intOf];omega
    · have hke:k=l.length:=by omega
      subst hke;have hO2:=ab1 hO (own_ne hO (hL.get 2 rfl) (by decide)) (aC (Sk.final g (Sk.start g) (bare l))) 0;have HRD:=hide (Reads.Bz hO2 (S:=fun b=>w.heap.size≤b) (fun b h=>h) (by have:=BZ g l l.length;omega));rw [Td] at hL;have HE:=hide (BX g l);clear hO hO2;have hZ:=(hL.swap.tail.swap).put (aC (Sk.final g (Sk.start g) (bare l))) rfl
      go_wp2_with (first | ((with_reducible refine bJ 39 6 ?_);refine ig (hL.rn 0 0 (aC (Sk.final g (Sk.start g) (bare l)))) Tryz.underlying39 aJ ?_) | ((with_reducible refine iy 39 6 ?_);refine kP (hL.rn 0 0 (aC (Sk.final g (Sk.start g) (bare l)))) Tryz.underlying39 aJ ?_) | ((with_reducible refine isS 39 4 41 ?_);refine fU (hL.get 2 rfl) (aC (Sk.final g (Sk.start g) (bare l))) aJ (aT _) ?_))
      refine bodyPost_ret (rC (p:=4) (hZ.get 0 rfl) Tryz.underlying39 rfl aJ rfl _ rfl) rfl ⟨A7,c7,?_,?_,hZ.bw⟩
      · rw [← HE.out];rfl
      · rw [← HE.out]
        exact HRD.out
theorem adF {v:Sk.dI} {w:World}:(Instr.field 91 (FD v) 0).run Tryz.prog w= .ok (.int .i64 v.points) w:=by kernel_rfl
theorem af7:(Tryz.prog.info? 3).map (fun i=>(i.zero,i.size,i.bytes))=some (some (.int .i64 0),1,8):=by kernel_rfl
theorem adV {l:List En} {k:Nat} (hk:k<l.length):bare (l.drop k)=l[k].x::bare (l.drop (k+1)):=by unfold bare;rw [List.drop_eq_getElem_cons hk];rfl
theorem adf (S:Nat→Prop) (g:Sk.Game) (l:List En) (A:Option Addr) (c:Nat) (p:Int) (w:World) (hl:ni w S A c l) (hc0:Sk.iO g (bare l)=0):
 Calls Tryz.prog 33 #[lX g,.slice A l.length c,.int .i64 p] w fun e w'=>∃ A' c',e= .returned (.slice A' (Sk.breaks g p (bare l)).length c')∧nI w' (fun b=>w.heap.size≤b) A' c' (Sk.breaks g p (bare l))∧Below w.heap.size w w':=by
 have hck:=tK hc0;have hln:=hck.2.2;obtain ⟨p1,p2,p3⟩:=hl.bd;obtain ⟨i0,hi0,hz0,hz1,hz2⟩:=info_parts af7;have hfl:=@adF;obtain ⟨R,hR⟩:∃ q,Sk.breaks g p (bare l)=q:=⟨_,rfl⟩
 have hst:Sk.aad g p (Sk.start g) 0 (bare l)=R:=by rw [← hR,Sk.breaks,Sk.aat g p (bare l) (Sk.start g) 0 (fun _=>rfl) (fun _=>rfl)]
 rw [hR];have HST:=hide hst;clear hR hst
 go_enter Tryz.func33,Tryz.ntmps33
 go_upto_region 0 with (fail)
 go_cut [3,6] (fun v3 v6 wx=>v3=ptr (w.heap.size)∧v6= .slice none 0 0∧Bx w wx [(w.heap.size,bK g,28)])
 case first=>
  go_wp2;go_meet;exact ⟨rfl,rfl,Bx.of ((aG.nil w).new (by simp) (bK g) 28) _ rfl⟩
 case rest=>
  obtain ⟨rfl,rfl,hL⟩:=hcut
  go_upto_region 1 with (fail)
  go_cut [7] from 12 to 14 (fun v7 wx=>∃ B7,v7=ptr B7∧Bx w wx [(B7,aC (Sk.start g),39),(w.heap.size,bK g,28)])
  case first=>
   go_wp2_with (first | ((with_reducible refine bJ 28 3 ?_);refine ig (hL.rn 0 0 ([.string g.kind,.int .i64 g.aY,.int .i64 g.target,.int .i64 g.turns])) Tryz.underlying28 dP ?_) | ((with_reducible refine iy 28 3 ?_);refine kP (hL.rn 0 0 ([.string g.kind,.int .i64 g.aY,.int .i64 g.target,.int .i64 g.turns])) Tryz.underlying28 dP ?_) | (go_at_call 24;refine (JZ g _).mono ?_;rintro e1 w1 ⟨rfl,hb1⟩;have hL:=(hL.call hb1).add (aC Sk.zero) 39) | ((with_reducible refine isS 39 7 13 ?_);refine fU (hL.get 0 rfl) (aC (Sk.start g)) aJ (aT _) ?_))
   go_meet;exact ⟨_,rfl,hL.put (aC (Sk.start g)) rfl⟩
  case rest=>
   obtain ⟨B7,rfl,hL⟩:=hcut;go_wp2
   go_loopw [8,9,10,11] (fun v8 v9 i _ wr=>∃ (k:Nat) (out:List Int) (sum:Int) (A8:Option Addr) (c8:Nat),k≤l.length∧i= .int .i64 k∧v8= .slice A8 out.length c8∧v9= .int .i64 sum∧Aside (out++Sk.aad g p (jr g l k) sum (bare (l.drop k))=R)∧out.length≤k∧(0≤sum∧sum≤100*k)∧Bx w wr [(B7,aC (jr g l k),39),(w.heap.size,bK g,28)]∧wr.ownsRow w.heap.size 3 1 (.slice A8 out.length c8) out.length (out.map (Value.int .i64))) (fun _ _ i _ _=>l.length - (intOf i).toNat)
   case atStart=>exact ⟨0,[],0,none,0,Nat.zero_le _,rfl,rfl,rfl,hide (by rw [rM];exact HST.out),Nat.le_refl _,by omega,by rw [rM];exact hL,World.ownsRow_nil _ _ _ _⟩
   case round=>
    obtain ⟨k,out,sum,A8,c8,hk,rfl,rfl,rfl,hx0,hol,hsb,hL,hO⟩:=hrel
    by_cases hlt:k<l.length
    · obtain ⟨b,o,hAb,_,hbl,_⟩:=hl.at_ k hlt
      have h01:w.rangeAt b (o+k*5) ([.string l[k].x.kind,.string l[k].x.called,.slice l[k].A l[k].x.hits.length l[k].a,.slice l[k].B l[k].x.aF.length l[k].b,.int .i64 l[k].x.aX]):=tV hl hlt (Below.refl _ _) hAb;have hent:=hl.ent k hlt;have hok:=zY hck.1 hck.2.1 k hk;have hsx:=hck.2.1 _ (List.getElem_mem hlt);have hs1:=rJ g l k hlt;have hrf:=Hy g l k hlt;have hrl:=BZ g l k;obtain ⟨s,hs⟩:∃ q,jr g l k=q:=⟨_,rfl⟩;obtain ⟨x,hx⟩:∃ q,l[k]=q:=⟨_,rfl⟩;rw [hs] at hok hs1 hrf hL;rw [hx] at h01 hent hsx hs1 hrf;obtain ⟨n,hn⟩:∃ q,Sk.legal g s x.x=q:=⟨_,rfl⟩;have hlg:=fun W h=>G8 S g s x W hok hsx h;have hnx:=fun W (h:iL W S x) (h0:Sk.legal g s x.x=0)=>JV S g s x W hok hsx h0 h;rw [hn] at hlg hrf;have hnr:=Gv g s x.x;rw [hn] at hnr;have HLG:=hide hlg;have HS:=hide hs;have HX:=hide hx;have Ig:=hide hs1;have HRF:=hide hrf;have HN:=hide hn
      have i1:(0:Int)≤(k:Int):=by omega
      have i2:(k:Int)<(l.length:Int):=by omega
      have hbd:=WW g s x.x hok.inr.colour;have hjc:=fun W (h:iL W S x) (h0:Sk.legal g s x.x=0) (hk:x.x.kind=Sk.cO)=>G7 S g s x W hok hsx h0 hk h;have PV:=fun (h0:Sk.legal g s x.x=0) (hk:x.x.kind=Sk.cO)=>Sk.uY hok hsx hk (Sk.mV.1 h0).call;have hvp:=fun (h0:Sk.legal g s x.x=0) (hk:x.x.kind=Sk.cO)=>(Sk.Hr hok hsx h0 hk).points;have hpp:=xg hsx;have hst:=hx0.out;rw [adV hlt,hs,hx,Sk.aad,hn] at hst;have ahu:=hide hst;have HJ3:=hide (And.intro PV (And.intro hvp hpp));subst hAb;obtain ⟨bn,hbn⟩:∃ q,(n != 0)=q:=⟨_,rfl⟩;have HBN:=hide hbn;clear hlg hs hx hs1 hrf hn hbn hst hx0 PV hvp hpp hrl
      go_upto_region 7 with (fail)
      go_cut [27] from 14 to 28 (fun v27 wx=>v27= .bool bn∧Bx w wx [(B7,aC s,39),(w.heap.size,bK g,28)]∧wx.ownsRow w.heap.size 3 1 (.slice A8 out.length c8) out.length (out.map (Value.int .i64)))
      case first=>
       have hO:=aa8 hO;have aeF:∀ W:World,Bx w W [(B7,aC s,39),(w.heap.size,bK g,28)]→W.rangeAt (w.heap.size) 0 ([.string g.kind,.int .i64 g.aY,.int .i64 g.target,.int .i64 g.turns]):=fun W h=>h.rng 1 rfl 0 _ rfl;have ah9:∀ W:World,Bx w W [(B7,aC s,39),(w.heap.size,bK g,28)]→W.rangeAt (B7) 0 ([.int .i64 s.turn,.int .i64 s.s0,.int .i64 s.s1,.int .i64 s.brk,.string s.phase,.int .i64 s.aY,.int .i64 s.colour,.bool s.free,.bool s.aN,.int .i64 s.aO,.int .i64 s.t0,.int .i64 s.t1,.int .i64 s.ay]):=fun W h=>h.rng 0 rfl 0 _ rfl;have aik:∀ W:World,Bx w W [(B7,aC s,39),(w.heap.size,bK g,28)]→W.rangeAt (b) (o+k*5) ([.string x.x.kind,.string x.x.called,.slice x.A x.x.hits.length x.a,.slice x.B x.x.aF.length x.b,.int .i64 x.x.aX]):=fun W h=>fun j v hj=>((h.bw.cell (p:=⟨b,o+k*5+j,none⟩) hbl).trans (h01 j v hj));have hL:=hL.drew;refine wp_region_held_drew (S:=(fun w':World=>Bx w w' [(B7,aC s,39),(w.heap.size,bK g,28)])) (by kernel_rfl) ?bg (fun hHeld=>?_)
       case bg=>exact hL
       refine wpAnyH_take (i:=0) (oi:=_) (v:=_) (ga rfl) (by kernel_rfl) (by kernel_rfl) (by kernel_rfl) (fun _ _ _ h=>h) (yieldsIf_load_mid (by rfl) _ _ (by rfl) _ _ (by rfl) _ _ aeF Tryz.underlying28 rfl (by kernel_rfl)) (by assumption) ?_
       try simp only [Act.put,la,lz,ls]
       refine wpAnyH_take (i:=1) (oi:=_) (v:=_) (ga rfl) (by kernel_rfl) (by kernel_rfl) (by kernel_rfl) (fun _ _ _ h=>h) (yieldsIf_load_mid (by rfl) _ _ (by rfl) _ _ (by rfl) _ _ ah9 Tryz.underlying39 rfl (by kernel_rfl)) (by assumption) ?_
       try simp only [Act.put,la,lz,ls]
       refine tk 2 ?_;refine tk 3 ?_;refine tk 4 ?_;refine wpAnyH_take (i:=5) (oi:=_) (v:=_) (ga rfl) (by kernel_rfl) (by kernel_rfl) (by kernel_rfl) (fun _ _ _ h=>h) (yieldsIf_load_mid (by rfl) _ _ (by rfl) _ _ (by rfl) _ _ aik Tryz.underlying85 rfl (by kernel_rfl)) (by assumption) ?_
       try simp only [Act.put,la,lz,ls]
       refine tr 6 fun K hK=>?_;go_simp
       (go_at_call 48;refine (HLG.out _ (hent.below hL.bw)).mono ?_;rintro e w7a ⟨rfl,anP⟩)
       have hL:=hL.call anP;have hO:=aaB hO anP;refine hK.out _ _ ?GZ (fun hHeld=>?_)
       case GZ=>(exact hL)
       clear hK K
       try simp only [Act.put,la,lz,ls]
       refine tk 7 ?_;refine wpAnyH_done (by kernel_rfl) ?_ _;go_wp2;go_meet;exact ⟨congrArg Value.bool HBN.out,hL,hO⟩
      case rest=>
       obtain ⟨rfl,hL,hO⟩:=hcut
       cases bn
       rotate_left
       · have h0:¬ n=0:=by have h:=HBN.out;simpa using h
         have HT:=hide (show jr g l (k+1)=s by rw [Ig.out,Sk.acX (by rw [HN.out];exact h0)]);have HM:=hide (show out++Sk.aad g p (jr g l (k+1)) sum (bare (l.drop (k+1)))=R by have h:=ahu.out;rw [if_pos h0] at h;rw [HT.out];exact h);have HL:=hide hL;have HO:=hide hO;clear hL hO hent h01 h0 hnx hjc hbd;go_wp2
         go_roundw
         case rel=>exact ⟨k+1,out,sum,A8,c8,by omega,by go_num,rfl,rfl,HM,by omega,by omega,by rw [HT.out];exact HL.out,HO.out⟩
         case measure=>simp [intOf];omega
       · have h0:n=0:=by have h:=HBN.out;simpa using h
         obtain ⟨t,ht⟩:∃ q,Sk.next g s x.x=q:=⟨_,rfl⟩
         have hnx2:=fun W h=>hnx W h (HN.out.trans h0);rw [ht] at hnx2;have HNX:=hide hnx2;have HT:=hide (show jr g l (k+1)=t by rw [Ig.out,Sk.acn (HN.out.trans h0),ht]);have hst:=ahu.out;rw [if_neg (by simpa using h0),ht] at hst;obtain ⟨sm,hsm⟩:∃ q,(if x.x.kind=Sk.cO∧s.turn=p then sum+(Sk.judge g s x.x).points else sum)=q:=⟨_,rfl⟩;rw [hsm] at hst;have hj2:=fun W h (hk:x.x.kind=Sk.cO)=>hjc W h (HN.out.trans h0) hk
         have aiB:0≤sm∧sm≤100*((k:Int)+1):=by
          rw [← hsm]
          split
          · rename_i hh
            have a1:=HJ3.out.1 (HN.out.trans h0) hh.1;have a2:=HJ3.out.2.1 (HN.out.trans h0) hh.1;have a3:=HJ3.out.2.2 hh.1;rw [a1] at hbd
            omega
          · omega
         have ahC:=hide hst;have ahm:=hide hsm;clear hnx hnx2 ht hst hsm hjc hbd h0
         go_upto_region 8 with (fail)
         go_cut [11] from 28 to 35 (fun v11 wx=>∃ B11,v11=ptr B11∧Bx w wx [(B11,aC t,39),(B7,aC s,39),(w.heap.size,bK g,28)]∧wx.ownsRow w.heap.size 3 1 (.slice A8 out.length c8) out.length (out.map (Value.int .i64)))
         case first=>
          have hO:=aa8 hO;have aeT:∀ W:World,Bx w W [(B7,aC s,39),(w.heap.size,bK g,28)]→W.rangeAt (w.heap.size) 0 ([.string g.kind,.int .i64 g.aY,.int .i64 g.target,.int .i64 g.turns]):=fun W h=>h.rng 1 rfl 0 _ rfl;have ael:∀ W:World,Bx w W [(B7,aC s,39),(w.heap.size,bK g,28)]→W.rangeAt (B7) 0 ([.int .i64 s.turn,.int .i64 s.s0,.int .i64 s.s1,.int .i64 s.brk,.string s.phase,.int .i64 s.aY,.int .i64 s.colour,.bool s.free,.bool s.aN,.int .i64 s.aO,.int .i64 s.t0,.int .i64 s.t1,.int .i64 s.ay]):=fun W h=>h.rng 0 rfl 0 _ rfl;have ait:∀ W:World,Bx w W [(B7,aC s,39),(w.heap.size,bK g,28)]→W.rangeAt (b) (o+k*5) ([.string x.x.kind,.string x.x.called,.slice x.A x.x.hits.length x.a,.slice x.B x.x.aF.length x.b,.int .i64 x.x.aX]):=fun W h=>fun j v hj=>((h.bw.cell (p:=⟨b,o+k*5+j,none⟩) hbl).trans (h01 j v hj));have hL:=hL.drew;refine wp_region_held_drew (S:=(fun w':World=>Bx w w' [(B7,aC s,39),(w.heap.size,bK g,28)])) (by kernel_rfl) ?bV (fun hHeld=>?_)
          case bV=>exact hL
          refine wpAnyH_take (i:=0) (oi:=_) (v:=_) (ga rfl) (by kernel_rfl) (by kernel_rfl) (by kernel_rfl) (fun _ _ _ h=>h) (yieldsIf_load_mid (by rfl) _ _ (by rfl) _ _ (by rfl) _ _ aeT Tryz.underlying28 rfl (by kernel_rfl)) (by assumption) ?_
          try simp only [Act.put,la,lz,ls]
          refine wpAnyH_take (i:=1) (oi:=_) (v:=_) (ga rfl) (by kernel_rfl) (by kernel_rfl) (by kernel_rfl) (fun _ _ _ h=>h) (yieldsIf_load_mid (by rfl) _ _ (by rfl) _ _ (by rfl) _ _ ael Tryz.underlying39 rfl (by kernel_rfl)) (by assumption) ?_
          try simp only [Act.put,la,lz,ls]
          refine tk 2 ?_;refine tk 3 ?_;refine tk 4 ?_;refine wpAnyH_take (i:=5) (oi:=_) (v:=_) (ga rfl) (by kernel_rfl) (by kernel_rfl) (by kernel_rfl) (fun _ _ _ h=>h) (yieldsIf_load_mid (by rfl) _ _ (by rfl) _ _ (by rfl) _ _ ait Tryz.underlying85 rfl (by kernel_rfl)) (by assumption) ?_
          try simp only [Act.put,la,lz,ls]
          refine wpAnyH_ready (rs:=[6,7]) (by kernel_rfl) (by simp) ?_;refine AllReadyH.cons (o:=_) (ga rfl) (fun K hK=>?_) (AllReadyH.cons (o:=_) (ga rfl) (fun K hK=>?_) AllReadyH.nil)
          · go_simp
            (go_at_call 50;refine (HNX.out _ (hent.below hL.bw)).mono ?_;rintro e w8a ⟨rfl,PL⟩)
            have hL:=hL.call PL;have hO:=aaB hO PL;refine hK.out _ _ ?afi (fun hHeld=>?_)
            case afi=>(first | exact hL | exact hL.tail)
            clear hK K
            try simp only [Act.put,la,lz,ls]
            refine tr 7 fun K hK=>?_;go_simp;have hL:=hL.add (aC Sk.zero) 39;have hO:=hO.alloc (.cells (aC Sk.zero).toArray 39);refine hK.out _ _ ?afy (fun hHeld=>?_)
            case afy=>(exact hL.tail)
            clear hK K
            try simp only [Act.put,la,lz,ls]
            refine tr 8 fun K hK=>?_;refine aQ hL.head (aC t) rfl aJ (aT _) (.tmp 11) (.tmp 34) rfl rfl rfl ?_;have hO:=ab1 hO (own_ne hO hL.head (by decide)) (aC t) 0;have hL:=hL.put (aC t) rfl;refine hK.out _ _ ?afP (fun hHeld=>?_)
            case afP=>(exact hL.tail)
            clear hK K
            try simp only [Act.put,la,lz,ls]
            refine wpAnyH_done (by kernel_rfl) ?_ _;go_wp2;go_meet;exact ⟨_,rfl,hL,hO⟩
          · go_simp
            have hL:=hL.add (aC Sk.zero) 39;have hO:=hO.alloc (.cells (aC Sk.zero).toArray 39);refine hK.out _ _ ?afH (fun hHeld=>?_)
            case afH=>(exact hL.tail)
            clear hK K
            try simp only [Act.put,la,lz,ls]
            refine tr 6 fun K hK=>?_;go_simp
            (go_at_call 50;refine (HNX.out _ (hent.below hL.bw)).mono ?_;rintro e w8a ⟨rfl,PL⟩)
            have hL:=hL.call PL;have hO:=aaB hO PL;refine hK.out _ _ ?afq (fun hHeld=>?_)
            case afq=>(first | exact hL | exact hL.tail)
            clear hK K
            try simp only [Act.put,la,lz,ls]
            refine tr 8 fun K hK=>?_;refine aQ hL.head (aC t) rfl aJ (aT _) (.tmp 11) (.tmp 34) rfl rfl rfl ?_;have hO:=ab1 hO (own_ne hO hL.head (by decide)) (aC t) 0;have hL:=hL.put (aC t) rfl;refine hK.out _ _ ?afX (fun hHeld=>?_)
            case afX=>(exact hL.tail)
            clear hK K
            try simp only [Act.put,la,lz,ls]
            refine wpAnyH_done (by kernel_rfl) ?_ _;go_wp2;go_meet;exact ⟨_,rfl,hL,hO⟩
         case rest=>
          obtain ⟨B11,rfl,hL,hO⟩:=hcut;have ck0:=(hL.bw.cell (p:=⟨b,o+k*5+0,none⟩) hbl).trans (h01 0 _ rfl);rw [Nat.add_zero] at ck0;have kt:_=some (Value.int .i64 s.turn):=(hL.get 1 rfl).cell (j:=0) rfl;obtain ⟨bs,hbs⟩:∃ q,decide (x.x.kind=Sk.cO∧s.turn=p)=q:=⟨_,rfl⟩;have HBS:=hide hbs;clear hbs
          go_upto_region 9 with (fail)
          go_cut [46] from 35 to 47 (fun v46 wx=>v46= .bool bs∧Bx w wx [(B11,aC t,39),(B7,aC s,39),(w.heap.size,bK g,28)]∧wx.ownsRow w.heap.size 3 1 (.slice A8 out.length c8) out.length (out.map (Value.int .i64)))
          case first=>
           by_cases hk1:x.x.kind=Sk.cO
           · have hk2:=wt hk1
             by_cases hp1:s.turn=p
             · have hp2:(s.turn == p)=true:=by simp [hp1]
               have HX:=hide (show true=bs by rw [← HBS.out];simp [hk1,hp1]);clear hk1 hp1;go_wp2;go_meet;exact ⟨congrArg _ HX.out,hL,hO⟩
             · have hp2:(s.turn == p)=false:=by simp [hp1]
               have HX:=hide (show false=bs by rw [← HBS.out];simp [hp1]);clear hk1 hp1;go_wp2;go_meet;exact ⟨congrArg _ HX.out,hL,hO⟩
           · have hk2:=wf hk1
             have HX:=hide (show false=bs by rw [← HBS.out];simp [hk1]);clear hk1;go_wp2;go_meet;exact ⟨congrArg _ HX.out,hL,hO⟩
          case rest=>
           obtain ⟨rfl,hL,hO⟩:=hcut;clear ck0 kt
           go_upto_if 46 with (fail)
           go_cut [9] from 47 to 57 (fun v9 wx=>v9= .int .i64 sm∧Bx w wx [(B11,aC t,39),(B7,aC s,39),(w.heap.size,bK g,28)]∧wx.ownsRow w.heap.size 3 1 (.slice A8 out.length c8) out.length (out.map (Value.int .i64)))
           case first=>
            cases bs
            · have hh:=of_decide_eq_false HBS.out
              have HSM:=hide (show sum=sm by rw [← ahm.out,if_neg hh]);clear hh hj2;go_wp2;go_meet;exact ⟨congrArg _ HSM.out,hL,hO⟩
            · have hh:=of_decide_eq_true HBS.out
              have hj3:=fun W h=>hj2 W h hh.1;obtain ⟨v,hv⟩:∃ v,Sk.judge g s x.x=v:=⟨_,rfl⟩;rw [hv] at hj3
              have yK:sum+v.points=sm:=by rw [← ahm.out,if_pos hh,hv]
              have HSM:=hide yK
              have hwr:IntKind.i64.wrap (sum+v.points)=sum+v.points:=by rw [yK,IntKind.wrap_i64];omega
              have HJD:=hide hj3;clear hh hj2 hj3 hv yK
              go_upto_region 10 with (fail)
              have hO:=aa8 hO;have agH:∀ W:World,Bx w W [(B11,aC t,39),(B7,aC s,39),(w.heap.size,bK g,28)]→W.rangeAt (w.heap.size) 0 ([.string g.kind,.int .i64 g.aY,.int .i64 g.target,.int .i64 g.turns]):=fun W h=>h.rng 2 rfl 0 _ rfl;have agP:∀ W:World,Bx w W [(B11,aC t,39),(B7,aC s,39),(w.heap.size,bK g,28)]→W.rangeAt (B7) 0 ([.int .i64 s.turn,.int .i64 s.s0,.int .i64 s.s1,.int .i64 s.brk,.string s.phase,.int .i64 s.aY,.int .i64 s.colour,.bool s.free,.bool s.aN,.int .i64 s.aO,.int .i64 s.t0,.int .i64 s.t1,.int .i64 s.ay]):=fun W h=>h.rng 1 rfl 0 _ rfl;have agX:∀ W:World,Bx w W [(B11,aC t,39),(B7,aC s,39),(w.heap.size,bK g,28)]→W.rangeAt (b) (o+k*5) ([.string x.x.kind,.string x.x.called,.slice x.A x.x.hits.length x.a,.slice x.B x.x.aF.length x.b,.int .i64 x.x.aX]):=fun W h=>fun j v hj=>((h.bw.cell (p:=⟨b,o+k*5+j,none⟩) hbl).trans (h01 j v hj));have hL:=hL.drew;refine wp_region_held_drew (S:=(fun w':World=>Bx w w' [(B11,aC t,39),(B7,aC s,39),(w.heap.size,bK g,28)])) (by kernel_rfl) ?dJ (fun hHeld=>?_)
              case dJ=>exact hL
              refine tk 0 ?_;refine wpAnyH_take (i:=1) (oi:=_) (v:=_) (ga rfl) (by kernel_rfl) (by kernel_rfl) (by kernel_rfl) (fun _ _ _ h=>h) (yieldsIf_load_mid (by rfl) _ _ (by rfl) _ _ (by rfl) _ _ agH Tryz.underlying28 rfl (by kernel_rfl)) (by assumption) ?_
              try simp only [Act.put,la,lz,ls]
              refine wpAnyH_take (i:=2) (oi:=_) (v:=_) (ga rfl) (by kernel_rfl) (by kernel_rfl) (by kernel_rfl) (fun _ _ _ h=>h) (yieldsIf_load_mid (by rfl) _ _ (by rfl) _ _ (by rfl) _ _ agP Tryz.underlying39 rfl (by kernel_rfl)) (by assumption) ?_
              try simp only [Act.put,la,lz,ls]
              refine tk 3 ?_;refine tk 4 ?_;refine tk 5 ?_;refine wpAnyH_take (i:=6) (oi:=_) (v:=_) (ga rfl) (by kernel_rfl) (by kernel_rfl) (by kernel_rfl) (fun _ _ _ h=>h) (yieldsIf_load_mid (by rfl) _ _ (by rfl) _ _ (by rfl) _ _ agX Tryz.underlying85 rfl (by kernel_rfl)) (by assumption) ?_
              try simp only [Act.put,la,lz,ls]
              refine tr 7 fun K hK=>?_;go_simp
              (go_at_call 49;refine (HJD.out _ (hent.below hL.bw)).mono ?_;rintro e aCh ⟨rfl,abv⟩)
              have hL:=hL.call abv;have hO:=aaB hO abv;refine hK.out _ _ ?ahz (fun hHeld=>?_)
              case ahz=>(exact hL)
              clear hK K
              try simp only [Act.put,la,lz,ls]
              refine tk 8 ?_;refine tk 9 ?_;refine tk 10 ?_;refine wpAnyH_done (by kernel_rfl) ?_ _;go_wp2;go_meet;exact ⟨congrArg _ HSM.out,hL,hO⟩
           case rest=>
            obtain ⟨rfl,hL,hO⟩:=hcut;clear hj2 hent h01 hsb;have k1:_=some (Value.int .i64 t.turn):=(hL.get 0 rfl).cell (j:=0) rfl;have k2:_=some (Value.int .i64 s.turn):=(hL.get 1 rfl).cell (j:=0) rfl;have k3:_=some (Value.int .i64 t.ay):=(hL.get 0 rfl).cell (j:=12) rfl;obtain ⟨be,hbe⟩:∃ q,decide (t.turn≠s.turn∨0≤t.ay)=q:=⟨_,rfl⟩;have HBE:=hide hbe;clear hbe
            go_upto_region 11 with (fail)
            go_cut [66] from 57 to 67 (fun v66 wx=>v66= .bool be∧Bx w wx [(B11,aC t,39),(B7,aC s,39),(w.heap.size,bK g,28)]∧wx.ownsRow w.heap.size 3 1 (.slice A8 out.length c8) out.length (out.map (Value.int .i64)))
            case first=>
             by_cases hq1:t.turn=s.turn
             · have hq2:(t.turn != s.turn)=false:=by simp [hq1]
               have HX:=hide (show decide (0≤t.ay)=be by rw [← HBE.out];simp [hq1]);clear hq1;go_wp2;go_meet;exact ⟨congrArg _ HX.out,hL,hO⟩
             · have hq2:(t.turn != s.turn)=true:=by simp [hq1]
               have HX:=hide (show true=be by rw [← HBE.out];simp [hq1]);clear hq1;go_wp2;go_meet;exact ⟨congrArg _ HX.out,hL,hO⟩
            case rest=>
             obtain ⟨rfl,hL,hO⟩:=hcut;clear k1 k2 k3
             go_upto_if 66 with (fail)
             go_cut [8,9] from 67 to 73 (fun v8 v9 wx=>∃ (acG:List Int) (adN:Int) (A8:Option Addr) (c8:Nat),v8= .slice A8 acG.length c8∧v9= .int .i64 adN∧Aside (acG++Sk.aad g p t adN (bare (l.drop (k+1)))=R)∧acG.length≤k+1∧(0≤adN∧adN≤100*((k:Int)+1))∧Bx w wx [(B11,aC t,39),(B7,aC s,39),(w.heap.size,bK g,28)]∧wx.ownsRow w.heap.size 3 1 (.slice A8 acG.length c8) acG.length (acG.map (Value.int .i64)))
             case first=>
              cases be
              · have hh:=of_decide_eq_false HBE.out
                have HM:=hide (show out++Sk.aad g p t sm (bare (l.drop (k+1)))=R by have h:=ahC.out;rw [if_neg hh] at h;exact h);clear hh;go_wp2;go_meet;exact ⟨out,sm,A8,c8,rfl,rfl,HM,by omega,aiB,hL,hO⟩
              · have hh:=of_decide_eq_true HBE.out
                have hm:=ahC.out;rw [if_pos hh] at hm
                by_cases h0:0<sm
                · have hd:decide (0<sm)=true:=decide_eq_true h0
                  have HM:=hide (show (out++[sm])++Sk.aad g p t 0 (bare (l.drop (k+1)))=R by rw [if_pos h0] at hm;rw [List.append_assoc];exact hm);have HES:=hide (show (out++[sm]).map (Value.int .i64)=out.map (Value.int .i64)++[.int .i64 sm] by simp);have aA8:=hL.bw.size;clear hh hm h0
                  go_wp2_with (first | (at_builtin;refine wpList_append_lies _ rfl _ _ _ rfl w.heap.size 3 i0 (.int .i64 0) 1 8 Tryz.underlying50 hi0 hz0 hz1 hz2 rfl (by omega) _ _ _ rfl (hO.alloc _) ⟨wc.heap.size,0,none⟩ 1 1 [.int .i64 sm] rfl rfl (jK _ _ _ _ (by simp)) (by simp [Value.oneCell']) (by omega) (by simp only [maxLen];omega) (by omega) (by simp;omega) (wc.heap.size+1) (by simp) ?_))
                  intro g1 cap w4 hown4 hgrow hat _;have hL4:=(hL.alloc _).ad5 (hO.alloc _) hgrow (by simp);rw [← HES.out] at hown4;have HO:=hide hown4;have HL:=hide hL4;clear hown4 hgrow hL hO hL4;go_wp2;go_meet;exact ⟨out++[sm],0,_,_,by rw [List.length_append];rfl,rfl,HM,by rw [List.length_append];simp;omega,by omega,HL.out,by rw [List.length_append];exact HO.out⟩
                · have hd:decide (0<sm)=false:=decide_eq_false h0
                  have HM:=hide (show out++Sk.aad g p t 0 (bare (l.drop (k+1)))=R by rw [if_neg h0,List.nil_append] at hm;exact hm);clear hh hm h0;go_wp2;go_meet;exact ⟨out,0,A8,c8,rfl,rfl,HM,by omega,by omega,hL,hO⟩
             case rest=>
              obtain ⟨acG,adN,A9,c9,rfl,rfl,hm2,ajg,ajo,hL,hO⟩:=hcut;have HM:=hide (show acG++Sk.aad g p (jr g l (k+1)) adN (bare (l.drop (k+1)))=R by rw [HT.out];exact hm2.out);clear aiB hol hm2;have hO2:=ab1 hO (own_ne hO (hL.get 1 rfl) (by decide)) (aC t) 0;have hL2:=hL.swap.put (aC t) rfl
              go_upto_region 15 with (fail)
              go_wp2_with (first | ((with_reducible refine bJ 39 11 ?_);refine ig (hL.rn 0 0 (aC t)) Tryz.underlying39 aJ ?_) | ((with_reducible refine iy 39 11 ?_);refine kP (hL.rn 0 0 (aC t)) Tryz.underlying39 aJ ?_) | ((with_reducible refine isS 39 7 73 ?_);refine fU (hL.get 1 rfl) (aC t) aJ (aT _) ?_))
              have HL:=hide (show Bx w (wc.setCells B7 0 (aC t)) [(B7,aC t,39),(w.heap.size,bK g,28)] from hL2.swap.tail);have HO:=hide hO2;clear hL hO hO2 hL2;go_wp2
              go_roundw
              case rel=>exact ⟨k+1,acG,adN,A9,c9,by omega,by go_num,rfl,rfl,HM,by omega,by omega,by rw [HT.out];exact HL.out,HO.out⟩
              case measure=>simp [intOf];omega
    · have hke:k=l.length:=by omega
      subst hke;have hz:=hx0.out;rw [List.drop_length] at hz;have hz2:out++(if 0<sum then [sum] else [])=R:=hz;have aA8:=hL.bw.size;clear hz hx0
      by_cases h0:0<sum
      · have hd:decide (0<sum)=true:=decide_eq_true h0
        rw [if_pos h0] at hz2;have HM:=hide hz2;have HES:=hide (show (out++[sum]).map (Value.int .i64)=out.map (Value.int .i64)++[.int .i64 sum] by simp);clear hz2 h0
        go_wp2_with (first | (at_builtin;refine wpList_append_lies _ rfl _ _ _ rfl w.heap.size 3 i0 (.int .i64 0) 1 8 Tryz.underlying50 hi0 hz0 hz1 hz2 rfl (by omega) _ _ _ rfl (hO.alloc _) ⟨wr.heap.size,0,none⟩ 1 1 [.int .i64 sum] rfl rfl (jK _ _ _ _ (by simp)) (by simp [Value.oneCell']) (by omega) (by simp only [maxLen];omega) (by omega) (by simp;omega) (wr.heap.size+1) (by simp) ?_))
        intro g1 cap w4 hown4 hgrow hat _;have hL4:=(hL.alloc _).ad5 (hO.alloc _) hgrow (by simp);rw [← HES.out] at hown4;have HRD:=hide (Reads.Bz hown4 (S:=fun b=>w.heap.size≤b) (fun b h=>h) (by omega));clear hown4 hgrow hL hO;go_wp2;go_ret;exact ⟨_,_,by rw [← HM.out,List.length_append];rfl,by rw [← HM.out];unfold nI;rw [List.length_append];exact HRD.out,hL4.bw⟩
      · have hd:decide (0<sum)=false:=decide_eq_false h0
        rw [if_neg h0,List.append_nil] at hz2;have HM:=hide hz2;have HRD:=hide (Reads.Bz hO (S:=fun b=>w.heap.size≤b) (fun b h=>h) (by omega));clear hz2 h0 hO;go_wp2;go_ret;exact ⟨A8,c8,by rw [← HM.out];rfl,by rw [← HM.out];exact HRD.out,hL.bw⟩
end Go.Proofs.YtjbbfmofpjflmaaGreatDoor
