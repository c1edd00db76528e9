/- Parts of a proof. -/
import Derived.Test.YtjbbfmofpjflmaaGreatDoorKa1
import Derived.Test.YtjbbfmofpjflmaaGreatDoorKr21
import Derived.Test.YtjbbfmofpjflmaaGreatDoorKr35
set_option maxHeartbeats 2000000
set_option maxRecDepth 100000
set_option linter.unusedVariables false
set_option linter.unusedSimpArgs false
namespace Go.Proofs.YtjbbfmofpjflmaaGreatDoor
open Go.RowKit
theorem abj (S S':Nat→Prop) (g:Sk.Game) (l:List En) (C:List (Int × Int)) (A A1:Option Addr) (c c1:Nat) (w:World) (hl:ni w S A c l) (hc:RdQ w S' A1 c1 C) (hc0:Sk.iO g (bare l)=0) (hlc:C.length=l.length):
 Calls Tryz.prog 36 #[lX g,.slice A l.length c,.slice A1 C.length c1] w fun e w'=>e= .returned (.int .i64 (Sk.qN g (bare l) C))∧Below w.heap.size w w':=by
 have hck:=tK hc0;have hln:=hck.2.2;obtain ⟨p1,p2,p3⟩:=hl.bd;obtain ⟨p4,p5,p6⟩:=Reads.bd hc;have HLC:=hide hlc;clear hlc
 go_enter Tryz.func36,Tryz.ntmps36
 go_upto_region 0 with (fail)
 go_cut [3,6] (fun v3 v6 wx=>v3=ptr (w.heap.size)∧v6= .int .i64 0∧Bx w wx [(w.heap.size,bK g,28)])
 case first=>
  go_wp2;go_meet;exact ⟨rfl,rfl,Bx.of ((aG.nil w).new (by simp) (bK g) 28) _ rfl⟩
 case rest=>
  obtain ⟨rfl,rfl,hL⟩:=hcut
  go_upto_region 1 with (fail)
  go_cut [7] from 9 to 11 (fun v7 wx=>∃ B7,v7=ptr B7∧Bx w wx [(B7,aC (Sk.start g),39),(w.heap.size,bK g,28)])
  case first=>
   go_wp2_with (first | ((with_reducible refine bJ 28 3 ?_);refine ig (hL.rn 0 0 ([.string g.kind,.int .i64 g.aY,.int .i64 g.target,.int .i64 g.turns])) Tryz.underlying28 dP ?_) | ((with_reducible refine iy 28 3 ?_);refine kP (hL.rn 0 0 ([.string g.kind,.int .i64 g.aY,.int .i64 g.target,.int .i64 g.turns])) Tryz.underlying28 dP ?_) | (go_at_call 24;refine (JZ g _).mono ?_;rintro e1 w1 ⟨rfl,hb1⟩;have hL:=(hL.call hb1).add (aC Sk.zero) 39) | ((with_reducible refine isS 39 7 10 ?_);refine fU (hL.get 0 rfl) (aC (Sk.start g)) aJ (aT _) ?_))
   go_meet;exact ⟨_,rfl,hL.put (aC (Sk.start g)) rfl⟩
  case rest=>
   obtain ⟨B7,rfl,hL⟩:=hcut;go_wp2
   go_loopw [8] (fun i wr=>∃ k:Nat,k≤l.length∧i= .int .i64 k∧Aside (Ui g l C k=Sk.qN g (bare l) C)∧Bx w wr [(B7,aC (jr g l k),39),(w.heap.size,bK g,28)]) (fun i _=>l.length - (intOf i).toNat)
   case atStart=>exact ⟨0,Nat.zero_le _,rfl,hide (Ox g l C),by rw [rM];exact hL⟩
   case round=>
    obtain ⟨k,hk,rfl,hx0,hL⟩:=hrel
    by_cases hlt:k<l.length
    · obtain ⟨b,o,hAb,_,hbl,_⟩:=hl.at_ k hlt
      have h01:w.rangeAt b (o+k*5) ([.string l[k].x.kind,.string l[k].x.called,.slice l[k].A l[k].x.hits.length l[k].a,.slice l[k].B l[k].x.aF.length l[k].b,.int .i64 l[k].x.aX]):=tV hl hlt (Below.refl _ _) hAb;have hent:=hl.ent k hlt;have hok:=zY hck.1 hck.2.1 k hk;have hsx:=hck.2.1 _ (List.getElem_mem hlt);have hs1:=rJ g l k hlt;have hrf:=Hy g l k hlt;have hrl:=BZ g l k;obtain ⟨s,hs⟩:∃ q,jr g l k=q:=⟨_,rfl⟩;obtain ⟨x,hx⟩:∃ q,l[k]=q:=⟨_,rfl⟩;rw [hs] at hok hs1 hrf hL;rw [hx] at h01 hent hsx hs1 hrf;obtain ⟨n,hn⟩:∃ q,Sk.legal g s x.x=q:=⟨_,rfl⟩;have hlg:=fun W h=>G8 S g s x W hok hsx h;have hnx:=fun W (h:iL W S x) (h0:Sk.legal g s x.x=0)=>JV S g s x W hok hsx h0 h;rw [hn] at hlg hrf;have hnr:=Gv g s x.x;rw [hn] at hnr;have HLG:=hide hlg;have HS:=hide hs;have HX:=hide hx;have Ig:=hide hs1;have HRF:=hide hrf;have HN:=hide hn
      have i1:(0:Int)≤(k:Int):=by omega
      have i2:(k:Int)<(l.length:Int):=by omega
      have hlt1:k<C.length:=by have:=HLC.out;omega
      have i3:(k:Int)<(C.length:Int):=by omega
      obtain ⟨b1,o1,ad8,_,aeg,hcs⟩:=Reads.at_ hc (by omega)
      have h02:w.rangeAt b1 (o1+k*2) [.int .i64 C[k].1,.int .i64 C[k].2]:=fun j v hj=>by
       have h:=hcs (k*2+j) v (uJ (f:=ajT) (n:=2) (fun _=>rfl) k hlt1 hj)
       rwa [← Nat.add_assoc] at h
      have had:=Ov (g:=g) hlt hlt1;rw [hx0.out] at had;obtain ⟨p,hp⟩:∃ q,C[k].1=q:=⟨_,rfl⟩;obtain ⟨q,hq⟩:∃ q,C[k].2=q:=⟨_,rfl⟩;rw [hp,hq] at had h02;subst hAb ad8;obtain ⟨bn,hbn⟩:∃ q,(n == 0)=q:=⟨_,rfl⟩;have HBN:=hide hbn;obtain ⟨t,ht⟩:∃ q,jr g l (k+1)=q:=⟨_,rfl⟩;rw [ht] at had;have HT:=hide ht;have HAD:=hide had;clear hlg hs hx hs1 hrf hn hbn ht had hp hq hcs hx0
      go_upto_region 5 with (fail)
      go_cut [24] from 11 to 25 (fun v24 wx=>v24= .bool bn∧Bx w wx [(B7,aC s,39),(w.heap.size,bK g,28)])
      case first=>
       have ad4:∀ W:World,Bx w W [(B7,aC s,39),(w.heap.size,bK g,28)]→W.rangeAt (w.heap.size) 0 ([.string g.kind,.int .i64 g.aY,.int .i64 g.target,.int .i64 g.turns]):=fun W h=>h.rng 1 rfl 0 _ rfl;have adp:∀ W:World,Bx w W [(B7,aC s,39),(w.heap.size,bK g,28)]→W.rangeAt (B7) 0 ([.int .i64 s.turn,.int .i64 s.s0,.int .i64 s.s1,.int .i64 s.brk,.string s.phase,.int .i64 s.aY,.int .i64 s.colour,.bool s.free,.bool s.aN,.int .i64 s.aO,.int .i64 s.t0,.int .i64 s.t1,.int .i64 s.ay]):=fun W h=>h.rng 0 rfl 0 _ rfl;have adx:∀ W:World,Bx w W [(B7,aC s,39),(w.heap.size,bK g,28)]→W.rangeAt (b) (o+k*5) ([.string x.x.kind,.string x.x.called,.slice x.A x.x.hits.length x.a,.slice x.B x.x.aF.length x.b,.int .i64 x.x.aX]):=fun W h=>fun j v hj=>((h.bw.cell (p:=⟨b,o+k*5+j,none⟩) hbl).trans (h01 j v hj));have hL:=hL.drew;refine wp_region_held_drew (S:=(fun w':World=>Bx w w' [(B7,aC s,39),(w.heap.size,bK g,28)])) (by kernel_rfl) ?bg (fun hHeld=>?_)
       case bg=>exact hL
       refine wpAnyH_take (i:=0) (oi:=_) (v:=_) (ga rfl) (by kernel_rfl) (by kernel_rfl) (by kernel_rfl) (fun _ _ _ h=>h) (yieldsIf_load_mid (by rfl) _ _ (by rfl) _ _ (by rfl) _ _ ad4 Tryz.underlying28 rfl (by kernel_rfl)) (by assumption) ?_
       try simp only [Act.put,la,lz,ls]
       refine wpAnyH_take (i:=1) (oi:=_) (v:=_) (ga rfl) (by kernel_rfl) (by kernel_rfl) (by kernel_rfl) (fun _ _ _ h=>h) (yieldsIf_load_mid (by rfl) _ _ (by rfl) _ _ (by rfl) _ _ adp Tryz.underlying39 rfl (by kernel_rfl)) (by assumption) ?_
       try simp only [Act.put,la,lz,ls]
       refine tk 2 ?_;refine tk 3 ?_;refine tk 4 ?_;refine wpAnyH_take (i:=5) (oi:=_) (v:=_) (ga rfl) (by kernel_rfl) (by kernel_rfl) (by kernel_rfl) (fun _ _ _ h=>h) (yieldsIf_load_mid (by rfl) _ _ (by rfl) _ _ (by rfl) _ _ adx Tryz.underlying85 rfl (by kernel_rfl)) (by assumption) ?_
       try simp only [Act.put,la,lz,ls]
       refine tr 6 fun K hK=>?_;go_simp
       (go_at_call 48;refine (HLG.out _ (hent.below hL.bw)).mono ?_;rintro e ZI ⟨rfl,IV⟩)
       have hL:=hL.call IV;refine hK.out _ _ ?GZ (fun hHeld=>?_)
       case GZ=>(exact hL)
       clear hK K
       try simp only [Act.put,la,lz,ls]
       refine tk 7 ?_;refine wpAnyH_done (by kernel_rfl) ?_ _;go_wp2;go_meet;exact ⟨congrArg Value.bool HBN.out,hL⟩
      case rest=>
       obtain ⟨rfl,hL⟩:=hcut
       go_upto_if 24 with (fail)
       go_cut [] from 25 to 32 (fun wx=>Bx w wx [(B7,aC t,39),(w.heap.size,bK g,28)])
       case first=>
        cases bn
        · have h0:¬ n=0:=by have h:=HBN.out;simpa using h
          have HT:=hide (show s=t by rw [← HT.out,Ig.out,Sk.acP (by rw [HN.out];exact h0)]);clear h0;go_wp2;go_meet;rw [← HT.out];exact hL
        · have h0:n=0:=by have h:=HBN.out;simpa using h
          obtain ⟨t',ht⟩:∃ q,Sk.next g s x.x=q:=⟨_,rfl⟩
          have hnx2:=fun W h=>hnx W h (HN.out.trans h0);rw [ht] at hnx2;have HNX:=hide hnx2
          have ht2:t'=t:=by rw [← HT.out,Ig.out,Sk.acy (HN.out.trans h0),ht]
          subst ht2;have HT:=hide (rfl:t'=t');clear hnx hnx2 ht h0
          go_upto_region 6 with (fail)
          have aep:∀ W:World,Bx w W [(w.heap.size,bK g,28)]→W.rangeAt (w.heap.size) 0 ([.string g.kind,.int .i64 g.aY,.int .i64 g.target,.int .i64 g.turns]):=fun W h=>h.rng 0 rfl 0 _ rfl;have aey:∀ W:World,Bx w W [(w.heap.size,bK g,28)]→W.rangeAt (b) (o+k*5) ([.string x.x.kind,.string x.x.called,.slice x.A x.x.hits.length x.a,.slice x.B x.x.aF.length x.b,.int .i64 x.x.aX]):=fun W h=>fun j v hj=>((h.bw.cell (p:=⟨b,o+k*5+j,none⟩) hbl).trans (h01 j v hj));have hL:=hL.drew;refine wp_region_held_drew (S:=(fun w':World=>Bx w w' [(w.heap.size,bK g,28)])) (by kernel_rfl) ?bV (fun hHeld=>?_)
          case bV=>exact hL.tail
          refine wpAnyH_take (i:=0) (oi:=_) (v:=_) (ga rfl) (by kernel_rfl) (by kernel_rfl) (by kernel_rfl) (fun _ _ _ h=>h) (yieldsIf_load_mid (by rfl) _ _ (by rfl) _ _ (by rfl) _ _ aep Tryz.underlying28 rfl (by kernel_rfl)) (by assumption) ?_
          try simp only [Act.put,la,lz,ls]
          refine tk 2 ?_;refine tk 3 ?_;refine tk 4 ?_;refine wpAnyH_take (i:=5) (oi:=_) (v:=_) (ga rfl) (by kernel_rfl) (by kernel_rfl) (by kernel_rfl) (fun _ _ _ h=>h) (yieldsIf_load_mid (by rfl) _ _ (by rfl) _ _ (by rfl) _ _ aey Tryz.underlying85 rfl (by kernel_rfl)) (by assumption) ?_
          try simp only [Act.put,la,lz,ls]
          refine tr 1 fun K hK=>?_;refine Lh (hL.rng 0 rfl 0 ([.int .i64 s.turn,.int .i64 s.s0,.int .i64 s.s1,.int .i64 s.brk,.string s.phase,.int .i64 s.aY,.int .i64 s.colour,.bool s.free,.bool s.aN,.int .i64 s.aO,.int .i64 s.t0,.int .i64 s.t1,.int .i64 s.ay]) rfl) Tryz.underlying39 rfl aJ (.tmp 7) rfl rfl ?_;refine hK.out _ _ ?adQ (fun hHeld=>?_)
          case adQ=>(exact hL.tail)
          clear hK K
          try simp only [Act.put,la,lz,ls]
          refine tr 6 fun K hK=>?_;go_simp
          (go_at_call 50;refine (HNX.out _ (hent.below hL.bw)).mono ?_;rintro e w6a ⟨rfl,AX⟩)
          have hL:=hL.call AX;refine hK.out _ _ ?xQ (fun hHeld=>?_)
          case xQ=>(exact hL.tail)
          clear hK K
          try simp only [Act.put,la,lz,ls]
          refine tr 7 fun K hK=>?_;refine aQ hL.head (aC t') rfl aJ (aT _) (.tmp 7) (.tmp 31) rfl rfl rfl ?_;have hL:=hL.put (aC t') rfl;refine hK.out _ _ ?adZ (fun hHeld=>?_)
          case adZ=>(exact hL.tail)
          clear hK K
          try simp only [Act.put,la,lz,ls]
          refine wpAnyH_done (by kernel_rfl) ?_ _;go_wp2;go_meet;exact hL
       case rest=>
        have hL:=hcut;clear hcut hnx;obtain ⟨y,hy⟩:∃ y,(t.s0 == p && t.s1 == q)=y:=⟨_,rfl⟩;rw [hy] at HAD;have HY:=hide (show (!(t.s0 == p && t.s1 == q))= !y by rw [hy]);have hq2:=fun a b c d W=>NW a b c d W;have hq3:=fun a b c d W=>Tf a b c d W;have hq4:=NY;clear hy
        go_upto_region 7 with (fail)
        go_cut [38] from 32 to 39 (fun v38 wx=>v38= .bool (!y)∧Bx w wx [(B7,aC t,39),(w.heap.size,bK g,28)])
        case first=>
         have aeF:∀ W:World,Bx w W [(B7,aC t,39),(w.heap.size,bK g,28)]→W.rangeAt (B7) 1 ([.int .i64 t.s0,.int .i64 t.s1]):=fun W h=>h.rng 0 rfl 1 _ rfl;have adI:∀ W:World,Bx w W [(B7,aC t,39),(w.heap.size,bK g,28)]→W.rangeAt (b1) (o1+k*2) ([.int .i64 p,.int .i64 q]):=fun W h=>fun j v hj=>((h.bw.cell (p:=⟨b1,o1+k*2+j,none⟩) aeg).trans (h02 j v hj));have hL:=hL.drew;refine wp_region_held_drew (S:=(fun w':World=>Bx w w' [(B7,aC t,39),(w.heap.size,bK g,28)])) (by kernel_rfl) ?dJ (fun hHeld=>?_)
         case dJ=>exact hL
         refine tk 0 ?_;refine wpAnyH_take (i:=1) (oi:=_) (v:=_) (ga rfl) (by kernel_rfl) (by kernel_rfl) (by kernel_rfl) (fun _ _ _ h=>h) (yieldsIf_load_mid (by rfl) _ _ (by rfl) _ _ (by rfl) _ _ aeF Tryz.underlying24 rfl (by kernel_rfl)) (by assumption) ?_
         try simp only [Act.put,la,lz,ls]
         refine tk 2 ?_;refine tk 3 ?_;refine tk 4 ?_;refine wpAnyH_take (i:=5) (oi:=_) (v:=_) (ga rfl) (by kernel_rfl) (by kernel_rfl) (by kernel_rfl) (fun _ _ _ h=>h) (yieldsIf_load_mid (by rfl) _ _ (by rfl) _ _ (by rfl) _ _ adI Tryz.underlying24 rfl (by kernel_rfl)) (by assumption) ?_
         try simp only [Act.put,la,lz,ls]
         refine tk 6 ?_;refine wpAnyH_done (by kernel_rfl) ?_ _;go_wp2;go_meet;exact ⟨congrArg Value.bool (by rw [← HY.out,Bool.not_and]),hL⟩
        case rest=>
         obtain ⟨rfl,hL⟩:=hcut
         cases y
         · have HM:=hide (HAD.out.trans (if_neg (by simp)))
           go_wp2;go_ret;exact ⟨aV HM.out.symm,hL.bw⟩
         · have HM:=hide (HAD.out.trans (if_pos rfl)).symm
           have HL:=hide hL;clear hL hent h01 h02;go_wp2
           go_roundw
           case rel=>exact ⟨k+1,by omega,by go_num,HM,by rw [HT.out];exact HL.out⟩
           case measure=>simp [intOf];omega
    · have hke:k=l.length:=by omega
      subst hke;have HM:=hide (hx0.out.symm.trans (Uj g l C));go_wp2;go_ret;exact ⟨aV HM.out.symm,hL.bw⟩
end Go.Proofs.YtjbbfmofpjflmaaGreatDoor
