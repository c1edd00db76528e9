/- Parts of a proof. -/
import Derived.Test.YtjbbfmofpjflmaaGreatDoorKb20
import Derived.Test.YtjbbfmofpjflmaaGreatDoorKl2
import Derived.Test.YtjbbfmofpjflmaaGreatDoorKl3
set_option maxHeartbeats 1600000
set_option maxRecDepth 100000
set_option linter.unusedVariables false
set_option linter.unusedSimpArgs false
namespace Go.Proofs.YtjbbfmofpjflmaaGreatDoor
open Go.RowKit
theorem abS (s:Sk.State) (hc:0≤s.colour∧s.colour≤7) (hr:0≤s.bI∧s.bI≤15) (w:World):Calls Tryz.prog 41 #[kW s] w fun e w'=>e= .returned (.int .i64 (Sk.abJ s))∧Below w.heap.size w w':=by
 have hP0:Sk.abJ s=if 0≤s.aB then 0 else Sk.jP (max 2 s.colour) (8 - max 2 s.colour).toNat+8*s.bI+(if (s.phase.toList == [99,111,108,111,117,114])=true then 7 else 0)+(if s.free=true∧(s.phase.toList == [114,101,100])=true then 8 else 0)+(if s.free=true∧(s.phase.toList == [102,105,110,97,108])=true∧decide (s.colour<7)=true then s.colour else 0):=by
  rw [gG,gG,gG]
  unfold Sk.abJ
  simp only [decide_eq_true_eq]
 go_enter Tryz.func41,Tryz.ntmps41
 go_upto_region 0 with (fail)
 go_cut [1,2] (fun v1 v2 wx=>v1=ptr (w.heap.size)∧v2= .int .i64 0∧Bx w wx [(w.heap.size,aO s,39)])
 case first=>
  go_wp2;go_meet;exact ⟨rfl,rfl,Bx.of ((aJ.nil w).new (by simp) (aO s) 39) _ rfl⟩
 case rest=>
  obtain ⟨rfl,rfl,hL⟩:=hcut;have ahS:=(hL.get 0 rfl).cell (j:=12) rfl
  by_cases hw:0≤s.aB
  · have hd:decide (0≤s.aB)=true:=decide_eq_true hw
    rw [if_pos hw] at hP0;have HP:=hide hP0;clear hP0 hw;go_wp2;go_ret;exact ⟨bf HP.out.symm,hL.bw⟩
  · have hd:decide (0≤s.aB)=false:=decide_eq_false hw
    rw [if_neg hw] at hP0;obtain ⟨c0,hc0⟩:∃ q,max 2 s.colour=q:=⟨_,rfl⟩;rw [hc0] at hP0;obtain ⟨SM,hSM⟩:∃ q,Sk.jP c0 (8 - c0).toNat=q:=⟨_,rfl⟩;rw [hSM] at hP0;have HP:=hide hP0;have HSM:=hide hSM
    have hcr:2≤c0∧c0≤7:=by omega
    have U9:=hide hc0;clear hP0 hSM hw hc0;have ah0:=(hL.get 0 rfl).cell (j:=6) rfl
    go_upto_region 4 with (fail)
    go_cut [4] from 8 to 11 (fun v4 wx=>v4= .int .i64 c0∧Bx w wx [(w.heap.size,aO s,39)])
    case first=>
     go_wp2
     all_goals
      go_meet;exact ⟨congrArg _ (by rw [← U9.out];omega),hL⟩
    case rest=>
     obtain ⟨rfl,hL⟩:=hcut;clear ahS ah0
     go_upto_block 0 with (fail)
     go_cut [3,4] from 11 to 18 (fun v3 v4 wx=>v3= .int .i64 SM∧(0≤SM∧SM≤42)∧Bx w wx [(w.heap.size,aO s,39)])
     case first=>
      go_wp2
      go_loopw [3,4] (fun v3 v4 wr=>∃ sm c:Int,v3= .int .i64 sm∧v4= .int .i64 c∧(2≤c∧c≤8)∧(0≤sm∧sm≤7*(c - 2))∧Aside (sm+Sk.jP c (8 - c).toNat=SM)∧Bx w wr [(w.heap.size,aO s,39)]) (fun _ i _=>(8 - intOf i).toNat)
      case atStart=>exact ⟨0,c0,rfl,rfl,by omega,by omega,hide (by rw [Int.zero_add];exact HSM.out),hL⟩
      case round=>
       obtain ⟨sm,c,rfl,rfl,hcb,hsb,hx,hL⟩:=hrel
       by_cases hlt:c≤7
       · have hst:=hx.out
         rw [show (8 - c).toNat=(8 - (c+1)).toNat+1 by omega,Sk.jP] at hst;have HST:=hide hst;have hd7:decide (c≤7)=true:=decide_eq_true hlt;clear hst hx hd;go_wp2
         go_roundw
         case rel=>exact ⟨sm+c,c+1,rfl,rfl,by omega,by omega,hide (by have h:=HST.out;omega),hL⟩
         case measure=>simp [intOf];omega
       · have h8:c=8:=by omega
         subst h8;have hz:=hx.out;rw [show (8 - (8:Int)).toNat=0 from rfl,Sk.jP] at hz;have HZ:=hide (show sm=SM by omega);clear hz hx hd;go_wp2;go_meet;exact ⟨congrArg _ HZ.out,by have h:=HZ.out;omega,hL⟩
     case rest=>
      obtain ⟨rfl,hsb,hL⟩:=hcut;have ai0:=(hL.get 0 rfl).cell (j:=4) rfl;have ai8:=(hL.get 0 rfl).cell (j:=5) rfl;have ah0:=(hL.get 0 rfl).cell (j:=6) rfl;have aiJ:=(hL.get 0 rfl).cell (j:=7) rfl;obtain ⟨fr,hfr⟩:∃ q,s.free=q:=⟨_,rfl⟩;rw [hfr] at HP aiJ;clear hfr U9 HSM hd
      rcases ha0:((s.phase.toList == [99,111,108,111,117,114])) with _ | _
      · rcases ha1:(fr) with _ | _
        · have hv:=HP.out
          simp [ha0,ha1] at hv
          have HV:=hide hv;clear hv;go_wp2;go_ret;exact ⟨bf (by have h:=HV.out;omega),hL.bw⟩
        · rcases ha2:((s.phase.toList == [114,101,100])) with _ | _
          · rcases l7:((s.phase.toList == [102,105,110,97,108])) with _ | _
            · have hv:=HP.out
              simp [ha0,ha1,ha2,l7] at hv
              have HV:=hide hv;clear hv;go_wp2;go_ret;exact ⟨bf (by have h:=HV.out;omega),hL.bw⟩
            · rcases wX:(decide (s.colour<7)) with _ | _
              · have hv:=HP.out
                simp [ha0,ha1,ha2,l7,wX] at hv
                have HV:=hide hv;clear hv;go_wp2;go_ret;exact ⟨bf (by have h:=HV.out;omega),hL.bw⟩
              · have hv:=HP.out
                simp [ha0,ha1,ha2,l7,wX] at hv
                have HV:=hide hv;clear hv;go_wp2;go_ret;exact ⟨bf (by have h:=HV.out;omega),hL.bw⟩
          · rcases l7:((s.phase.toList == [102,105,110,97,108])) with _ | _
            · have hv:=HP.out
              simp [ha0,ha1,ha2,l7] at hv
              have HV:=hide hv;clear hv;go_wp2;go_ret;exact ⟨bf (by have h:=HV.out;omega),hL.bw⟩
            · rcases wX:(decide (s.colour<7)) with _ | _
              · have hv:=HP.out
                simp [ha0,ha1,ha2,l7,wX] at hv
                have HV:=hide hv;clear hv;go_wp2;go_ret;exact ⟨bf (by have h:=HV.out;omega),hL.bw⟩
              · have hv:=HP.out
                simp [ha0,ha1,ha2,l7,wX] at hv
                have HV:=hide hv;clear hv;go_wp2;go_ret;exact ⟨bf (by have h:=HV.out;omega),hL.bw⟩
      · rcases ha1:(fr) with _ | _
        · have hv:=HP.out
          simp [ha0,ha1] at hv
          have HV:=hide hv;clear hv;go_wp2;go_ret;exact ⟨bf (by have h:=HV.out;omega),hL.bw⟩
        · rcases ha2:((s.phase.toList == [114,101,100])) with _ | _
          · rcases l7:((s.phase.toList == [102,105,110,97,108])) with _ | _
            · have hv:=HP.out
              simp [ha0,ha1,ha2,l7] at hv
              have HV:=hide hv;clear hv;go_wp2;go_ret;exact ⟨bf (by have h:=HV.out;omega),hL.bw⟩
            · rcases wX:(decide (s.colour<7)) with _ | _
              · have hv:=HP.out
                simp [ha0,ha1,ha2,l7,wX] at hv
                have HV:=hide hv;clear hv;go_wp2;go_ret;exact ⟨bf (by have h:=HV.out;omega),hL.bw⟩
              · have hv:=HP.out
                simp [ha0,ha1,ha2,l7,wX] at hv
                have HV:=hide hv;clear hv;go_wp2;go_ret;exact ⟨bf (by have h:=HV.out;omega),hL.bw⟩
          · rcases l7:((s.phase.toList == [102,105,110,97,108])) with _ | _
            · have hv:=HP.out
              simp [ha0,ha1,ha2,l7] at hv
              have HV:=hide hv;clear hv;go_wp2;go_ret;exact ⟨bf (by have h:=HV.out;omega),hL.bw⟩
            · rcases wX:(decide (s.colour<7)) with _ | _
              · have hv:=HP.out
                simp [ha0,ha1,ha2,l7,wX] at hv
                have HV:=hide hv;clear hv;go_wp2;go_ret;exact ⟨bf (by have h:=HV.out;omega),hL.bw⟩
              · have hv:=HP.out
                simp [ha0,ha1,ha2,l7,wX] at hv
                have HV:=hide hv;clear hv;go_wp2;go_ret;exact ⟨bf (by have h:=HV.out;omega),hL.bw⟩
theorem acy (s:Sk.State) (p:Int) (hp:p=0∨p=1) (hc:0≤s.colour∧s.colour≤7) (hr:0≤s.bI∧s.bI≤15) (h0:0≤s.s0∧s.s0≤99999) (h1:0≤s.s1∧s.s1≤99999) (hl:Sk.abJ s=Sk.left s) (hlr:0≤Sk.left s∧Sk.left s≤200) (w:World):Calls Tryz.prog 42 #[kW s,.int .i64 p] w fun e w'=>e= .returned (.int .i64 (Sk.needed s p))∧Below w.heap.size w w':=by
 have hlf:=fun W=>abS s hc hr W;rw [hl] at hlf;obtain ⟨lf,ahK⟩:∃ q,Sk.left s=q:=⟨_,rfl⟩;obtain ⟨bh,hbh⟩:∃ q,Sk.score s (1 - p) - Sk.score s p - Sk.left s=q:=⟨_,rfl⟩;have hn1:=fun n (h0:0≤n)=>Sk.acP (s:=s) (p:=p) (n:=n) h0;rw [hbh] at hn1
 have hbb: -300000≤bh∧bh≤300000:=by rw [← hbh];unfold Sk.score;split <;> split <;> omega
 rw [ahK] at hlf hbh hlr;have HLF:=hide hlf;have HN1:=hide hn1;have HB0:=hide hbh;clear hlf hn1 hbh hl ahK hc hr
 go_enter Tryz.func42,Tryz.ntmps42
 go_upto_region 0 with (fail)
 go_cut [2,4] (fun v2 v4 wx=>v2=ptr (w.heap.size)∧v4= .int .i64 0∧Bx w wx [(w.heap.size,aO s,39)])
 case first=>
  go_wp2;go_meet;exact ⟨rfl,rfl,Bx.of ((aJ.nil w).new (by simp) (aO s) 39) _ rfl⟩
 case rest=>
  obtain ⟨rfl,rfl,hL⟩:=hcut
  go_upto_region 1 with (fail)
  go_cut [5] from 7 to 20 (fun v5 wx=>v5= .int .i64 bh∧Bx w wx [(w.heap.size,aO s,39)])
  case first=>
   rcases hp with rfl | rfl
   · have HB:=hide (show s.s1 - s.s0 - lf=bh from HB0.out)
     have hw0:IntKind.i64.wrap 0=0:=by kernel_rfl
     have hw1:IntKind.i64.wrap 1=1:=by kernel_rfl
     have hwa:IntKind.i64.wrap (s.s1 - s.s0)=s.s1 - s.s0:=by rw [IntKind.wrap_i64];omega
     have hwb:IntKind.i64.wrap (s.s0 - s.s1)=s.s0 - s.s1:=by rw [IntKind.wrap_i64];omega
     have Zz:∀ W:World,Bx w W [(w.heap.size,aO s,39)]∧W.cell? ⟨w.heap.size,1,none⟩=some (.int .i64 s.s0)∧W.cell? ⟨w.heap.size,2,none⟩=some (.int .i64 s.s1)→W.rangeAt (w.heap.size) 0 ([.int .i64 s.turn,.int .i64 s.s0,.int .i64 s.s1,.int .i64 s.brk,.string s.phase,.int .i64 s.bI,.int .i64 s.colour,.bool s.free,.bool s.aT,.int .i64 s.aP,.int .i64 s.t0,.int .i64 s.t1,.int .i64 s.aB]):=fun W h=>h.1.rng 0 rfl 0 _ rfl;have hL:=hL.drew;refine wp_region_held_drew (S:=(fun w':World=>Bx w w' [(w.heap.size,aO s,39)]∧w'.cell? ⟨w.heap.size,1,none⟩=some (.int .i64 s.s0)∧w'.cell? ⟨w.heap.size,2,none⟩=some (.int .i64 s.s1))) (by kernel_rfl) ?bW (fun hHeld=>?_)
     case bW=>exact ⟨hL,(hL.get 0 rfl).cell (j:=1) rfl,(hL.get 0 rfl).cell (j:=2) rfl⟩
     refine tk 0 ?_;refine tk 1 ?_;refine tk 2 ?_;refine tk 3 ?_;refine tk 4 ?_;refine tk 5 ?_;refine tk 6 ?_;refine tk 7 ?_;refine tk 8 ?_;refine tk 9 ?_;refine wpAnyH_take (i:=10) (oi:=_) (v:=_) (ga rfl) (by kernel_rfl) (by kernel_rfl) (by kernel_rfl) (fun _ _ _ h=>h) (yieldsIf_load_mid (by rfl) _ _ (by rfl) _ _ (by rfl) _ _ Zz Tryz.underlying39 rfl (by kernel_rfl)) (by assumption) ?_
     try simp only [Act.put,la,lz,ls]
     refine tr 11 fun K hK=>?_;go_simp
     (go_at_call 41;refine (HLF.out _).mono ?_;rintro e w1a ⟨rfl,OC⟩)
     have hL:=hL.call OC;refine hK.out _ _ ?XF (fun hHeld=>?_)
     case XF=>(exact ⟨hL,(hL.get 0 rfl).cell (j:=1) rfl,(hL.get 0 rfl).cell (j:=2) rfl⟩)
     clear hK K
     try simp only [Act.put,la,lz,ls]
     refine tk 12 ?_;refine tk 13 ?_;refine wpAnyH_done (by kernel_rfl) ?_ _;go_wp2;go_meet;exact ⟨congrArg _ (by rw [← HB.out,IntKind.wrap_i64];omega),hL⟩
   · have HB:=hide (show s.s0 - s.s1 - lf=bh from HB0.out)
     have hw0:IntKind.i64.wrap 0=0:=by kernel_rfl
     have hw1:IntKind.i64.wrap 1=1:=by kernel_rfl
     have hwa:IntKind.i64.wrap (s.s1 - s.s0)=s.s1 - s.s0:=by rw [IntKind.wrap_i64];omega
     have hwb:IntKind.i64.wrap (s.s0 - s.s1)=s.s0 - s.s1:=by rw [IntKind.wrap_i64];omega
     have Zz:∀ W:World,Bx w W [(w.heap.size,aO s,39)]∧W.cell? ⟨w.heap.size,1,none⟩=some (.int .i64 s.s0)∧W.cell? ⟨w.heap.size,2,none⟩=some (.int .i64 s.s1)→W.rangeAt (w.heap.size) 0 ([.int .i64 s.turn,.int .i64 s.s0,.int .i64 s.s1,.int .i64 s.brk,.string s.phase,.int .i64 s.bI,.int .i64 s.colour,.bool s.free,.bool s.aT,.int .i64 s.aP,.int .i64 s.t0,.int .i64 s.t1,.int .i64 s.aB]):=fun W h=>h.1.rng 0 rfl 0 _ rfl;have hL:=hL.drew;refine wp_region_held_drew (S:=(fun w':World=>Bx w w' [(w.heap.size,aO s,39)]∧w'.cell? ⟨w.heap.size,1,none⟩=some (.int .i64 s.s0)∧w'.cell? ⟨w.heap.size,2,none⟩=some (.int .i64 s.s1))) (by kernel_rfl) ?dI (fun hHeld=>?_)
     case dI=>exact ⟨hL,(hL.get 0 rfl).cell (j:=1) rfl,(hL.get 0 rfl).cell (j:=2) rfl⟩
     refine tk 0 ?_;refine tk 1 ?_;refine tk 2 ?_;refine tk 3 ?_;refine tk 4 ?_;refine tk 5 ?_;refine tk 6 ?_;refine tk 7 ?_;refine tk 8 ?_;refine tk 9 ?_;refine wpAnyH_take (i:=10) (oi:=_) (v:=_) (ga rfl) (by kernel_rfl) (by kernel_rfl) (by kernel_rfl) (fun _ _ _ h=>h) (yieldsIf_load_mid (by rfl) _ _ (by rfl) _ _ (by rfl) _ _ Zz Tryz.underlying39 rfl (by kernel_rfl)) (by assumption) ?_
     try simp only [Act.put,la,lz,ls]
     refine tr 11 fun K hK=>?_;go_simp
     (go_at_call 41;refine (HLF.out _).mono ?_;rintro e w1a ⟨rfl,OC⟩)
     have hL:=hL.call OC;refine hK.out _ _ ?XG (fun hHeld=>?_)
     case XG=>(exact ⟨hL,(hL.get 0 rfl).cell (j:=1) rfl,(hL.get 0 rfl).cell (j:=2) rfl⟩)
     clear hK K
     try simp only [Act.put,la,lz,ls]
     refine tk 12 ?_;refine tk 13 ?_;refine wpAnyH_done (by kernel_rfl) ?_ _;go_wp2;go_meet;exact ⟨congrArg _ (by rw [← HB.out,IntKind.wrap_i64];omega),hL⟩
  case rest=>
   obtain ⟨rfl,hL⟩:=hcut;clear h0 h1 hlr hp;go_wp2
   go_loopw [6] (fun i wr=>∃ n:Int,i= .int .i64 n∧0≤n∧n≤100000∧(0<n→4*(n - 1)<bh)∧Bx w wr [(w.heap.size,aO s,39)]) (fun i _=>(100001 - intOf i).toNat)
   case atStart=>exact ⟨0,rfl,by omega,by omega,fun h=>by omega,hL⟩
   case round=>
    obtain ⟨n,rfl,hn0,hnn,hn1,hL⟩:=hrel
    by_cases hlt:4*n<bh
    · have hd:decide (4*n<bh)=true:=decide_eq_true hlt
      have hn2:n+1≤100000:=by omega
      have HG:=hide (show 0<n+1→4*(n+1 - 1)<bh from fun _=>by omega);clear hn1;go_wp2
      go_roundw
      case rel=>exact ⟨n+1,rfl,by omega,hn2,HG.out,hL⟩
      case measure=>simp [intOf];omega
    · have hd:decide (4*n<bh)=false:=decide_eq_false hlt
      have HQ:=hide (HN1.out n hn0 (by omega) hn1);clear hn1 hlt;go_wp2;go_ret;exact ⟨bf HQ.out,hL.bw⟩
end Go.Proofs.YtjbbfmofpjflmaaGreatDoor
