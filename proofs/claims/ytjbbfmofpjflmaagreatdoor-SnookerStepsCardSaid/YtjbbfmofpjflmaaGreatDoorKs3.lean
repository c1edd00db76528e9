/- Parts of a proof. -/
import Derived.Test.YtjbbfmofpjflmaaGreatDoorKb23
import Derived.Test.YtjbbfmofpjflmaaGreatDoorKs2
set_option maxHeartbeats 8000000
set_option maxRecDepth 100000
set_option linter.unusedVariables false
set_option linter.unusedSimpArgs false
namespace Go.Proofs.YtjbbfmofpjflmaaGreatDoor
open Go.RowKit
theorem agq:(Tryz.prog.info? 83).map (fun i=>(i.zero,i.size,i.bytes))=some (some (.agg #[.string ⟨#[]⟩,.string ⟨#[]⟩,.slice none 0 0,.slice none 0 0,.int .i64 0]),5,88):=by kernel_rfl
theorem aal:(Tryz.prog.info? 24).map (·.size)=some 2:=by kernel_rfl
theorem adN (S:Nat→Prop) (g:Sk.Game) (l:List En) (A:Option Addr) (c:Nat) (w:World) (hG:Glob w) (hl:qh w S A c l) (hn:l.length*88≤140737488355328):
 Calls Tryz.prog 9 #[lZ g,.slice A l.length c] w fun e w'=>e= .returned (.bool true)∧Below w.heap.size w w':=by
 have HG:=hide hG;clear hG;obtain ⟨bd1,bd2,bd3⟩:=hl.bd
 go_enter Tryz.func9,Tryz.ntmps9
 go_upto_region 0 with (fail)
 go_cut [2,4] (fun v2 v4 wx=>v2=ptr (w.heap.size)∧v4= .bool false∧Bx w wx [(w.heap.size,bT g,23)])
 case first=>
  go_wp2;go_meet;exact ⟨rfl,rfl,Bx.of ((aJ.nil w).new (by simp) (bT g) 23) _ rfl⟩
 case rest=>
  obtain ⟨rfl,rfl,hL⟩:=hcut
  go_upto_region 1 with (fail)
  go_cut [5] from 5 to 25 (fun v5 wx=>∃ B5,v5=ptr B5∧Bx w wx [(B5,bT g,28),(w.heap.size,bT g,23)])
  case first=>
   have hZ:=hL.add (bT g) 28
   go_wp2_with (first | ((with_reducible (refine ah 23 (.tmp 2) ?lx ?_));(case lx=>rfl);refine aK (hL.rng 0 rfl 0 ([.string g.kind,.int .i64 g.bI,.int .i64 g.target,.int .i64 g.turns]) rfl) Tryz.underlying23 rfl cZ rfl (.tmp 2) rfl rfl ?_) | ((with_reducible (refine ah 23 (.tmp 2) ?lx ?_));(case lx=>rfl);refine fA (hL.rng 0 rfl 0 ([.string g.kind,.int .i64 g.bI,.int .i64 g.target,.int .i64 g.turns]) rfl) Tryz.underlying23 rfl cZ rfl (.tmp 2) rfl rfl ?_) | ((with_reducible (refine aI 23 (.tmp 2) ?lx ?_));(case lx=>rfl);refine eu (hL.rng 0 rfl 0 ([.string g.kind,.int .i64 g.bI,.int .i64 g.target,.int .i64 g.turns]) rfl) Tryz.underlying23 rfl cZ (.tmp 2) rfl rfl ?_))
   go_meet;exact ⟨_,rfl,hZ⟩
  case rest=>
   obtain ⟨B5,rfl,hL⟩:=hcut
   go_upto_region 2 with (fail)
   go_cut [50] from 25 to 51 (fun v50 wx=>∃ b,v50= .bool b∧(b=false→l.length≤24∧Sk.iq g (bare l)=0)∧Bx w wx [(B5,bT g,28),(w.heap.size,bT g,23)])
   case first=>
    as_aux_lemma=>
     rcases ha0:decide (20<(g.kind.size:Int)) with _ | _
     · rcases ha1:decide ((24:Int)<(l.length:Int)) with _ | _
       · have ZC:∀ W:World,Bx w W [(B5,bT g,28),(w.heap.size,bT g,23)]∧W.cell? ⟨w.heap.size,0,none⟩=some (.string g.kind)→W.rangeAt (B5) 0 ([.string g.kind,.int .i64 g.bI,.int .i64 g.target,.int .i64 g.turns]):=fun W h=>h.1.rng 0 rfl 0 _ rfl
         have hL:=hL.drew;refine wp_region_held_drew (S:=(fun w':World=>Bx w w' [(B5,bT g,28),(w.heap.size,bT g,23)]∧w'.cell? ⟨w.heap.size,0,none⟩=some (.string g.kind))) (by kernel_rfl) ?iJ (fun hHeld=>?_)
         case iJ=>exact ⟨hL,(hL.get 1 rfl).cell (j:=0) rfl⟩
         refine tr 0 fun K hK=>?_;go_simp
         (go_at_call 12;refine (aw1 _ (HG.out.below hL.bw)).mono ?_;rintro e w2a ⟨rfl,OE⟩)
         have hL:=hL.call OE;refine hK.out _ _ ?ajo (fun hHeld=>?_)
         case ajo=>(exact ⟨hL,(hL.get 1 rfl).cell (j:=0) rfl⟩)
         clear hK K
         try simp only [Act.put,la,lz,ls]
         refine tk 1 ?_;refine tk 2 ?_;refine tk 3 ?_;refine tk 4 ?_;refine tk 5 ?_;refine tk 6 ?_;refine tk 7 ?_;refine tk 8 ?_;refine tk 9 ?_;refine tk 10 ?_;refine tk 11 ?_;refine tk 12 ?_;refine tk 13 ?_;refine tk 14 ?_;refine tr 15 fun K hK=>?_;go_simp
         (go_at_call 15;refine (Cc S l A c _ (hl.below hL.bw) hn).mono ?_;rintro e w2b ⟨A3,c3,rfl,hE,OG⟩)
         have hL:=hL.call OG;refine hK.out _ _ ?XL (fun hHeld=>?_)
         case XL=>(exact ⟨hL,(hL.get 1 rfl).cell (j:=0) rfl⟩)
         clear hK K
         try simp only [Act.put,la,lz,ls]
         refine tr 16 fun K hK=>?_;go_simp
         (go_at_call 14;refine (JE _ A3 c3 l 24 _ hE).mono ?_;rintro e w2c ⟨⟨bs,rfl⟩,Xa⟩)
         have hL:=hL.call Xa;refine hK.out _ _ ?JA (fun hHeld=>?_)
         case JA=>(exact ⟨hL,(hL.get 1 rfl).cell (j:=0) rfl⟩)
         clear hK K
         try simp only [Act.put,la,lz,ls]
         rcases bs with _ | _
         · refine tk 17 ?_
           refine tk 18 ?_;refine tk 19 ?_;refine tu 20 ?_;refine tu 21 ?_;refine tu 22 ?_;refine tu 23 ?_;refine tu 24 ?_;refine tk 25 ?_;refine wpAnyH_done (by kernel_rfl) ?_ _;go_wp2;go_meet
           first | exact ⟨_,rfl,fun h=>(by cases h),hL⟩ | exact ⟨_,rfl,fun h=>⟨by have:=of_decide_eq_false ha1;omega,ag5 h⟩,hL⟩
         · refine tk 17 ?_
           refine tk 18 ?_;refine tk 19 ?_;refine wpAnyH_take (i:=20) (oi:=_) (v:=_) (ga rfl) (by kernel_rfl) (by kernel_rfl) (by kernel_rfl) (fun _ _ _ h=>h) (yieldsIf_load_mid (by rfl) _ _ (by rfl) _ _ (by rfl) _ _ ZC Tryz.underlying28 rfl (by kernel_rfl)) (by assumption) ?_
           try simp only [Act.put,la,lz,ls]
           refine tk 21 ?_;refine tr 22 fun K hK=>?_;go_simp
           (go_at_call 15;refine (Cc S l A c _ (hl.below hL.bw) hn).mono ?_;rintro e w2d ⟨A4,c4,rfl,hF,ajV⟩)
           have hL:=hL.call ajV;refine hK.out _ _ ?afq (fun hHeld=>?_)
           case afq=>(exact ⟨hL,(hL.get 1 rfl).cell (j:=0) rfl⟩)
           clear hK K
           try simp only [Act.put,la,lz,ls]
           refine tr 23 fun K hK=>?_;go_simp
           (go_at_call 21;refine (JD _ g l A4 c4 _ hF).mono ?_;rintro e w2e ⟨rfl,aj3⟩)
           have hL:=hL.call aj3;refine hK.out _ _ ?afy (fun hHeld=>?_)
           case afy=>(exact ⟨hL,(hL.get 1 rfl).cell (j:=0) rfl⟩)
           clear hK K
           try simp only [Act.put,la,lz,ls]
           refine tk 24 ?_;refine tk 25 ?_;refine wpAnyH_done (by kernel_rfl) ?_ _;go_wp2;go_meet
           first | exact ⟨_,rfl,fun h=>(by cases h),hL⟩ | exact ⟨_,rfl,fun h=>⟨by have:=of_decide_eq_false ha1;omega,ag5 h⟩,hL⟩
       · have hL:=hL.drew
         refine wp_region_held_drew (S:=(fun w':World=>Bx w w' [(B5,bT g,28),(w.heap.size,bT g,23)]∧w'.cell? ⟨w.heap.size,0,none⟩=some (.string g.kind))) (by kernel_rfl) ?mJ (fun hHeld=>?_)
         case mJ=>exact ⟨hL,(hL.get 1 rfl).cell (j:=0) rfl⟩
         refine tr 0 fun K hK=>?_;go_simp
         (go_at_call 12;refine (aw1 _ (HG.out.below hL.bw)).mono ?_;rintro e w2a ⟨rfl,OE⟩)
         have hL:=hL.call OE;refine hK.out _ _ ?ajw (fun hHeld=>?_)
         case ajw=>(exact ⟨hL,(hL.get 1 rfl).cell (j:=0) rfl⟩)
         clear hK K
         try simp only [Act.put,la,lz,ls]
         refine tk 1 ?_;refine tk 2 ?_;refine tk 3 ?_;refine tk 4 ?_;refine tk 5 ?_;refine tk 6 ?_;refine tk 7 ?_;refine tk 8 ?_;refine tk 9 ?_;refine tk 10 ?_;refine tk 11 ?_;refine tk 12 ?_;refine tk 13 ?_;refine tu 14 ?_;refine tu 15 ?_;refine tu 16 ?_;refine tu 17 ?_;refine tk 18 ?_;refine tk 19 ?_;refine tu 20 ?_;refine tu 21 ?_;refine tu 22 ?_;refine tu 23 ?_;refine tu 24 ?_;refine tk 25 ?_;refine wpAnyH_done (by kernel_rfl) ?_ _;go_wp2;go_meet;exact ⟨_,rfl,fun h=>(by cases h),hL⟩
     · have hL:=hL.drew
       refine wp_region_held_drew (S:=(fun w':World=>Bx w w' [(B5,bT g,28),(w.heap.size,bT g,23)]∧w'.cell? ⟨w.heap.size,0,none⟩=some (.string g.kind))) (by kernel_rfl) ?mM (fun hHeld=>?_)
       case mM=>exact ⟨hL,(hL.get 1 rfl).cell (j:=0) rfl⟩
       refine tr 0 fun K hK=>?_;go_simp
       (go_at_call 12;refine (aw1 _ (HG.out.below hL.bw)).mono ?_;rintro e w2a ⟨rfl,OE⟩)
       have hL:=hL.call OE;refine hK.out _ _ ?ajE (fun hHeld=>?_)
       case ajE=>(exact ⟨hL,(hL.get 1 rfl).cell (j:=0) rfl⟩)
       clear hK K
       try simp only [Act.put,la,lz,ls]
       refine tk 1 ?_;refine tk 2 ?_;refine tk 3 ?_;refine tk 4 ?_;refine tk 5 ?_;refine tk 6 ?_;refine tk 7 ?_;refine tk 8 ?_;refine tu 9 ?_;refine tu 10 ?_;refine tu 11 ?_;refine tk 12 ?_;refine tk 13 ?_;refine tu 14 ?_;refine tu 15 ?_;refine tu 16 ?_;refine tu 17 ?_;refine tk 18 ?_;refine tk 19 ?_;refine tu 20 ?_;refine tu 21 ?_;refine tu 22 ?_;refine tu 23 ?_;refine tu 24 ?_;refine tk 25 ?_;refine wpAnyH_done (by kernel_rfl) ?_ _;go_wp2;go_meet;exact ⟨_,rfl,fun h=>(by cases h),hL⟩
   case rest=>
    obtain ⟨b,rfl,hf,hL⟩:=hcut
    cases b
    rotate_left
    · clear hf
      go_wp2_with (first | (go_at_call 12;refine (aw1 _ (HG.out.below hL.bw)).mono ?_;rintro e w1 ⟨rfl,hb1⟩;have hL:=hL.call hb1))
      go_ret;exact ⟨rfl,hL.bw⟩
    obtain ⟨Kq,hck⟩:=hf rfl;have ahC:=tq hck;have pq:=hide hck;have HPT:=hide ahC;have HKG:=hide ahC.1;clear hf hck ahC;have hst:=fun W=>uz g W;rw [HKG.out,if_pos rfl] at hst;have HST:=hide hst;clear hst
    go_upto_region 4 with (fail)
    go_cut [6,7] from 6 to 57 (fun v6 v7 wx=>∃ B6,v6=ptr B6∧v7= .int .i64 0∧Bx w wx [(B6,aO (Sk.start g),26),(B5,bT g,28),(w.heap.size,bT g,23)])
    case first=>
     go_wp2_with (first | ((with_reducible (refine ah 23 (.tmp 2) ?lx ?_));(case lx=>rfl);refine aK (hL.rng 1 rfl 0 ([.string g.kind,.int .i64 g.bI,.int .i64 g.target,.int .i64 g.turns]) rfl) Tryz.underlying23 rfl cZ rfl (.tmp 2) rfl rfl ?_) | ((with_reducible (refine ah 23 (.tmp 2) ?lx ?_));(case lx=>rfl);refine fA (hL.rng 1 rfl 0 ([.string g.kind,.int .i64 g.bI,.int .i64 g.target,.int .i64 g.turns]) rfl) Tryz.underlying23 rfl cZ rfl (.tmp 2) rfl rfl ?_) | ((with_reducible (refine aI 23 (.tmp 2) ?lx ?_));(case lx=>rfl);refine eu (hL.rng 1 rfl 0 ([.string g.kind,.int .i64 g.bI,.int .i64 g.target,.int .i64 g.turns]) rfl) Tryz.underlying23 rfl cZ (.tmp 2) rfl rfl ?_) | (go_at_call 22;refine (HST.out _).mono ?_;rintro e w5 ⟨rfl,hb5⟩;have hL:=hL.call hb5))
     have hZ:=hL.add (aO (Sk.start g)) 26;go_meet;exact ⟨_,rfl,rfl,hZ⟩
    case rest=>
     obtain ⟨B6,rfl,rfl,hL⟩:=hcut;clear HST;go_wp2
     go_loopw [8,9,10,61] (fun v8 v9 v10 i wr=>∃ (k:Nat) (A8:Option Addr) (c8:Nat),k≤l.length∧i= .int .i64 k∧v8= .slice A8 (kpE g l k).length c8∧v9= .int .i64 ((jq g l k).s0+(jq g l k).s1)∧v10= .int .i64 ((kV g l k).length:Int)∧Bx w wr [(B6,aO (jq g l k),26),(B5,bT g,28),(w.heap.size,bT g,23)]∧wr.ownsRow w.heap.size 83 5 (.slice A8 (kpE g l k).length c8) (kpE g l k).length (yQ (kpE g l k))) (fun _ _ _ i _=>l.length - (intOf i).toNat)
     case atStart=>exact ⟨0,none,0,Nat.zero_le _,rfl,rfl,by rw [qV];rfl,by simp [kV,bare,Sk.gu],by rw [qV];exact hL,World.ownsRow_nil _ _ _ _⟩
     case round=>
      obtain ⟨k,A8,c8,hk,rfl,rfl,rfl,rfl,hM,hO⟩:=hrel;clear hL
      by_cases hlt:k<l.length
      · clear pq
        obtain ⟨b,o,hAb,_,hbl,_⟩:=(hl.below hM.bw).at_ k hlt;subst hAb;have h01:wr.rangeAt b (o+k*5) ([.string l[k].x.kind,.string l[k].x.called,.slice l[k].A l[k].x.hits.length l[k].a,.slice l[k].B l[k].x.aV.length l[k].b,.int .i64 l[k].x.bD]):=tC hl hlt hM.bw rfl;have hent:=(hl.below hM.bw).ent k hlt;have hok:=zF HKG.out HPT.out.2.1 k hk;have hsx:=HPT.out.2.1 _ (List.getElem_mem hlt);have hs1:=qU g l k hlt;have hpt:=ad5 (g:=g) hlt;have hpn:=af7 (g:=g) hlt;have hrf:=GV g l k hlt;have hkl:=acX g l k;have hrl:=Bj g l k;obtain ⟨s,hs⟩:∃ q,jq g l k=q:=⟨_,rfl⟩;obtain ⟨x,hx⟩:∃ q,l[k]=q:=⟨_,rfl⟩;rw [hs] at hok hs1 hpt hpn hrf hM ⊢;rw [hx] at h01 hent hsx hs1 hpt hpn hrf;obtain ⟨ns,nr⟩:=hok.inr.s0;obtain ⟨ns1,nr1⟩:=hok.inr.s1;obtain ⟨ql,qe,qn⟩:=agh hok hsx;have hck:=adF hok hsx;obtain ⟨n,Vz⟩:∃ q,Sk.legal g s x.x=q:=⟨_,rfl⟩;obtain ⟨t,htg⟩:∃ q,nxS g s x.x=q:=⟨_,rfl⟩;have hc1:=fun W=>EJ g s W;rw [Sk.kG.2 hok] at hc1;have hc2:=fun W h=>uw S g s x W h;rw [ql,hck,Vz] at hc2;have hc3:=fun W h=>GR S g s x W h;rw [qe,htg,Vz] at hc3;obtain ⟨E,hE⟩:∃ q,(if n=0 then (0:Int) else 18)=q:=⟨_,rfl⟩;rw [hE] at hc3;have HEE:=hide hE;rw [htg,Vz] at qn;rw [Vz] at hpt hpn hrf;have HC1:=hide hc1;have HLG:=hide hc2;have HNX:=hide hc3;have HS:=hide hs;have HX:=hide hx;have HOK:=hide hok;have HPN:=hide (And.intro hpt (And.intro hpn hrf));have Ho:=hide hs1;have HQN:=hide qn;have HNG:=hide Vz;clear hE hc1 hc2 hc3 hs hx hpt hpn hrf hs1 qn ql qe hck htg;have hL:=Bx.nil wr
        have i1:(0:Int)≤(k:Int):=by omega
        have i2:(k:Int)<(l.length:Int):=by omega
        go_upto_region 14 with (first | ((with_reducible (refine ah 28 (.tmp 5) ?lx ?_));(case lx=>rfl);refine aK ((hM.call hL.bw).rng 1 rfl 0 ([.string g.kind,.int .i64 g.bI,.int .i64 g.target,.int .i64 g.turns]) rfl) Tryz.underlying28 rfl bY rfl (.tmp 5) rfl rfl ?_) | ((with_reducible (refine ah 28 (.tmp 5) ?lx ?_));(case lx=>rfl);refine fA ((hM.call hL.bw).rng 1 rfl 0 ([.string g.kind,.int .i64 g.bI,.int .i64 g.target,.int .i64 g.turns]) rfl) Tryz.underlying28 rfl bY rfl (.tmp 5) rfl rfl ?_) | ((with_reducible (refine aI 28 (.tmp 5) ?lx ?_));(case lx=>rfl);refine eu ((hM.call hL.bw).rng 1 rfl 0 ([.string g.kind,.int .i64 g.bI,.int .i64 g.target,.int .i64 g.turns]) rfl) Tryz.underlying28 rfl bY (.tmp 5) rfl rfl ?_) | ((with_reducible (refine ah 26 (.tmp 6) ?lx ?_));(case lx=>rfl);refine aK ((hM.call hL.bw).rng 0 rfl 0 ([.int .i64 s.turn,.int .i64 s.s0,.int .i64 s.s1,.int .i64 s.brk,.string s.phase,.int .i64 s.bI,.int .i64 s.colour,.bool s.free,.bool s.aT,.int .i64 s.aP,.int .i64 s.t0,.int .i64 s.t1,.int .i64 s.aB]) rfl) Tryz.underlying26 rfl ak rfl (.tmp 6) rfl rfl ?_) | ((with_reducible (refine ah 26 (.tmp 6) ?lx ?_));(case lx=>rfl);refine fA ((hM.call hL.bw).rng 0 rfl 0 ([.int .i64 s.turn,.int .i64 s.s0,.int .i64 s.s1,.int .i64 s.brk,.string s.phase,.int .i64 s.bI,.int .i64 s.colour,.bool s.free,.bool s.aT,.int .i64 s.aP,.int .i64 s.t0,.int .i64 s.t1,.int .i64 s.aB]) rfl) Tryz.underlying26 rfl ak rfl (.tmp 6) rfl rfl ?_) | ((with_reducible (refine aI 26 (.tmp 6) ?lx ?_));(case lx=>rfl);refine eu ((hM.call hL.bw).rng 0 rfl 0 ([.int .i64 s.turn,.int .i64 s.s0,.int .i64 s.s1,.int .i64 s.brk,.string s.phase,.int .i64 s.bI,.int .i64 s.colour,.bool s.free,.bool s.aT,.int .i64 s.aP,.int .i64 s.t0,.int .i64 s.t1,.int .i64 s.aB]) rfl) Tryz.underlying26 rfl ak (.tmp 6) rfl rfl ?_) | (go_at_call 19;refine (HC1.out _).mono ?_;rintro e w2 ⟨rfl,hb2⟩;have hL:=hL.call hb2))
        go_cut [12,13] from 62 to 78 (fun v12 v13 wx=>v12= .int .i64 n∧v13= .int .i64 0∧Bx wr wx [])
        case first=>
         as_aux_lemma=>
          have Xk:∀ W:World,Bx wr W []→W.rangeAt (w.heap.size) 0 ([.string g.kind,.int .i64 g.bI,.int .i64 g.target,.int .i64 g.turns]):=fun W h=>(hM.call h.bw).rng 2 rfl 0 _ rfl;have ahK:∀ W:World,Bx wr W []→W.rangeAt (B6) 0 ([.int .i64 s.turn,.int .i64 s.s0,.int .i64 s.s1,.int .i64 s.brk,.string s.phase,.int .i64 s.bI,.int .i64 s.colour,.bool s.free,.bool s.aT,.int .i64 s.aP,.int .i64 s.t0,.int .i64 s.t1,.int .i64 s.aB]):=fun W h=>(hM.call h.bw).rng 0 rfl 0 _ rfl;have ahS:∀ W:World,Bx wr W []→W.rangeAt (b) (o+k*5) ([.string x.x.kind,.string x.x.called,.slice x.A x.x.hits.length x.a,.slice x.B x.x.aV.length x.b,.int .i64 x.x.bD]):=fun W h=>fun j v hj=>((h.bw.cell (p:=⟨b,o+k*5+j,none⟩) hbl).trans (h01 j v hj));have hL:=hL.drew;refine wp_region_held_drew (S:=(fun w':World=>Bx wr w' [])) (by kernel_rfl) ?bW (fun hHeld=>?_)
          case bW=>exact hL
          refine wpAnyH_take (i:=0) (oi:=_) (v:=_) (ga rfl) (by kernel_rfl) (by kernel_rfl) (by kernel_rfl) (fun _ _ _ h=>h) (yieldsIf_load_mid (by rfl) _ _ (by rfl) _ _ (by rfl) _ _ Xk Tryz.underlying23 rfl (by kernel_rfl)) (by assumption) ?_
          try simp only [Act.put,la,lz,ls]
          refine wpAnyH_take (i:=1) (oi:=_) (v:=_) (ga rfl) (by kernel_rfl) (by kernel_rfl) (by kernel_rfl) (fun _ _ _ h=>h) (yieldsIf_load_mid (by rfl) _ _ (by rfl) _ _ (by rfl) _ _ ahK Tryz.underlying26 rfl (by kernel_rfl)) (by assumption) ?_
          try simp only [Act.put,la,lz,ls]
          refine tk 2 ?_;refine tk 3 ?_;refine tk 4 ?_;refine wpAnyH_take (i:=5) (oi:=_) (v:=_) (ga rfl) (by kernel_rfl) (by kernel_rfl) (by kernel_rfl) (fun _ _ _ h=>h) (yieldsIf_load_mid (by rfl) _ _ (by rfl) _ _ (by rfl) _ _ ahS Tryz.underlying83 rfl (by kernel_rfl)) (by assumption) ?_
          try simp only [Act.put,la,lz,ls]
          refine tr 6 fun K hK=>?_;go_simp
          (go_at_call 45;refine (HLG.out _ (hent.below hL.bw)).mono ?_;rintro e avF ⟨rfl,OA⟩)
          have hL:=hL.call OA;refine hK.out _ _ ?aax (fun hHeld=>?_)
          case aax=>(exact hL)
          clear hK K
          try simp only [Act.put,la,lz,ls]
          refine tk 7 ?_;refine tk 8 ?_;refine tk 9 ?_;refine tk 10 ?_;refine tk 11 ?_;refine wpAnyH_done (by kernel_rfl) ?_ _;go_wp2;go_meet;exact ⟨rfl,rfl,hL⟩
        case rest=>
         obtain ⟨rfl,rfl,hL⟩:=hcut
         go_upto_region 15 with (fail)
         go_cut [14,15] from 78 to 88 (fun v14 v15 wx=>∃ qg,v14=ptr qg∧v15= .int .i64 E∧Bx wr wx [(qg,aO t,26)])
         case first=>
          as_aux_lemma=>
           have ah0:∀ W:World,Bx wr W []→W.rangeAt (w.heap.size) 0 ([.string g.kind,.int .i64 g.bI,.int .i64 g.target,.int .i64 g.turns]):=fun W h=>(hM.call h.bw).rng 2 rfl 0 _ rfl;have ah9:∀ W:World,Bx wr W []→W.rangeAt (B6) 0 ([.int .i64 s.turn,.int .i64 s.s0,.int .i64 s.s1,.int .i64 s.brk,.string s.phase,.int .i64 s.bI,.int .i64 s.colour,.bool s.free,.bool s.aT,.int .i64 s.aP,.int .i64 s.t0,.int .i64 s.t1,.int .i64 s.aB]):=fun W h=>(hM.call h.bw).rng 0 rfl 0 _ rfl;have aik:∀ W:World,Bx wr W []→W.rangeAt (b) (o+k*5) ([.string x.x.kind,.string x.x.called,.slice x.A x.x.hits.length x.a,.slice x.B x.x.aV.length x.b,.int .i64 x.x.bD]):=fun W h=>fun j v hj=>((h.bw.cell (p:=⟨b,o+k*5+j,none⟩) hbl).trans (h01 j v hj));have hL:=hL.drew;refine wp_region_held_drew (S:=(fun w':World=>Bx wr w' [])) (by kernel_rfl) ?dI (fun hHeld=>?_)
           case dI=>exact hL
           refine wpAnyH_take (i:=0) (oi:=_) (v:=_) (ga rfl) (by kernel_rfl) (by kernel_rfl) (by kernel_rfl) (fun _ _ _ h=>h) (yieldsIf_load_mid (by rfl) _ _ (by rfl) _ _ (by rfl) _ _ ah0 Tryz.underlying23 rfl (by kernel_rfl)) (by assumption) ?_
           try simp only [Act.put,la,lz,ls]
           refine wpAnyH_take (i:=1) (oi:=_) (v:=_) (ga rfl) (by kernel_rfl) (by kernel_rfl) (by kernel_rfl) (fun _ _ _ h=>h) (yieldsIf_load_mid (by rfl) _ _ (by rfl) _ _ (by rfl) _ _ ah9 Tryz.underlying26 rfl (by kernel_rfl)) (by assumption) ?_
           try simp only [Act.put,la,lz,ls]
           refine tk 2 ?_;refine tk 3 ?_;refine tk 4 ?_;refine wpAnyH_take (i:=5) (oi:=_) (v:=_) (ga rfl) (by kernel_rfl) (by kernel_rfl) (by kernel_rfl) (fun _ _ _ h=>h) (yieldsIf_load_mid (by rfl) _ _ (by rfl) _ _ (by rfl) _ _ aik Tryz.underlying83 rfl (by kernel_rfl)) (by assumption) ?_
           try simp only [Act.put,la,lz,ls]
           refine wpAnyH_ready (rs:=[6,10]) (by kernel_rfl) (by simp) ?_;refine AllReadyH.cons (o:=_) (ga rfl) (fun K hK=>?_) (AllReadyH.cons (o:=_) (ga rfl) (fun K hK=>?_) AllReadyH.nil)
           · go_simp
             (go_at_call 46;refine (HNX.out _ (hent.below hL.bw)).mono ?_;rintro e avT ⟨rfl,Zk⟩)
             have hL:=hL.call Zk;refine hK.out _ _ ?agz (fun hHeld=>?_)
             case agz=>(first | exact hL | exact hL.tail)
             clear hK K
             try simp only [Act.put,la,lz,ls]
             refine tk 7 ?_;refine tk 8 ?_;refine tk 9 ?_;refine tr 10 fun K hK=>?_;go_simp;have hL:=hL.add (aO Sk.zero) 26;refine hK.out _ _ ?ael (fun hHeld=>?_)
             case ael=>(exact hL.tail)
             clear hK K
             try simp only [Act.put,la,lz,ls]
             refine tr 11 fun K hK=>?_;refine aU hL.head (aO t) rfl ak (bH _) (.tmp 14) (.tmp 86) rfl rfl rfl ?_;have hL:=hL.put (aO t) rfl;refine hK.out _ _ ?aeD (fun hHeld=>?_)
             case aeD=>(exact hL.tail)
             clear hK K
             try simp only [Act.put,la,lz,ls]
             refine tk 12 ?_;refine wpAnyH_done (by kernel_rfl) ?_ _;go_wp2;go_meet;exact ⟨_,rfl,rfl,hL⟩
           · go_simp
             have hL:=hL.add (aO Sk.zero) 26;refine hK.out _ _ ?aev (fun hHeld=>?_)
             case aev=>(exact hL.tail)
             clear hK K
             try simp only [Act.put,la,lz,ls]
             refine tr 6 fun K hK=>?_;go_simp
             (go_at_call 46;refine (HNX.out _ (hent.below hL.bw)).mono ?_;rintro e avT ⟨rfl,Zk⟩)
             have hL:=hL.call Zk;refine hK.out _ _ ?agH (fun hHeld=>?_)
             case agH=>(first | exact hL | exact hL.tail)
             clear hK K
             try simp only [Act.put,la,lz,ls]
             refine tk 7 ?_;refine tk 8 ?_;refine tk 9 ?_;refine tr 11 fun K hK=>?_;refine aU hL.head (aO t) rfl ak (bH _) (.tmp 14) (.tmp 86) rfl rfl rfl ?_;have hL:=hL.put (aO t) rfl;refine hK.out _ _ ?aeL (fun hHeld=>?_)
             case aeL=>(exact hL.tail)
             clear hK K
             try simp only [Act.put,la,lz,ls]
             refine tk 12 ?_;refine wpAnyH_done (by kernel_rfl) ?_ _;go_wp2;go_meet;exact ⟨_,rfl,rfl,hL⟩
         case rest=>
          obtain ⟨qg,rfl,rfl,hL⟩:=hcut
          by_cases h0:n=0
          rotate_left
          · as_aux_lemma=>
             have q1:(n == 0)=false:=by simpa using h0
             have q2:(n != 0)=true:=by simpa using h0
             obtain rfl:E=18:=by rw [← HEE.out,if_neg h0]
             have hMq:=hM.call hL.bw;have hOq:=adp hO hL.bw
             have hra:((kV g l k).length:Int)+1≤24:=by omega
             have e1:=HPN.out.2.1 h0;have e2:=HPN.out.2.2;rw [if_neg h0] at e2
             have e3:jq g l (k+1)=s:=by rw [Ho.out,Sk.ab1 (by rw [HNG.out];exact h0)]
             have e4:((kV g l (k+1)).length:Int)=(kV g l k).length+1:=by rw [e2];simp
             have HE:=hide (And.intro e1 (And.intro e3 e4));have HMQ:=hide (And.intro hMq hOq);clear e1 e2 e3 e4 hMq hOq h0 hM hO hL hent h01 hok;go_wp2
             go_roundw
             case rel=>exact ⟨k+1,A8,c8,by omega,by go_num,by rw [HE.out.1],by rw [HE.out.2.1],by rw [HE.out.2.2],by rw [HE.out.2.1];exact HMQ.out.1,by rw [HE.out.1];exact HMQ.out.2⟩
             case measure=>simp [intOf];omega
          · subst h0
            obtain rfl:t=Sk.next g s x.x:=HQN.out rfl
            obtain rfl:E=0:=by rw [← HEE.out,if_pos rfl]
            clear HQN HNX HLG HC1
            obtain ⟨t,htg⟩:∃ q,Sk.next g s x.x=q:=⟨_,rfl⟩
            rw [htg] at hL;have hst:=Sk.step_ok hok hsx;rw [Sk.abA HNG.out,htg] at hst;obtain ⟨ms,mr⟩:=hst.inr.s0;obtain ⟨ms1,mr1⟩:=hst.inr.s1;have HTG:=hide htg;clear htg hst;have ck0:=(hL.bw.cell (p:=⟨b,o+k*5+0,none⟩) hbl).trans (h01 0 _ rfl);rw [Nat.add_zero] at ck0;have hq2:=fun a b c d W=>MQ a b c d W;have hq3:=fun a b c d W=>Ru a b c d W;obtain ⟨bk,hbk⟩:∃ q,(x.x.kind.toList == [115,104,111,116])=q:=⟨_,rfl⟩
            go_upto_if 106 with (fail)
            go_cut [9,16,17] from 99 to 203 (fun v9 v16 v17 wx=>v9= .int .i64 (t.s0+t.s1)∧Bx wr wx [(qg,aO t,26)])
            case first=>
             as_aux_lemma=>
              cases bk
              · have hkd:x.x.kind≠Sk.dJ:=fun h=>by rw [wt h] at hbk;cases hbk
                obtain ⟨e1,e2⟩:=Sk.acP (g:=g) (s:=s) hkd;rw [HTG.out] at e1 e2
                have d1:(t.s0 == s.s0)=true:=by rw [e1];simp
                have d2:(t.s1 == s.s1)=true:=by rw [e2];simp
                have hsum:s.s0+s.s1=t.s0+t.s1:=by rw [e1,e2]
                have ajN:=hide hsum;clear e1 e2 hkd hsum hbk
                go_wp2_with (first | ((with_reducible (refine ah 24 (.tmp 198) ?lx ?_));(case lx=>rfl);refine aK (hL.rng 0 rfl 1 ([.int .i64 t.s0,.int .i64 t.s1]) rfl) Tryz.underlying24 rfl aal rfl (.tmp 198) rfl rfl ?_) | ((with_reducible (refine ah 24 (.tmp 198) ?lx ?_));(case lx=>rfl);refine fA (hL.rng 0 rfl 1 ([.int .i64 t.s0,.int .i64 t.s1]) rfl) Tryz.underlying24 rfl aal rfl (.tmp 198) rfl rfl ?_) | ((with_reducible (refine aI 24 (.tmp 198) ?lx ?_));(case lx=>rfl);refine eu (hL.rng 0 rfl 1 ([.int .i64 t.s0,.int .i64 t.s1]) rfl) Tryz.underlying24 rfl aal (.tmp 198) rfl rfl ?_) | ((with_reducible (refine ah 24 (.tmp 200) ?lx ?_));(case lx=>rfl);refine aK ((hM.call hL.bw).rng 0 rfl 1 ([.int .i64 s.s0,.int .i64 s.s1]) rfl) Tryz.underlying24 rfl aal rfl (.tmp 200) rfl rfl ?_) | ((with_reducible (refine ah 24 (.tmp 200) ?lx ?_));(case lx=>rfl);refine fA ((hM.call hL.bw).rng 0 rfl 1 ([.int .i64 s.s0,.int .i64 s.s1]) rfl) Tryz.underlying24 rfl aal rfl (.tmp 200) rfl rfl ?_) | ((with_reducible (refine aI 24 (.tmp 200) ?lx ?_));(case lx=>rfl);refine eu ((hM.call hL.bw).rng 0 rfl 1 ([.int .i64 s.s0,.int .i64 s.s1]) rfl) Tryz.underlying24 rfl aal (.tmp 200) rfl rfl ?_))
                go_meet;exact ⟨congrArg _ ajN.out,hL⟩
              · have hkd:x.x.kind=Sk.dJ:=wb hbk
                clear hbk;obtain ⟨j1,j2⟩:=afP hok hsx HNG.out hkd;have hvo:=Sk.abS hok hsx HNG.out hkd;have hsc:=adx hok hsx HNG.out hkd;have hc4:=fun W h=>zh S g s x W h;rw [j1,j2] at hc4;rw [HTG.out] at hsc;obtain ⟨⟨p,f,q,st⟩,hv⟩:∃ q,Sk.judge g s x.x=q:=⟨_,rfl⟩;rw [hv] at hc4 hvo hsc;obtain ⟨hsum,hfs⟩:=hsc
                dsimp only at hsum hfs
                have HJD:=hide hc4;clear hc4 j1 j2 hv hkd
                go_upto_region 21 with (fail)
                go_cut [16,17] from 107 to 117 (fun v16 v17 wx=>∃ Nr,v16=ptr Nr∧v17= .int .i64 0∧Bx wr wx [(Nr,fG ⟨p,f,q,st⟩,78),(qg,aO t,26)])
                case first=>
                 as_aux_lemma=>
                  have ait:∀ W:World,Bx wr W [(qg,aO t,26)]→W.rangeAt (w.heap.size) 0 ([.string g.kind,.int .i64 g.bI,.int .i64 g.target,.int .i64 g.turns]):=fun W h=>(hM.call h.bw).rng 2 rfl 0 _ rfl;have aiB:∀ W:World,Bx wr W [(qg,aO t,26)]→W.rangeAt (B6) 0 ([.int .i64 s.turn,.int .i64 s.s0,.int .i64 s.s1,.int .i64 s.brk,.string s.phase,.int .i64 s.bI,.int .i64 s.colour,.bool s.free,.bool s.aT,.int .i64 s.aP,.int .i64 s.t0,.int .i64 s.t1,.int .i64 s.aB]):=fun W h=>(hM.call h.bw).rng 0 rfl 0 _ rfl;have aiJ:∀ W:World,Bx wr W [(qg,aO t,26)]→W.rangeAt (b) (o+k*5) ([.string x.x.kind,.string x.x.called,.slice x.A x.x.hits.length x.a,.slice x.B x.x.aV.length x.b,.int .i64 x.x.bD]):=fun W h=>fun j v hj=>((h.bw.cell (p:=⟨b,o+k*5+j,none⟩) hbl).trans (h01 j v hj));have hL:=hL.drew;refine wp_region_held_drew (S:=(fun w':World=>Bx wr w' [(qg,aO t,26)])) (by kernel_rfl) ?dS (fun hHeld=>?_)
                  case dS=>exact hL
                  refine wpAnyH_take (i:=0) (oi:=_) (v:=_) (ga rfl) (by kernel_rfl) (by kernel_rfl) (by kernel_rfl) (fun _ _ _ h=>h) (yieldsIf_load_mid (by rfl) _ _ (by rfl) _ _ (by rfl) _ _ ait Tryz.underlying23 rfl (by kernel_rfl)) (by assumption) ?_
                  try simp only [Act.put,la,lz,ls]
                  refine wpAnyH_take (i:=1) (oi:=_) (v:=_) (ga rfl) (by kernel_rfl) (by kernel_rfl) (by kernel_rfl) (fun _ _ _ h=>h) (yieldsIf_load_mid (by rfl) _ _ (by rfl) _ _ (by rfl) _ _ aiB Tryz.underlying26 rfl (by kernel_rfl)) (by assumption) ?_
                  try simp only [Act.put,la,lz,ls]
                  refine tk 2 ?_;refine tk 3 ?_;refine tk 4 ?_;refine wpAnyH_take (i:=5) (oi:=_) (v:=_) (ga rfl) (by kernel_rfl) (by kernel_rfl) (by kernel_rfl) (fun _ _ _ h=>h) (yieldsIf_load_mid (by rfl) _ _ (by rfl) _ _ (by rfl) _ _ aiJ Tryz.underlying83 rfl (by kernel_rfl)) (by assumption) ?_
                  try simp only [Act.put,la,lz,ls]
                  refine wpAnyH_ready (rs:=[6,10]) (by kernel_rfl) (by simp) ?_;refine AllReadyH.cons (o:=_) (ga rfl) (fun K hK=>?_) (AllReadyH.cons (o:=_) (ga rfl) (fun K hK=>?_) AllReadyH.nil)
                  · go_simp
                    (go_at_call 43;refine (HJD.out _ (hent.below hL.bw)).mono ?_;rintro e aku ⟨rfl,afH⟩)
                    have hL:=hL.call afH;refine hK.out _ _ ?agP (fun hHeld=>?_)
                    case agP=>(first | exact hL | exact hL.tail)
                    clear hK K
                    try simp only [Act.put,la,lz,ls]
                    refine tk 7 ?_;refine tk 8 ?_;refine tk 9 ?_;refine tr 10 fun K hK=>?_;go_simp;have hL:=hL.add (fG ⟨0,0,0,false⟩) 78;refine hK.out _ _ ?aeU (fun hHeld=>?_)
                    case aeU=>(exact hL.tail)
                    clear hK K
                    try simp only [Act.put,la,lz,ls]
                    refine tr 11 fun K hK=>?_;refine aU hL.head (fG ⟨p,f,q,st⟩) rfl dQ (jd _) (.tmp 16) (.tmp 115) rfl rfl rfl ?_;have hL:=hL.put (fG ⟨p,f,q,st⟩) rfl;refine hK.out _ _ ?afa (fun hHeld=>?_)
                    case afa=>(exact hL.tail)
                    clear hK K
                    try simp only [Act.put,la,lz,ls]
                    refine tk 12 ?_;refine wpAnyH_done (by kernel_rfl) ?_ _;go_wp2;go_meet;exact ⟨_,rfl,rfl,hL⟩
                  · go_simp
                    have hL:=hL.add (fG ⟨0,0,0,false⟩) 78;refine hK.out _ _ ?ae2 (fun hHeld=>?_)
                    case ae2=>(exact hL.tail)
                    clear hK K
                    try simp only [Act.put,la,lz,ls]
                    refine tr 6 fun K hK=>?_;go_simp
                    (go_at_call 43;refine (HJD.out _ (hent.below hL.bw)).mono ?_;rintro e aku ⟨rfl,afH⟩)
                    have hL:=hL.call afH;refine hK.out _ _ ?agX (fun hHeld=>?_)
                    case agX=>(first | exact hL | exact hL.tail)
                    clear hK K
                    try simp only [Act.put,la,lz,ls]
                    refine tk 7 ?_;refine tk 8 ?_;refine tk 9 ?_;refine tr 11 fun K hK=>?_;refine aU hL.head (fG ⟨p,f,q,st⟩) rfl dQ (jd _) (.tmp 16) (.tmp 115) rfl rfl rfl ?_;have hL:=hL.put (fG ⟨p,f,q,st⟩) rfl;refine hK.out _ _ ?afi (fun hHeld=>?_)
                    case afi=>(exact hL.tail)
                    clear hK K
                    try simp only [Act.put,la,lz,ls]
                    refine tk 12 ?_;refine wpAnyH_done (by kernel_rfl) ?_ _;go_wp2;go_meet;exact ⟨_,rfl,rfl,hL⟩
                case rest=>
                 obtain ⟨Nr,rfl,rfl,hL⟩:=hcut;have hv1:=hvo.points;have hv2:=hvo.penalty;have hv3:=hvo.gB;have hv4:=hvo.both;have hv5:=hvo.none_;have hv6:=hvo.stays;have hv7:=hvo.ar4;have hv8:=hvo.zero
                 dsimp only at hv1 hv2 hv3 hv4 hv5 hv6 hv7 hv8
                 have hqq:q≤300000:=by omega
                 have hpp:p≤300000:=by omega
                 clear hvo
                 go_upto_region 22 with (fail)
                 go_cut [172] from 117 to 173 (fun ake wx=>ake= .bool false∧Bx wr wx [(Nr,fG ⟨p,f,q,st⟩,78),(qg,aO t,26)])
                 case first=>
                  have kv0:=(hL.get 0 rfl).cell (j:=0) rfl;have kv1:=(hL.get 0 rfl).cell (j:=1) rfl;have kv2:=(hL.get 0 rfl).cell (j:=2) rfl;have kv3:=(hL.get 0 rfl).cell (j:=3) rfl;have ks0:=((hM.call hL.bw).get 0 rfl).cell (j:=0) rfl;have ks1:=((hM.call hL.bw).get 0 rfl).cell (j:=1) rfl;have ks2:=((hM.call hL.bw).get 0 rfl).cell (j:=2) rfl;have kt1:=(hL.get 1 rfl).cell (j:=1) rfl;have kt2:=(hL.get 1 rfl).cell (j:=2) rfl
                  dsimp only [fG] at kv0 kv1 kv2 kv3
                  rcases hfz:decide (0<f) with _ | _
                  · have hf0:f=0:=by have:=of_decide_eq_false hfz;omega
                    have hq0:=hv8 hf0
                    rcases hpz:decide (0<p) with _ | _
                    · have hp0:p=0:=by have:=of_decide_eq_false hpz;omega
                      rw [hpz] at hv6;rw [hf0] at kv1;rw [hp0] at kv0;rw [hq0] at kv2;rw [hv6] at kv3;clear hfs hsum hv1 hv2 hv3 hv4 hv5 hv6 hv7 hv8 hfz hpz hp0 hf0 hq0;go_wp2
                      go_quiet (fail)
                      go_wp2;go_meet;exact ⟨rfl,hL.drewN nq⟩
                    · have hp1:decide (p<0)=false:=decide_eq_false (by omega)
                      rw [hpz] at hv6;rw [hf0] at kv1;rw [hq0] at kv2;rw [hv6] at kv3;clear hfs hsum hv1 hv2 hv3 hv4 hv5 hv6 hv7 hv8 hfz hf0 hq0;go_wp2
                      go_quiet (fail)
                      go_wp2;go_meet;exact ⟨rfl,hL.drewN nq⟩
                  · have hf0:0<f:=of_decide_eq_true hfz
                    obtain ⟨hp0,ajg⟩:=hv5 hf0;have hq0:decide (0<q)=true:=decide_eq_true (hv4.1 hf0);have hq1:decide (q<0)=false:=decide_eq_false (by omega);have ahd:=hfs hf0;rw [hp0] at kv0;rw [ajg] at kv3;clear hfs hsum hv1 hv2 hv3 hv4 hv5 hv6 hv7 hv8 hp0 ajg hf0
                    rcases hok.inr.turn with ht | ht
                    · rw [ht] at ks0
                      rw [ahd.1 ht] at kt1;clear ahd ht ks2 kt2
                      have hz1:(s.s0 != s.s0)=false:=by simp
                      go_wp2
                      go_quiet (fail)
                      go_wp2;go_meet;exact ⟨rfl,hL.drewN nq⟩
                    · rw [ht] at ks0
                      rw [ahd.2 ht] at kt2;clear ahd ht ks1 kt1
                      have hz1:(s.s1 != s.s1)=false:=by simp
                      go_wp2
                      go_quiet (fail)
                      go_wp2;go_meet;exact ⟨rfl,hL.drewN nq⟩
                 case rest=>
                  obtain ⟨rfl,hL⟩:=hcut
                  go_upto_region 24 with (fail)
                  go_cut [190] from 173 to 191 (fun akm wx=>akm= .bool false∧Bx wr wx [(Nr,fG ⟨p,f,q,st⟩,78),(qg,aO t,26)])
                  case first=>
                   have kv0:=(hL.get 0 rfl).cell (j:=0) rfl;have kv1:=(hL.get 0 rfl).cell (j:=1) rfl;have kv2:=(hL.get 0 rfl).cell (j:=2) rfl;have kv3:=(hL.get 0 rfl).cell (j:=3) rfl
                   dsimp only [fG] at kv0 kv1 kv2 kv3
                   have kg0:=((hM.call hL.bw).get 2 rfl).cell (j:=0) rfl
                   rcases hgk:(g.kind.toList == [115,110,111,111,107,101,114]) with _ | _
                   · clear hfs hsum hv1 hv2 hv3 hv4 hv5 hv6 hv7 hv8
                     go_wp2;go_meet;exact ⟨rfl,hL⟩
                   · have hg7:=hv7 (wb hgk)
                     rcases hfz:decide (0<f) with _ | _
                     · clear hfs hsum hv1 hv2 hv3 hv4 hv5 hv6 hv7 hv8 hg7
                       go_wp2;go_meet;exact ⟨rfl,hL⟩
                     · obtain ⟨g4,g5⟩:=hg7 (of_decide_eq_true hfz)
                       have g6:decide (q<4)=false:=decide_eq_false (by omega);have g7:decide (7<q)=false:=decide_eq_false (by omega);clear hfs hsum hv1 hv2 hv3 hv4 hv5 hv6 hv7 hv8 hg7 g4 g5;go_wp2;go_meet;exact ⟨rfl,hL⟩
                  case rest=>
                   obtain ⟨rfl,hL⟩:=hcut;have kv0:=(hL.get 0 rfl).cell (j:=0) rfl;have kv1:=(hL.get 0 rfl).cell (j:=1) rfl;have kv2:=(hL.get 0 rfl).cell (j:=2) rfl;have kv3:=(hL.get 0 rfl).cell (j:=3) rfl
                   dsimp only [fG] at kv0 kv1 kv2 kv3
                   clear hfs hv4 hv5 hv6 hv7 hv8;go_wp2;go_meet;exact ⟨congrArg _ (by omega),hL.tail⟩
            case rest=>
             obtain ⟨rfl,hL⟩:=hcut;clear hbk;obtain ⟨i0,hi0,hz0,hz1,hz2⟩:=info_parts agq;have hOw:=adp hO hL.bw;have ai8:wc.rangeAt b (o+k*5) ([.string x.x.kind,.string x.x.called,.slice x.A x.x.hits.length x.a,.slice x.B x.x.aV.length x.b,.int .i64 x.x.bD]):=fun j v hj=>(hL.bw.cell (p:=⟨b,o+k*5+j,none⟩) hbl).trans (h01 j v hj);have hJ:=hM.join hL
             have hkl2:(kpE g l k).length≤24:=by omega
             have au5:=(hM.call hL.bw).bw.size
             go_upto_region 30 with (first | ((with_reducible (refine ah 83 (.tmp 206) ?lx ?_));(case lx=>rfl);refine aK (g:=b) (o:=o+k*5) ai8 Tryz.underlying83 rfl bF rfl (.tmp 206) rfl rfl ?_) | (at_builtin;refine wpList_append_lies _ rfl _ _ _ rfl w.heap.size 83 i0 (.agg #[.string ⟨#[]⟩,.string ⟨#[]⟩,.slice none 0 0,.slice none 0 0,.int .i64 0]) 5 88 Tryz.underlying27 hi0 hz0 hz1 hz2 rfl (by omega) _ _ _ rfl (hOw.alloc _) ⟨wc.heap.size,0,none⟩ 1 1 ([.string x.x.kind,.string x.x.called,.slice x.A x.x.hits.length x.a,.slice x.B x.x.aV.length x.b,.int .i64 x.x.bD]) rfl rfl (jW _ _ _ _ (by simp)) (Ih x) (by omega) (by simp only [maxLen];omega) (by omega) (by simp;omega) (wc.heap.size+1) (by simp) ?_))
             intro g1 cap w6 hown6 hgrow hat akD;have hJ6:=(hJ.alloc _).ai0 (hOw.alloc _) hgrow rfl;have e1:=HPN.out.1 (by first | trivial | rfl)
             have e2:kV g l (k+1)=kV g l k:=by have h:=HPN.out.2.2;simpa using h
             have e3:jq g l (k+1)=t:=by rw [Ho.out,Sk.abA HNG.out,HTG.out]
             have e4:yQ (kpE g l (k+1))=yQ (kpE g l k)++[.string x.x.kind,.string x.x.called,.slice x.A x.x.hits.length x.a,.slice x.B x.x.aV.length x.b,.int .i64 x.x.bD]:=by rw [e1,vS];simp [yQ,dU]
             rw [← e4] at hown6;have HE:=hide (And.intro e1 (And.intro e2 e3));have HO6:=hide hown6
             have hle:(kpE g l (k+1)).length=(kpE g l k).length+1:=by rw [HE.out.1];simp
             clear e1 e2 e3 e4 hown6 hgrow hat hOw hJ hM hO hL hent h01 ai8 hok
             go_wp2_with (first | ((with_reducible (refine ah 26 (.tmp 14) ?lx ?_));(case lx=>rfl);refine aK (hJ6.rng 0 rfl 0 ([.int .i64 t.turn,.int .i64 t.s0,.int .i64 t.s1,.int .i64 t.brk,.string t.phase,.int .i64 t.bI,.int .i64 t.colour,.bool t.free,.bool t.aT,.int .i64 t.aP,.int .i64 t.t0,.int .i64 t.t1,.int .i64 t.aB]) rfl) Tryz.underlying26 rfl ak rfl (.tmp 14) rfl rfl ?_) | ((with_reducible (refine ah 26 (.tmp 14) ?lx ?_));(case lx=>rfl);refine fA (hJ6.rng 0 rfl 0 ([.int .i64 t.turn,.int .i64 t.s0,.int .i64 t.s1,.int .i64 t.brk,.string t.phase,.int .i64 t.bI,.int .i64 t.colour,.bool t.free,.bool t.aT,.int .i64 t.aP,.int .i64 t.t0,.int .i64 t.t1,.int .i64 t.aB]) rfl) Tryz.underlying26 rfl ak rfl (.tmp 14) rfl rfl ?_) | ((with_reducible (refine aI 26 (.tmp 14) ?lx ?_));(case lx=>rfl);refine eu (hJ6.rng 0 rfl 0 ([.int .i64 t.turn,.int .i64 t.s0,.int .i64 t.s1,.int .i64 t.brk,.string t.phase,.int .i64 t.bI,.int .i64 t.colour,.bool t.free,.bool t.aT,.int .i64 t.aP,.int .i64 t.t0,.int .i64 t.t1,.int .i64 t.aB]) rfl) Tryz.underlying26 rfl ak (.tmp 14) rfl rfl ?_) | ((with_reducible (refine aH 26 (.tmp 6) (.tmp 210) ?lx ?_));(case lx=>rfl);refine aC (hJ6.get 1 rfl) (aO t) rfl ak (bH _) rfl (.tmp 6) (.tmp 210) rfl rfl rfl ?_))
             have hZ:=hJ6.swap.put (aO t) rfl;have hOz:=ahu HO6.out (own_ne HO6.out (hJ6.get 1 rfl) (by decide)) (aO t) 0;have HZ:=hide (And.intro hZ hOz);clear hZ hOz hJ6 HO6
             go_roundw
             case rel=>exact ⟨k+1,some ⟨g1,0,none⟩,cap,by omega,by go_num,by rw [HE.out.1,List.length_append];rfl,by rw [HE.out.2.2],by rw [HE.out.2.1],by rw [HE.out.2.2];exact HZ.out.1.swap.tail,by rw [hle];exact HZ.out.2⟩
             case measure=>simp [intOf];omega
      · as_aux_lemma=>
         have hke:k=l.length:=by omega
         subst hke;have hkr:=ahm pq.out;have hra:=aiR pq.out;have hkl:=acX g l l.length;have hok:=zF HKG.out HPT.out.2.1 l.length (Nat.le_refl _);obtain ⟨s,hs⟩:∃ q,jq g l l.length=q:=⟨_,rfl⟩;rw [hs] at hM hkr hra hok ⊢;have hkd:qh wr (fun b=>S b∨w.heap.size≤b) A8 c8 (kpE g l l.length):=⟨Reads.more (Reads.Aw hO (fun b h=>h) (by omega)) (fun b _ h=> .inr h),fun e he=>((hl.2 e (adV g l _ e he)).below hM.bw).more (fun b _ h=> .inl h)⟩;obtain ⟨kp,hkp⟩:∃ q,kpE g l l.length=q:=⟨_,rfl⟩;rw [hkp] at hkr hkd ⊢;have hc1:=fun W h=>xH S g l A c W h;rw [hra.1,hra.2,pq.out] at hc1;have hc2:=fun W h=>xH (fun b=>S b∨w.heap.size≤b) g kp A8 c8 W h;rw [hkr.1,hkr.2.1,hkr.2.2] at hc2
         simp only [List.length_nil] at hc2
         have hc3:=fun W=>EJ g s W;rw [Sk.kG.2 hok] at hc3;obtain ⟨ns,nr⟩:=hok.inr.s0;obtain ⟨ns1,nr1⟩:=hok.inr.s1;have hl2:=hl.below hM.bw;have HR1:=hide hc1;have HR2:=hide hc2;have HC3:=hide hc3;have HKD:=hide hkd;have HL2:=hide hl2;clear hc1 hc2 hc3 hkd hkr hra hkl hok hs hkp hO hl2 hlt;have hL:=Bx.nil wr;have hq2:=fun a b c d W=>MQ a b c d W
         go_upto_region 32 with (fail)
         go_cut [18,19,20] from 212 to 219 (fun v18 v19 v20 wx=>∃ B18 A2 c2,v18=ptr B18∧v19= .slice A2 (kV g l l.length).length c2∧v20= .int .i64 0∧Bx wr wx [(B18,aO s,26)])
         case first=>
          go_wp2_with (first | ((with_reducible (refine ah 23 (.tmp 2) ?lx ?_));(case lx=>rfl);refine aK ((hM.call hL.bw).rng 2 rfl 0 ([.string g.kind,.int .i64 g.bI,.int .i64 g.target,.int .i64 g.turns]) rfl) Tryz.underlying23 rfl cZ rfl (.tmp 2) rfl rfl ?_) | ((with_reducible (refine ah 23 (.tmp 2) ?lx ?_));(case lx=>rfl);refine fA ((hM.call hL.bw).rng 2 rfl 0 ([.string g.kind,.int .i64 g.bI,.int .i64 g.target,.int .i64 g.turns]) rfl) Tryz.underlying23 rfl cZ rfl (.tmp 2) rfl rfl ?_) | ((with_reducible (refine aI 23 (.tmp 2) ?lx ?_));(case lx=>rfl);refine eu ((hM.call hL.bw).rng 2 rfl 0 ([.string g.kind,.int .i64 g.bI,.int .i64 g.target,.int .i64 g.turns]) rfl) Tryz.underlying23 rfl cZ (.tmp 2) rfl rfl ?_) | (go_at_call 25;refine (HR1.out _ (HL2.out.below hL.bw)).mono ?_;rintro e w11 ⟨A11,c11,rfl,_,Ox⟩;have hL:=hL.call Ox))
          have hZ:=hL.add (aO s) 26;go_meet;exact ⟨_,_,_,rfl,rfl,rfl,hZ⟩
         case rest=>
          obtain ⟨B18,A2,c2,rfl,rfl,rfl,hL⟩:=hcut
          go_upto_region 33 with (fail)
          go_cut [21,22,23] from 219 to 226 (fun v21 v22 v23 wx=>∃ V5 A3 c3,v21=ptr V5∧v22= .slice A3 0 c3∧v23= .int .i64 0∧Bx wr wx [(V5,aO s,26),(B18,aO s,26)])
          case first=>
           go_wp2_with (first | ((with_reducible (refine ah 23 (.tmp 2) ?lx ?_));(case lx=>rfl);refine aK ((hM.call hL.bw).rng 2 rfl 0 ([.string g.kind,.int .i64 g.bI,.int .i64 g.target,.int .i64 g.turns]) rfl) Tryz.underlying23 rfl cZ rfl (.tmp 2) rfl rfl ?_) | ((with_reducible (refine ah 23 (.tmp 2) ?lx ?_));(case lx=>rfl);refine fA ((hM.call hL.bw).rng 2 rfl 0 ([.string g.kind,.int .i64 g.bI,.int .i64 g.target,.int .i64 g.turns]) rfl) Tryz.underlying23 rfl cZ rfl (.tmp 2) rfl rfl ?_) | ((with_reducible (refine aI 23 (.tmp 2) ?lx ?_));(case lx=>rfl);refine eu ((hM.call hL.bw).rng 2 rfl 0 ([.string g.kind,.int .i64 g.bI,.int .i64 g.target,.int .i64 g.turns]) rfl) Tryz.underlying23 rfl cZ (.tmp 2) rfl rfl ?_) | (go_at_call 25;refine (HR2.out _ (HKD.out.below hL.bw)).mono ?_;rintro e w12 ⟨A12,c12,rfl,_,kP⟩;have hL:=hL.call kP))
           have hZ:=hL.add (aO s) 26;go_meet;exact ⟨_,_,_,rfl,rfl,rfl,hZ⟩
          case rest=>
           obtain ⟨V5,A3,c3,rfl,rfl,rfl,hL⟩:=hcut;have ks1:=((hM.call hL.bw).get 0 rfl).cell (j:=1) rfl;have ks2:=((hM.call hL.bw).get 0 rfl).cell (j:=2) rfl;clear HR1 HR2 HKD HL2
           go_wp2_with (first | ((with_reducible (refine ah 26 (.tmp 18) ?lx ?_));(case lx=>rfl);refine aK (hL.rng 1 rfl 0 ([.int .i64 s.turn,.int .i64 s.s0,.int .i64 s.s1,.int .i64 s.brk,.string s.phase,.int .i64 s.bI,.int .i64 s.colour,.bool s.free,.bool s.aT,.int .i64 s.aP,.int .i64 s.t0,.int .i64 s.t1,.int .i64 s.aB]) rfl) Tryz.underlying26 rfl ak rfl (.tmp 18) rfl rfl ?_) | ((with_reducible (refine ah 26 (.tmp 18) ?lx ?_));(case lx=>rfl);refine fA (hL.rng 1 rfl 0 ([.int .i64 s.turn,.int .i64 s.s0,.int .i64 s.s1,.int .i64 s.brk,.string s.phase,.int .i64 s.bI,.int .i64 s.colour,.bool s.free,.bool s.aT,.int .i64 s.aP,.int .i64 s.t0,.int .i64 s.t1,.int .i64 s.aB]) rfl) Tryz.underlying26 rfl ak rfl (.tmp 18) rfl rfl ?_) | ((with_reducible (refine aI 26 (.tmp 18) ?lx ?_));(case lx=>rfl);refine eu (hL.rng 1 rfl 0 ([.int .i64 s.turn,.int .i64 s.s0,.int .i64 s.s1,.int .i64 s.brk,.string s.phase,.int .i64 s.bI,.int .i64 s.colour,.bool s.free,.bool s.aT,.int .i64 s.aP,.int .i64 s.t0,.int .i64 s.t1,.int .i64 s.aB]) rfl) Tryz.underlying26 rfl ak (.tmp 18) rfl rfl ?_) | ((with_reducible (refine ah 26 (.tmp 21) ?lx ?_));(case lx=>rfl);refine aK (hL.rng 0 rfl 0 ([.int .i64 s.turn,.int .i64 s.s0,.int .i64 s.s1,.int .i64 s.brk,.string s.phase,.int .i64 s.bI,.int .i64 s.colour,.bool s.free,.bool s.aT,.int .i64 s.aP,.int .i64 s.t0,.int .i64 s.t1,.int .i64 s.aB]) rfl) Tryz.underlying26 rfl ak rfl (.tmp 21) rfl rfl ?_) | ((with_reducible (refine ah 26 (.tmp 21) ?lx ?_));(case lx=>rfl);refine fA (hL.rng 0 rfl 0 ([.int .i64 s.turn,.int .i64 s.s0,.int .i64 s.s1,.int .i64 s.brk,.string s.phase,.int .i64 s.bI,.int .i64 s.colour,.bool s.free,.bool s.aT,.int .i64 s.aP,.int .i64 s.t0,.int .i64 s.t1,.int .i64 s.aB]) rfl) Tryz.underlying26 rfl ak rfl (.tmp 21) rfl rfl ?_) | ((with_reducible (refine aI 26 (.tmp 21) ?lx ?_));(case lx=>rfl);refine eu (hL.rng 0 rfl 0 ([.int .i64 s.turn,.int .i64 s.s0,.int .i64 s.s1,.int .i64 s.brk,.string s.phase,.int .i64 s.bI,.int .i64 s.colour,.bool s.free,.bool s.aT,.int .i64 s.aP,.int .i64 s.t0,.int .i64 s.t1,.int .i64 s.aB]) rfl) Tryz.underlying26 rfl ak (.tmp 21) rfl rfl ?_) | ((with_reducible (refine ah 26 (.tmp 6) ?lx ?_));(case lx=>rfl);refine aK ((hM.call hL.bw).rng 0 rfl 0 ([.int .i64 s.turn,.int .i64 s.s0,.int .i64 s.s1,.int .i64 s.brk,.string s.phase,.int .i64 s.bI,.int .i64 s.colour,.bool s.free,.bool s.aT,.int .i64 s.aP,.int .i64 s.t0,.int .i64 s.t1,.int .i64 s.aB]) rfl) Tryz.underlying26 rfl ak rfl (.tmp 6) rfl rfl ?_) | ((with_reducible (refine ah 26 (.tmp 6) ?lx ?_));(case lx=>rfl);refine fA ((hM.call hL.bw).rng 0 rfl 0 ([.int .i64 s.turn,.int .i64 s.s0,.int .i64 s.s1,.int .i64 s.brk,.string s.phase,.int .i64 s.bI,.int .i64 s.colour,.bool s.free,.bool s.aT,.int .i64 s.aP,.int .i64 s.t0,.int .i64 s.t1,.int .i64 s.aB]) rfl) Tryz.underlying26 rfl ak rfl (.tmp 6) rfl rfl ?_) | ((with_reducible (refine aI 26 (.tmp 6) ?lx ?_));(case lx=>rfl);refine eu ((hM.call hL.bw).rng 0 rfl 0 ([.int .i64 s.turn,.int .i64 s.s0,.int .i64 s.s1,.int .i64 s.brk,.string s.phase,.int .i64 s.bI,.int .i64 s.colour,.bool s.free,.bool s.aT,.int .i64 s.aP,.int .i64 s.t0,.int .i64 s.t1,.int .i64 s.aB]) rfl) Tryz.underlying26 rfl ak (.tmp 6) rfl rfl ?_) | ((with_reducible (refine ah 28 (.tmp 5) ?lx ?_));(case lx=>rfl);refine aK ((hM.call hL.bw).rng 1 rfl 0 ([.string g.kind,.int .i64 g.bI,.int .i64 g.target,.int .i64 g.turns]) rfl) Tryz.underlying28 rfl bY rfl (.tmp 5) rfl rfl ?_) | ((with_reducible (refine ah 28 (.tmp 5) ?lx ?_));(case lx=>rfl);refine fA ((hM.call hL.bw).rng 1 rfl 0 ([.string g.kind,.int .i64 g.bI,.int .i64 g.target,.int .i64 g.turns]) rfl) Tryz.underlying28 rfl bY rfl (.tmp 5) rfl rfl ?_) | ((with_reducible (refine aI 28 (.tmp 5) ?lx ?_));(case lx=>rfl);refine eu ((hM.call hL.bw).rng 1 rfl 0 ([.string g.kind,.int .i64 g.bI,.int .i64 g.target,.int .i64 g.turns]) rfl) Tryz.underlying28 rfl bY (.tmp 5) rfl rfl ?_) | (go_at_call 19;refine (HC3.out _).mono ?_;rintro e w13 ⟨rfl,Zj⟩;have hL:=hL.call Zj))
           go_ret;exact ⟨rfl,(hM.call hL.bw).bw⟩
end Go.Proofs.YtjbbfmofpjflmaaGreatDoor
