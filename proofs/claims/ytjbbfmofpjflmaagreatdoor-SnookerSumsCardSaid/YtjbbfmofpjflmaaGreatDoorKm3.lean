/- Parts of a proof. -/
import Derived.Test.YtjbbfmofpjflmaaGreatDoorKb23
import Derived.Test.YtjbbfmofpjflmaaGreatDoorKm2
set_option maxHeartbeats 8000000
set_option maxRecDepth 100000
set_option linter.unusedVariables false
set_option linter.unusedSimpArgs false
namespace Go.Proofs.YtjbbfmofpjflmaaGreatDoor
open Go.RowKit
theorem aho (S:Nat→Prop) (g:Sk.Game) (l:List En) (A:Option Addr) (c:Nat) (n:Int) (hn0:0≤n∧n≤255) (w:World) (hG:Glob w) (hl:qh w S A c l) (hn:l.length*88≤140737488355328):
 Calls Tryz.prog 7 #[lZ g,.slice A l.length c,.int .u8 n] w fun e w'=>e= .returned (.bool true)∧Below w.heap.size w w':=by
 have HG:=hide hG;clear hG;obtain ⟨bd1,bd2,bd3⟩:=hl.bd
 go_enter Tryz.func7,Tryz.ntmps7
 go_upto_region 0 with (fail)
 go_cut [3,6] (fun v3 v6 wx=>v3=ptr (w.heap.size)∧v6= .bool false∧Bx w wx [(w.heap.size,bT g,23)])
 case first=>
  go_wp2;go_meet;exact ⟨rfl,rfl,Bx.of ((aJ.nil w).new (by simp) (bT g) 23) _ rfl⟩
 case rest=>
  obtain ⟨rfl,rfl,hL⟩:=hcut
  go_upto_region 1 with (fail)
  go_cut [7] from 7 to 28 (fun v7 wx=>∃ B7,v7=ptr B7∧Bx w wx [(B7,bT g,28),(w.heap.size,bT g,23)])
  case first=>
   have hZ:=hL.add (bT g) 28
   go_wp2_with (first | ((with_reducible (refine ah 23 (.tmp 3) ?lx ?_));(case lx=>rfl);refine aK (hL.rng 0 rfl 0 ([.string g.kind,.int .i64 g.bI,.int .i64 g.target,.int .i64 g.turns]) rfl) Tryz.underlying23 rfl cZ rfl (.tmp 3) rfl rfl ?_) | ((with_reducible (refine ah 23 (.tmp 3) ?lx ?_));(case lx=>rfl);refine fA (hL.rng 0 rfl 0 ([.string g.kind,.int .i64 g.bI,.int .i64 g.target,.int .i64 g.turns]) rfl) Tryz.underlying23 rfl cZ rfl (.tmp 3) rfl rfl ?_) | ((with_reducible (refine aI 23 (.tmp 3) ?lx ?_));(case lx=>rfl);refine eu (hL.rng 0 rfl 0 ([.string g.kind,.int .i64 g.bI,.int .i64 g.target,.int .i64 g.turns]) rfl) Tryz.underlying23 rfl cZ (.tmp 3) rfl rfl ?_))
   go_meet;exact ⟨_,rfl,hZ⟩
  case rest=>
   obtain ⟨B7,rfl,hL⟩:=hcut
   go_upto_region 2 with (fail)
   go_cut [53] from 28 to 54 (fun v53 wx=>∃ b,v53= .bool b∧(b=false→l.length≤16∧Sk.iq g (bare l)=0)∧Bx w wx [(B7,bT g,28),(w.heap.size,bT g,23)])
   case first=>
    as_aux_lemma=>
     rcases ha0:decide (20<(g.kind.size:Int)) with _ | _
     · rcases ha1:decide ((16:Int)<(l.length:Int)) with _ | _
       · have ZC:∀ W:World,Bx w W [(B7,bT g,28),(w.heap.size,bT g,23)]∧W.cell? ⟨w.heap.size,0,none⟩=some (.string g.kind)→W.rangeAt (B7) 0 ([.string g.kind,.int .i64 g.bI,.int .i64 g.target,.int .i64 g.turns]):=fun W h=>h.1.rng 0 rfl 0 _ rfl
         have hL:=hL.drew;refine wp_region_held_drew (S:=(fun w':World=>Bx w w' [(B7,bT g,28),(w.heap.size,bT g,23)]∧w'.cell? ⟨w.heap.size,0,none⟩=some (.string g.kind))) (by kernel_rfl) ?tZ (fun hHeld=>?_)
         case tZ=>exact ⟨hL,(hL.get 1 rfl).cell (j:=0) rfl⟩
         refine tr 0 fun K hK=>?_;go_simp
         (go_at_call 12;refine (aw1 _ (HG.out.below hL.bw)).mono ?_;rintro e w2a ⟨rfl,OE⟩)
         have hL:=hL.call OE;refine hK.out _ _ ?ama (fun hHeld=>?_)
         case ama=>(exact ⟨hL,(hL.get 1 rfl).cell (j:=0) rfl⟩)
         clear hK K
         try simp only [Act.put,la,lz,ls]
         refine tk 1 ?_;refine tk 2 ?_;refine tk 3 ?_;refine tk 4 ?_;refine tk 5 ?_;refine tk 6 ?_;refine tk 7 ?_;refine tk 8 ?_;refine tk 9 ?_;refine tk 10 ?_;refine tk 11 ?_;refine tk 12 ?_;refine tk 13 ?_;refine tk 14 ?_;refine tr 15 fun K hK=>?_;go_simp
         (go_at_call 15;refine (Cc S l A c _ (hl.below hL.bw) hn).mono ?_;rintro e w2b ⟨A3,c3,rfl,hE,OG⟩)
         have hL:=hL.call OG;refine hK.out _ _ ?alk (fun hHeld=>?_)
         case alk=>(exact ⟨hL,(hL.get 1 rfl).cell (j:=0) rfl⟩)
         clear hK K
         try simp only [Act.put,la,lz,ls]
         refine tr 16 fun K hK=>?_;go_simp
         (go_at_call 14;refine (JE _ A3 c3 l 16 _ hE).mono ?_;rintro e w2c ⟨⟨bs,rfl⟩,Xa⟩)
         have hL:=hL.call Xa;refine hK.out _ _ ?XW (fun hHeld=>?_)
         case XW=>(exact ⟨hL,(hL.get 1 rfl).cell (j:=0) rfl⟩)
         clear hK K
         try simp only [Act.put,la,lz,ls]
         rcases bs with _ | _
         · refine tk 17 ?_
           refine tk 18 ?_;refine tk 19 ?_;refine tu 20 ?_;refine tu 21 ?_;refine tu 22 ?_;refine tu 23 ?_;refine tu 24 ?_;refine tk 25 ?_;refine wpAnyH_done (by kernel_rfl) ?_ _;go_wp2;go_meet
           first | exact ⟨_,rfl,fun h=>(by cases h),hL⟩ | exact ⟨_,rfl,fun h=>⟨by have:=of_decide_eq_false ha1;omega,ai2 h⟩,hL⟩
         · refine tk 17 ?_
           refine tk 18 ?_;refine tk 19 ?_;refine wpAnyH_take (i:=20) (oi:=_) (v:=_) (ga rfl) (by kernel_rfl) (by kernel_rfl) (by kernel_rfl) (fun _ _ _ h=>h) (yieldsIf_load_mid (by rfl) _ _ (by rfl) _ _ (by rfl) _ _ ZC Tryz.underlying28 rfl (by kernel_rfl)) (by assumption) ?_
           try simp only [Act.put,la,lz,ls]
           refine tk 21 ?_;refine tr 22 fun K hK=>?_;go_simp
           (go_at_call 15;refine (Cc S l A c _ (hl.below hL.bw) hn).mono ?_;rintro e w2d ⟨A4,c4,rfl,hF,amJ⟩)
           have hL:=hL.call amJ;refine hK.out _ _ ?agZ (fun hHeld=>?_)
           case agZ=>(exact ⟨hL,(hL.get 1 rfl).cell (j:=0) rfl⟩)
           clear hK K
           try simp only [Act.put,la,lz,ls]
           refine tr 23 fun K hK=>?_;go_simp
           (go_at_call 21;refine (JD _ g l A4 c4 _ hF).mono ?_;rintro e w2e ⟨rfl,amS⟩)
           have hL:=hL.call amS;refine hK.out _ _ ?ag8 (fun hHeld=>?_)
           case ag8=>(exact ⟨hL,(hL.get 1 rfl).cell (j:=0) rfl⟩)
           clear hK K
           try simp only [Act.put,la,lz,ls]
           refine tk 24 ?_;refine tk 25 ?_;refine wpAnyH_done (by kernel_rfl) ?_ _;go_wp2;go_meet
           first | exact ⟨_,rfl,fun h=>(by cases h),hL⟩ | exact ⟨_,rfl,fun h=>⟨by have:=of_decide_eq_false ha1;omega,ai2 h⟩,hL⟩
       · have hL:=hL.drew
         refine wp_region_held_drew (S:=(fun w':World=>Bx w w' [(B7,bT g,28),(w.heap.size,bT g,23)]∧w'.cell? ⟨w.heap.size,0,none⟩=some (.string g.kind))) (by kernel_rfl) ?oP (fun hHeld=>?_)
         case oP=>exact ⟨hL,(hL.get 1 rfl).cell (j:=0) rfl⟩
         refine tr 0 fun K hK=>?_;go_simp
         (go_at_call 12;refine (aw1 _ (HG.out.below hL.bw)).mono ?_;rintro e w2a ⟨rfl,OE⟩)
         have hL:=hL.call OE;refine hK.out _ _ ?ami (fun hHeld=>?_)
         case ami=>(exact ⟨hL,(hL.get 1 rfl).cell (j:=0) rfl⟩)
         clear hK K
         try simp only [Act.put,la,lz,ls]
         refine tk 1 ?_;refine tk 2 ?_;refine tk 3 ?_;refine tk 4 ?_;refine tk 5 ?_;refine tk 6 ?_;refine tk 7 ?_;refine tk 8 ?_;refine tk 9 ?_;refine tk 10 ?_;refine tk 11 ?_;refine tk 12 ?_;refine tk 13 ?_;refine tu 14 ?_;refine tu 15 ?_;refine tu 16 ?_;refine tu 17 ?_;refine tk 18 ?_;refine tk 19 ?_;refine tu 20 ?_;refine tu 21 ?_;refine tu 22 ?_;refine tu 23 ?_;refine tu 24 ?_;refine tk 25 ?_;refine wpAnyH_done (by kernel_rfl) ?_ _;go_wp2;go_meet;exact ⟨_,rfl,fun h=>(by cases h),hL⟩
     · have hL:=hL.drew
       refine wp_region_held_drew (S:=(fun w':World=>Bx w w' [(B7,bT g,28),(w.heap.size,bT g,23)]∧w'.cell? ⟨w.heap.size,0,none⟩=some (.string g.kind))) (by kernel_rfl) ?oQ (fun hHeld=>?_)
       case oQ=>exact ⟨hL,(hL.get 1 rfl).cell (j:=0) rfl⟩
       refine tr 0 fun K hK=>?_;go_simp
       (go_at_call 12;refine (aw1 _ (HG.out.below hL.bw)).mono ?_;rintro e w2a ⟨rfl,OE⟩)
       have hL:=hL.call OE;refine hK.out _ _ ?amr (fun hHeld=>?_)
       case amr=>(exact ⟨hL,(hL.get 1 rfl).cell (j:=0) rfl⟩)
       clear hK K
       try simp only [Act.put,la,lz,ls]
       refine tk 1 ?_;refine tk 2 ?_;refine tk 3 ?_;refine tk 4 ?_;refine tk 5 ?_;refine tk 6 ?_;refine tk 7 ?_;refine tk 8 ?_;refine tu 9 ?_;refine tu 10 ?_;refine tu 11 ?_;refine tk 12 ?_;refine tk 13 ?_;refine tu 14 ?_;refine tu 15 ?_;refine tu 16 ?_;refine tu 17 ?_;refine tk 18 ?_;refine tk 19 ?_;refine tu 20 ?_;refine tu 21 ?_;refine tu 22 ?_;refine tu 23 ?_;refine tu 24 ?_;refine tk 25 ?_;refine wpAnyH_done (by kernel_rfl) ?_ _;go_wp2;go_meet;exact ⟨_,rfl,fun h=>(by cases h),hL⟩
   case rest=>
    obtain ⟨b,rfl,hf,hL⟩:=hcut
    cases b
    rotate_left
    · clear hf
      go_wp2_with (first | (go_at_call 12;refine (aw1 _ (HG.out.below hL.bw)).mono ?_;rintro e w1 ⟨rfl,hb1⟩;have hL:=hL.call hb1))
      go_ret;exact ⟨rfl,hL.bw⟩
    obtain ⟨Kq,hck⟩:=hf rfl;have aj7:=tq hck;have pq:=hide hck;have HPT:=hide aj7;have HKG:=hide aj7.1;clear hf hck aj7;have hst:=fun W=>uz g W;rw [HKG.out,if_pos rfl] at hst;have HST:=hide hst;clear hst
    go_upto_region 5 with (fail)
    go_cut [9] from 54 to 56 (fun v9 wx=>∃ B9,v9=ptr B9∧Bx w wx [(B9,[.int .i64 0,.int .i64 0],24),(B7,bT g,28),(w.heap.size,bT g,23)])
    case first=>
     go_wp2;have hZ:=hL.add ([.int .i64 0,.int .i64 0]) 24;go_meet;exact ⟨_,rfl,hZ⟩
    case rest=>
     obtain ⟨B9,rfl,hL⟩:=hcut
     go_upto_region 6 with (fail)
     go_cut [10,11] from 56 to 61 (fun v10 v11 wx=>∃ B10,v10=ptr B10∧v11= .int .i64 0∧Bx w wx [(B10,aO (Sk.start g),26),(B9,[.int .i64 0,.int .i64 0],24),(B7,bT g,28),(w.heap.size,bT g,23)])
     case first=>
      go_wp2_with (first | ((with_reducible (refine ah 23 (.tmp 3) ?lx ?_));(case lx=>rfl);refine aK (hL.rng 2 rfl 0 ([.string g.kind,.int .i64 g.bI,.int .i64 g.target,.int .i64 g.turns]) rfl) Tryz.underlying23 rfl cZ rfl (.tmp 3) rfl rfl ?_) | ((with_reducible (refine ah 23 (.tmp 3) ?lx ?_));(case lx=>rfl);refine fA (hL.rng 2 rfl 0 ([.string g.kind,.int .i64 g.bI,.int .i64 g.target,.int .i64 g.turns]) rfl) Tryz.underlying23 rfl cZ rfl (.tmp 3) rfl rfl ?_) | ((with_reducible (refine aI 23 (.tmp 3) ?lx ?_));(case lx=>rfl);refine eu (hL.rng 2 rfl 0 ([.string g.kind,.int .i64 g.bI,.int .i64 g.target,.int .i64 g.turns]) rfl) Tryz.underlying23 rfl cZ (.tmp 3) rfl rfl ?_) | (go_at_call 22;refine (HST.out _).mono ?_;rintro e w5 ⟨rfl,hb5⟩;have hL:=hL.call hb5))
      have hZ:=hL.add (aO (Sk.start g)) 26;go_meet;exact ⟨_,rfl,rfl,hZ⟩
     case rest=>
      obtain ⟨B10,rfl,rfl,hL⟩:=hcut;clear HST;obtain ⟨D,anZ,hD9,hD7,hDw⟩:∃ D,B10<D∧B9<D∧B7<D∧w.heap.size<D∧D≤wc.heap.size:=⟨wc.heap.size,(hL.get 0 rfl).lt,(hL.get 1 rfl).lt,(hL.get 2 rfl).lt,(hL.get 3 rfl).lt,Nat.le_refl _⟩;obtain ⟨hDw,hDs⟩:=hDw;go_wp2
      go_loopw [8,65] (fun v8 i wr=>∃ (k:Nat) (A8:Option Addr) (c8:Nat) (p0 p1:Int),k≤l.length∧i= .int .i64 k∧v8= .slice A8 k c8∧Aside (p0=pnL g l 0 k∧p1=pnL g l 1 k)∧(0≤p0∧p0≤1000000*k∧0≤p1∧p1≤1000000*k)∧D≤wr.heap.size∧Bx w wr [(B10,aO (jq g l k),26),(B9,[.int .i64 p0,.int .i64 p1],24),(B7,bT g,28),(w.heap.size,bT g,23)]∧wr.ownsRow D 24 2 (.slice A8 k c8) k ((aa8 g l k).flatMap ad4)) (fun _ i _=>l.length - (intOf i).toNat)
      case atStart=>exact ⟨0,none,0,0,0,Nat.zero_le _,rfl,rfl,hide ⟨(aef g l 0).symm,(aef g l 1).symm⟩,by omega,hDs,by rw [qV];exact hL,World.ownsRow_nil _ _ _ _⟩
      case round=>
       obtain ⟨k,A8,c8,p0,p1,hk,rfl,rfl,HPN,hpb,hDr,hM,hO⟩:=hrel;clear hL
       by_cases hlt:k<l.length
       · clear pq
         obtain ⟨b,o,hAb,_,hbl,_⟩:=(hl.below hM.bw).at_ k hlt;subst hAb;have h01:wr.rangeAt b (o+k*5) ([.string l[k].x.kind,.string l[k].x.called,.slice l[k].A l[k].x.hits.length l[k].a,.slice l[k].B l[k].x.aV.length l[k].b,.int .i64 l[k].x.bD]):=tC hl hlt hM.bw rfl;have hent:=(hl.below hM.bw).ent k hlt;have hok:=zF HKG.out HPT.out.2.1 k hk;have hok2:=zF HKG.out HPT.out.2.1 (k+1) hlt;have hsx:=HPT.out.2.1 _ (List.getElem_mem hlt);have hpr:=ain hlt hok hsx;have auv:=afJ hok hsx;have hsc:=ahg g l hlt;have hcl:=aen g l hk;obtain ⟨s,hs⟩:∃ q,jq g l k=q:=⟨_,rfl⟩;obtain ⟨t,ht⟩:∃ q,jq g l (k+1)=q:=⟨_,rfl⟩;obtain ⟨x,hx⟩:∃ q,l[k]=q:=⟨_,rfl⟩;have hrp:=fun W h=>xH S g (l.take (k+1)) (some ⟨b,o,none⟩) c W h
         have akg:Sk.iq g (bare (l.take (k+1)))=0:=Sk.ab9.2 ⟨HKG.out,by rw [kQ,List.length_take];omega,fun y hy=>by
          obtain ⟨z,hz,rfl⟩:=List.mem_map.1 hy
          exact HPT.out.2.1 z (List.mem_of_mem_take hz)⟩
         have hra:=(alu akg).1
         have hln:(l.take (k+1)).length=k+1:=by rw [List.length_take];omega
         have hat:jq g (l.take (k+1)) (l.take (k+1)).length=jq g l (k+1):=by unfold jq;rw [List.take_length]
         rw [hra,akg,hat,hln,ht] at hrp;rw [hs] at hok hpr auv hM;rw [hx] at h01 hent hsx hpr auv;rw [ht] at hsc hok2;have hc4:=fun W h=>zh S g s x W h;obtain ⟨JE,hJE⟩:∃ q,Jb g s x.x=q:=⟨_,rfl⟩;obtain ⟨jv,hJV⟩:∃ q,Uo g s x.x=q:=⟨_,rfl⟩;rw [hJE,hJV] at hc4 hpr auv;have HJD:=hide hc4;have HPR:=hide hpr;have HPE:=hide auv;have DI:=hide (And.intro hsc hcl);have HT:=hide ht;have HRP:=hide hrp;have anR:=hide hok2;have hturn:=hok.inr.turn;clear hc4 hpr auv hsc hcl hs ht hx hrp akg hra hln hat hJE hJV hok hok2 hsx;have hL:=Bx.nil wr
         have i1:(0:Int)≤(k:Int):=by omega
         have i2:(k:Int)<(l.length:Int):=by omega
         go_upto_region 12 with (fail)
         go_cut [75] from 68 to 76 (fun v75 wx=>v75= .bool false∧Bx wr wx [])
         case first=>
          have ks0:=((hM.call hL.bw).get 0 rfl).cell (j:=0) rfl
          rcases hturn with ht | ht
          · rw [ht] at ks0
            clear ht;go_wp2;go_meet;exact ⟨rfl,hL⟩
          · rw [ht] at ks0
            clear ht;go_wp2;go_meet;exact ⟨rfl,hL⟩
         case rest=>
          obtain ⟨rfl,hL⟩:=hcut
          go_upto_region 14 with (fail)
          go_cut [13,14] from 76 to 86 (fun v13 v14 wx=>∃ BL,v13=ptr BL∧v14= .int .i64 JE∧Bx wr wx [(BL,fG jv,78)])
          case first=>
           as_aux_lemma=>
            have Xk:∀ W:World,Bx wr W []→W.rangeAt (w.heap.size) 0 ([.string g.kind,.int .i64 g.bI,.int .i64 g.target,.int .i64 g.turns]):=fun W h=>(hM.call h.bw).rng 3 rfl 0 _ rfl;have akx:∀ W:World,Bx wr W []→W.rangeAt (B10) 0 ([.int .i64 s.turn,.int .i64 s.s0,.int .i64 s.s1,.int .i64 s.brk,.string s.phase,.int .i64 s.bI,.int .i64 s.colour,.bool s.free,.bool s.aT,.int .i64 s.aP,.int .i64 s.t0,.int .i64 s.t1,.int .i64 s.aB]):=fun W h=>(hM.call h.bw).rng 0 rfl 0 _ rfl;have akF:∀ W:World,Bx wr W []→W.rangeAt (b) (o+k*5) ([.string x.x.kind,.string x.x.called,.slice x.A x.x.hits.length x.a,.slice x.B x.x.aV.length x.b,.int .i64 x.x.bD]):=fun W h=>fun j v hj=>((h.bw.cell (p:=⟨b,o+k*5+j,none⟩) hbl).trans (h01 j v hj));have hL:=hL.drew;refine wp_region_held_drew (S:=(fun w':World=>Bx wr w' [])) (by kernel_rfl) ?bW (fun hHeld=>?_)
            case bW=>exact hL
            refine wpAnyH_take (i:=0) (oi:=_) (v:=_) (ga rfl) (by kernel_rfl) (by kernel_rfl) (by kernel_rfl) (fun _ _ _ h=>h) (yieldsIf_load_mid (by rfl) _ _ (by rfl) _ _ (by rfl) _ _ Xk Tryz.underlying23 rfl (by kernel_rfl)) (by assumption) ?_
            try simp only [Act.put,la,lz,ls]
            refine wpAnyH_take (i:=1) (oi:=_) (v:=_) (ga rfl) (by kernel_rfl) (by kernel_rfl) (by kernel_rfl) (fun _ _ _ h=>h) (yieldsIf_load_mid (by rfl) _ _ (by rfl) _ _ (by rfl) _ _ akx Tryz.underlying26 rfl (by kernel_rfl)) (by assumption) ?_
            try simp only [Act.put,la,lz,ls]
            refine tk 2 ?_;refine tk 3 ?_;refine tk 4 ?_;refine wpAnyH_take (i:=5) (oi:=_) (v:=_) (ga rfl) (by kernel_rfl) (by kernel_rfl) (by kernel_rfl) (fun _ _ _ h=>h) (yieldsIf_load_mid (by rfl) _ _ (by rfl) _ _ (by rfl) _ _ akF Tryz.underlying83 rfl (by kernel_rfl)) (by assumption) ?_
            try simp only [Act.put,la,lz,ls]
            refine wpAnyH_ready (rs:=[6,10]) (by kernel_rfl) (by simp) ?_;refine AllReadyH.cons (o:=_) (ga rfl) (fun K hK=>?_) (AllReadyH.cons (o:=_) (ga rfl) (fun K hK=>?_) AllReadyH.nil)
            · go_simp
              (go_at_call 43;refine (HJD.out _ (hent.below hL.bw)).mono ?_;rintro e avF ⟨rfl,OA⟩)
              have hL:=hL.call OA;refine hK.out _ _ ?aiv (fun hHeld=>?_)
              case aiv=>(first | exact hL | exact hL.tail)
              clear hK K
              try simp only [Act.put,la,lz,ls]
              refine tk 7 ?_;refine tk 8 ?_;refine tk 9 ?_;refine tr 10 fun K hK=>?_;go_simp;have hL:=hL.add (fG ⟨0,0,0,false⟩) 78;refine hK.out _ _ ?afR (fun hHeld=>?_)
              case afR=>(exact hL.tail)
              clear hK K
              try simp only [Act.put,la,lz,ls]
              refine tr 11 fun K hK=>?_;refine aU hL.head (fG jv) rfl dQ (jd _) (.tmp 13) (.tmp 84) rfl rfl rfl ?_;have hL:=hL.put (fG jv) rfl;refine hK.out _ _ ?af9 (fun hHeld=>?_)
              case af9=>(exact hL.tail)
              clear hK K
              try simp only [Act.put,la,lz,ls]
              refine tk 12 ?_;refine wpAnyH_done (by kernel_rfl) ?_ _;go_wp2;go_meet;exact ⟨_,rfl,rfl,hL⟩
            · go_simp
              have hL:=hL.add (fG ⟨0,0,0,false⟩) 78;refine hK.out _ _ ?afZ (fun hHeld=>?_)
              case afZ=>(exact hL.tail)
              clear hK K
              try simp only [Act.put,la,lz,ls]
              refine tr 6 fun K hK=>?_;go_simp
              (go_at_call 43;refine (HJD.out _ (hent.below hL.bw)).mono ?_;rintro e avF ⟨rfl,OA⟩)
              have hL:=hL.call OA;refine hK.out _ _ ?aiD (fun hHeld=>?_)
              case aiD=>(first | exact hL | exact hL.tail)
              clear hK K
              try simp only [Act.put,la,lz,ls]
              refine tk 7 ?_;refine tk 8 ?_;refine tk 9 ?_;refine tr 11 fun K hK=>?_;refine aU hL.head (fG jv) rfl dQ (jd _) (.tmp 13) (.tmp 84) rfl rfl rfl ?_;have hL:=hL.put (fG jv) rfl;refine hK.out _ _ ?agk (fun hHeld=>?_)
              case agk=>(exact hL.tail)
              clear hK K
              try simp only [Act.put,la,lz,ls]
              refine tk 12 ?_;refine wpAnyH_done (by kernel_rfl) ?_ _;go_wp2;go_meet;exact ⟨_,rfl,rfl,hL⟩
          case rest=>
           obtain ⟨BL,rfl,rfl,hL⟩:=hcut;obtain ⟨bk,hbk⟩:∃ q,(JE == 0)=q:=⟨_,rfl⟩
           go_upto_if 87 with (fail)
           go_cut [] from 86 to 97 (fun wx=>∃ q0 q1:Int,Aside (q0=pnL g l 0 (k+1)∧q1=pnL g l 1 (k+1))∧(0≤q0∧q0≤1000000*((k:Int)+1)∧0≤q1∧q1≤1000000*((k:Int)+1))∧D≤wx.heap.size∧Bx w wx [(B10,aO s,26),(B9,[.int .i64 q0,.int .i64 q1],24),(B7,bT g,28),(w.heap.size,bT g,23)]∧wx.ownsRow D 24 2 (.slice A8 k c8) k ((aa8 g l k).flatMap ad4))
           case first=>
            have hJ:=hM.join hL;have hOw:=adG hO hL.bw;have hDc:D≤wc.heap.size:=Nat.le_trans hDr hL.bw.size;have e0:=HPR.out 0;have e1:=HPR.out 1;rw [← HPN.out.1] at e0;rw [← HPN.out.2] at e1
            cases bk
            · have hj:¬ JE=0:=by simpa using hbk
              rw [if_neg (fun h=>hj h.1),Int.add_zero] at e0 e1;have HQN:=hide (And.intro e0.symm e1.symm);clear e0 e1 hj hbk;go_wp2;go_meet;exact ⟨_,_,HQN.out,by omega,hDc,hJ.tail,hOw⟩
            · have hj:JE=0:=by simpa using hbk
              have hpp:=HPE.out hj;have hQ:Bx w wc [(B9,[.int .i64 p0,.int .i64 p1],24),(BL,fG jv,78),(B10,aO s,26),(B7,bT g,28),(w.heap.size,bT g,23)]:=Bx.pull [_,_] hJ
              rcases hturn with ht | ht
              · rw [if_neg (fun h=>by have:=h.2;omega),Int.add_zero] at e0
                rw [if_pos ⟨hj,by omega⟩] at e1;have HQN:=hide (And.intro e0.symm e1.symm);have HQB:=hide (show 0≤p0∧p0≤1000000*((k:Int)+1)∧0≤p1+jv.penalty∧p1+jv.penalty≤1000000*((k:Int)+1) by omega);obtain ⟨hp1,hp2⟩:=hpp;clear e0 e1 hj hbk
                go_upto_region 16 with (fail)
                have hwp:IntKind.i64.wrap (p1+jv.penalty)=p1+jv.penalty:=by rw [IntKind.wrap_i64];omega
                have hwr0:IntKind.i64.wrap 0=0:=by kernel_rfl
                have anq:IntKind.i64.wrap 1=1:=by kernel_rfl
                have hQd:=hQ.drew;have kq:=(hQ.get 0 rfl).cell (j:=1) rfl;have kqd:=(hQd.get 0 rfl).cell (j:=1) rfl;have kf:=(hQ.get 0 rfl).frozen 1;have kfd:=(hQd.get 0 rfl).frozen 1;have hQ:=hQ.drew;refine wp_region_held_drew (S:=(fun w':World=>Bx w w' [(BL,fG jv,78),(B10,aO s,26),(B7,bT g,28),(w.heap.size,bT g,23)]∧w'.cell? ⟨B10,0,none⟩=some (.int .i64 s.turn)∧w'.cell? ⟨BL,2,none⟩=some (.int .i64 jv.penalty))) (by kernel_rfl) ?dS (fun hHeld=>?_)
                case dS=>exact ⟨hQ.tail,(hQ.tail.get 1 rfl).cell (j:=0) rfl,(hQ.tail.get 0 rfl).cell (j:=2) rfl⟩
                refine tk 0 ?_;refine tk 1 ?_;refine tk 2 ?_;refine tk 3 ?_;refine tk 5 ?_;refine tk 6 ?_;refine tr 4 fun K hK=>?_;go_simp;refine hK.out _ _ ?abn (fun hHeld=>?_)
                case abn=>(exact ⟨hQ.tail,(hQ.tail.get 1 rfl).cell (j:=0) rfl,(hQ.tail.get 0 rfl).cell (j:=2) rfl⟩)
                clear hK K
                try simp only [Act.put,la,lz,ls]
                refine tk 7 ?_;refine tk 8 ?_;refine tr 9 fun K hK=>?_;go_simp;have hQ:=hQ.set 1 (.int .i64 (p1+jv.penalty));refine hK.out _ _ ?abR (fun hHeld=>?_)
                case abR=>(exact ⟨hQ.tail,(hQ.tail.get 1 rfl).cell (j:=0) rfl,(hQ.tail.get 0 rfl).cell (j:=2) rfl⟩)
                clear hK K
                try simp only [Act.put,la,lz,ls]
                refine wpAnyH_done (by kernel_rfl) ?_ _;go_wp2;go_meet;exact ⟨_,_,HQN.out,HQB.out,(by show D≤(World.setCells wc B9 1 [.int .i64 (p1+jv.penalty)]).heap.size;rw [setCells_size];exact hDc),Bx.push [_] hQ.swap.tail,adY (size:=2) hOw (g:=B9) (fun e=>by have:=(hOw.lt _ e).1;omega) [.int .i64 (p1+jv.penalty)] 1⟩
              · rw [if_neg (fun h=>by have:=h.2;omega),Int.add_zero] at e1
                rw [if_pos ⟨hj,by omega⟩] at e0;have HQN:=hide (And.intro e0.symm e1.symm);have HQB:=hide (show 0≤p0+jv.penalty∧p0+jv.penalty≤1000000*((k:Int)+1)∧0≤p1∧p1≤1000000*((k:Int)+1) by omega);obtain ⟨hp1,hp2⟩:=hpp;clear e0 e1 hj hbk
                go_upto_region 16 with (fail)
                have hwp:IntKind.i64.wrap (p0+jv.penalty)=p0+jv.penalty:=by rw [IntKind.wrap_i64];omega
                have hwr0:IntKind.i64.wrap 0=0:=by kernel_rfl
                have anq:IntKind.i64.wrap 1=1:=by kernel_rfl
                have hQd:=hQ.drew;have kq:=(hQ.get 0 rfl).cell (j:=0) rfl;have kqd:=(hQd.get 0 rfl).cell (j:=0) rfl;have kf:=(hQ.get 0 rfl).frozen 0;have kfd:=(hQd.get 0 rfl).frozen 0;have hQ:=hQ.drew;refine wp_region_held_drew (S:=(fun w':World=>Bx w w' [(BL,fG jv,78),(B10,aO s,26),(B7,bT g,28),(w.heap.size,bT g,23)]∧w'.cell? ⟨B10,0,none⟩=some (.int .i64 s.turn)∧w'.cell? ⟨BL,2,none⟩=some (.int .i64 jv.penalty))) (by kernel_rfl) ?iJ (fun hHeld=>?_)
                case iJ=>exact ⟨hQ.tail,(hQ.tail.get 1 rfl).cell (j:=0) rfl,(hQ.tail.get 0 rfl).cell (j:=2) rfl⟩
                refine tk 0 ?_;refine tk 1 ?_;refine tk 2 ?_;refine tk 3 ?_;refine tk 5 ?_;refine tk 6 ?_;refine tr 4 fun K hK=>?_;go_simp;refine hK.out _ _ ?abY (fun hHeld=>?_)
                case abY=>(exact ⟨hQ.tail,(hQ.tail.get 1 rfl).cell (j:=0) rfl,(hQ.tail.get 0 rfl).cell (j:=2) rfl⟩)
                clear hK K
                try simp only [Act.put,la,lz,ls]
                refine tk 7 ?_;refine tk 8 ?_;refine tr 9 fun K hK=>?_;go_simp;have hQ:=hQ.set 0 (.int .i64 (p0+jv.penalty));refine hK.out _ _ ?ab6 (fun hHeld=>?_)
                case ab6=>(exact ⟨hQ.tail,(hQ.tail.get 1 rfl).cell (j:=0) rfl,(hQ.tail.get 0 rfl).cell (j:=2) rfl⟩)
                clear hK K
                try simp only [Act.put,la,lz,ls]
                refine wpAnyH_done (by kernel_rfl) ?_ _;go_wp2;go_meet;exact ⟨_,_,HQN.out,HQB.out,(by show D≤(World.setCells wc B9 0 [.int .i64 (p0+jv.penalty)]).heap.size;rw [setCells_size];exact hDc),Bx.push [_] hQ.swap.tail,adY (size:=2) hOw (g:=B9) (fun e=>by have:=(hOw.lt _ e).1;omega) [.int .i64 (p0+jv.penalty)] 0⟩
           case rest=>
            obtain ⟨q0,q1,HQN,hqb,hDq,hM,hO⟩:=hcut
            rename World=>wq
            have hl2:=(hl.below hM.bw).take (k+1) hlt;have HL2:=hide hl2;have hL:=Bx.nil wq
            have i3:(0:Int)≤(k:Int)+1:=by omega
            have i4:(k:Int)+1≤(c:Int):=by omega
            have hwk:IntKind.i64.wrap ((k:Int)+1)=(k:Int)+1:=by rw [IntKind.wrap_i64];omega
            have htn:((k:Int)+1).toNat=k+1:=by omega
            clear hl2 hpb hbk hturn HPR HPE HPN HJD
            go_upto_region 17 with (fail)
            go_cut [15,16,17] from 97 to 107 (fun v15 v16 v17 wx=>∃ vk A16 n16 c16,v15=ptr vk∧v16= .slice A16 n16 c16∧v17= .int .i64 0∧Bx wq wx [(vk,aO t,26)])
            case first=>
             as_aux_lemma=>
              have akN:∀ W:World,Bx wq W []→W.rangeAt (w.heap.size) 0 ([.string g.kind,.int .i64 g.bI,.int .i64 g.target,.int .i64 g.turns]):=fun W h=>(hM.call h.bw).rng 3 rfl 0 _ rfl;have hL:=hL.drew;refine wp_region_held_drew (S:=(fun w':World=>Bx wq w' [])) (by kernel_rfl) ?dI (fun hHeld=>?_)
              case dI=>exact hL
              refine wpAnyH_take (i:=0) (oi:=_) (v:=_) (ga rfl) (by kernel_rfl) (by kernel_rfl) (by kernel_rfl) (fun _ _ _ h=>h) (yieldsIf_load_mid (by rfl) _ _ (by rfl) _ _ (by rfl) _ _ akN Tryz.underlying23 rfl (by kernel_rfl)) (by assumption) ?_
              try simp only [Act.put,la,lz,ls]
              refine tk 1 ?_;refine tk 2 ?_;refine tk 3 ?_;refine tk 4 ?_;refine wpAnyH_ready (rs:=[5,10]) (by kernel_rfl) (by simp) ?_;refine AllReadyH.cons (o:=_) (ga rfl) (fun K hK=>?_) (AllReadyH.cons (o:=_) (ga rfl) (fun K hK=>?_) AllReadyH.nil)
              · go_simp
                (go_at_call 25;refine (HRP.out _ (HL2.out.below hL.bw)).mono ?_;rintro e anJ ⟨A17,c17,rfl,_,ahE⟩)
                have hL:=hL.call ahE;refine hK.out _ _ ?aiM (fun hHeld=>?_)
                case aiM=>(first | exact hL | exact hL.tail)
                clear hK K
                try simp only [Act.put,la,lz,ls]
                refine tk 6 ?_;refine tk 7 ?_;refine tk 8 ?_;refine tk 9 ?_;refine tr 10 fun K hK=>?_;go_simp;have hL:=hL.add (aO Sk.zero) 26;refine hK.out _ _ ?agt (fun hHeld=>?_)
                case agt=>(exact hL.tail)
                clear hK K
                try simp only [Act.put,la,lz,ls]
                refine tr 11 fun K hK=>?_;refine aU hL.head (aO t) rfl ak (bH _) (.tmp 15) (.tmp 104) rfl rfl rfl ?_;have hL:=hL.put (aO t) rfl;refine hK.out _ _ ?agJ (fun hHeld=>?_)
                case agJ=>(exact hL.tail)
                clear hK K
                try simp only [Act.put,la,lz,ls]
                refine tk 12 ?_;refine tk 13 ?_;refine wpAnyH_done (by kernel_rfl) ?_ _;go_wp2;go_meet;exact ⟨_,_,_,_,rfl,rfl,rfl,hL⟩
              · go_simp
                have hL:=hL.add (aO Sk.zero) 26;refine hK.out _ _ ?agB (fun hHeld=>?_)
                case agB=>(exact hL.tail)
                clear hK K
                try simp only [Act.put,la,lz,ls]
                refine tr 5 fun K hK=>?_;go_simp
                (go_at_call 25;refine (HRP.out _ (HL2.out.below hL.bw)).mono ?_;rintro e anJ ⟨A17,c17,rfl,_,ahE⟩)
                have hL:=hL.call ahE;refine hK.out _ _ ?aiU (fun hHeld=>?_)
                case aiU=>(first | exact hL | exact hL.tail)
                clear hK K
                try simp only [Act.put,la,lz,ls]
                refine tk 6 ?_;refine tk 7 ?_;refine tk 8 ?_;refine tk 9 ?_;refine tr 11 fun K hK=>?_;refine aU hL.head (aO t) rfl ak (bH _) (.tmp 15) (.tmp 104) rfl rfl rfl ?_;have hL:=hL.put (aO t) rfl;refine hK.out _ _ ?agR (fun hHeld=>?_)
                case agR=>(exact hL.tail)
                clear hK K
                try simp only [Act.put,la,lz,ls]
                refine tk 12 ?_;refine tk 13 ?_;refine wpAnyH_done (by kernel_rfl) ?_ _;go_wp2;go_meet;exact ⟨_,_,_,_,rfl,rfl,rfl,hL⟩
            case rest=>
             obtain ⟨vk,A16,n16,c16,rfl,rfl,rfl,hL⟩:=hcut;obtain ⟨i0,hi0,hz0,hz1,hz2⟩:=info_parts aji;have hOw:=adG hO hL.bw;have hJ:=hM.join hL;have hDc:D≤wc.heap.size:=Nat.le_trans hDq hL.bw.size
             have hT9:∀ p∈[(vk,aO t,26),(B10,aO s,26),(B9,[.int .i64 q0,.int .i64 q1],24),(B7,bT g,28),(w.heap.size,bT g,23)],p.1<D∨p.2.2≠24:=by
              intro p hp
              simp only [List.mem_cons,List.not_mem_nil,or_false] at hp
              rcases hp with rfl | rfl | rfl | rfl | rfl
              · exact .inr (by dsimp only;decide)
              all_goals exact .inl (by assumption)
             have HT9:=hide hT9;clear hT9
             go_upto_region 21 with (first | ((with_reducible (refine ah 24 (.tmp 110) ?lx ?_));(case lx=>rfl);refine aK (hL.rng 0 rfl 1 ([.int .i64 t.s0,.int .i64 t.s1]) rfl) Tryz.underlying24 rfl acG rfl (.tmp 110) rfl rfl ?_) | ((with_reducible (refine ah 24 (.tmp 110) ?lx ?_));(case lx=>rfl);refine fA (hL.rng 0 rfl 1 ([.int .i64 t.s0,.int .i64 t.s1]) rfl) Tryz.underlying24 rfl acG rfl (.tmp 110) rfl rfl ?_) | ((with_reducible (refine aI 24 (.tmp 110) ?lx ?_));(case lx=>rfl);refine eu (hL.rng 0 rfl 1 ([.int .i64 t.s0,.int .i64 t.s1]) rfl) Tryz.underlying24 rfl acG (.tmp 110) rfl rfl ?_) | (at_builtin;refine wpList_append_lies _ rfl _ _ _ rfl D 24 i0 (.agg #[.int .i64 0,.int .i64 0]) 2 16 Tryz.underlying63 hi0 hz0 hz1 hz2 rfl (by omega) _ _ _ rfl (hOw.alloc _) ⟨wc.heap.size,0,none⟩ 1 1 ([.int .i64 t.s0,.int .i64 t.s1]) rfl rfl (jW _ _ _ _ (by simp)) (by simp [Value.oneCell']) (by omega) (by simp only [maxLen];omega) (by omega) (by simp;omega) (wc.heap.size+1) (by simp) ?_))
             intro g1 cap w6 hown6 hgrow hat an7;have hJ6:=(hJ.alloc _).ahw (hOw.alloc _) (by omega) hgrow HT9.out
             have hD6:D≤w6.heap.size:=by have:=hgrow.size;simp at this;omega
             have e4:(aa8 g l (k+1)).flatMap ad4=(aa8 g l k).flatMap ad4++[.int .i64 t.s0,.int .i64 t.s1]:=by rw [DI.out.1,List.flatMap_append];rfl
             rw [← e4] at hown6;have HO6:=hide hown6;clear e4 hown6 hgrow hat hOw hJ hM hO hL hent h01
             go_wp2_with (first | ((with_reducible (refine ah 26 (.tmp 15) ?lx ?_));(case lx=>rfl);refine aK (hJ6.rng 0 rfl 0 ([.int .i64 t.turn,.int .i64 t.s0,.int .i64 t.s1,.int .i64 t.brk,.string t.phase,.int .i64 t.bI,.int .i64 t.colour,.bool t.free,.bool t.aT,.int .i64 t.aP,.int .i64 t.t0,.int .i64 t.t1,.int .i64 t.aB]) rfl) Tryz.underlying26 rfl ak rfl (.tmp 15) rfl rfl ?_) | ((with_reducible (refine ah 26 (.tmp 15) ?lx ?_));(case lx=>rfl);refine fA (hJ6.rng 0 rfl 0 ([.int .i64 t.turn,.int .i64 t.s0,.int .i64 t.s1,.int .i64 t.brk,.string t.phase,.int .i64 t.bI,.int .i64 t.colour,.bool t.free,.bool t.aT,.int .i64 t.aP,.int .i64 t.t0,.int .i64 t.t1,.int .i64 t.aB]) rfl) Tryz.underlying26 rfl ak rfl (.tmp 15) rfl rfl ?_) | ((with_reducible (refine aI 26 (.tmp 15) ?lx ?_));(case lx=>rfl);refine eu (hJ6.rng 0 rfl 0 ([.int .i64 t.turn,.int .i64 t.s0,.int .i64 t.s1,.int .i64 t.brk,.string t.phase,.int .i64 t.bI,.int .i64 t.colour,.bool t.free,.bool t.aT,.int .i64 t.aP,.int .i64 t.t0,.int .i64 t.t1,.int .i64 t.aB]) rfl) Tryz.underlying26 rfl ak (.tmp 15) rfl rfl ?_) | ((with_reducible (refine aH 26 (.tmp 10) (.tmp 114) ?lx ?_));(case lx=>rfl);refine aC (hJ6.get 1 rfl) (aO t) rfl ak (bH _) rfl (.tmp 10) (.tmp 114) rfl rfl rfl ?_))
             have hZ:=hJ6.swap.put (aO t) rfl;have hOz:=adY HO6.out (own_ne HO6.out (hJ6.get 1 rfl) (by decide)) (aO t) 0;have HZ:=hide (And.intro hZ hOz);clear hZ hOz hJ6 HO6
             go_roundw
             case rel=>exact ⟨k+1,some ⟨g1,0,none⟩,cap,q0,q1,by omega,by go_num,rfl,HQN,by omega,by rw [setCells_size];exact hD6,by rw [HT.out];exact HZ.out.1.swap.tail,HZ.out.2⟩
             case measure=>simp [intOf];omega
       · as_aux_lemma=>
          rename World=>wd
          have hke:k=l.length:=by omega
          subst hke;have hcl:=aen g l (Nat.le_refl _);have hok:=zF HKG.out HPT.out.2.1 l.length (Nat.le_refl _);have ajq:=aex pq.out 0 (.inl rfl);have ajz:=aex pq.out 1 (.inr rfl)
          have hau:Sk.qE g (bare l) (aa8 g l l.length)=0:=by unfold aa8 Sk.qE;rw [List.take_length];exact Sk.adp _ _ _ _
          have hsg:∀ q,q<l.length→(aa8 g l l.length)[q]? =some ((jq g l (q+1)).s0,(jq g l (q+1)).s1):=fun q hq=>by
           unfold aa8
           rw [List.take_length,Sk.ac5 g (bare l) _ q (by rw [kQ];exact hq)]
           have e:(bare l).take (q+1)=bare (l.take (q+1)):=by unfold bare;rw [List.map_take]
           rw [e];rfl
          have akV:aa8 g l l.length=Sk.aal g (Sk.start g) (bare l):=by unfold aa8;rw [List.take_length]
          obtain ⟨s,hs⟩:∃ q,jq g l l.length=q:=⟨_,rfl⟩;rw [hs] at hM hok ajq ajz;rw [← HPN.out.1] at ajq;rw [← HPN.out.2] at ajz;obtain ⟨C,hC⟩:∃ q,aa8 g l l.length=q:=⟨_,rfl⟩;rw [hC] at hO hcl hau hsg akV;obtain ⟨n00,n01⟩:=hok.inr.s0;obtain ⟨n10,n11⟩:=hok.inr.s1;have hl2:=hl.below hM.bw;have HAL:=hide (And.intro ajq ajz);have HCC:=hide (And.intro hcl (And.intro hau (And.intro hsg akV)));have HL2:=hide hl2;have HOR:=hide hO;clear hlt hcl hok ajq ajz hau hsg akV hs hC hl2 hO HPN;have hL:=Bx.nil wd
          go_upto_block 2 with (fail)
          go_cut [] from 116 to 152 (fun wx=>Bx wd wx [])
          case first=>
           as_aux_lemma=>
            go_wp2
            go_loopw [116] (fun i wx=>∃ k:Nat,k≤2∧i= .int .i64 k∧Bx wd wx []) (fun i _=>2 - (intOf i).toNat)
            case atStart=>exact ⟨0,by omega,rfl,hL⟩
            case round=>
             obtain ⟨k,hk2,rfl,hL⟩:=hrel
             by_cases hlt2:k<2
             · obtain ⟨gv,sc,bs,hE,hR0,hpos,htot,hgb,anh,hk0,hk1⟩:∃ (gv sc:Int) (bs:List Int),Vd g l k=0∧Ve g l k=bs∧(∀ b∈bs,0<b)∧gv+Sk.total bs=sc∧(0≤gv∧gv≤16000000)∧sc≤99999∧(k=0→gv=p0∧sc=s.s0)∧(k=1→gv=p1∧sc=s.s1):=by
                have ahM:k=0∨k=1:=by omega
                rcases ahM with rfl | rfl
                · exact ⟨p0,s.s0,Ve g l 0,HAL.out.1.1,rfl,HAL.out.1.2.1,HAL.out.1.2.2,by omega,by omega,fun _=>⟨rfl,rfl⟩,fun h=>by omega⟩
                · exact ⟨p1,s.s1,Ve g l 1,HAL.out.2.1,rfl,HAL.out.2.2.1,HAL.out.2.2.2,by omega,by omega,fun h=>by omega,fun _=>⟨rfl,rfl⟩⟩
               have hbk:=fun W h=>xE S g l A c k W h;rw [hE,hR0] at hbk;have RY:=hide hbk;have HK:=hide (And.intro hk0 hk1);have HTT:=hide htot;have HPO:=hide hpos;clear hE hR0 hbk hk0 hk1 htot hpos
               go_upto_region 26 with (fail)
               go_cut [19,20] from 117 to 126 (fun v19 v20 wx=>∃ U5 c19,v19= .slice U5 bs.length c19∧v20= .int .i64 0∧jV wx (fun _=>True) U5 c19 bs∧Bx wd wx [])
               case first=>
                go_wp2_with (first | ((with_reducible (refine ah 23 (.tmp 3) ?lx ?_));(case lx=>rfl);refine aK ((hM.call hL.bw).rng 3 rfl 0 ([.string g.kind,.int .i64 g.bI,.int .i64 g.target,.int .i64 g.turns]) rfl) Tryz.underlying23 rfl cZ rfl (.tmp 3) rfl rfl ?_) | ((with_reducible (refine ah 23 (.tmp 3) ?lx ?_));(case lx=>rfl);refine fA ((hM.call hL.bw).rng 3 rfl 0 ([.string g.kind,.int .i64 g.bI,.int .i64 g.target,.int .i64 g.turns]) rfl) Tryz.underlying23 rfl cZ rfl (.tmp 3) rfl rfl ?_) | ((with_reducible (refine aI 23 (.tmp 3) ?lx ?_));(case lx=>rfl);refine eu ((hM.call hL.bw).rng 3 rfl 0 ([.string g.kind,.int .i64 g.bI,.int .i64 g.target,.int .i64 g.turns]) rfl) Tryz.underlying23 rfl cZ (.tmp 3) rfl rfl ?_) | (go_at_call 26;refine (RY.out _ (HL2.out.below hL.bw)).mono ?_;rintro e w26 ⟨U5,c19,rfl,hR,amB⟩;have hL:=hL.call amB))
                go_meet;exact ⟨_,_,rfl,rfl,jV.more hR (fun _ _ _=>trivial),hL⟩
               case rest=>
                obtain ⟨U5,c19,rfl,rfl,hR,hL⟩:=hcut
                go_upto_region 27 with (fail)
                go_cut [21] from 126 to 129 (fun v21 wx=>v21= .int .i64 gv∧jV wx (fun _=>True) U5 c19 bs∧Bx wd wx [])
                case first=>
                 have Hr:=((hM.call hL.bw).get 1 rfl).cell (j:=0) rfl;have LP:=((hM.call hL.bw).get 1 rfl).cell (j:=1) rfl
                 have ahM:k=0∨k=1:=by omega
                 rcases ahM with rfl | rfl
                 · have hv:=(HK.out.1 rfl).1
                   have HV:=hide hv;clear hv;rw [show ((0:Nat):Int)=0 from rfl];go_wp2;go_meet;exact ⟨congrArg _ HV.out.symm,hR,hL⟩
                 · have hv:=(HK.out.2 rfl).1
                   have HV:=hide hv;clear hv;rw [show ((1:Nat):Int)=1 from rfl];go_wp2;go_meet;exact ⟨congrArg _ HV.out.symm,hR,hL⟩
                case rest=>
                 obtain ⟨rfl,hR,hL⟩:=hcut;obtain ⟨rb1,rb2,rb3⟩:=hR.bd;have hsz:=fun j=>Sk.ae4 HPO.out j;have HSZ:=hide hsz;clear hsz
                 go_upto_block 4 with (fail)
                 go_cut [21] from 129 to 141 (fun v21 wx=>v21= .int .i64 sc∧Bx wd wx [])
                 case first=>
                  go_wp2
                  go_loop [21,131] (fun v21 i=>∃ j:Nat,j≤bs.length∧i= .int .i64 j∧v21= .int .i64 (gv+Sk.total (bs.take j))) (fun _ i=>bs.length - (intOf i).toNat)
                  case atStart=>exact ⟨0,Nat.zero_le _,rfl,by simp [Sk.total]⟩
                  case round=>
                   obtain ⟨j,hj,rfl,rfl⟩:=hrel
                   by_cases hlj:j<bs.length
                   · obtain ⟨b2,o2,rfl,_,hb2,hc2⟩:=hR.at_ j hlj
                     have hcj:=hc2 j hlj;have hq0:=HPO.out _ (List.getElem_mem hlj);have hq1:=HSZ.out j;have hq2:=HSZ.out (j+1);have hst:=Sk.aeW hlj;have htt:=HTT.out;obtain ⟨T,hT⟩:∃ q,Sk.total (bs.take j)=q:=⟨_,rfl⟩;obtain ⟨z,hz⟩:∃ q,bs[j]=q:=⟨_,rfl⟩;rw [hT,hz] at hst;rw [hT] at hq1 ⊢;rw [hz] at hcj hq0;have d1:decide (z≤0)=false:=decide_eq_false (by omega);have HST:=hide hst;rw [hst] at hq2
                     have hbd:0≤gv+T+z∧gv+T+z≤99999:=by omega
                     clear hst hc2 hT hz htt;go_wp2
                     go_round
                     case rel=>exact ⟨j+1,by omega,by go_num,congrArg _ (by have h:=HST.out;omega)⟩
                     case measure=>simp [intOf];omega
                   · have hje:bs.take j=bs:=List.take_of_length_le (by omega)
                     rw [hje,HTT.out];clear hje;go_wp2;go_meet;exact ⟨rfl,hL⟩
                 case rest=>
                  obtain ⟨rfl,hL⟩:=hcut;clear hR rb1 rb2 rb3
                  go_upto_region 35 with (fail)
                  go_cut [150] from 141 to 151 (fun anA wx=>anA= .bool false∧Bx wd wx [])
                  case first=>
                   have LP:=((hM.call hL.bw).get 0 rfl).cell (j:=1) rfl;have kb2:=((hM.call hL.bw).get 0 rfl).cell (j:=2) rfl
                   have ahM:k=0∨k=1:=by omega
                   have hzz:(sc != sc)=false:=by simp
                   rcases ahM with rfl | rfl
                   · have hv:=(HK.out.1 rfl).2
                     rw [← hv] at LP;clear hv;rw [show ((0:Nat):Int)=0 from rfl];go_wp2;go_meet;exact ⟨rfl,hL⟩
                   · have hv:=(HK.out.2 rfl).2
                     rw [← hv] at kb2;clear hv;rw [show ((1:Nat):Int)=1 from rfl];go_wp2;go_meet;exact ⟨rfl,hL⟩
                  case rest=>
                   obtain ⟨rfl,hL⟩:=hcut;clear hgb anh;go_wp2
                   go_roundw
                   case rel=>exact ⟨k+1,by omega,by go_num,hL⟩
                   case measure=>simp [intOf];omega
             · have hke2:k=2:=by omega
               subst hke2;rw [show ((2:Nat):Int)=2 from rfl];go_wp2;go_meet;exact hL
          case rest=>
           have hL:Bx wd _ []:=hcut
           have hRQ:RdQ wd (fun b=>D≤b) A8 c8 C:=by
            have h:=Reads.Aw HOR.out (S:=fun b=>D≤b) (fun b h=>h) (by omega)
            unfold RdQ
            rw [HCC.out.1];exact h
           have hau:=fun W h1 h2=>zf S (fun b=>D≤b) g l C A A8 c c8 W h1 h2
           have hE:RZ g l C=0:=by unfold RZ;rw [rQ,pq.out,HCC.out.1];simp [iL]
           have hV:Wq g l C=0:=by unfold Wq;rw [if_pos hE,HCC.out.2.1]
           rw [hE,hV,HCC.out.1] at hau;have HAU:=hide hau;have HRQ:=hide hRQ;clear hau hE hV hRQ
           go_upto_region 38 with (fail)
           go_cut [24,25] from 152 to 159 (fun v24 v25 wx=>v24= .int .i64 0∧v25= .int .i64 0∧Bx wd wx [])
           case first=>
            go_wp2_with (first | ((with_reducible (refine ah 23 (.tmp 3) ?lx ?_));(case lx=>rfl);refine aK ((hM.call hL.bw).rng 3 rfl 0 ([.string g.kind,.int .i64 g.bI,.int .i64 g.target,.int .i64 g.turns]) rfl) Tryz.underlying23 rfl cZ rfl (.tmp 3) rfl rfl ?_) | ((with_reducible (refine ah 23 (.tmp 3) ?lx ?_));(case lx=>rfl);refine fA ((hM.call hL.bw).rng 3 rfl 0 ([.string g.kind,.int .i64 g.bI,.int .i64 g.target,.int .i64 g.turns]) rfl) Tryz.underlying23 rfl cZ rfl (.tmp 3) rfl rfl ?_) | ((with_reducible (refine aI 23 (.tmp 3) ?lx ?_));(case lx=>rfl);refine eu ((hM.call hL.bw).rng 3 rfl 0 ([.string g.kind,.int .i64 g.bI,.int .i64 g.target,.int .i64 g.turns]) rfl) Tryz.underlying23 rfl cZ (.tmp 3) rfl rfl ?_) | (go_at_call 34;refine (HAU.out _ (HL2.out.below hL.bw) (Reads.below HRQ.out hL.bw)).mono ?_;rintro e w38 ⟨rfl,am0⟩;have hL:=hL.call am0))
            go_meet;exact ⟨rfl,rfl,hL⟩
           case rest=>
            obtain ⟨rfl,rfl,hL⟩:=hcut
            by_cases hl0:l.length=0
            · have hl1:((l.length:Int) == 0)=true:=by simp [hl0]
              clear hl0;go_wp2;go_ret;exact ⟨rfl,(hM.call hL.bw).bw⟩
            · have hl1:((l.length:Int) == 0)=false:=by simp [hl0]
              have hlp:0<l.length:=by omega
              obtain ⟨gb,rfl,hgb⟩:=ah3 HOR.out hlp
              obtain ⟨q,hq,hql⟩:∃ q:Nat,n.tmod (l.length:Int)=(q:Int)∧q<l.length:=by
               refine ⟨(n % (l.length:Int)).toNat,?_,?_⟩
               · rw [Int.tmod_eq_emod_of_nonneg hn0.1]
                 have:=Int.emod_nonneg n (show (l.length:Int)≠0 by omega)
                 omega
               · have:=Int.emod_lt_of_pos n (show (0:Int)<(l.length:Int) by omega)
                 have:=Int.emod_nonneg n (show (l.length:Int)≠0 by omega)
                 omega
              have hqc:q<C.length:=by rw [HCC.out.1];exact hql
              have hget:=HCC.out.2.2.1 q hql;have akp:=zF HKG.out HPT.out.2.1 (q+1) hql;obtain ⟨v0,v1⟩:=akp.inr.s0;obtain ⟨v2,v3⟩:=akp.inr.s1;obtain ⟨a,ha⟩:∃ z,(jq g l (q+1)).s0=z:=⟨_,rfl⟩;obtain ⟨b,hb⟩:∃ z,(jq g l (q+1)).s1=z:=⟨_,rfl⟩;rw [ha] at hget v0 v1;rw [hb] at hget v2 v3
              have hCq:C[q]=(a,b):=by rw [List.getElem?_eq_getElem hqc] at hget;exact Option.some.inj hget
              have HGE:=hide (And.intro hget hCq);have HAD:=hide (HCC.out.2.1)
              have alL:n.tmod 2=0∨n.tmod 2=1:=by rw [Int.tmod_eq_emod_of_nonneg hn0.1];omega
              have hnw:IntKind.i64.wrap n=n:=by rw [IntKind.wrap_i64];omega
              clear hget hCq ha hb akp HAU HRQ hl0;have HQ:=hide hq;have hB:=hM.call hL.bw;have hOw:=adG HOR.out hL.bw
              go_upto_region 43 with (fail)
              go_cut [26] from 165 to 173 (fun v26 wx=>v26= .int .i64 q∧Bx w wx [(B10,aO s,26),(B9,[.int .i64 p0,.int .i64 p1],24),(B7,bT g,28),(w.heap.size,bT g,23)]∧wx.ownsRow D 24 2 (.slice (some ⟨gb,0,none⟩) l.length c8) l.length (C.flatMap ad4))
              case first=>
               clear alL HQ;go_wp2;go_meet;exact ⟨rfl,hB,hOw⟩
              case rest=>
               obtain ⟨rfl,hB,hOw⟩:=hcut;have hq:=HQ.out
               have hT9:∀ p∈[(B10,aO s,26),(B9,[.int .i64 p0,.int .i64 p1],24),(B7,bT g,28),(w.heap.size,bT g,23)],p.1<D∨p.2.2≠24:=by
                intro p hp
                simp only [List.mem_cons,List.not_mem_nil,or_false] at hp
                rcases hp with rfl | rfl | rfl | rfl
                all_goals exact .inl (by assumption)
               have HT9:=hide hT9;clear hT9 hq
               go_upto_region 44 with (fail)
               go_cut [] from 173 to 184 (fun wx=>∃ C2:List (Int × Int),Aside (∃ z,C2=C.set q z∧C[q]? ≠some z)∧Bx w wx [(B10,aO s,26),(B9,[.int .i64 p0,.int .i64 p1],24),(B7,bT g,28),(w.heap.size,bT g,23)]∧wx.ownsRow D 24 2 (.slice (some ⟨gb,0,none⟩) l.length c8) l.length (C2.flatMap ad4))
               case first=>
                have hOd:wc.drew.ownsRow D 24 2 (.slice (some ⟨gb,0,none⟩) l.length c8) l.length (C.flatMap ad4):=hOw;have hr0:(C.flatMap ad4)[q*2]? =some (.int .i64 a):=uD (f:=ad4) (n:=2) (fun _=>rfl) q hqc (j:=0) (by rw [HGE.out.2];rfl);have hr1:(C.flatMap ad4)[q*2+1]? =some (.int .i64 b):=uD (f:=ad4) (n:=2) (fun _=>rfl) q hqc (j:=1) (by rw [HGE.out.2];rfl);have kw0:=(hOw.cellAt (q*2) (by omega)).trans hr0;have kw1:=(hOw.cellAt (q*2+1) (by omega)).trans hr1;have kd0:=(hOd.cellAt (q*2) (by omega)).trans hr0;have kd1:=(hOd.cellAt (q*2+1) (by omega)).trans hr1;have Xz:=hOw.frozenAt (q*2);have VI:=hOw.frozenAt (q*2+1);have kg0:=hOd.frozenAt (q*2);have kg1:=hOd.frozenAt (q*2+1)
                have i1:(0:Int)≤(q:Int):=by omega
                have i2:(q:Int)<(l.length:Int):=by omega
                have hwa:IntKind.i64.wrap (a+1)=a+1:=by rw [IntKind.wrap_i64];omega
                have hwb:IntKind.i64.wrap (b+1)=b+1:=by rw [IntKind.wrap_i64];omega
                clear hr0 hr1
                rcases alL with hj0 | hj1
                · have HC2:=hide (show ∃ z,C.set q (a+1,C[q].2)=C.set q z∧C[q]? ≠some z from ⟨_,rfl,by rw [HGE.out.1];intro h;have:=congrArg (fun o=>(o.getD (0,0)).1) h;simp at this;omega⟩)
                  clear kw1 kd1 VI kg1 hwb;have hB:=hB.drew;refine wp_region_held_drew (S:=(fun w':World=>Bx w w' [(B10,aO s,26),(B9,[.int .i64 p0,.int .i64 p1],24),(B7,bT g,28),(w.heap.size,bT g,23)])) (by kernel_rfl) ?mJ (fun hHeld=>?_)
                  case mJ=>exact hB
                  refine tk 0 ?_;refine tk 1 ?_;refine tk 2 ?_;refine tk 3 ?_;refine tk 4 ?_;refine tk 5 ?_;refine tk 6 ?_;refine tk 9 ?_;refine tr 7 fun K hK=>?_;go_simp;refine hK.out _ _ ?alT (fun hHeld=>?_)
                  case alT=>(exact hB)
                  clear hK K
                  try simp only [Act.put,la,lz,ls]
                  refine tk 8 ?_;refine tk 10 ?_;refine tr 11 fun K hK=>?_;go_simp;have hB:=hB.ahw hOd (by omega) (hOd.stored (q*2) (.int .i64 (a+1))).2 HT9.out;refine hK.out _ _ ?ak3 (fun hHeld=>?_)
                  case ak3=>(exact hB)
                  clear hK K
                  try simp only [Act.put,la,lz,ls]
                  refine wpAnyH_done (by kernel_rfl) ?_ _;go_wp2;go_meet;exact ⟨_,HC2,hB,by rw [← afk C q hqc (a+1)];exact (hOd.stored (q*2) (.int .i64 (a+1))).1⟩
                · have HC2:=hide (show ∃ z,C.set q (C[q].1,b+1)=C.set q z∧C[q]? ≠some z from ⟨_,rfl,by rw [HGE.out.1];intro h;have:=congrArg (fun o=>(o.getD (0,0)).2) h;simp at this;omega⟩)
                  clear kw0 kd0 Xz kg0 hwa;have hB:=hB.drew;refine wp_region_held_drew (S:=(fun w':World=>Bx w w' [(B10,aO s,26),(B9,[.int .i64 p0,.int .i64 p1],24),(B7,bT g,28),(w.heap.size,bT g,23)])) (by kernel_rfl) ?mM (fun hHeld=>?_)
                  case mM=>exact hB
                  refine tk 0 ?_;refine tk 1 ?_;refine tk 2 ?_;refine tk 3 ?_;refine tk 4 ?_;refine tk 5 ?_;refine tk 6 ?_;refine tk 9 ?_;refine tr 7 fun K hK=>?_;go_simp;refine hK.out _ _ ?al2 (fun hHeld=>?_)
                  case al2=>(exact hB)
                  clear hK K
                  try simp only [Act.put,la,lz,ls]
                  refine tk 8 ?_;refine tk 10 ?_;refine tr 11 fun K hK=>?_;go_simp;have hB:=hB.ahw hOd (by omega) (hOd.stored (q*2+1) (.int .i64 (b+1))).2 HT9.out;refine hK.out _ _ ?alc (fun hHeld=>?_)
                  case alc=>(exact hB)
                  clear hK K
                  try simp only [Act.put,la,lz,ls]
                  refine wpAnyH_done (by kernel_rfl) ?_ _;go_wp2;go_meet;exact ⟨_,HC2,hB,by rw [← aft C q hqc (b+1)];exact (hOd.stored (q*2+1) (.int .i64 (b+1))).1⟩
               case rest=>
                obtain ⟨C2,HC2,hB,hOw⟩:=hcut;obtain ⟨z,hz1,hz2⟩:=HC2.out
                have ajH:C2.length=l.length:=by rw [hz1,List.length_set,HCC.out.1]
                have hRQ:RdQ wc (fun b=>D≤b) (some ⟨gb,0,none⟩) c8 C2:=by
                 have h:=Reads.Aw hOw (S:=fun b=>D≤b) (fun b h=>h) (by omega)
                 unfold RdQ
                 rw [ajH];exact h
                have hau:=fun W h1 h2=>zf S (fun b=>D≤b) g l C2 A (some ⟨gb,0,none⟩) c c8 W h1 h2
                have hE:RZ g l C2=0:=by unfold RZ;rw [rQ,pq.out,ajH];simp [iL]
                have hV:Wq g l C2=(q:Int)+1:=by
                 unfold Wq Sk.qE
                 rw [if_pos hE,hz1,HCC.out.2.2.2,Sk.acP g z (bare l) (Sk.start g) 1 q (by rw [kQ];exact hql) (by rw [← HCC.out.2.2.2];exact hz2)]
                 omega
                rw [hE,hV,ajH] at hau;have hl3:=hl.below hB.bw;have HAU:=hide (hau wc hl3 hRQ);clear hau hE hV hRQ hz1 hz2 ajH hl3;have hL:=hB
                go_upto_region 45 with (fail)
                go_cut [24,25] from 184 to 191 (fun v24 v25 wx=>v24= .int .i64 ((q:Int)+1)∧v25= .int .i64 0∧Bx w wx [(B10,aO s,26),(B9,[.int .i64 p0,.int .i64 p1],24),(B7,bT g,28),(w.heap.size,bT g,23)])
                case first=>
                 go_wp2_with (first | ((with_reducible (refine ah 23 (.tmp 3) ?lx ?_));(case lx=>rfl);refine aK (hL.rng 3 rfl 0 ([.string g.kind,.int .i64 g.bI,.int .i64 g.target,.int .i64 g.turns]) rfl) Tryz.underlying23 rfl cZ rfl (.tmp 3) rfl rfl ?_) | ((with_reducible (refine ah 23 (.tmp 3) ?lx ?_));(case lx=>rfl);refine fA (hL.rng 3 rfl 0 ([.string g.kind,.int .i64 g.bI,.int .i64 g.target,.int .i64 g.turns]) rfl) Tryz.underlying23 rfl cZ rfl (.tmp 3) rfl rfl ?_) | ((with_reducible (refine aI 23 (.tmp 3) ?lx ?_));(case lx=>rfl);refine eu (hL.rng 3 rfl 0 ([.string g.kind,.int .i64 g.bI,.int .i64 g.target,.int .i64 g.turns]) rfl) Tryz.underlying23 rfl cZ (.tmp 3) rfl rfl ?_) | (go_at_call 34;refine (HAU.out).mono ?_;rintro e w45 ⟨rfl,am8⟩;have hL:=hL.call am8))
                 go_meet;exact ⟨rfl,rfl,hL⟩
                case rest=>
                 obtain ⟨rfl,rfl,hL⟩:=hcut
                 have hqq:((q:Int)+1 == (q:Int)+1)=true:=by simp
                 go_wp2;go_ret;exact ⟨rfl,hL.bw⟩
end Go.Proofs.YtjbbfmofpjflmaaGreatDoor
