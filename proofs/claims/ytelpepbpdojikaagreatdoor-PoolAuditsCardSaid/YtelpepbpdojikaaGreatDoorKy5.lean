/- Parts of a proof. -/
import Derived.Test.YtelpepbpdojikaaGreatDoorKg9
import Derived.Test.YtelpepbpdojikaaGreatDoorKy4
set_option maxHeartbeats 4000000
set_option maxRecDepth 100000
set_option linter.unusedVariables false
set_option linter.unusedSimpArgs false
namespace Go.Proofs.YtelpepbpdojikaaGreatDoor
open Go.RowKit
theorem ZO (g:ByteArray) (l:List UInt8):(g.toList=l)=(g=⟨l.toArray⟩):=by
 apply propext
 constructor
 · intro h;exact lg (by rw [h,ByteArray.toList_eq])
 · rintro rfl;exact ByteArray.toList_eq _
def aol (S:Nat→Prop) (w:World):Nat→Prop:=fun b=>S b∨w.heap.size≤b
theorem ZU (S:Nat→Prop) (r:M.Rules) (s:M.State) (A:Option Addr) (c:Nat) (w:World) (hp:bD w S A c s.ay) (h:r.game=M.aB∨r.game=M.bM∨(r.game=M.aQ∧s.brk=true)):
 Calls Tryz.prog 51 #[jM r,wF s A c] w fun e w'=>∃ A' c',e= .returned (.slice A' (M.targets r s).length c')∧bD w' (aol S w) A' c' (M.targets r s)∧Below w.heap.size w w':=by
 obtain ⟨c1,c2,c3⟩:=hp.bd;obtain ⟨g,tg,fo⟩:=r;obtain ⟨a0,a1,a2,a3,a4,gr,bl,b0,b1,b2,b3,b4,b5,b6,b7⟩:=s
 simp only at h c1 c3 hp
 have hbw:Below w.heap.size w ((w.alloc (.cells #[.string g,.int .i64 tg,.int .i64 fo] 25)).alloc (.cells #[.int .i64 a0,.bool a1,.bool a2,.bool a3,.bool a4,.int .i64 gr,.slice A bl.length c,.int .i64 b0,.int .i64 b1,.int .i64 b2,.int .i64 b3,.int .i64 b4,.int .i64 b5,.bool b6,.int .i64 b7] 42)):=((Below.refl _ _).alloc (Nat.le_refl _) _).alloc (by simp) _
 rcases h with rfl | rfl | ⟨rfl,rfl⟩
 · have ht:M.targets ⟨M.aB,tg,fo⟩ ⟨a0,a1,a2,a3,a4,gr,bl,b0,b1,b2,b3,b4,b5,b6,b7⟩=bl:=by simp [M.targets]
   rw [ht]
   go_enter Tryz.func51,Tryz.ntmps51
   go_wp2;go_ret;exact ⟨A,c,rfl,((hp.alloc _).alloc _).more (fun b _ h=> .inl h),hbw⟩
 · have ht:M.targets ⟨M.bM,tg,fo⟩ ⟨a0,a1,a2,a3,a4,gr,bl,b0,b1,b2,b3,b4,b5,b6,b7⟩=bl.take 1:=by simp [M.targets]
   rw [ht]
   by_cases hl:bl=[]
   · subst hl
     go_enter Tryz.func51,Tryz.ntmps51
     go_wp2;go_ret;exact ⟨none,0,rfl,Reads.none_ _ _ _,hbw⟩
   · have hl2:1≤bl.length:=by cases bl with | nil=>exact absurd rfl hl | cons a l=>simp
     have hc1:1≤c:=by omega
     have hl3:((bl.length:Int) == 0)=false:=by simp;exact hl
     go_enter Tryz.func51,Tryz.ntmps51
     go_wp2;go_ret
     have hlen:(bl.take 1).length=1:=by rw [List.length_take];omega
     refine ⟨A,c,by rw [hlen];rfl,?_,hbw⟩
     unfold bD
     rw [hlen,List.map_take];exact (Reads.take (k:=1) (bD.more ((hp.alloc _).alloc _) (fun b _ h=> .inl h)) hl2)
 · have ht:M.targets ⟨M.aQ,tg,fo⟩ ⟨a0,true,a2,a3,a4,gr,bl,b0,b1,b2,b3,b4,b5,b6,b7⟩=bl:=by simp [M.targets]
   rw [ht]
   go_enter Tryz.func51,Tryz.ntmps51
   go_wp2;go_ret;exact ⟨A,c,rfl,((hp.alloc _).alloc _).more (fun b _ h=> .inl h),(((Below.refl _ _).alloc (Nat.le_refl _) _).alloc (by simp) _)⟩
theorem ac9 (S:Nat→Prop) (tg fo:Int) (s:M.State) (A:Option Addr) (c:Nat) (w:World) (hp:bD w S A c s.ay) (hk:s.brk=false) (hg:0≤s.group∧s.group≤2):
 Calls Tryz.prog 51 #[jM ⟨M.aQ,tg,fo⟩,wF s A c] w fun e w'=>∃ A' c',e= .returned (.slice A' (M.targets ⟨M.aQ,tg,fo⟩ s).length c')∧bD w' (aol S w) A' c' (M.targets ⟨M.aQ,tg,fo⟩ s)∧Below w.heap.size w w':=by
 obtain ⟨i0,hi,hz0,hz1,hz2⟩:=info_parts uN;obtain ⟨c1,c2,c3⟩:=hp.bd;obtain ⟨a0,a1,a2,a3,a4,gr,bl,b0,b1,b2,b3,b4,b5,b6,b7⟩:=s
 simp only at hk c1 c3 hp hg
 subst hk
 have ht:M.targets ⟨M.aQ,tg,fo⟩ ⟨a0,false,a2,a3,a4,gr,bl,b0,b1,b2,b3,b4,b5,b6,b7⟩=if bl.filter (colour ⟨a0,false,a2,a3,a4,gr,bl,b0,b1,b2,b3,b4,b5,b6,b7⟩)=[]∧(8:Int)∈bl then [8] else bl.filter (colour ⟨a0,false,a2,a3,a4,gr,bl,b0,b1,b2,b3,b4,b5,b6,b7⟩):=by
  simp [M.targets,EU]
 have HT:=hide ht;clear ht
 go_enter Tryz.func51,Tryz.ntmps51
 go_wp2
 go_loopw [5,6] (fun v i wr=>∃ k:Nat,k≤bl.length∧i= .int .i64 k∧(∃ A c,v= .slice A ((bl.take k).filter (colour ⟨a0,false,a2,a3,a4,gr,bl,b0,b1,b2,b3,b4,b5,b6,b7⟩)).length c)∧wr.ownsRow (w.heap.size+2) 3 1 v ((bl.take k).filter (colour ⟨a0,false,a2,a3,a4,gr,bl,b0,b1,b2,b3,b4,b5,b6,b7⟩)).length (((bl.take k).filter (colour ⟨a0,false,a2,a3,a4,gr,bl,b0,b1,b2,b3,b4,b5,b6,b7⟩)).map (Value.int .i64))∧Below (w.heap.size+2) ((w.alloc (.cells #[.string M.aQ,.int .i64 tg,.int .i64 fo] 25)).alloc (.cells #[.int .i64 a0,.bool false,.bool a2,.bool a3,.bool a4,.int .i64 gr,.slice A bl.length c,.int .i64 b0,.int .i64 b1,.int .i64 b2,.int .i64 b3,.int .i64 b4,.int .i64 b5,.bool b6,.int .i64 b7] 42)) wr)
  (fun _ i _=>bl.length - (intOf i).toNat)
 case atStart=>exact ⟨0,by omega,rfl,⟨_,_,rfl⟩,World.ownsRow_nil _ _ _ _,Below.refl _ _⟩
 case round=>
  obtain ⟨k,hk,rfl,⟨A1,c1',rfl⟩,hown,hb⟩:=hrel;obtain ⟨hcb,hfb⟩:=ath hb;have hsz:=hb.size
  simp at hsz
  have hfl:=filter_le (colour ⟨a0,false,a2,a3,a4,gr,bl,b0,b1,b2,b3,b4,b5,b6,b7⟩) bl k
  by_cases hlt:k<bl.length
  · obtain ⟨b,o,rfl,_,hbl,hc⟩:=hp.at_ k hlt
    have hck:=hc k hlt;clear hc
    have P9:b<w.heap.size+1:=by omega
    have XM:b<w.heap.size+2:=by omega
    by_cases h8:bl[k]=8
    · have h8':(bl[k] != 8)=false:=by simp [h8]
      have HS:=hide (Bh (p:=(colour ⟨a0,false,a2,a3,a4,gr,bl,b0,b1,b2,b3,b4,b5,b6,b7⟩)) hlt (by simp [colour,h8]));have H8:=hide h8;clear h8;go_wp2
      go_quiet (fail)
      go_wp2
      go_roundw
      case rel=>exact ⟨k+1,by omega,by go_num,by rw [HS.out];exact ⟨⟨_,_,rfl⟩,own_drewN hown _,below_drewN hb _⟩⟩
      case measure=>simp [intOf];omega
    · have h8':(bl[k] != 8)=true:=by simp [h8]
      by_cases hgr:gr=0
      · have U9:(gr == 0)=true:=by simp [hgr]
        have HS:=hide (zk (p:=(colour ⟨a0,false,a2,a3,a4,gr,bl,b0,b1,b2,b3,b4,b5,b6,b7⟩)) hlt (by simp [colour,h8,hgr]));have HG:=hide hgr;clear hgr;go_wp2
        go_quiet (fail)
        rename_i nq;have hown':=own_drewN hown nq;have hsz2:w.heap.size+2≤(wr.drewN nq).heap.size:=hsz
        go_wp2_with (at_builtin;refine wpList_append_lies _ rfl _ _ _ rfl (w.heap.size+2) 3 i0 (.int .i64 0) 1 8 Tryz.underlying30 hi hz0 hz1 hz2 rfl (by omega) _ _ _ rfl (hown'.alloc _) ⟨(wr.drewN nq).heap.size,0,none⟩ 1 1 [.int .i64 bl[k]] rfl rfl (dK _ _ _ _ (by simp)) ?c1 (by omega) ?c2 ?c3 ?c4 ((wr.drewN nq).heap.size+1) (by simp) ?_)
        case c1=>simp [Value.oneCell']
        case c2=>simp only [maxLen];omega
        case c3=>omega
        case c4=>simp;omega
        intro g1 cap w1 hown1 hgrow _ _;have hbd:=dX (B:=w.heap.size+2) (hown'.alloc _) hgrow (by omega) (by simp;omega);have hb1:=((below_drewN hb nq).alloc (by omega) _).trans hbd
        have hown2:w1.ownsRow (w.heap.size+2) 3 1 (.slice (some ⟨g1,0,none⟩) ((bl.take (k+1)).filter (colour ⟨a0,false,a2,a3,a4,gr,bl,b0,b1,b2,b3,b4,b5,b6,b7⟩)).length cap) ((bl.take (k+1)).filter (colour ⟨a0,false,a2,a3,a4,gr,bl,b0,b1,b2,b3,b4,b5,b6,b7⟩)).length (((bl.take (k+1)).filter (colour ⟨a0,false,a2,a3,a4,gr,bl,b0,b1,b2,b3,b4,b5,b6,b7⟩)).map (Value.int .i64)):=by rw [HS.out];simpa using hown1
        have hv:((bl.take k).filter (colour ⟨a0,false,a2,a3,a4,gr,bl,b0,b1,b2,b3,b4,b5,b6,b7⟩)).length+1=((bl.take (k+1)).filter (colour ⟨a0,false,a2,a3,a4,gr,bl,b0,b1,b2,b3,b4,b5,b6,b7⟩)).length:=by rw [HS.out];simp
        rw [hv];clear hown' hgrow hown1 hbd hv HS;go_wp2
        go_roundw
        case rel=>exact ⟨k+1,by omega,by go_num,⟨_,_,rfl⟩,hown2,hb1⟩
        case measure=>simp [intOf];omega
      · have U9:(gr == 0)=false:=by simp [hgr]
        have hsz2:w.heap.size+2≤wr.drew.heap.size:=hsz
        by_cases hsd:M.side bl[k]=M.own ⟨a0,false,a2,a3,a4,gr,bl,b0,b1,b2,b3,b4,b5,b6,b7⟩
        · have Vj:(M.side bl[k] == M.own ⟨a0,false,a2,a3,a4,gr,bl,b0,b1,b2,b3,b4,b5,b6,b7⟩)=true:=by simp [hsd]
          have HS:=hide (zk (p:=(colour ⟨a0,false,a2,a3,a4,gr,bl,b0,b1,b2,b3,b4,b5,b6,b7⟩)) hlt (by simp [colour,h8,hsd]));have HG:=hide hgr;have HD:=hide hsd;clear hgr hsd;go_wp2
          go_region_held3 (fun w'=>∀ p q,p<w.heap.size+2→w'.cell? ⟨p,q,none⟩=((w.alloc (.cells #[.string M.aQ,.int .i64 tg,.int .i64 fo] 25)).alloc (.cells #[.int .i64 a0,.bool false,.bool a2,.bool a3,.bool a4,.int .i64 gr,.slice (some ⟨b,o,none⟩) bl.length c,.int .i64 b0,.int .i64 b1,.int .i64 b2,.int .i64 b3,.int .i64 b4,.int .i64 b5,.bool b6,.int .i64 b7] 42)).cell? ⟨p,q,none⟩)
           (first | exact hcb | exact fun p q h=>(hb2.cell (p:=⟨p,q,none⟩) (Nat.lt_of_lt_of_le h hsz)).trans (hcb p q h))
           (first | (go_at_call 104;refine (aiI ⟨a0,false,a2,a3,a4,gr,bl,b0,b1,b2,b3,b4,b5,b6,b7⟩ _ _ _ hg).mono ?_;rintro e w2 ⟨rfl,hb2⟩) | (go_at_call 102;refine (group_any _ _).mono ?_;rintro e w8 ⟨rfl,rfl⟩))
          have hb3:Below (w.heap.size+2) ((w.alloc (.cells #[.string M.aQ,.int .i64 tg,.int .i64 fo] 25)).alloc (.cells #[.int .i64 a0,.bool false,.bool a2,.bool a3,.bool a4,.int .i64 gr,.slice (some ⟨b,o,none⟩) bl.length c,.int .i64 b0,.int .i64 b1,.int .i64 b2,.int .i64 b3,.int .i64 b4,.int .i64 b5,.bool b6,.int .i64 b7] 42)) w2:=hb.trans ((Below.refl _ _).drew.trans (hb2.mono hsz2));have hsz3:w.heap.size+2≤w2.heap.size:=Nat.le_trans hsz2 hb2.size;have hown':=zN hown hb2 hsz
          go_wp2_with (at_builtin;refine wpList_append_lies _ rfl _ _ _ rfl (w.heap.size+2) 3 i0 (.int .i64 0) 1 8 Tryz.underlying30 hi hz0 hz1 hz2 rfl (by omega) _ _ _ rfl (hown'.alloc _) ⟨w2.heap.size,0,none⟩ 1 1 [.int .i64 bl[k]] rfl rfl (dK _ _ _ _ (by simp)) ?c1 (by omega) ?c2 ?c3 ?c4 (w2.heap.size+1) (by simp) ?_)
          case c1=>simp [Value.oneCell']
          case c2=>simp only [maxLen];omega
          case c3=>omega
          case c4=>simp;omega
          intro g1 cap w1 hown1 hgrow _ _;have hbd:=dX (B:=w.heap.size+2) (hown'.alloc _) hgrow (by omega) (by simp;omega);have hb1:=(hb3.alloc (by omega) _).trans hbd
          have hown2:w1.ownsRow (w.heap.size+2) 3 1 (.slice (some ⟨g1,0,none⟩) ((bl.take (k+1)).filter (colour ⟨a0,false,a2,a3,a4,gr,bl,b0,b1,b2,b3,b4,b5,b6,b7⟩)).length cap) ((bl.take (k+1)).filter (colour ⟨a0,false,a2,a3,a4,gr,bl,b0,b1,b2,b3,b4,b5,b6,b7⟩)).length (((bl.take (k+1)).filter (colour ⟨a0,false,a2,a3,a4,gr,bl,b0,b1,b2,b3,b4,b5,b6,b7⟩)).map (Value.int .i64)):=by rw [HS.out];simpa using hown1
          have hv:((bl.take k).filter (colour ⟨a0,false,a2,a3,a4,gr,bl,b0,b1,b2,b3,b4,b5,b6,b7⟩)).length+1=((bl.take (k+1)).filter (colour ⟨a0,false,a2,a3,a4,gr,bl,b0,b1,b2,b3,b4,b5,b6,b7⟩)).length:=by rw [HS.out];simp
          rw [hv];clear hown' hgrow hown1 hbd hv HS;go_wp2
          go_roundw
          case rel=>exact ⟨k+1,by omega,by go_num,⟨_,_,rfl⟩,hown2,hb1⟩
          case measure=>simp [intOf];omega
        · have Vj:(M.side bl[k] == M.own ⟨a0,false,a2,a3,a4,gr,bl,b0,b1,b2,b3,b4,b5,b6,b7⟩)=false:=by simp [hsd]
          have HS:=hide (Bh (p:=(colour ⟨a0,false,a2,a3,a4,gr,bl,b0,b1,b2,b3,b4,b5,b6,b7⟩)) hlt (by simp [colour,h8,hgr,hsd]));have HG:=hide hgr;have HD:=hide hsd;clear hgr hsd;go_wp2
          go_region_held3 (fun w'=>∀ p q,p<w.heap.size+2→w'.cell? ⟨p,q,none⟩=((w.alloc (.cells #[.string M.aQ,.int .i64 tg,.int .i64 fo] 25)).alloc (.cells #[.int .i64 a0,.bool false,.bool a2,.bool a3,.bool a4,.int .i64 gr,.slice (some ⟨b,o,none⟩) bl.length c,.int .i64 b0,.int .i64 b1,.int .i64 b2,.int .i64 b3,.int .i64 b4,.int .i64 b5,.bool b6,.int .i64 b7] 42)).cell? ⟨p,q,none⟩)
           (first | exact hcb | exact fun p q h=>(hb2.cell (p:=⟨p,q,none⟩) (Nat.lt_of_lt_of_le h hsz)).trans (hcb p q h))
           (first | (go_at_call 104;refine (aiI ⟨a0,false,a2,a3,a4,gr,bl,b0,b1,b2,b3,b4,b5,b6,b7⟩ _ _ _ hg).mono ?_;rintro e w2 ⟨rfl,hb2⟩) | (go_at_call 102;refine (group_any _ _).mono ?_;rintro e w8 ⟨rfl,rfl⟩))
          have hb3:Below (w.heap.size+2) ((w.alloc (.cells #[.string M.aQ,.int .i64 tg,.int .i64 fo] 25)).alloc (.cells #[.int .i64 a0,.bool false,.bool a2,.bool a3,.bool a4,.int .i64 gr,.slice (some ⟨b,o,none⟩) bl.length c,.int .i64 b0,.int .i64 b1,.int .i64 b2,.int .i64 b3,.int .i64 b4,.int .i64 b5,.bool b6,.int .i64 b7] 42)) w2:=hb.trans ((Below.refl _ _).drew.trans (hb2.mono hsz2));have hsz3:w.heap.size+2≤w2.heap.size:=Nat.le_trans hsz2 hb2.size;go_wp2
          go_roundw
          case rel=>exact ⟨k+1,by omega,by go_num,by rw [HS.out];exact ⟨⟨_,_,rfl⟩,(zN hown hb2 hsz),hb3⟩⟩
          case measure=>simp [intOf];omega
  · obtain rfl:k=bl.length:=by omega
    rw [List.take_length] at hown ⊢;have hfl:=List.length_filter_le (colour ⟨a0,false,a2,a3,a4,gr,bl,b0,b1,b2,b3,b4,b5,b6,b7⟩) bl;have hpr:bD wr S A c bl:=bD.keep hp (by omega) (fun p q _ h=>by rw [hcb p q (by omega),World.cell?_alloc_lt _ _ _ (by simp;omega),World.cell?_alloc_lt _ _ _ h]);have hbw:Below w.heap.size w wr:=(((Below.refl _ _).alloc (Nat.le_refl _) _).alloc (by simp) _).trans (hb.mono (by omega))
    by_cases hz:bl.filter (colour ⟨a0,false,a2,a3,a4,gr,bl,b0,b1,b2,b3,b4,b5,b6,b7⟩)=[]
    · have hz':(((bl.filter (colour ⟨a0,false,a2,a3,a4,gr,bl,b0,b1,b2,b3,b4,b5,b6,b7⟩)).length:Int) == 0)=true:=by rw [hz];rfl
      by_cases h8:(8:Int)∈bl
      · have HR:=hide (HT.out.trans (if_pos ⟨hz,h8⟩))
        have HZ:=hide hz;clear HT hz
        go_wp2_with (first | (go_at_call 54;refine (ZK _ _ _ _ _ _ hpr).mono ?_;rintro e w9 ⟨rfl,rfl⟩) | (at_builtin;refine wpList_append_lies _ rfl _ _ _ rfl (w.heap.size+2) 3 i0 (.int .i64 0) 1 8 Tryz.underlying30 hi hz0 hz1 hz2 rfl (by omega) _ _ _ rfl (hown.alloc _) ⟨wr.heap.size,0,none⟩ 1 1 [.int .i64 8] rfl rfl (dK _ _ _ _ (by simp)) ?c1 (by omega) ?c2 ?c3 ?c4 (wr.heap.size+1) (by simp) ?_))
        case c1=>simp [Value.oneCell']
        case c2=>simp only [maxLen];omega
        case c3=>rw [HZ.out];simp
        case c4=>simp;omega
        intro g1 cap w1 hown1 hgrow _ _;have hbd:=dX (B:=w.heap.size+2) (hown.alloc _) hgrow (by omega) (by simp;omega);have hb1:=(hb.alloc (by omega) _).trans hbd;rw [HZ.out] at hown1
        have hv:(bl.filter (colour ⟨a0,false,a2,a3,a4,gr,bl,b0,b1,b2,b3,b4,b5,b6,b7⟩)).length+1=1:=by rw [HZ.out];rfl
        rw [hv]
        have hown2:w1.ownsRow (w.heap.size+2) 3 1 (.slice (some ⟨g1,0,none⟩) 1 cap) 1 [.int .i64 8]:=by simpa using hown1
        clear hown hown1 hgrow hbd hv;go_wp2;go_ret;rw [HR.out];exact ⟨_,_,rfl,Reads.kG hown2 (fun b h=> .inr (by omega)) (by simp),(((Below.refl _ _).alloc (Nat.le_refl _) _).alloc (by simp) _).trans (hb1.mono (by omega))⟩
      · have HR:=hide (HT.out.trans (if_neg (fun h=>h8 h.2)))
        have h8':decide ((8:Int)∈bl)=false:=decide_eq_false h8;clear HT hz
        go_wp2_with (go_at_call 54;refine (ZK _ _ _ _ _ _ hpr).mono ?_;rintro e w9 ⟨rfl,rfl⟩)
        go_ret;rw [HR.out];exact ⟨A1,c1',rfl,Reads.kG hown (fun b h=> .inr (by omega)) (by omega),hbw⟩
    · have HR:=hide (HT.out.trans (if_neg (fun h=>hz h.1)))
      have hz':(((bl.filter (colour ⟨a0,false,a2,a3,a4,gr,bl,b0,b1,b2,b3,b4,b5,b6,b7⟩)).length:Int) == 0)=false:=by simpa using hz
      clear HT hz;go_wp2;go_ret;rw [HR.out];exact ⟨A1,c1',rfl,Reads.kG hown (fun b h=> .inr (by omega)) (by omega),hbw⟩
theorem ZC (S:Nat→Prop) (r:M.Rules) (s:M.State) (A:Option Addr) (c:Nat) (w:World) (hp:bD w S A c s.ay) (hr:M.aH r=0) (hg:0≤s.group∧s.group≤2):
 Calls Tryz.prog 51 #[jM r,wF s A c] w fun e w'=>∃ A' c',e= .returned (.slice A' (M.targets r s).length c')∧bD w' (aol S w) A' c' (M.targets r s)∧Below w.heap.size w w':=by
 rcases Oa hr with h | h | h
 · exact ZU S r s A c w hp (.inl h)
 · rcases Bool.eq_false_or_eq_true s.brk with hb | hb
   · exact ZU S r s A c w hp (.inr (.inr ⟨h,hb⟩))
   · obtain ⟨g,tg,fo⟩:=r
     simp only at h
     subst h;exact ac9 S tg fo s A c w hp hb hg
 · exact ZU S r s A c w hp (.inr (.inl h))
theorem FQ (x:M.aI):(M.objects x).length≤x.aA.length:=zJ x.aA
theorem aeQ (r:M.Rules) (s:M.State) (x:M.aI) (A P:Option Addr) (c d:Nat) (w:World) (h:x.kind=M.jo∨x.kind=M.aT):
 Calls Tryz.prog 52 #[jM r,wF s A c,iO x P d] w fun e w'=>e= .returned (.int .i64 (M.iW r s x))∧Below w.heap.size w w':=by
 have hf:M.iW r s x=0:=by unfold M.iW;rw [if_pos h]
 rw [hf];obtain ⟨pl,kd,ba,po,fi,cu,aA⟩:=x
 simp only at h
 clear hf
 rcases h with rfl | rfl
 all_goals
  go_enter Tryz.func52,Tryz.ntmps52
  go_wp2;go_ret;exact ⟨rfl,(((Below.refl _ _).alloc (Nat.le_refl _) _).alloc (by simp) _).alloc (by simp;omega) _⟩
theorem akl (S:Nat→Prop) (r:M.Rules) (s:M.State) (x:M.aI) (A P:Option Addr) (c d:Nat) (w:World) (hpb:bD w S A c s.ay) (hpp:jl w S P d x.aA) (hr:M.aH r=0) (hg:0≤s.group∧s.group≤2)
 (k1:(x.kind.toList == [112,97,115,115])=false) (k2:(x.kind.toList == [99,111,110,99,101,100,101])=false):
 Calls Tryz.prog 52 #[jM r,wF s A c,iO x P d] w fun e w'=>e= .returned (.int .i64 (M.iW r s x))∧Below w.heap.size w w':=by
 have hf:M.iW r s x=if (M.objects x).length<x.aA.length then 1 else if x.first=0 then 2 else if x.kind=M.eu then 0 else if x.first ∉ M.targets r s then 3 else if x.dA=false∧x.aA=[] then 4 else 0:=by
  unfold M.iW
  rw [if_neg]
  rintro (h | h)
  · rw [h] at k1;revert k1;simp [ByteArray.toList_eq]
  · rw [h] at k2;revert k2;simp [ByteArray.toList_eq]
 have hol:=FQ x;obtain ⟨e1,e2,e3⟩:=hpp.bd;obtain ⟨g,tg,fo⟩:=r;obtain ⟨a0,a1,a2,a3,a4,gr,bl,b0,b1,b2,b3,b4,b5,b6,b7⟩:=s;obtain ⟨pl,kd,ba,po,fi,cu,aA⟩:=x
 simp only at hpb hpp hg k1 k2 hf hol e1 e3
 have HR:=hide hr;clear hr;have K0:Keeps w (((w.alloc (.cells #[.string g,.int .i64 tg,.int .i64 fo] 25)).alloc (.cells #[.int .i64 a0,.bool a1,.bool a2,.bool a3,.bool a4,.int .i64 gr,.slice A bl.length c,.int .i64 b0,.int .i64 b1,.int .i64 b2,.int .i64 b3,.int .i64 b4,.int .i64 b5,.bool b6,.int .i64 b7] 42)).alloc (.cells #[.int .i64 pl,.string kd,.int .i64 ba,.int .i64 po,.int .i64 fi,.bool cu,.slice P aA.length d] 69)) 3 (((w.alloc (.cells #[.string g,.int .i64 tg,.int .i64 fo] 25)).alloc (.cells #[.int .i64 a0,.bool a1,.bool a2,.bool a3,.bool a4,.int .i64 gr,.slice A bl.length c,.int .i64 b0,.int .i64 b1,.int .i64 b2,.int .i64 b3,.int .i64 b4,.int .i64 b5,.bool b6,.int .i64 b7] 42)).alloc (.cells #[.int .i64 pl,.string kd,.int .i64 ba,.int .i64 po,.int .i64 fi,.bool cu,.slice P aA.length d] 69)):=Keeps.of3 w _ _ _
 by_cases o1:(M.objects ⟨pl,kd,ba,po,fi,cu,aA⟩).length<aA.length
 · have HF:=hide (hf.trans (if_pos o1))
   clear hf
   go_enter Tryz.func52,Tryz.ntmps52
   go_wp2
   go_region_held3 (fun w'=>∀ p q,p<w.heap.size+3→w'.cell? ⟨p,q,none⟩=(((w.alloc (.cells #[.string g,.int .i64 tg,.int .i64 fo] 25)).alloc (.cells #[.int .i64 a0,.bool a1,.bool a2,.bool a3,.bool a4,.int .i64 gr,.slice A bl.length c,.int .i64 b0,.int .i64 b1,.int .i64 b2,.int .i64 b3,.int .i64 b4,.int .i64 b5,.bool b6,.int .i64 b7] 42)).alloc (.cells #[.int .i64 pl,.string kd,.int .i64 ba,.int .i64 po,.int .i64 fi,.bool cu,.slice P aA.length d] 69)).cell? ⟨p,q,none⟩) (first | exact K0.cell | exact K1.cell) (first | (go_at_call 72;refine (Ze S ⟨pl,kd,ba,po,fi,cu,aA⟩ _ _ _ (hpp.below K0.drew.bw)).mono ?_;rintro e w1 ⟨A1,c1',rfl,hr1,hb1⟩;have K1:=K0.drew.call hb1))
   have hc1:=K1.cell;clear hb1 hr1;go_wp2;go_ret;exact ⟨dG HF.out.symm,K1.bw⟩
 have hf:=hf.trans (if_neg o1)
 by_cases f0:fi=0
 · have HF:=hide (hf.trans (if_pos f0))
   have f0':(fi == 0)=true:=by simp [f0]
   clear hf f0
   go_enter Tryz.func52,Tryz.ntmps52
   go_wp2
   go_region_held3 (fun w'=>∀ p q,p<w.heap.size+3→w'.cell? ⟨p,q,none⟩=(((w.alloc (.cells #[.string g,.int .i64 tg,.int .i64 fo] 25)).alloc (.cells #[.int .i64 a0,.bool a1,.bool a2,.bool a3,.bool a4,.int .i64 gr,.slice A bl.length c,.int .i64 b0,.int .i64 b1,.int .i64 b2,.int .i64 b3,.int .i64 b4,.int .i64 b5,.bool b6,.int .i64 b7] 42)).alloc (.cells #[.int .i64 pl,.string kd,.int .i64 ba,.int .i64 po,.int .i64 fi,.bool cu,.slice P aA.length d] 69)).cell? ⟨p,q,none⟩) (first | exact K0.cell | exact K1.cell) (first | (go_at_call 72;refine (Ze S ⟨pl,kd,ba,po,fi,cu,aA⟩ _ _ _ (hpp.below K0.drew.bw)).mono ?_;rintro e w1 ⟨A1,c1',rfl,hr1,hb1⟩;have K1:=K0.drew.call hb1))
   have hc1:=K1.cell;clear hb1 hr1;go_wp2;go_ret;exact ⟨dG HF.out.symm,K1.bw⟩
 have hf:=hf.trans (if_neg f0)
 have f0':(fi == 0)=false:=by simp [f0]
 have F0:=hide f0;clear f0
 by_cases p0:kd=M.eu
 · have HF:=hide (hf.trans (if_pos p0))
   clear hf;subst p0
   go_enter Tryz.func52,Tryz.ntmps52
   go_wp2
   go_region_held3 (fun w'=>∀ p q,p<w.heap.size+3→w'.cell? ⟨p,q,none⟩=(((w.alloc (.cells #[.string g,.int .i64 tg,.int .i64 fo] 25)).alloc (.cells #[.int .i64 a0,.bool a1,.bool a2,.bool a3,.bool a4,.int .i64 gr,.slice A bl.length c,.int .i64 b0,.int .i64 b1,.int .i64 b2,.int .i64 b3,.int .i64 b4,.int .i64 b5,.bool b6,.int .i64 b7] 42)).alloc (.cells #[.int .i64 pl,.string M.eu,.int .i64 ba,.int .i64 po,.int .i64 fi,.bool cu,.slice P aA.length d] 69)).cell? ⟨p,q,none⟩) (first | exact K0.cell | exact K1.cell) (first | (go_at_call 72;refine (Ze S ⟨pl,M.eu,ba,po,fi,cu,aA⟩ _ _ _ (hpp.below K0.drew.bw)).mono ?_;rintro e w1 ⟨A1,c1',rfl,hr1,hb1⟩;have K1:=K0.drew.call hb1))
   have hc1:=K1.cell;clear hb1 hr1;go_wp2;go_ret;exact ⟨dG HF.out.symm,K1.bw⟩
 have hf:=hf.trans (if_neg p0);have p0':(kd.toList == [112,117,115,104])=false:=beq_eq_false_iff_ne.2 (bQ p0);clear p0
 by_cases m0:fi∈M.targets ⟨g,tg,fo⟩ ⟨a0,a1,a2,a3,a4,gr,bl,b0,b1,b2,b3,b4,b5,b6,b7⟩
 · have hf:=hf.trans (if_neg (by simpa using m0))
   have m0':decide (fi∈M.targets ⟨g,tg,fo⟩ ⟨a0,a1,a2,a3,a4,gr,bl,b0,b1,b2,b3,b4,b5,b6,b7⟩)=true:=decide_eq_true m0;have HF:=hide hf;clear hf m0
   rcases Bool.eq_false_or_eq_true cu with hcu | hcu
   · subst hcu
     have HF':=hide (HF.out.trans (if_neg (by simp)));clear HF
     go_enter Tryz.func52,Tryz.ntmps52
     go_wp2
     go_region_held3 (fun w'=>∀ p q,p<w.heap.size+3→w'.cell? ⟨p,q,none⟩=(((w.alloc (.cells #[.string g,.int .i64 tg,.int .i64 fo] 25)).alloc (.cells #[.int .i64 a0,.bool a1,.bool a2,.bool a3,.bool a4,.int .i64 gr,.slice A bl.length c,.int .i64 b0,.int .i64 b1,.int .i64 b2,.int .i64 b3,.int .i64 b4,.int .i64 b5,.bool b6,.int .i64 b7] 42)).alloc (.cells #[.int .i64 pl,.string kd,.int .i64 ba,.int .i64 po,.int .i64 fi,.bool true,.slice P aA.length d] 69)).cell? ⟨p,q,none⟩) (first | exact K0.cell | exact K1.cell) (first | (go_at_call 72;refine (Ze S ⟨pl,kd,ba,po,fi,true,aA⟩ _ _ _ (hpp.below K0.drew.bw)).mono ?_;rintro e w1 ⟨A1,c1',rfl,hr1,hb1⟩;have K1:=K0.drew.call hb1))
     have hc1:=K1.cell;clear hb1 hr1;go_wp2
     go_region_held3 (fun w'=>∀ p q,p<w.heap.size+3→w'.cell? ⟨p,q,none⟩=(((w.alloc (.cells #[.string g,.int .i64 tg,.int .i64 fo] 25)).alloc (.cells #[.int .i64 a0,.bool a1,.bool a2,.bool a3,.bool a4,.int .i64 gr,.slice A bl.length c,.int .i64 b0,.int .i64 b1,.int .i64 b2,.int .i64 b3,.int .i64 b4,.int .i64 b5,.bool b6,.int .i64 b7] 42)).alloc (.cells #[.int .i64 pl,.string kd,.int .i64 ba,.int .i64 po,.int .i64 fi,.bool true,.slice P aA.length d] 69)).cell? ⟨p,q,none⟩) (first | exact K1.cell | exact K2.cell) (first | (go_at_call 51;refine (ZC S ⟨g,tg,fo⟩ ⟨a0,a1,a2,a3,a4,gr,bl,b0,b1,b2,b3,b4,b5,b6,b7⟩ _ _ _ (hpb.below K1.drew.bw) HR.out hg).mono ?_;rintro e w2 ⟨A2,c2',rfl,hr2,hb2⟩;have K2:=K1.drew.call hb2) | (go_at_call 54;refine (ZK _ _ _ _ _ _ hr2).mono ?_;rintro e dO ⟨rfl,rfl⟩))
     have hc2:=K2.cell;clear hb2 hr2 hc1;go_wp2;go_ret;exact ⟨dG HF'.out.symm,K2.bw⟩
   · subst hcu
     by_cases hpz:aA=[]
     · have HF':=hide (HF.out.trans (if_pos ⟨rfl,hpz⟩))
       clear HF
       have aEC:((aA.length:Int) == 0)=true:=by simp [hpz]
       clear hpz
       go_enter Tryz.func52,Tryz.ntmps52
       go_wp2
       go_region_held3 (fun w'=>∀ p q,p<w.heap.size+3→w'.cell? ⟨p,q,none⟩=(((w.alloc (.cells #[.string g,.int .i64 tg,.int .i64 fo] 25)).alloc (.cells #[.int .i64 a0,.bool a1,.bool a2,.bool a3,.bool a4,.int .i64 gr,.slice A bl.length c,.int .i64 b0,.int .i64 b1,.int .i64 b2,.int .i64 b3,.int .i64 b4,.int .i64 b5,.bool b6,.int .i64 b7] 42)).alloc (.cells #[.int .i64 pl,.string kd,.int .i64 ba,.int .i64 po,.int .i64 fi,.bool false,.slice P aA.length d] 69)).cell? ⟨p,q,none⟩) (first | exact K0.cell | exact K1.cell) (first | (go_at_call 72;refine (Ze S ⟨pl,kd,ba,po,fi,false,aA⟩ _ _ _ (hpp.below K0.drew.bw)).mono ?_;rintro e w1 ⟨A1,c1',rfl,hr1,hb1⟩;have K1:=K0.drew.call hb1))
       have hc1:=K1.cell;clear hb1 hr1;go_wp2
       go_region_held3 (fun w'=>∀ p q,p<w.heap.size+3→w'.cell? ⟨p,q,none⟩=(((w.alloc (.cells #[.string g,.int .i64 tg,.int .i64 fo] 25)).alloc (.cells #[.int .i64 a0,.bool a1,.bool a2,.bool a3,.bool a4,.int .i64 gr,.slice A bl.length c,.int .i64 b0,.int .i64 b1,.int .i64 b2,.int .i64 b3,.int .i64 b4,.int .i64 b5,.bool b6,.int .i64 b7] 42)).alloc (.cells #[.int .i64 pl,.string kd,.int .i64 ba,.int .i64 po,.int .i64 fi,.bool false,.slice P aA.length d] 69)).cell? ⟨p,q,none⟩) (first | exact K1.cell | exact K2.cell) (first | (go_at_call 51;refine (ZC S ⟨g,tg,fo⟩ ⟨a0,a1,a2,a3,a4,gr,bl,b0,b1,b2,b3,b4,b5,b6,b7⟩ _ _ _ (hpb.below K1.drew.bw) HR.out hg).mono ?_;rintro e w2 ⟨A2,c2',rfl,hr2,hb2⟩;have K2:=K1.drew.call hb2) | (go_at_call 54;refine (ZK _ _ _ _ _ _ hr2).mono ?_;rintro e dO ⟨rfl,rfl⟩))
       have hc2:=K2.cell;clear hb2 hr2 hc1;go_wp2;go_ret;exact ⟨dG HF'.out.symm,K2.bw⟩
     · have HF':=hide (HF.out.trans (if_neg (fun h=>hpz h.2)))
       clear HF
       have aEC:((aA.length:Int) == 0)=false:=by simpa using hpz
       clear hpz
       go_enter Tryz.func52,Tryz.ntmps52
       go_wp2
       go_region_held3 (fun w'=>∀ p q,p<w.heap.size+3→w'.cell? ⟨p,q,none⟩=(((w.alloc (.cells #[.string g,.int .i64 tg,.int .i64 fo] 25)).alloc (.cells #[.int .i64 a0,.bool a1,.bool a2,.bool a3,.bool a4,.int .i64 gr,.slice A bl.length c,.int .i64 b0,.int .i64 b1,.int .i64 b2,.int .i64 b3,.int .i64 b4,.int .i64 b5,.bool b6,.int .i64 b7] 42)).alloc (.cells #[.int .i64 pl,.string kd,.int .i64 ba,.int .i64 po,.int .i64 fi,.bool false,.slice P aA.length d] 69)).cell? ⟨p,q,none⟩) (first | exact K0.cell | exact K1.cell) (first | (go_at_call 72;refine (Ze S ⟨pl,kd,ba,po,fi,false,aA⟩ _ _ _ (hpp.below K0.drew.bw)).mono ?_;rintro e w1 ⟨A1,c1',rfl,hr1,hb1⟩;have K1:=K0.drew.call hb1))
       have hc1:=K1.cell;clear hb1 hr1;go_wp2
       go_region_held3 (fun w'=>∀ p q,p<w.heap.size+3→w'.cell? ⟨p,q,none⟩=(((w.alloc (.cells #[.string g,.int .i64 tg,.int .i64 fo] 25)).alloc (.cells #[.int .i64 a0,.bool a1,.bool a2,.bool a3,.bool a4,.int .i64 gr,.slice A bl.length c,.int .i64 b0,.int .i64 b1,.int .i64 b2,.int .i64 b3,.int .i64 b4,.int .i64 b5,.bool b6,.int .i64 b7] 42)).alloc (.cells #[.int .i64 pl,.string kd,.int .i64 ba,.int .i64 po,.int .i64 fi,.bool false,.slice P aA.length d] 69)).cell? ⟨p,q,none⟩) (first | exact K1.cell | exact K2.cell) (first | (go_at_call 51;refine (ZC S ⟨g,tg,fo⟩ ⟨a0,a1,a2,a3,a4,gr,bl,b0,b1,b2,b3,b4,b5,b6,b7⟩ _ _ _ (hpb.below K1.drew.bw) HR.out hg).mono ?_;rintro e w2 ⟨A2,c2',rfl,hr2,hb2⟩;have K2:=K1.drew.call hb2) | (go_at_call 54;refine (ZK _ _ _ _ _ _ hr2).mono ?_;rintro e dO ⟨rfl,rfl⟩))
       have hc2:=K2.cell;clear hb2 hr2 hc1;go_wp2;go_ret;exact ⟨dG HF'.out.symm,K2.bw⟩
 · have HF:=hide (hf.trans (if_pos (by simpa using m0)))
   have m0':decide (fi∈M.targets ⟨g,tg,fo⟩ ⟨a0,a1,a2,a3,a4,gr,bl,b0,b1,b2,b3,b4,b5,b6,b7⟩)=false:=decide_eq_false m0;clear hf m0
   go_enter Tryz.func52,Tryz.ntmps52
   go_wp2
   go_region_held3 (fun w'=>∀ p q,p<w.heap.size+3→w'.cell? ⟨p,q,none⟩=(((w.alloc (.cells #[.string g,.int .i64 tg,.int .i64 fo] 25)).alloc (.cells #[.int .i64 a0,.bool a1,.bool a2,.bool a3,.bool a4,.int .i64 gr,.slice A bl.length c,.int .i64 b0,.int .i64 b1,.int .i64 b2,.int .i64 b3,.int .i64 b4,.int .i64 b5,.bool b6,.int .i64 b7] 42)).alloc (.cells #[.int .i64 pl,.string kd,.int .i64 ba,.int .i64 po,.int .i64 fi,.bool cu,.slice P aA.length d] 69)).cell? ⟨p,q,none⟩) (first | exact K0.cell | exact K1.cell) (first | (go_at_call 72;refine (Ze S ⟨pl,kd,ba,po,fi,cu,aA⟩ _ _ _ (hpp.below K0.drew.bw)).mono ?_;rintro e w1 ⟨A1,c1',rfl,hr1,hb1⟩;have K1:=K0.drew.call hb1))
   have hc1:=K1.cell;clear hb1 hr1;go_wp2
   go_region_held3 (fun w'=>∀ p q,p<w.heap.size+3→w'.cell? ⟨p,q,none⟩=(((w.alloc (.cells #[.string g,.int .i64 tg,.int .i64 fo] 25)).alloc (.cells #[.int .i64 a0,.bool a1,.bool a2,.bool a3,.bool a4,.int .i64 gr,.slice A bl.length c,.int .i64 b0,.int .i64 b1,.int .i64 b2,.int .i64 b3,.int .i64 b4,.int .i64 b5,.bool b6,.int .i64 b7] 42)).alloc (.cells #[.int .i64 pl,.string kd,.int .i64 ba,.int .i64 po,.int .i64 fi,.bool cu,.slice P aA.length d] 69)).cell? ⟨p,q,none⟩) (first | exact K1.cell | exact K2.cell) (first | (go_at_call 51;refine (ZC S ⟨g,tg,fo⟩ ⟨a0,a1,a2,a3,a4,gr,bl,b0,b1,b2,b3,b4,b5,b6,b7⟩ _ _ _ (hpb.below K1.drew.bw) HR.out hg).mono ?_;rintro e w2 ⟨A2,c2',rfl,hr2,hb2⟩;have K2:=K1.drew.call hb2) | (go_at_call 54;refine (ZK _ _ _ _ _ _ hr2).mono ?_;rintro e dO ⟨rfl,rfl⟩))
   have hc2:=K2.cell;clear hb2 hr2 hc1;go_wp2;go_ret;exact ⟨dG HF.out.symm,K2.bw⟩
theorem Zx (S:Nat→Prop) (r:M.Rules) (s:M.State) (x:M.aI) (A P:Option Addr) (c d:Nat) (w:World) (hpb:bD w S A c s.ay) (hpp:jl w S P d x.aA) (hr:M.aH r=0) (hg:0≤s.group∧s.group≤2):
 Calls Tryz.prog 52 #[jM r,wF s A c,iO x P d] w fun e w'=>e= .returned (.int .i64 (M.iW r s x))∧Below w.heap.size w w':=by
 by_cases a:x.kind=M.jo
 · exact aeQ r s x A P c d w (.inl a)
 by_cases b:x.kind=M.aT
 · exact aeQ r s x A P c d w (.inr b)
 exact akl S r s x A P c d w hpb hpp hr hg (beq_eq_false_iff_ne.2 (bQ a)) (beq_eq_false_iff_ne.2 (bQ b))
def Zy (r:M.Rules) (x:M.aI) (p:M.rD):Bool:=p=⟨x.aJ,x.aP⟩∨r.game=M.bM
theorem afY (r:M.Rules) (x:M.aI) (p:M.rD) (h1:p.aJ=x.aJ) (h2:p.aP=x.aP):Zy r x p=true:=by
 unfold Zy
 have:p=⟨x.aJ,x.aP⟩:=by cases p;simp only at h1 h2;subst h1;subst h2;rfl
 simp [this]
theorem ady (r:M.Rules) (x:M.aI) (p:M.rD) (h:r.game=M.bM):Zy r x p=true:=by unfold Zy;simp [h]
theorem acA (r:M.Rules) (x:M.aI) (p:M.rD) (hg:r.game≠M.bM) (h:p.aJ≠x.aJ∨p.aP≠x.aP):Zy r x p=false:=by
 unfold Zy
 have:p≠⟨x.aJ,x.aP⟩:=by intro e;subst e;simp at h
 simp [this,hg]
theorem agX {α:Type} {p:α→Bool} {l:List α} {k:Nat} (hk:k<l.length) (h:(l.take k).any p=false) (h2:p l[k]=false):(l.take (k+1)).any p=false:=by
 rw [List.take_succ_eq_append_getElem hk,List.any_append,h];simp [h2]
theorem ae4 {α:Type} {p:α→Bool} {l:List α} {k:Nat} (hk:k<l.length) (h2:p l[k]=true):l.any p=true:=List.any_eq_true.2 ⟨_,List.getElem_mem hk,h2⟩
theorem ZT (S:Nat→Prop) (r:M.Rules) (s:M.State) (x:M.aI) (A P:Option Addr) (c d:Nat) (w:World) (hpb:bD w S A c s.ay) (hpp:jl w S P d x.aA) (hr:M.aH r=0) (hg:0≤s.group∧s.group≤2):
 Calls Tryz.prog 71 #[jM r,wF s A c,iO x P d] w fun e w'=>e= .returned (.bool (M.good r s x))∧Below w.heap.size w w':=by
 have hf:M.good r s x=if M.iW r s x≠0∨x.aA=[] then false else if x.kind=M.dh then decide (r.game≠M.aB) else if x.kind≠M.jO then false else x.aA.any (Zy r x):=rfl;obtain ⟨e1,e2,e3⟩:=hpp.bd;obtain ⟨g,tg,fo⟩:=r;obtain ⟨a0,a1,a2,a3,a4,gr,bl,b0,b1,b2,b3,b4,b5,b6,b7⟩:=s;obtain ⟨pl,kd,ba,po,fi,cu,aA⟩:=x
 simp only at hpb hpp hg hf e1 e3
 have HR:=hide hr;clear hr;have K0:Keeps w (((w.alloc (.cells #[.string g,.int .i64 tg,.int .i64 fo] 25)).alloc (.cells #[.int .i64 a0,.bool a1,.bool a2,.bool a3,.bool a4,.int .i64 gr,.slice A bl.length c,.int .i64 b0,.int .i64 b1,.int .i64 b2,.int .i64 b3,.int .i64 b4,.int .i64 b5,.bool b6,.int .i64 b7] 42)).alloc (.cells #[.int .i64 pl,.string kd,.int .i64 ba,.int .i64 po,.int .i64 fi,.bool cu,.slice P aA.length d] 69)) 3 (((w.alloc (.cells #[.string g,.int .i64 tg,.int .i64 fo] 25)).alloc (.cells #[.int .i64 a0,.bool a1,.bool a2,.bool a3,.bool a4,.int .i64 gr,.slice A bl.length c,.int .i64 b0,.int .i64 b1,.int .i64 b2,.int .i64 b3,.int .i64 b4,.int .i64 b5,.bool b6,.int .i64 b7] 42)).alloc (.cells #[.int .i64 pl,.string kd,.int .i64 ba,.int .i64 po,.int .i64 fi,.bool cu,.slice P aA.length d] 69)):=Keeps.of3 w _ _ _
 by_cases q1:M.iW ⟨g,tg,fo⟩ ⟨a0,a1,a2,a3,a4,gr,bl,b0,b1,b2,b3,b4,b5,b6,b7⟩ ⟨pl,kd,ba,po,fi,cu,aA⟩=0
 rotate_left
 · have HF:=hide (hf.trans (if_pos (.inl q1)))
   have q1':(M.iW ⟨g,tg,fo⟩ ⟨a0,a1,a2,a3,a4,gr,bl,b0,b1,b2,b3,b4,b5,b6,b7⟩ ⟨pl,kd,ba,po,fi,cu,aA⟩ != 0)=true:=by simpa using q1
   clear hf q1
   go_enter Tryz.func71,Tryz.ntmps71
   go_wp2_with ((go_at_call 52;refine (Zx S ⟨g,tg,fo⟩ ⟨a0,a1,a2,a3,a4,gr,bl,b0,b1,b2,b3,b4,b5,b6,b7⟩ ⟨pl,kd,ba,po,fi,cu,aA⟩ _ _ _ _ _ (hpb.below K0.bw) (hpp.below K0.bw) HR.out hg).mono ?_;rintro e w1 ⟨rfl,hb1⟩;have K1:=K0.call hb1;have hc1:=K1.cell))
   go_ret;exact ⟨bZ HF.out.symm,K1.bw⟩
 have q1':(M.iW ⟨g,tg,fo⟩ ⟨a0,a1,a2,a3,a4,gr,bl,b0,b1,b2,b3,b4,b5,b6,b7⟩ ⟨pl,kd,ba,po,fi,cu,aA⟩ != 0)=false:=by simpa using q1
 by_cases q2:aA=[]
 · have HF:=hide (hf.trans (if_pos (.inr q2)))
   clear hf q1;subst q2
   go_enter Tryz.func71,Tryz.ntmps71
   go_wp2_with ((go_at_call 52;refine (Zx S ⟨g,tg,fo⟩ ⟨a0,a1,a2,a3,a4,gr,bl,b0,b1,b2,b3,b4,b5,b6,b7⟩ ⟨pl,kd,ba,po,fi,cu,[]⟩ _ _ _ _ _ (hpb.below K0.bw) (hpp.below K0.bw) HR.out hg).mono ?_;rintro e w1 ⟨rfl,hb1⟩;have K1:=K0.call hb1;have hc1:=K1.cell))
   go_ret;exact ⟨bZ HF.out.symm,K1.bw⟩
 have hf:=hf.trans (if_neg (fun h=>h.elim (fun h=>h q1) q2))
 have q2':((aA.length:Int) == 0)=false:=by simpa using q2
 clear q1 q2
 by_cases q3:kd=M.dh
 · have HF:=hide (hf.trans (if_pos q3))
   clear hf;subst q3
   by_cases q4:g=M.aB
   · subst q4
     go_enter Tryz.func71,Tryz.ntmps71
     go_wp2_with ((go_at_call 52;refine (Zx S ⟨M.aB,tg,fo⟩ ⟨a0,a1,a2,a3,a4,gr,bl,b0,b1,b2,b3,b4,b5,b6,b7⟩ ⟨pl,M.dh,ba,po,fi,cu,aA⟩ _ _ _ _ _ (hpb.below K0.bw) (hpp.below K0.bw) HR.out hg).mono ?_;rintro e w1 ⟨rfl,hb1⟩;have K1:=K0.call hb1;have hc1:=K1.cell))
     go_ret;exact ⟨bZ (by rw [HF.out];simp),K1.bw⟩
   · have Vz:(g.toList == [115,116,114,97,105,103,104,116])=false:=beq_eq_false_iff_ne.2 (bQ q4)
     go_enter Tryz.func71,Tryz.ntmps71
     go_wp2_with ((go_at_call 52;refine (Zx S ⟨g,tg,fo⟩ ⟨a0,a1,a2,a3,a4,gr,bl,b0,b1,b2,b3,b4,b5,b6,b7⟩ ⟨pl,M.dh,ba,po,fi,cu,aA⟩ _ _ _ _ _ (hpb.below K0.bw) (hpp.below K0.bw) HR.out hg).mono ?_;rintro e w1 ⟨rfl,hb1⟩;have K1:=K0.call hb1;have hc1:=K1.cell))
     go_ret;exact ⟨bZ (by rw [HF.out];simp [q4,Vz]),K1.bw⟩
 have hf:=hf.trans (if_neg q3);have q3':(kd.toList == [98,114,101,97,107])=false:=beq_eq_false_iff_ne.2 (bQ q3);clear q3
 by_cases q5:kd=M.jO
 rotate_left
 · have HF:=hide (hf.trans (if_pos q5))
   have q5':(kd.toList == [112,108,97,121])=false:=beq_eq_false_iff_ne.2 (bQ q5);clear hf q5
   go_enter Tryz.func71,Tryz.ntmps71
   go_wp2_with ((go_at_call 52;refine (Zx S ⟨g,tg,fo⟩ ⟨a0,a1,a2,a3,a4,gr,bl,b0,b1,b2,b3,b4,b5,b6,b7⟩ ⟨pl,kd,ba,po,fi,cu,aA⟩ _ _ _ _ _ (hpb.below K0.bw) (hpp.below K0.bw) HR.out hg).mono ?_;rintro e w1 ⟨rfl,hb1⟩;have K1:=K0.call hb1;have hc1:=K1.cell))
   go_ret;exact ⟨bZ HF.out.symm,K1.bw⟩
 have HF:=hide (hf.trans (if_neg (fun h=>h q5)));clear hf q3';subst q5
 by_cases q6:g=M.bM
 · subst q6
   go_enter Tryz.func71,Tryz.ntmps71
   go_wp2_with ((go_at_call 52;refine (Zx S ⟨M.bM,tg,fo⟩ ⟨a0,a1,a2,a3,a4,gr,bl,b0,b1,b2,b3,b4,b5,b6,b7⟩ ⟨pl,M.jO,ba,po,fi,cu,aA⟩ _ _ _ _ _ (hpb.below K0.bw) (hpp.below K0.bw) HR.out hg).mono ?_;rintro e w1 ⟨rfl,hb1⟩;have K1:=K0.call hb1;have hc1:=K1.cell))
   go_loopw [7] (fun i wr=>∃ k:Nat,k≤aA.length∧i= .int .i64 k∧(aA.take k).any (Zy ⟨M.bM,tg,fo⟩ ⟨pl,M.jO,ba,po,fi,cu,aA⟩)=false∧Keeps w (((w.alloc (.cells #[.string M.bM,.int .i64 tg,.int .i64 fo] 25)).alloc (.cells #[.int .i64 a0,.bool a1,.bool a2,.bool a3,.bool a4,.int .i64 gr,.slice A bl.length c,.int .i64 b0,.int .i64 b1,.int .i64 b2,.int .i64 b3,.int .i64 b4,.int .i64 b5,.bool b6,.int .i64 b7] 42)).alloc (.cells #[.int .i64 pl,.string M.jO,.int .i64 ba,.int .i64 po,.int .i64 fi,.bool cu,.slice P aA.length d] 69)) 3 wr) (fun i _=>aA.length - (intOf i).toNat)
   case atStart=>exact ⟨0,Nat.zero_le _,rfl,by simp,K1⟩
   case round=>
    obtain ⟨k,hk,rfl,hx1,KR⟩:=hrel;have hcr:=KR.cell;have hcf:=KR.frozen
    by_cases hlt:k<aA.length
    · obtain ⟨b,o,rfl,_,hbl,hc⟩:=hpp.at_ k hlt
      obtain ⟨hcb,hcp⟩:=hc k hlt;clear hc
      have P9:b<w.heap.size+1:=by omega
      have XM:b<w.heap.size+2:=by omega
      have aEo:b<w.heap.size+3:=by omega
      have i1:(0:Int)≤(k:Int):=by omega
      have i2:(k:Int)<(aA.length:Int):=by omega
      by_cases eb:aA[k].aJ=ba
      · have eb':(aA[k].aJ == ba)=true:=by simp [eb]
        by_cases ep:aA[k].aP=po
        · have ep':(aA[k].aP == po)=true:=by simp [ep]
          have HG:=hide (show Zy ⟨M.bM,tg,fo⟩ ⟨pl,M.jO,ba,po,fi,cu,aA⟩ aA[k]=true from afY _ _ _ eb ep);clear eb ep;go_wp2
          go_quiet (fail)
          go_wp2;go_ret;exact ⟨bZ (by rw [HF.out];exact (ae4 hlt HG.out).symm),below_drewN KR.bw _⟩
        · have ep':(aA[k].aP == po)=false:=by simp [ep]
          have HG:=hide (show Zy ⟨M.bM,tg,fo⟩ ⟨pl,M.jO,ba,po,fi,cu,aA⟩ aA[k]=true from ady _ _ _ rfl);clear eb ep;go_wp2
          go_quiet (fail)
          go_wp2;go_ret;exact ⟨bZ (by rw [HF.out];exact (ae4 hlt HG.out).symm),below_drewN KR.bw _⟩
      · have eb':(aA[k].aJ == ba)=false:=by simp [eb]
        have HG:=hide (show Zy ⟨M.bM,tg,fo⟩ ⟨pl,M.jO,ba,po,fi,cu,aA⟩ aA[k]=true from ady _ _ _ rfl);clear eb;go_wp2
        go_quiet (fail)
        go_wp2;go_ret;exact ⟨bZ (by rw [HF.out];exact (ae4 hlt HG.out).symm),below_drewN KR.bw _⟩
    · have hkk:k=aA.length:=by omega
      rw [hkk,List.take_length] at hx1;clear hkk;go_wp2;go_ret;exact ⟨bZ (by rw [HF.out,hx1]),KR.bw⟩
 · have q6':(g.toList == [110,105,110,101])=false:=beq_eq_false_iff_ne.2 (bQ q6)
   go_enter Tryz.func71,Tryz.ntmps71
   go_wp2_with ((go_at_call 52;refine (Zx S ⟨g,tg,fo⟩ ⟨a0,a1,a2,a3,a4,gr,bl,b0,b1,b2,b3,b4,b5,b6,b7⟩ ⟨pl,M.jO,ba,po,fi,cu,aA⟩ _ _ _ _ _ (hpb.below K0.bw) (hpp.below K0.bw) HR.out hg).mono ?_;rintro e w1 ⟨rfl,hb1⟩;have K1:=K0.call hb1;have hc1:=K1.cell))
   go_loopw [7] (fun i wr=>∃ k:Nat,k≤aA.length∧i= .int .i64 k∧(aA.take k).any (Zy ⟨g,tg,fo⟩ ⟨pl,M.jO,ba,po,fi,cu,aA⟩)=false∧Keeps w (((w.alloc (.cells #[.string g,.int .i64 tg,.int .i64 fo] 25)).alloc (.cells #[.int .i64 a0,.bool a1,.bool a2,.bool a3,.bool a4,.int .i64 gr,.slice A bl.length c,.int .i64 b0,.int .i64 b1,.int .i64 b2,.int .i64 b3,.int .i64 b4,.int .i64 b5,.bool b6,.int .i64 b7] 42)).alloc (.cells #[.int .i64 pl,.string M.jO,.int .i64 ba,.int .i64 po,.int .i64 fi,.bool cu,.slice P aA.length d] 69)) 3 wr) (fun i _=>aA.length - (intOf i).toNat)
   case atStart=>exact ⟨0,Nat.zero_le _,rfl,by simp,K1⟩
   case round=>
    obtain ⟨k,hk,rfl,hx1,KR⟩:=hrel;have hcr:=KR.cell;have hcf:=KR.frozen
    by_cases hlt:k<aA.length
    · obtain ⟨b,o,rfl,_,hbl,hc⟩:=hpp.at_ k hlt
      obtain ⟨hcb,hcp⟩:=hc k hlt;clear hc
      have P9:b<w.heap.size+1:=by omega
      have XM:b<w.heap.size+2:=by omega
      have aEo:b<w.heap.size+3:=by omega
      have i1:(0:Int)≤(k:Int):=by omega
      have i2:(k:Int)<(aA.length:Int):=by omega
      by_cases eb:aA[k].aJ=ba
      · have eb':(aA[k].aJ == ba)=true:=by simp [eb]
        by_cases ep:aA[k].aP=po
        · have ep':(aA[k].aP == po)=true:=by simp [ep]
          have HG:=hide (show Zy ⟨g,tg,fo⟩ ⟨pl,M.jO,ba,po,fi,cu,aA⟩ aA[k]=true from afY _ _ _ eb ep);clear eb ep;go_wp2
          go_quiet (fail)
          go_wp2;go_ret;exact ⟨bZ (by rw [HF.out];exact (ae4 hlt HG.out).symm),below_drewN KR.bw _⟩
        · have ep':(aA[k].aP == po)=false:=by simp [ep]
          have HG:=hide (show Zy ⟨g,tg,fo⟩ ⟨pl,M.jO,ba,po,fi,cu,aA⟩ aA[k]=false from acA _ _ _ q6 (.inr ep));clear eb ep;go_wp2
          go_quiet (fail)
          go_wp2
          go_roundw
          case rel=>exact ⟨k+1,by omega,by go_num,agX hlt hx1 HG.out,KR.drewN _⟩
          case measure=>simp [intOf];omega
      · have eb':(aA[k].aJ == ba)=false:=by simp [eb]
        have HG:=hide (show Zy ⟨g,tg,fo⟩ ⟨pl,M.jO,ba,po,fi,cu,aA⟩ aA[k]=false from acA _ _ _ q6 (.inl eb));clear eb;go_wp2
        go_quiet (fail)
        go_wp2
        go_roundw
        case rel=>exact ⟨k+1,by omega,by go_num,agX hlt hx1 HG.out,KR.drewN _⟩
        case measure=>simp [intOf];omega
    · have hkk:k=aA.length:=by omega
      rw [hkk,List.take_length] at hx1;clear hkk;go_wp2;go_ret;exact ⟨bZ (by rw [HF.out,hx1]),KR.bw⟩
theorem adF (S:Nat→Prop) (A:Option Addr) (c:Nat) (zs:List Int) (x:Int) (w:World) (h:bD w S A c zs) (hm:x∈zs):
 Calls Tryz.prog 54 #[.slice A zs.length c,.int .i64 x] w fun r w'=>r= .returned (.bool true)∧w=w':=by
 have:=ZK S A c zs x w h;rwa [decide_eq_true hm] at this
theorem abY (S:Nat→Prop) (A:Option Addr) (c:Nat) (zs:List Int) (x:Int) (w:World) (h:bD w S A c zs) (hm:x ∉ zs):
 Calls Tryz.prog 54 #[.slice A zs.length c,.int .i64 x] w fun r w'=>r= .returned (.bool false)∧w=w':=by
 have:=ZK S A c zs x w h;rwa [decide_eq_false hm] at this
def lg2 (s:M.State) (x:M.aI):Bool:=x.aC≠s.turn∧x.kind≠M.aT
def lg3 (s:M.State) (x:M.aI):Bool:=(s.brk∧x.kind≠M.dh∧x.kind≠M.aT)∨(s.brk=false∧x.kind=M.dh)
def lg4 (s:M.State) (x:M.aI):Bool:=(x.kind=M.eu∧s.push=false)∨(x.kind=M.jo∧s.pushed=false)
def lg5 (r:M.Rules) (s:M.State) (x:M.aI):Bool:=(M.calls r x∧x.aJ ∉ s.ay)∨(M.calls r x=false∧x.aJ≠0)
def lg6 (s:M.State) (x:M.aI):Bool:=x.first≠0∧x.first ∉ s.ay
def lg7 (s:M.State) (x:M.aI):Bool:=(M.objects x).any (fun b=>x.first=0∨b ∉ s.ay)
def alD (s:M.State) (x:M.aI) (b:Int):Bool:=x.first=0∨b ∉ s.ay
theorem atT (r:M.Rules) (s:M.State) (x:M.aI):M.legal r s x=if s.over then 1 else if lg2 s x then 2 else if lg3 s x then 3 else if lg4 s x then 4 else if lg5 r s x then 5 else if lg6 s x then 6 else if lg7 s x then 7 else 0:=by
 unfold M.legal lg2 lg3 lg4 lg5 lg6 lg7
 simp only [decide_eq_true_eq]
theorem Zo (k:ByteArray):(k.toList=[98,114,101,97,107])=(k=M.dh):=ZO k _
theorem Zr (k:ByteArray):(k.toList=[112,108,97,121])=(k=M.jO):=ZO k _
theorem toList_push (k:ByteArray):(k.toList=[112,117,115,104])=(k=M.eu):=ZO k _
theorem Zq (k:ByteArray):(k.toList=[112,97,115,115])=(k=M.jo):=ZO k _
theorem Zi (k:ByteArray):(k.toList=[99,111,110,99,101,100,101])=(k=M.aT):=ZO k _
theorem beq_lit (k:ByteArray) (l:List UInt8):(k.toList == l)=decide (k=⟨l.toArray⟩):=by
 rw [Bool.eq_iff_iff,beq_iff_eq,decide_eq_true_eq,ZO]
theorem Zv (k:ByteArray):(k.toList == [98,114,101,97,107])=decide (k=M.dh):=beq_lit k _
theorem ZH (k:ByteArray):(k.toList == [112,108,97,121])=decide (k=M.jO):=beq_lit k _
theorem ZI (k:ByteArray):(k.toList == [112,117,115,104])=decide (k=M.eu):=beq_lit k _
theorem ZG (k:ByteArray):(k.toList == [112,97,115,115])=decide (k=M.jo):=beq_lit k _
theorem Zp (k:ByteArray):(k.toList == [99,111,110,99,101,100,101])=decide (k=M.aT):=beq_lit k _
theorem ZR (a b:Int):(a != b)= !decide (a=b):=by by_cases h:a=b <;> simp [h]
theorem ZQ (a b:Int):(a == b)=decide (a=b):=by by_cases h:a=b <;> simp [h]
theorem abK {a b:Bool} (h:a=b):Value.bool a=Value.bool b:=by rw [h]
theorem aks (S:Nat→Prop) (r:M.Rules) (s:M.State) (x:M.aI) (A P:Option Addr) (c d:Nat) (w:World) (hpb:bD w S A c s.ay) (hpp:jl w S P d x.aA):
 Calls Tryz.prog 46 #[jM r,wF s A c,iO x P d] w fun e w'=>e= .returned (.int .i64 (M.legal r s x))∧Below w.heap.size w w':=by
 have hf:=atT r s x;have hol:=FQ x;obtain ⟨e1,e2,e3⟩:=hpp.bd;obtain ⟨e4,e5,e6⟩:=hpb.bd;obtain ⟨g,tg,fo⟩:=r;obtain ⟨a0,a1,a2,a3,a4,gr,bl,b0,b1,b2,b3,b4,b5,b6,b7⟩:=s;obtain ⟨pl,kd,ba,po,fi,cu,aA⟩:=x
 simp only at hpb hpp e1 e3 e4 e6 hol
 have HF:=hide hf;clear hf;have K0:Keeps w (((w.alloc (.cells #[.string g,.int .i64 tg,.int .i64 fo] 25)).alloc (.cells #[.int .i64 a0,.bool a1,.bool a2,.bool a3,.bool a4,.int .i64 gr,.slice A bl.length c,.int .i64 b0,.int .i64 b1,.int .i64 b2,.int .i64 b3,.int .i64 b4,.int .i64 b5,.bool b6,.int .i64 b7] 42)).alloc (.cells #[.int .i64 pl,.string kd,.int .i64 ba,.int .i64 po,.int .i64 fi,.bool cu,.slice P aA.length d] 69)) 3 (((w.alloc (.cells #[.string g,.int .i64 tg,.int .i64 fo] 25)).alloc (.cells #[.int .i64 a0,.bool a1,.bool a2,.bool a3,.bool a4,.int .i64 gr,.slice A bl.length c,.int .i64 b0,.int .i64 b1,.int .i64 b2,.int .i64 b3,.int .i64 b4,.int .i64 b5,.bool b6,.int .i64 b7] 42)).alloc (.cells #[.int .i64 pl,.string kd,.int .i64 ba,.int .i64 po,.int .i64 fi,.bool cu,.slice P aA.length d] 69)):=Keeps.of3 w _ _ _
 rcases Bool.eq_false_or_eq_true b6 with hov | hov
 · subst hov
   go_enter Tryz.func46,Tryz.ntmps46
   go_wp2;go_ret;exact ⟨dG (by rw [HF.out];simp),K0.bw⟩
 subst hov
 go_enter Tryz.func46,Tryz.ntmps46
 go_upto_region 1 with fail
 go_cut [0,1,2,10] (fun _ _ _ v wx=>v= .bool (false)∧Keeps w (((w.alloc (.cells #[.string g,.int .i64 tg,.int .i64 fo] 25)).alloc (.cells #[.int .i64 a0,.bool a1,.bool a2,.bool a3,.bool a4,.int .i64 gr,.slice A bl.length c,.int .i64 b0,.int .i64 b1,.int .i64 b2,.int .i64 b3,.int .i64 b4,.int .i64 b5,.bool false,.int .i64 b7] 42)).alloc (.cells #[.int .i64 pl,.string kd,.int .i64 ba,.int .i64 po,.int .i64 fi,.bool cu,.slice P aA.length d] 69)) 3 wx)
 case first=>
  all_goals go_wp2
  all_goals go_meet
  all_goals
   refine ⟨?_,by assumption⟩
   rfl
 case rest=>
  obtain ⟨rfl,K1⟩:=hcut;have hc1:=K1.cell
  go_upto_region 3 with fail
  go_cut [20] (fun v wx=>v= .bool (lg2 ⟨a0,a1,a2,a3,a4,gr,bl,b0,b1,b2,b3,b4,b5,false,b7⟩ ⟨pl,kd,ba,po,fi,cu,aA⟩)∧Keeps w (((w.alloc (.cells #[.string g,.int .i64 tg,.int .i64 fo] 25)).alloc (.cells #[.int .i64 a0,.bool a1,.bool a2,.bool a3,.bool a4,.int .i64 gr,.slice A bl.length c,.int .i64 b0,.int .i64 b1,.int .i64 b2,.int .i64 b3,.int .i64 b4,.int .i64 b5,.bool false,.int .i64 b7] 42)).alloc (.cells #[.int .i64 pl,.string kd,.int .i64 ba,.int .i64 po,.int .i64 fi,.bool cu,.slice P aA.length d] 69)) 3 wx)
  case first=>
   all_goals go_wp2
   all_goals go_meet
   all_goals
    refine ⟨?_,by assumption⟩;exact abK (by first | (simp [lg2,Zo,Zr,toList_push,Zq,Zi,Zv,ZH,ZI,ZG,Zp,ZR,ZQ, *];done) | (simp_all [lg2,Zo,Zr,toList_push,Zq,Zi,Zv,ZH,ZI,ZG,Zp,ZR,ZQ];done))
  case rest=>
   obtain ⟨rfl,K2⟩:=hcut;have hc2:=K2.cell
   rcases Bool.eq_false_or_eq_true (lg2 ⟨a0,a1,a2,a3,a4,gr,bl,b0,b1,b2,b3,b4,b5,false,b7⟩ ⟨pl,kd,ba,po,fi,cu,aA⟩) with h2 | h2
   · rw [h2]
     go_wp2;go_ret;exact ⟨dG (by rw [HF.out];simp [h2]),K2.bw⟩
   rw [h2]
   go_upto_region 5 with fail
   go_cut [42] (fun v wx=>v= .bool (lg3 ⟨a0,a1,a2,a3,a4,gr,bl,b0,b1,b2,b3,b4,b5,false,b7⟩ ⟨pl,kd,ba,po,fi,cu,aA⟩)∧Keeps w (((w.alloc (.cells #[.string g,.int .i64 tg,.int .i64 fo] 25)).alloc (.cells #[.int .i64 a0,.bool a1,.bool a2,.bool a3,.bool a4,.int .i64 gr,.slice A bl.length c,.int .i64 b0,.int .i64 b1,.int .i64 b2,.int .i64 b3,.int .i64 b4,.int .i64 b5,.bool false,.int .i64 b7] 42)).alloc (.cells #[.int .i64 pl,.string kd,.int .i64 ba,.int .i64 po,.int .i64 fi,.bool cu,.slice P aA.length d] 69)) 3 wx)
   case first=>
    all_goals go_wp2
    all_goals go_meet
    all_goals
     refine ⟨?_,by assumption⟩;exact abK (by first | (simp [lg3,Zo,Zr,toList_push,Zq,Zi,Zv,ZH,ZI,ZG,Zp,ZR,ZQ, *];done) | (simp_all [lg3,Zo,Zr,toList_push,Zq,Zi,Zv,ZH,ZI,ZG,Zp,ZR,ZQ];done))
   case rest=>
    obtain ⟨rfl,K3⟩:=hcut;have hc3:=K3.cell
    rcases Bool.eq_false_or_eq_true (lg3 ⟨a0,a1,a2,a3,a4,gr,bl,b0,b1,b2,b3,b4,b5,false,b7⟩ ⟨pl,kd,ba,po,fi,cu,aA⟩) with h3 | h3
    · rw [h3]
      go_wp2;go_ret;exact ⟨dG (by rw [HF.out];simp [h2,h3]),K3.bw⟩
    rw [h3]
    go_upto_region 7 with fail
    go_cut [60] (fun v wx=>v= .bool (lg4 ⟨a0,a1,a2,a3,a4,gr,bl,b0,b1,b2,b3,b4,b5,false,b7⟩ ⟨pl,kd,ba,po,fi,cu,aA⟩)∧Keeps w (((w.alloc (.cells #[.string g,.int .i64 tg,.int .i64 fo] 25)).alloc (.cells #[.int .i64 a0,.bool a1,.bool a2,.bool a3,.bool a4,.int .i64 gr,.slice A bl.length c,.int .i64 b0,.int .i64 b1,.int .i64 b2,.int .i64 b3,.int .i64 b4,.int .i64 b5,.bool false,.int .i64 b7] 42)).alloc (.cells #[.int .i64 pl,.string kd,.int .i64 ba,.int .i64 po,.int .i64 fi,.bool cu,.slice P aA.length d] 69)) 3 wx)
    case first=>
     all_goals go_wp2
     all_goals go_meet
     all_goals
      refine ⟨?_,by assumption⟩;exact abK (by first | (simp [lg4,Zo,Zr,toList_push,Zq,Zi,Zv,ZH,ZI,ZG,Zp,ZR,ZQ, *];done) | (simp_all [lg4,Zo,Zr,toList_push,Zq,Zi,Zv,ZH,ZI,ZG,Zp,ZR,ZQ];done))
    case rest=>
     obtain ⟨rfl,K4⟩:=hcut;have hc4:=K4.cell
     rcases Bool.eq_false_or_eq_true (lg4 ⟨a0,a1,a2,a3,a4,gr,bl,b0,b1,b2,b3,b4,b5,false,b7⟩ ⟨pl,kd,ba,po,fi,cu,aA⟩) with h4 | h4
     · rw [h4]
       go_wp2;go_ret;exact ⟨dG (by rw [HF.out];simp [h2,h3,h4]),K4.bw⟩
     rw [h4]
     go_upto_region 9 with fail
     go_cut [82] (fun v wx=>v= .bool (lg5 ⟨g,tg,fo⟩ ⟨a0,a1,a2,a3,a4,gr,bl,b0,b1,b2,b3,b4,b5,false,b7⟩ ⟨pl,kd,ba,po,fi,cu,aA⟩)∧Keeps w (((w.alloc (.cells #[.string g,.int .i64 tg,.int .i64 fo] 25)).alloc (.cells #[.int .i64 a0,.bool a1,.bool a2,.bool a3,.bool a4,.int .i64 gr,.slice A bl.length c,.int .i64 b0,.int .i64 b1,.int .i64 b2,.int .i64 b3,.int .i64 b4,.int .i64 b5,.bool false,.int .i64 b7] 42)).alloc (.cells #[.int .i64 pl,.string kd,.int .i64 ba,.int .i64 po,.int .i64 fi,.bool cu,.slice P aA.length d] 69)) 3 wx)
     case first=>
      all_goals go_wp2_with (first | (go_at_call 98;refine (aev ⟨g,tg,fo⟩ ⟨pl,kd,ba,po,fi,cu,aA⟩ _ _ _).mono ?_;rintro e w21 ⟨rfl,aEh⟩;have K21:=K4.call aEh;have hc21:=K21.cell) | (go_at_call 98;refine (aev ⟨g,tg,fo⟩ ⟨pl,kd,ba,po,fi,cu,aA⟩ _ _ _).mono ?_;rintro e w22 ⟨rfl,RY⟩;have K22:=K21.call RY;have hc22:=K22.cell) | (go_at_call 54;refine (ZK _ _ _ _ _ _ (hpb.below K21.bw)).mono ?_;rintro e dO ⟨rfl,rfl⟩))
      all_goals go_meet
      all_goals
       refine ⟨?_,by assumption⟩;exact abK (by first | (simp [lg5,Zo,Zr,toList_push,Zq,Zi,Zv,ZH,ZI,ZG,Zp,ZR,ZQ, *];done) | (simp_all [lg5,Zo,Zr,toList_push,Zq,Zi,Zv,ZH,ZI,ZG,Zp,ZR,ZQ];done))
     case rest=>
      obtain ⟨rfl,K5⟩:=hcut;have hc5:=K5.cell
      rcases Bool.eq_false_or_eq_true (lg5 ⟨g,tg,fo⟩ ⟨a0,a1,a2,a3,a4,gr,bl,b0,b1,b2,b3,b4,b5,false,b7⟩ ⟨pl,kd,ba,po,fi,cu,aA⟩) with h5 | h5
      · rw [h5]
        go_wp2;go_ret;exact ⟨dG (by rw [HF.out];simp [h2,h3,h4,h5]),K5.bw⟩
      rw [h5]
      go_upto_region 11 with fail
      go_cut [93] (fun v wx=>v= .bool (lg6 ⟨a0,a1,a2,a3,a4,gr,bl,b0,b1,b2,b3,b4,b5,false,b7⟩ ⟨pl,kd,ba,po,fi,cu,aA⟩)∧Keeps w (((w.alloc (.cells #[.string g,.int .i64 tg,.int .i64 fo] 25)).alloc (.cells #[.int .i64 a0,.bool a1,.bool a2,.bool a3,.bool a4,.int .i64 gr,.slice A bl.length c,.int .i64 b0,.int .i64 b1,.int .i64 b2,.int .i64 b3,.int .i64 b4,.int .i64 b5,.bool false,.int .i64 b7] 42)).alloc (.cells #[.int .i64 pl,.string kd,.int .i64 ba,.int .i64 po,.int .i64 fi,.bool cu,.slice P aA.length d] 69)) 3 wx)
      case first=>
       all_goals go_wp2_with (first | (go_at_call 54;refine (ZK _ _ _ _ _ _ (hpb.below K5.bw)).mono ?_;rintro e dO ⟨rfl,rfl⟩))
       all_goals go_meet
       all_goals
        refine ⟨?_,by assumption⟩;exact abK (by first | (simp [lg6,Zo,Zr,toList_push,Zq,Zi,Zv,ZH,ZI,ZG,Zp,ZR,ZQ, *];done) | (simp_all [lg6,Zo,Zr,toList_push,Zq,Zi,Zv,ZH,ZI,ZG,Zp,ZR,ZQ];done))
      case rest=>
       obtain ⟨rfl,K6⟩:=hcut;have hc6:=K6.cell
       rcases Bool.eq_false_or_eq_true (lg6 ⟨a0,a1,a2,a3,a4,gr,bl,b0,b1,b2,b3,b4,b5,false,b7⟩ ⟨pl,kd,ba,po,fi,cu,aA⟩) with h6 | h6
       · rw [h6]
         go_wp2;go_ret;exact ⟨dG (by rw [HF.out];simp [h2,h3,h4,h5,h6]),K6.bw⟩
       rw [h6]
       go_wp2_with ((go_at_call 72;refine (Ze S ⟨pl,kd,ba,po,fi,cu,aA⟩ _ _ _ (hpp.below K6.bw)).mono ?_;rintro e w7 ⟨A1,c1',rfl,hr1,hb7⟩;have K7:=K6.call hb7;have YX:=K7.cell))
       obtain ⟨e7,e8,e9⟩:=hr1.bd;have HR1:=hide hr1;clear hr1
       go_loopw [8] (fun i wr=>∃ k m:Nat,k≤(M.objects ⟨pl,kd,ba,po,fi,cu,aA⟩).length∧i= .int .i64 k∧((M.objects ⟨pl,kd,ba,po,fi,cu,aA⟩).take k).any (alD ⟨a0,a1,a2,a3,a4,gr,bl,b0,b1,b2,b3,b4,b5,false,b7⟩ ⟨pl,kd,ba,po,fi,cu,aA⟩)=false∧wr=w7.drewN m) (fun i _=>(M.objects ⟨pl,kd,ba,po,fi,cu,aA⟩).length - (intOf i).toNat)
       case atStart=>exact ⟨0,0,Nat.zero_le _,rfl,by simp,rfl⟩
       case round=>
        obtain ⟨k,m,hk,rfl,hx1,rfl⟩:=hrel
        by_cases hlt:k<(M.objects ⟨pl,kd,ba,po,fi,cu,aA⟩).length
        · obtain ⟨b,o,rfl,_,hbl,hc⟩:=HR1.out.at_ k hlt
          have hck:=hc k hlt;clear hc
          have i1:(0:Int)≤(k:Int):=by omega
          have i2:(k:Int)<((M.objects ⟨pl,kd,ba,po,fi,cu,aA⟩).length:Int):=by omega
          have WZ:=hide (hpb.below K7.bw)
          by_cases q0:fi=0
          · have q0':(fi == 0)=true:=by simp [q0]
            have H7:=hide (show lg7 ⟨a0,a1,a2,a3,a4,gr,bl,b0,b1,b2,b3,b4,b5,false,b7⟩ ⟨pl,kd,ba,po,fi,cu,aA⟩=true from ae4 hlt (by simp [alD,q0]));clear q0;go_wp2
            go_quiet (fail)
            go_wp2;go_ret;exact ⟨dG (by rw [HF.out];simp [h2,h3,h4,h5,h6,H7.out]),below_drewN (below_drewN K7.bw _) _⟩
          · have q0':(fi == 0)=false:=by simp [q0]
            by_cases q1:(M.objects ⟨pl,kd,ba,po,fi,cu,aA⟩)[k]∈bl
            · have HG:=hide (show alD ⟨a0,a1,a2,a3,a4,gr,bl,b0,b1,b2,b3,b4,b5,false,b7⟩ ⟨pl,kd,ba,po,fi,cu,aA⟩ (M.objects ⟨pl,kd,ba,po,fi,cu,aA⟩)[k]=false by simp [alD,q0,q1])
              clear q0;go_wp2
              go_quiet ((go_at_call 54;first | exact ZN (adF _ _ _ _ _ _ (WZ.out.drewN _) (by assumption)) | exact ZN (abY _ _ _ _ _ _ (WZ.out.drewN _) (by assumption))))
              go_wp2
              go_roundw
              case rel=>exact ⟨k+1,_,by omega,by go_num,agX hlt hx1 HG.out,rfl⟩
              case measure=>simp [intOf];omega
            · have H7:=hide (show lg7 ⟨a0,a1,a2,a3,a4,gr,bl,b0,b1,b2,b3,b4,b5,false,b7⟩ ⟨pl,kd,ba,po,fi,cu,aA⟩=true from ae4 hlt (by simp [alD,q1]))
              clear q0;go_wp2
              go_quiet ((go_at_call 54;first | exact ZN (adF _ _ _ _ _ _ (WZ.out.drewN _) (by assumption)) | exact ZN (abY _ _ _ _ _ _ (WZ.out.drewN _) (by assumption))))
              go_wp2;go_ret;exact ⟨dG (by rw [HF.out];simp [h2,h3,h4,h5,h6,H7.out]),below_drewN (below_drewN K7.bw _) _⟩
        · have hkk:k=(M.objects ⟨pl,kd,ba,po,fi,cu,aA⟩).length:=by omega
          rw [hkk,List.take_length] at hx1;have H7:=hide (show lg7 ⟨a0,a1,a2,a3,a4,gr,bl,b0,b1,b2,b3,b4,b5,false,b7⟩ ⟨pl,kd,ba,po,fi,cu,aA⟩=false from hx1);clear hkk hx1;go_wp2;go_ret;exact ⟨dG (by rw [HF.out];simp [h2,h3,h4,h5,h6,H7.out]),below_drewN K7.bw _⟩
end Go.Proofs.YtelpepbpdojikaaGreatDoor
