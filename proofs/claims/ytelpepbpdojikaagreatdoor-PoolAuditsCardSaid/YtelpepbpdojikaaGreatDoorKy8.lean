/- Parts of a proof. -/
import Derived.Test.YtelpepbpdojikaaGreatDoorKg21
import Derived.Test.YtelpepbpdojikaaGreatDoorKy12
import Derived.Test.YtelpepbpdojikaaGreatDoorKy7
set_option maxHeartbeats 8000000
set_option maxRecDepth 100000
set_option linter.unusedVariables false
set_option linter.unusedSimpArgs false
namespace Go.Proofs.YtelpepbpdojikaaGreatDoor
open Go.RowKit
theorem ak8 (v0 v1 v2 v3 v4 v5 v6 v7 v8 v9 v10 v11 v12 v13 v14 v15 v16 v17:Value) (w:World):(Instr.field 127 (.agg #[v0,v1,v2,v3,v4,v5,v6,v7,v8,v9,v10,v11,v12,v13,v14,v15,v16,v17]) 1).run Tryz.prog w= .ok (.agg #[v3,v4,v5,v6,v7,v8,v9,v10,v11,v12,v13,v14,v15,v16,v17]) w:=by kernel_rfl
theorem adr {p:World→Prop} {W:World} (h:∀ W',W'=W→p W'):p W:=h W rfl
theorem apv {c:Prop} [Decidable c] {A B:Prop} (hc:c) (h:A):if c then A else B:=by rw [if_pos hc];exact h
theorem aaE {md:Region.Mode} {ops:Array Oper} {Q:Exit→Act→World→Prop} {S:World→Prop} {fuel:Nat} {listed:Array Bool} {a:Act} {w:World} {i:Nat} {o:Oper} {g:Nat} {cs:List Value} {t:TypeId} (ho:ops[i]? =some o) (hw:Region.wanted o (yielded ops a.tmps)=true)
 (h:Held w g cs t) (vs:List Value) (hl:vs.length=cs.length) (hi:(Tryz.prog.info? t).map (·.size)=some cs.length) (h1:∀ v∈vs,v.oneCell'=true) (x y:Operand) (hop:o.op= .store t x y) (hx:a.eval x= .pointer (some ⟨g,0,none⟩)) (hy:a.eval y= .agg vs.toArray)
 (hS:S (w.setCells g 0 vs)) (k:wpAnyH Tryz.prog md ops Q S fuel (listed.setIfInBounds i true) (a.put o.dst undef) (w.setCells g 0 vs)):AllReadyH Tryz.prog md ops Q S fuel listed a w [i]:=
 AllReadyH.cons ho (fun K hK=>by rw [if_pos hw];exact bF h vs hl hi h1 x y hop hx hy (hK.out _ _ hS (fun _=>k))) AllReadyH.nil
theorem ajh {P:Program} {md:Region.Mode} {ops:Array Oper} {Q:Exit→Act→World→Prop} {S:World→Prop} {n:Nat} {l:Array Bool} {a:Act} {w:World} (h:∀ f:Nat→Array Bool→Act→World→Prop,f=wpAnyH P md ops Q S→f n l a w):wpAnyH P md ops Q S n l a w:=h _ rfl
theorem Zw:(Tryz.prog.info? 25).map (·.size)=some 3:=by kernel_rfl
theorem Zc:(Tryz.prog.info? 42).map (·.size)=some 15:=by kernel_rfl
theorem Zk:(Tryz.prog.info? 69).map (·.size)=some 7:=by kernel_rfl
def acH (r:M.Rules) (x:M.aI) (gd:Bool) (b:Int):Bool:=(r.game=M.aB∧gd=false)∨(r.game=M.aQ∧b=8∧x.kind=M.dh)∨(r.game=M.bM∧b=9∧gd=false)
def ZJ (r:M.Rules) (x:M.aI) (gd:Bool) (b:Int):Bool:= !(decide (b∈M.objects x)) || acH r x gd b
theorem an7 (r:M.Rules) (s:M.State) (x:M.aI):M.left r s x=s.ay.filter (ZJ r x (M.good r s x)):=by
 unfold M.left
 congr 1
 funext b
 unfold M.stays ZJ acH
 rw [Bool.eq_iff_iff]
 simp only [decide_eq_true_eq,Bool.or_eq_true,Bool.not_eq_true',decide_eq_false_iff_not]
theorem filter_one {p:Int→Bool} {l:List Int} {k:Nat} (hk:k<l.length):(l.take (k+1)).filter p=(l.take k).filter p++if p l[k]=true then [l[k]] else []:=by
 rw [List.take_succ_eq_append_getElem hk,List.filter_append]
 cases h:p l[k] <;> simp [h]
theorem amc (S:Nat→Prop) (r:M.Rules) (s:M.State) (x:M.aI) (A P:Option Addr) (c d:Nat) (w:World) (hpb:bD w S A c s.ay) (hpp:jl w S P d x.aA) (hr:M.aH r=0) (hg:0≤s.group∧s.group≤2):
 Calls Tryz.prog 99 #[jM r,wF s A c,iO x P d] w fun e w'=>∃ A' c',e= .returned (.slice A' (M.left r s x).length c')∧bD w' (fun b=>w.heap.size≤b) A' c' (M.left r s x)∧Below w.heap.size w w':=by
 obtain ⟨i0,hi,hz0,hz1,hz2⟩:=info_parts uN;obtain ⟨e1,e2,e3⟩:=hpb.bd;rw [an7];have HGM:=hide (M.um hr);have hgo:=fun W h h'=>ZT S r s x A P c d W h h' hr hg;obtain ⟨gd,hgd⟩:∃ q,M.good r s x=q:=⟨_,rfl⟩
 simp only [hgd] at hgo ⊢
 have WT:=hide hgo;clear hr hgd hgo
 go_enter Tryz.func99,Tryz.ntmps99
 go_upto_region 0 with (fail)
 go_cut [3,4,5] (fun v3 v4 v5 wx=>v3=ptr w.heap.size∧v4=ptr (w.heap.size+1)∧v5=ptr (w.heap.size+2)∧bU w wx [([.string r.game,.int .i64 r.target,.int .i64 r.aY],25),(aW s A c,42),(au ⟨x,P,d⟩,69)])
 case first=>
  go_wp2;go_meet;exact ⟨rfl,rfl,rfl,((((bU.nil w).new (by simp) ([.string r.game,.int .i64 r.target,.int .i64 r.aY]) _).new (by simp) (aW s A c) _).new (by simp) (au ⟨x,P,d⟩) _)⟩
 case rest=>
  obtain ⟨rfl,rfl,rfl,hB⟩:=hcut
  go_upto_region 1 with (fail)
  go_cut [7] (fun v wx=>v= .bool gd∧bU w wx [([.string r.game,.int .i64 r.target,.int .i64 r.aY],25),(aW s A c,42),(au ⟨x,P,d⟩,69)])
  case first=>
   go_wp2_with (first | (refine aN 25 (.tmp 3) rfl ?_;refine aG (hB.bf rfl) Tryz.underlying25 rfl Zw rfl (.tmp 3) rfl rfl ?_) | (refine aN 42 (.tmp 4) rfl ?_;refine aG (hB.get 1 rfl) Tryz.underlying42 rfl Zc rfl (.tmp 4) rfl rfl ?_) | (refine aN 69 (.tmp 5) rfl ?_;refine aG (hB.get 2 rfl) Tryz.underlying69 rfl Zk rfl (.tmp 5) rfl rfl ?_) | (go_at_call 71;refine (WT.out _ (hpb.below hB.bw) (hpp.below hB.bw)).mono ?_;rintro e w1 ⟨rfl,hb1⟩;have hB1:=hB.call (by simp) hb1))
   go_meet;exact ⟨rfl,hB1⟩
  case rest=>
   obtain ⟨rfl,hC⟩:=hcut;clear hB
   rename World=>W0
   have xA:=hC.size (by simp)
   simp only [List.length_cons,List.length_nil] at xA
   go_wp2
   go_loopw [8,9] (fun v i wr=>∃ k:Nat,k≤s.ay.length∧i= .int .i64 k∧(∃ A c,v= .slice A ((s.ay.take k).filter (ZJ r x gd)).length c)∧wr.ownsRow W0.heap.size 3 1 v (((s.ay.take k).filter (ZJ r x gd))).length ((((s.ay.take k).filter (ZJ r x gd))).map (Value.int .i64))∧Aside (Below W0.heap.size W0 wr))
    (fun _ i _=>s.ay.length - (intOf i).toNat)
   case atStart=>exact ⟨0,Nat.zero_le _,rfl,⟨_,_,rfl⟩,World.ownsRow_nil _ _ _ _,Below.refl _ _⟩
   case round=>
    obtain ⟨k,hk,rfl,⟨A2,c2,rfl⟩,hown,hbR⟩:=hrel;have hR:=hC.call (by simp) hbR.out
    by_cases hlt:k<s.ay.length
    · obtain ⟨b,o,rfl,_,hbl,hc⟩:=(hpb.below hR.bw).at_ k hlt
      have hck:=hc k hlt;clear hc;obtain ⟨bb,hbb⟩:∃ b,s.ay[k]=b:=⟨_,rfl⟩;rw [hbb] at hck;have k6:=(hR.get 1 rfl).cell (j:=6) rfl;have hs:=filter_one (p:=(ZJ r x gd)) hlt;rw [hbb] at hs;clear hbb;have hle:=List.length_filter_le (ZJ r x gd) (s.ay.take k);rw [List.length_take] at hle;have HS:=hide hs;clear hs
      go_upto_region 7 with (fail)
      go_cut [11] from 28 to 31 (fun v wx=>v= .bool (decide (bb∈M.objects x))∧wx.ownsRow W0.heap.size 3 1 (.slice A2 ((s.ay.take k).filter (ZJ r x gd)).length c2) (((s.ay.take k).filter (ZJ r x gd))).length ((((s.ay.take k).filter (ZJ r x gd))).map (Value.int .i64))∧Below wr.heap.size wr wx)
      case first=>
       go_wp2_with (first | (refine aN 69 (.tmp 5) rfl ?_;refine aG (hR.get 2 rfl) Tryz.underlying69 rfl Zk rfl (.tmp 5) rfl rfl ?_) | (go_at_call 72;refine (Ze S x P d _ (hpp.below hR.bw)).mono ?_;rintro e w2 ⟨A1,c1,rfl,hr1,hb2⟩;have hR2:=hR.call (by simp) hb2) | (go_at_call 54;refine (ZK _ A1 c1 (M.objects x) _ _ hr1).mono ?_;rintro e dO ⟨rfl,rfl⟩))
       go_meet;exact ⟨rfl,zM hown hb2,hb2⟩
      case rest=>
       obtain ⟨rfl,aoN,hbY⟩:=hcut;have hY:=hR.call (by simp) hbY;have hFY:=hY.bf rfl;have k0:=hFY.cell (j:=0) rfl;have Au:=hY.get 2 rfl;have Uj:=Au.cell (j:=1) rfl;have hck:=(hbY.cell (p:=⟨_,_,none⟩) hbl).trans hck;clear hown
       go_upto_region 8 with (fail)
       go_cut [65] from 32 to 65 (fun v wx=>v= .bool (acH r x gd bb)∧wx=wc)
       case first=>
        have aAx:=HGM.out
        rcases aAx with hgm | hgm | hgm
        · have aaq:(r.game.toList == [115,116,114,97,105,103,104,116])=true:=by rw [hgm];decide+kernel
          have ahw:(r.game.toList == [101,105,103,104,116])=false:=by rw [hgm];decide+kernel
          have aln:(r.game.toList == [110,105,110,101])=false:=by rw [hgm];decide+kernel
          have n1:¬ M.aB=M.aQ:=by decide
          have n2:¬ M.aB=M.bM:=by decide
          have hv:acH r x gd bb= !gd:=by unfold acH;rw [hgm];simp [n1,n2]
          have HV:=hide hv;clear hgm n1 n2 hv
          cases gd <;> (go_wp2;go_meet;exact ⟨by rw [HV.out];rfl,rfl⟩)
        · have aaq:(r.game.toList == [115,116,114,97,105,103,104,116])=false:=by rw [hgm];decide+kernel
          have ahw:(r.game.toList == [101,105,103,104,116])=true:=by rw [hgm];decide+kernel
          have aln:(r.game.toList == [110,105,110,101])=false:=by rw [hgm];decide+kernel
          have n1:¬ M.aQ=M.aB:=by decide
          have n2:¬ M.aQ=M.bM:=by decide
          have hv:acH r x gd bb=(decide (bb=8) && decide (x.kind=M.dh)):=by unfold acH;rw [hgm];simp [n1,n2]
          have HV:=hide hv;clear hgm n1 n2 hv
          by_cases h8:bb=8
          · subst h8
            have hkb:(x.kind.toList == [98,114,101,97,107])=decide (x.kind=M.dh):=Zv _;obtain ⟨kb,hkk⟩:∃ b,decide (x.kind=M.dh)=b:=⟨_,rfl⟩;rw [hkk] at hkb;have HK:=hide hkk;clear hkk
            cases kb <;> (go_wp2;go_meet;exact ⟨by rw [HV.out,HK.out];rfl,rfl⟩)
          · have h8':(bb == 8)=false:=by simpa using h8
            have HD:=hide (decide_eq_false h8);clear h8;go_wp2;go_meet;exact ⟨by rw [HV.out,HD.out];rfl,rfl⟩
        · have aaq:(r.game.toList == [115,116,114,97,105,103,104,116])=false:=by rw [hgm];decide+kernel
          have ahw:(r.game.toList == [101,105,103,104,116])=false:=by rw [hgm];decide+kernel
          have aln:(r.game.toList == [110,105,110,101])=true:=by rw [hgm];decide+kernel
          have n1:¬ M.bM=M.aB:=by decide
          have n2:¬ M.bM=M.aQ:=by decide
          have hv:acH r x gd bb=(decide (bb=9) && !gd):=by unfold acH;rw [hgm];simp [n1,n2]
          have HV:=hide hv;clear hgm n1 n2 hv
          by_cases h9:bb=9
          · subst h9
            cases gd <;> (go_wp2;go_meet;exact ⟨by rw [HV.out];rfl,rfl⟩)
          · have h9':(bb == 9)=false:=by simpa using h9
            have HD:=hide (decide_eq_false h9);clear h9;go_wp2;go_meet;exact ⟨by rw [HV.out,HD.out];rfl,rfl⟩
       case rest=>
        obtain ⟨rfl,rfl⟩:=hcut;have H7:=hbR.out.trans (hbY.mono hbR.out.size);have hsz1:=H7.size;clear k0 Uj k6 hck;obtain ⟨y,hy⟩:∃ y,(ZJ r x gd) bb=y:=⟨_,rfl⟩;obtain ⟨m,hm⟩:∃ m,decide (bb∈M.objects x)=m:=⟨_,rfl⟩;obtain ⟨q,hq⟩:∃ q,acH r x gd bb=q:=⟨_,rfl⟩
        have hyq:y=(!m || q):=by rw [← hy, ← hm, ← hq];rfl
        rw [hm,hq];have HY:=hide hy;clear hy hm hq
        rcases m with _ | _ <;> rcases q with _ | _ <;> obtain rfl:y=_:=hyq
        rotate_left 2
        · have hsn:((s.ay.take (k+1)).filter (ZJ r x gd))=((s.ay.take k).filter (ZJ r x gd)):=by rw [HS.out,HY.out];simp
          have HN:=hide hsn;clear hsn;go_wp2
          go_roundw
          case rel=>exact ⟨k+1,by omega,by go_num,by rw [HN.out];exact ⟨⟨_,_,rfl⟩,aoN,H7⟩⟩
          case measure=>simp [intOf];omega
        all_goals
         have hsn:((s.ay.take (k+1)).filter (ZJ r x gd))=((s.ay.take k).filter (ZJ r x gd))++[bb]:=by rw [HS.out,HY.out];rfl
         have HN:=hide hsn;clear hsn
         go_wp2_with (at_builtin;refine wpList_append_lies _ rfl _ _ _ rfl (W0.heap.size) 3 i0 (.int .i64 0) 1 8 Tryz.underlying30 hi hz0 hz1 hz2 rfl (by omega) _ _ _ rfl (aoN.alloc _) ⟨wc.heap.size,0,none⟩ 1 1 [.int .i64 bb] rfl rfl (dK _ _ _ _ (by simp)) ?c1 (by omega) ?c2 ?c3 ?c4 (wc.heap.size+1) (by simp) ?_)
         case c1=>simp [Value.oneCell']
         case c2=>simp only [maxLen];omega
         case c3=>omega
         case c4=>first | omega | (simp;omega)
         intro g1 cap w1 hown1 hgrow _ _;have hbd:=dX (B:=W0.heap.size) (aoN.alloc _) hgrow (by omega) (by simp;omega);have hb1:=((Below.refl W0.heap.size wc).alloc (by omega) _).trans hbd
         have hown2:w1.ownsRow W0.heap.size 3 1 (.slice (some ⟨g1,0,none⟩) ((s.ay.take (k+1)).filter (ZJ r x gd)).length cap) ((s.ay.take (k+1)).filter (ZJ r x gd)).length (((s.ay.take (k+1)).filter (ZJ r x gd)).map (Value.int .i64)):=by rw [HN.out];simpa using hown1
         have hv:((s.ay.take k).filter (ZJ r x gd)).length+1=((s.ay.take (k+1)).filter (ZJ r x gd)).length:=by rw [HN.out];simp
         rw [hv];have hbw2:=H7.trans hb1;clear aoN hown1 hgrow hbd hb1 hv;go_wp2
         go_roundw
         case rel=>exact ⟨k+1,by omega,by go_num,⟨_,_,rfl⟩,hown2,hbw2⟩
         case measure=>simp [intOf];omega
    · obtain rfl:k=s.ay.length:=by omega
      have k6:=(hR.get 1 rfl).cell (j:=6) rfl;rw [List.take_length] at hown;go_wp2;go_ret;rw [List.take_length];exact ⟨A2,c2,rfl,Reads.more (Reads.kG (S:=fun b=>W0.heap.size≤b) hown (fun b h=>h) (by have:=List.length_filter_le (ZJ r x gd) s.ay;omega)) (fun b _ h=>by omega),hR.bw⟩
theorem anT (r:M.Rules) (s:M.State) (A:Option Addr) (c:Nat) (w:World) (h0: -1000000≤s.s0) (h1:s.s0≤1000000) (h2:0≤s.aZ) (h3:s.aZ≤1000000):
 Calls Tryz.prog 101 #[jM ⟨M.aB,r.target,r.aY⟩,wF s A c,.int .i64 0] w fun e w'=>∃ A' c',e= .returned (wF ({s with s0:=s.s0 - 15,f0:=0,brk:=true,ay:=M.jA ⟨M.aB,r.target,r.aY⟩,aZ:=s.aZ+1 }) A' c')∧bD w' (fun b=>w.heap.size≤b) A' c' (M.jA ⟨M.aB,r.target,r.aY⟩)∧Below w.heap.size w w':=by
 go_enter Tryz.func101,Tryz.ntmps101
 go_upto_region 0 with (fail)
 go_cut [3,4,6] (fun v1 v2 v6 wx=>v1=ptr w.heap.size∧v2=ptr (w.heap.size+1)∧v6=ptr (w.heap.size+2)∧bU w wx [([.string M.aB,.int .i64 r.target,.int .i64 r.aY],25),(aW s A c,42),(aj,42)])
 case first=>
  go_wp2;go_meet;exact ⟨rfl,rfl,rfl,((((bU.nil w).new (by simp) ([.string M.aB,.int .i64 r.target,.int .i64 r.aY]) _).new (by simp) (aW s A c) _).new (by simp) (aj) _)⟩
 case rest=>
  obtain ⟨rfl,rfl,rfl,hB⟩:=hcut;have hF:=hB.get 1 rfl;have hR:=hB.bf rfl;have g0:=hR.cell (j:=0) rfl;have gf0:=hR.frozen 0;have k7:=hF.cell (j:=7) rfl;have Yd:=hF.frozen 7;have k9:=hF.cell (j:=9) rfl;have Wx:=hF.frozen 9;have hC:bU w ((wc.setCell ⟨w.heap.size+1,7,none⟩ (.int .i64 (s.s0 - 15))).setCell ⟨w.heap.size+1,9,none⟩ (.int .i64 0)) [([.string M.aB,.int .i64 r.target,.int .i64 r.aY],25),(aW {s with s0:=s.s0 - 15,f0:=0 } A c,42),(aj,42)]:=((hB.set 1 rfl 7 _).set 1 rfl 9 _)
  go_wp2_with (first | (refine aN 25 (.tmp 3) rfl ?_;refine aG (hC.bf rfl) Tryz.underlying25 rfl Zw rfl (.tmp 3) rfl rfl ?_) | (go_at_call 90;refine (Z5 ⟨M.aB,r.target,r.aY⟩ _).mono ?_;rintro e w1 ⟨A1,c1,rfl,hr1,hb1⟩;have hD:=hC.call (by simp) hb1;have RF:=hD.get 1 rfl;have q6:=RF.cell (j:=6) rfl;have qf6:=RF.frozen 6;have q1:=RF.cell (j:=1) rfl;have qf1:=RF.frozen 1;have q12:=RF.cell (j:=12) rfl;have aEX:=RF.frozen 12;have hE:bU w (((w1.setCell ⟨w.heap.size+1,6,none⟩ (.slice A1 (M.jA ⟨M.aB,r.target,r.aY⟩).length c1)).setCell ⟨w.heap.size+1,1,none⟩ (.bool true)).setCell ⟨w.heap.size+1,12,none⟩ (.int .i64 (s.aZ+1))) [([.string M.aB,.int .i64 r.target,.int .i64 r.aY],25),(aW ({s with s0:=s.s0 - 15,f0:=0,brk:=true,ay:=M.jA ⟨M.aB,r.target,r.aY⟩,aZ:=s.aZ+1 }) A1 c1,42),(aj,42)]:=(((hD.set 1 rfl 6 _).set 1 rfl 1 _).set 1 rfl 12 _)) | (refine aN 42 (.tmp 4) rfl ?_;refine aG (hE.get 1 rfl) Tryz.underlying42 rfl Zc rfl (.tmp 4) rfl rfl ?_) | (refine aO 42 (.tmp 6) (.tmp 34) rfl ?_;refine aF (hE.get 2 rfl) (aW ({s with s0:=s.s0 - 15,f0:=0,brk:=true,ay:=M.jA ⟨M.aB,r.target,r.aY⟩,aZ:=s.aZ+1 }) A1 c1) rfl Zc (dL _ _ _) rfl (.tmp 6) (.tmp 34) rfl rfl rfl ?_))
  have hZ:=hE.put 2 rfl (aW ({s with s0:=s.s0 - 15,f0:=0,brk:=true,ay:=M.jA ⟨M.aB,r.target,r.aY⟩,aZ:=s.aZ+1 }) A1 c1) rfl;refine bodyPost_ret (bP (p:=6) (hZ.get 2 rfl) Tryz.underlying42 rfl Zc rfl _ rfl) rfl ⟨A1,c1,rfl,?_,hZ.bw⟩;have hsz:=hC.size (by simp)
  simp only [List.length_cons,List.length_nil] at hsz
  exact (hr1.above (D:=w.heap.size+3) (fun b h=>Nat.le_trans hsz h) (iT.setCells (by omega) _ _ _ ((((iT.refl _ _).setCell (by omega) _ _).setCell (by omega) _ _).setCell (by omega) _ _))).more (fun b _ h=>by omega)
theorem an0 (r:M.Rules) (s:M.State) (A:Option Addr) (c:Nat) (w:World) (h0: -1000000≤s.s1) (h1:s.s1≤1000000) (h2:0≤s.aZ) (h3:s.aZ≤1000000):
 Calls Tryz.prog 101 #[jM ⟨M.aB,r.target,r.aY⟩,wF s A c,.int .i64 1] w fun e w'=>∃ A' c',e= .returned (wF ({s with s1:=s.s1 - 15,f1:=0,brk:=true,ay:=M.jA ⟨M.aB,r.target,r.aY⟩,aZ:=s.aZ+1 }) A' c')∧bD w' (fun b=>w.heap.size≤b) A' c' (M.jA ⟨M.aB,r.target,r.aY⟩)∧Below w.heap.size w w':=by
 go_enter Tryz.func101,Tryz.ntmps101
 go_upto_region 0 with (fail)
 go_cut [3,4,6] (fun v1 v2 v6 wx=>v1=ptr w.heap.size∧v2=ptr (w.heap.size+1)∧v6=ptr (w.heap.size+2)∧bU w wx [([.string M.aB,.int .i64 r.target,.int .i64 r.aY],25),(aW s A c,42),(aj,42)])
 case first=>
  go_wp2;go_meet;exact ⟨rfl,rfl,rfl,((((bU.nil w).new (by simp) ([.string M.aB,.int .i64 r.target,.int .i64 r.aY]) _).new (by simp) (aW s A c) _).new (by simp) (aj) _)⟩
 case rest=>
  obtain ⟨rfl,rfl,rfl,hB⟩:=hcut;have hF:=hB.get 1 rfl;have hR:=hB.bf rfl;have g0:=hR.cell (j:=0) rfl;have gf0:=hR.frozen 0;have k8:=hF.cell (j:=8) rfl;have kf8:=hF.frozen 8;have k10:=hF.cell (j:=10) rfl;have X6:=hF.frozen 10;have hC:bU w ((wc.setCell ⟨w.heap.size+1,8,none⟩ (.int .i64 (s.s1 - 15))).setCell ⟨w.heap.size+1,10,none⟩ (.int .i64 0)) [([.string M.aB,.int .i64 r.target,.int .i64 r.aY],25),(aW {s with s1:=s.s1 - 15,f1:=0 } A c,42),(aj,42)]:=((hB.set 1 rfl 8 _).set 1 rfl 10 _)
  go_wp2_with (first | (refine aN 25 (.tmp 3) rfl ?_;refine aG (hC.bf rfl) Tryz.underlying25 rfl Zw rfl (.tmp 3) rfl rfl ?_) | (go_at_call 90;refine (Z5 ⟨M.aB,r.target,r.aY⟩ _).mono ?_;rintro e w1 ⟨A1,c1,rfl,hr1,hb1⟩;have hD:=hC.call (by simp) hb1;have RF:=hD.get 1 rfl;have q6:=RF.cell (j:=6) rfl;have qf6:=RF.frozen 6;have q1:=RF.cell (j:=1) rfl;have qf1:=RF.frozen 1;have q12:=RF.cell (j:=12) rfl;have aEX:=RF.frozen 12;have hE:bU w (((w1.setCell ⟨w.heap.size+1,6,none⟩ (.slice A1 (M.jA ⟨M.aB,r.target,r.aY⟩).length c1)).setCell ⟨w.heap.size+1,1,none⟩ (.bool true)).setCell ⟨w.heap.size+1,12,none⟩ (.int .i64 (s.aZ+1))) [([.string M.aB,.int .i64 r.target,.int .i64 r.aY],25),(aW ({s with s1:=s.s1 - 15,f1:=0,brk:=true,ay:=M.jA ⟨M.aB,r.target,r.aY⟩,aZ:=s.aZ+1 }) A1 c1,42),(aj,42)]:=(((hD.set 1 rfl 6 _).set 1 rfl 1 _).set 1 rfl 12 _)) | (refine aN 42 (.tmp 4) rfl ?_;refine aG (hE.get 1 rfl) Tryz.underlying42 rfl Zc rfl (.tmp 4) rfl rfl ?_) | (refine aO 42 (.tmp 6) (.tmp 34) rfl ?_;refine aF (hE.get 2 rfl) (aW ({s with s1:=s.s1 - 15,f1:=0,brk:=true,ay:=M.jA ⟨M.aB,r.target,r.aY⟩,aZ:=s.aZ+1 }) A1 c1) rfl Zc (dL _ _ _) rfl (.tmp 6) (.tmp 34) rfl rfl rfl ?_))
  have hZ:=hE.put 2 rfl (aW ({s with s1:=s.s1 - 15,f1:=0,brk:=true,ay:=M.jA ⟨M.aB,r.target,r.aY⟩,aZ:=s.aZ+1 }) A1 c1) rfl;refine bodyPost_ret (bP (p:=6) (hZ.get 2 rfl) Tryz.underlying42 rfl Zc rfl _ rfl) rfl ⟨A1,c1,rfl,?_,hZ.bw⟩;have hsz:=hC.size (by simp)
  simp only [List.length_cons,List.length_nil] at hsz
  exact (hr1.above (D:=w.heap.size+3) (fun b h=>Nat.le_trans hsz h) (iT.setCells (by omega) _ _ _ ((((iT.refl _ _).setCell (by omega) _ _).setCell (by omega) _ _).setCell (by omega) _ _))).more (fun b _ h=>by omega)
theorem aiW (r:M.Rules) (s:M.State) (p:Int) (A:Option Addr) (c:Nat) (w:World) (hg:¬ r.game=M.aB) (h0:0≤p) (h1:p≤1):
 Calls Tryz.prog 101 #[jM r,wF s A c,.int .i64 p] w fun e w'=>e= .returned (wF ({s with over:=true,bC:=1 - p }) A c)∧Below w.heap.size w w':=by
 have hg':(r.game.toList == [115,116,114,97,105,103,104,116])=false:=beq_eq_false_iff_ne.2 (bQ hg)
 have hg2:(r.game.toList != [115,116,114,97,105,103,104,116])=true:=by simp [bne,hg']
 go_enter Tryz.func101,Tryz.ntmps101
 go_upto_region 2 with (fail)
 go_cut [4,6] (fun v2 v6 wx=>v2=ptr (w.heap.size+1)∧v6=ptr (w.heap.size+2)∧bU w wx [([.string r.game,.int .i64 r.target,.int .i64 r.aY],25),(aW ({s with over:=true,bC:=1 - p }) A c,42),(aj,42)])
 case first=>
  go_wp2;go_meet;exact ⟨rfl,rfl,((((bU.nil w).new (by simp) ([.string r.game,.int .i64 r.target,.int .i64 r.aY]) _).new (by simp) (aW ({s with over:=true,bC:=1 - p }) A c) _).new (by simp) (aj) _)⟩
 case rest=>
  obtain ⟨rfl,rfl,hB⟩:=hcut
  go_wp2_with (first | (refine aN 42 (.tmp 4) rfl ?_;refine aG (hB.get 1 rfl) Tryz.underlying42 rfl Zc rfl (.tmp 4) rfl rfl ?_) | (refine aO 42 (.tmp 6) (.tmp 14) rfl ?_;refine aF (hB.get 2 rfl) (aW ({s with over:=true,bC:=1 - p }) A c) rfl Zc (dL _ _ _) rfl (.tmp 6) (.tmp 14) rfl rfl rfl ?_))
  have hZ:=hB.put 2 rfl (aW ({s with over:=true,bC:=1 - p }) A c) rfl;exact bodyPost_ret (bP (p:=6) (hZ.get 2 rfl) Tryz.underlying42 rfl Zc rfl _ rfl) rfl ⟨rfl,hZ.bw⟩
theorem aeX (S:Nat→Prop) (r:M.Rules) (s:M.State) (p:Int) (A:Option Addr) (c:Nat) (w:World) (hp:bD w S A c s.ay) (h:p=0∨p=1) (h0: -1000000≤s.s0) (h1:s.s0≤1000000) (k0: -1000000≤s.s1) (k1:s.s1≤1000000) (h2:0≤s.aZ) (h3:s.aZ≤1000000):
 Calls Tryz.prog 101 #[jM r,wF s A c,.int .i64 p] w fun e w'=>∃ A' c',e= .returned (wF (M.limit r s p) A' c')∧bD w' (fun b=>S b∨w.heap.size≤b) A' c' (M.limit r s p).ay∧Below w.heap.size w w':=by
 by_cases hg:r.game=M.aB
 · obtain ⟨g,tg,fo⟩:=r
   simp only at hg
   subst hg;have hne:¬ (M.aB≠M.aB):=fun h=>h rfl
   rcases h with rfl | rfl
   · refine (anT ⟨M.aB,tg,fo⟩ s A c w h0 h1 h2 h3).mono ?_
     rintro e w' ⟨A1,c1,rfl,hr,hb⟩
     have hl:M.limit ⟨M.aB,tg,fo⟩ s 0= {s with s0:=s.s0 - 15,f0:=0,brk:=true,ay:=M.jA ⟨M.aB,tg,fo⟩,aZ:=s.aZ+1 }:=by
      unfold M.limit;rw [if_neg hne];rfl
     rw [hl];exact ⟨A1,c1,rfl,hr.more (fun b _ h=> .inr h),hb⟩
   · refine (an0 ⟨M.aB,tg,fo⟩ s A c w k0 k1 h2 h3).mono ?_
     rintro e w' ⟨A1,c1,rfl,hr,hb⟩
     have hl:M.limit ⟨M.aB,tg,fo⟩ s 1= {s with s1:=s.s1 - 15,f1:=0,brk:=true,ay:=M.jA ⟨M.aB,tg,fo⟩,aZ:=s.aZ+1 }:=by
      unfold M.limit;rw [if_neg hne];rfl
     rw [hl];exact ⟨A1,c1,rfl,hr.more (fun b _ h=> .inr h),hb⟩
 · refine (aiW r s p A c w hg (by omega) (by omega)).mono ?_
   rintro e w' ⟨rfl,hb⟩
   have hl:M.limit r s p= {s with over:=true,bC:=1 - p }:=by unfold M.limit;rw [if_pos hg]
   rw [hl];exact ⟨A,c,rfl,(hp.below hb).more (fun b _ h=> .inl h),hb⟩
theorem ahb {r:M.Rules} {s:M.State} {x:M.aI} {t:M.State} {gd:Bool} (hgm:r.game=M.aB) (h:M.good r s x=gd):M.ended r s x t=if (gd && decide (r.target≤t.score x.aC))=true then {t with over:=true,bC:=x.aC } else t:=by
 have n1:¬ M.aB=M.aQ:=by decide
 have n2:¬ M.aB=M.bM:=by decide
 unfold M.ended
 rw [h,hgm]
 cases gd <;> simp [n1,n2]
theorem am2 {r:M.Rules} {s:M.State} {x:M.aI} {t:M.State} {gd:Bool} (hgm:r.game=M.bM) (h:M.good r s x=gd):M.ended r s x t=if (gd && decide ((9:Int)∈M.objects x))=true then {t with over:=true,bC:=x.aC } else t:=by
 have n1:¬ M.bM=M.aQ:=by decide
 have n2:¬ M.bM=M.aB:=by decide
 unfold M.ended
 rw [h,hgm]
 cases gd <;> simp [n1,n2]
theorem ak1 {r:M.Rules} {s:M.State} {x:M.aI} {t:M.State} {gd:Bool} (hgm:r.game=M.aQ) (h:M.good r s x=gd):M.ended r s x t=if (!decide (x.kind=M.dh) && decide ((8:Int)∈M.objects x))=true then {t with over:=true,bC:=if (gd && decide (x.aJ=8) && decide (M.targets r s=[8]))=true then x.aC else 1 - x.aC } else t:=by
 have n1:¬ M.aQ=M.bM:=by decide
 have n2:¬ M.aQ=M.aB:=by decide
 unfold M.ended M.won
 rw [h,hgm]
 by_cases hk:x.kind=M.dh <;> by_cases ho:(8:Int)∈M.objects x <;> by_cases hb:x.aJ=8 <;> by_cases ht:M.targets r s=[8] <;> cases gd <;> simp [n1,n2,hk,ho,hb,ht]
theorem afb {l:List Int}:(l=[8])↔∃ h:0<l.length,l.length=1∧l[0]=8:=by
 match l with
 | []=>simp
 | [a]=>simp
 | a::b::l=>simp
theorem aeJ (S:Nat→Prop) (r:M.Rules) (s:M.State) (x:M.aI) (t:M.State) (A P A':Option Addr) (c d c':Nat) (w:World) (hpb:bD w S A c s.ay) (hpp:jl w S P d x.aA) (hr:M.aH r=0) (hg:0≤s.group∧s.group≤2) (hp:x.aC=0∨x.aC=1) (hgm:r.game=M.aB):
 Calls Tryz.prog 100 #[jM r,wF s A c,iO x P d,wF t A' c'] w fun e w'=>e= .returned (wF (M.ended r s x t) A' c')∧Below w.heap.size w w':=by
 have HGM:=hide hgm;obtain ⟨res,hres⟩:∃ q,M.ended r s x t=q:=⟨_,rfl⟩;rw [hres];have aro:=hide hres;clear hres;have HR:=hide hr;have ayJ:=hpb.more (S':=fun b=>b<w.heap.size) (fun b h _=>h)
 have hp0:0≤x.aC:=by omega
 have hp1:x.aC≤1:=by omega
 clear hr hgm
 go_enter Tryz.func100,Tryz.ntmps100
 go_upto_region 0 with (fail)
 go_cut [4,5,6,7,8] (fun v4 v5 v6 v7 v8 wx=>v4=ptr w.heap.size∧v5=ptr (w.heap.size+1)∧v6=ptr (w.heap.size+2)∧v7=ptr (w.heap.size+3)∧v8=ptr (w.heap.size+4)∧bU w wx [([.string r.game,.int .i64 r.target,.int .i64 r.aY],25),(aW s A c,42),(au ⟨x,P,d⟩,69),(aW t A' c',42),(aj,42)])
 case first=>
  go_wp2;go_meet;exact ⟨rfl,rfl,rfl,rfl,rfl,((((((bU.nil w).new (by simp) ([.string r.game,.int .i64 r.target,.int .i64 r.aY]) _).new (by simp) (aW s A c) _).new (by simp) (au ⟨x,P,d⟩) _).new (by simp) (aW t A' c') _).new (by simp) (aj) _)⟩
 case rest=>
  obtain ⟨rfl,rfl,rfl,rfl,rfl,hB⟩:=hcut
  go_upto_region 1 with (fail)
  go_cut [9,10] (fun v9 v10 wx=>v9= .int .i64 x.aC∧v10= .bool (M.good r s x)∧bU w wx [([.string r.game,.int .i64 r.target,.int .i64 r.aY],25),(aW s A c,42),(au ⟨x,P,d⟩,69),(aW t A' c',42),(aj,42)])
  case first=>
   have hX:=hB.get 2 rfl;have k0:=hX.cell (j:=0) rfl;have GL:=hX.frozen 0
   have hr0:∀ W:World,(fun w':World=>∀ p q,p<w.heap.size+5→w'.cell? ⟨p,q,none⟩=wc.cell? ⟨p,q,none⟩) W→W.rangeAt (w.heap.size) 0 ([.string r.game,.int .i64 r.target,.int .i64 r.aY]):=fun W h j v hj=>by rw [h _ _ (by omega)];exact (hB.bf rfl).range j v hj
   have hr1:∀ W:World,(fun w':World=>∀ p q,p<w.heap.size+5→w'.cell? ⟨p,q,none⟩=wc.cell? ⟨p,q,none⟩) W→W.rangeAt (w.heap.size+1) 0 (aW s A c):=fun W h j v hj=>by rw [h _ _ (by omega)];exact (hB.get 1 rfl).range j v hj
   have hr2:∀ W:World,(fun w':World=>∀ p q,p<w.heap.size+5→w'.cell? ⟨p,q,none⟩=wc.cell? ⟨p,q,none⟩) W→W.rangeAt (w.heap.size+2) 0 (au ⟨x,P,d⟩):=fun W h j v hj=>by rw [h _ _ (by omega)];exact (hB.get 2 rfl).range j v hj
   refine wp_region_held_drew (S:=(fun w':World=>∀ p q,p<w.heap.size+5→w'.cell? ⟨p,q,none⟩=wc.cell? ⟨p,q,none⟩)) (by kernel_rfl) ?eP (fun hHeld=>?_)
   case eP=>first | exact fun p q h=>rfl | exact fun p q h=>hB.drew.cells hb1 p q h
   refine tk 0 ?_;refine tk 1 ?_;refine Zf 2 hr0 Tryz.underlying25 ?_;refine Zf 3 hr1 Tryz.underlying42 ?_;refine Zf 4 hr2 Tryz.underlying69 ?_;refine tr 5 fun K hK=>?_;go_simp
   (go_at_call 71;refine (ZT S r s x A P c d _ (hpb.below hB.drew.bw) (hpp.below hB.drew.bw) HR.out hg).mono ?_;rintro e w1 ⟨rfl,hb1⟩;have hB1:=hB.drew.call (by simp) hb1)
   refine Zd hK (by first | (first | exact fun p q h=>rfl | exact fun p q h=>hB.drew.cells hb1 p q h) | (dsimp only;first | exact fun p q h=>rfl | exact fun p q h=>hB.drew.cells hb1 p q h)) fun hHeld=>?_;clear hK K;refine tk 6 ?_;refine tk 7 ?_;refine wpAnyH_done (by kernel_rfl) ?_ _;go_wp2;go_meet;exact ⟨rfl,rfl,by first | exact hB1 | exact hB1.drew⟩
  case rest=>
   obtain ⟨rfl,rfl,hC⟩:=hcut;clear hB;have hsame:∃ gd,M.good r s x=gd:=⟨_,rfl⟩;obtain ⟨gd,hgd⟩:=hsame;have JG:=hide hgd;rw [hgd];clear hgd;have hgm:=HGM.out
   have aaq:(r.game.toList == [115,116,114,97,105,103,104,116])=true:=by rw [hgm];decide+kernel
   have ahw:(r.game.toList == [101,105,103,104,116])=false:=by rw [hgm];decide+kernel
   have aln:(r.game.toList == [110,105,110,101])=false:=by rw [hgm];decide+kernel
   have hv:=aro.out.symm.trans (ahb (t:=t) hgm JG.out);have HVV:=hide hv;clear hv hgm
   go_upto_region 2 with (fail)
   go_cut [9,32] (fun v9 v wx=>v9= .int .i64 x.aC∧v= .bool (gd && decide (r.target≤t.score x.aC))∧bU w wx [([.string r.game,.int .i64 r.target,.int .i64 r.aY],25),(aW s A c,42),(au ⟨x,P,d⟩,69),(aW t A' c',42),(aj,42)])
   case first=>
    have hR:=hC.bf rfl;have hF:=hC.get 3 rfl;have g0:=hR.cell (j:=0) rfl;have gf0:=hR.frozen 0;have g1:=hR.cell (j:=1) rfl;have gf1:=hR.frozen 1;have k7:=hF.cell (j:=7) rfl;have Yd:=hF.frozen 7;have k8:=hF.cell (j:=8) rfl;have kf8:=hF.frozen 8
    cases gd with
    | false=>
      go_quiet (fail)
      go_wp2;go_meet;exact ⟨rfl,rfl,hC.drewN _⟩
    | true=>
      obtain ⟨q,hq⟩:∃ q,t.score x.aC=q:=⟨_,rfl⟩;have HQ:=hide hq
      rcases hp with hp | hp
      all_goals
       rw [hp] at hq
       simp only [M.State.score,M.sel,if_true,show ¬ (1:Int)=0 by decide,if_false] at hq
       first | rw [hq] at k7 | rw [hq] at k8
       clear hq
       by_cases hle:r.target≤q
       · have HD:=hide (decide_eq_true hle)
         go_quiet (fail)
         go_wp2;go_meet;exact ⟨by rw [hp],by rw [HQ.out,HD.out];rfl,hC.drewN _⟩
       · have HD:=hide (decide_eq_false hle)
         go_quiet (fail)
         go_wp2;go_meet;exact ⟨by rw [hp],by rw [HQ.out,HD.out];rfl,hC.drewN _⟩
   case rest=>
    obtain ⟨rfl,rfl,hC⟩:=hcut;have hR:=hC.bf rfl;have g0:=hR.cell (j:=0) rfl;have gf0:=hR.frozen 0;have hvv:=HVV.out
    generalize (gd && decide (r.target≤t.score x.aC))=q at hvv ⊢
    cases q with
    | true=>
      rw [if_pos rfl] at hvv;have HEQ:=hide hvv;clear hvv;have hF:=hC.get 3 rfl;have k13:=hF.cell (j:=13) rfl;have X9:=hF.frozen 13;have k14:=hF.cell (j:=14) rfl;have atL:=hF.frozen 14;have hE:bU w ((wc.setCell ⟨w.heap.size+3,13,none⟩ (.bool true)).setCell ⟨w.heap.size+3,14,none⟩ (.int .i64 x.aC)) [([.string r.game,.int .i64 r.target,.int .i64 r.aY],25),(aW s A c,42),(au ⟨x,P,d⟩,69),(aW ({t with over:=true,bC:=x.aC }) A' c',42),(aj,42)]:=((hC.set 3 rfl 13 _).set 3 rfl 14 _)
      go_wp2_with (first | (refine aN 42 (.tmp 7) rfl ?_;refine aG (hE.get 3 rfl) Tryz.underlying42 rfl Zc rfl (.tmp 7) rfl rfl ?_) | (refine aO 42 (.tmp 8) (.tmp 89) rfl ?_;refine aF (hE.get 4 rfl) (aW ({t with over:=true,bC:=x.aC }) A' c') rfl Zc (dL _ _ _) rfl (.tmp 8) (.tmp 89) rfl rfl rfl ?_))
      have hZ:=hE.put 4 rfl (aW ({t with over:=true,bC:=x.aC }) A' c') rfl;exact bodyPost_ret (bP (p:=8) (hZ.get 4 rfl) Tryz.underlying42 rfl Zc rfl _ rfl) rfl ⟨by rw [HEQ.out];rfl,hZ.bw⟩
    | false=>
      rw [if_neg (by decide)] at hvv;have HEQ:=hide hvv;clear hvv
      go_wp2_with (first | (refine aN 42 (.tmp 7) rfl ?_;refine aG (hC.get 3 rfl) Tryz.underlying42 rfl Zc rfl (.tmp 7) rfl rfl ?_) | (refine aO 42 (.tmp 8) (.tmp 89) rfl ?_;refine aF (hC.get 4 rfl) (aW (t) A' c') rfl Zc (dL _ _ _) rfl (.tmp 8) (.tmp 89) rfl rfl rfl ?_))
      have hZ:=hC.put 4 rfl (aW (t) A' c') rfl;exact bodyPost_ret (bP (p:=8) (hZ.get 4 rfl) Tryz.underlying42 rfl Zc rfl _ rfl) rfl ⟨by rw [HEQ.out];rfl,hZ.bw⟩
theorem aiP (S:Nat→Prop) (r:M.Rules) (s:M.State) (x:M.aI) (t:M.State) (A P A':Option Addr) (c d c':Nat) (w:World) (hpb:bD w S A c s.ay) (hpp:jl w S P d x.aA) (hr:M.aH r=0) (hg:0≤s.group∧s.group≤2) (hp:x.aC=0∨x.aC=1) (hgm:r.game=M.bM):
 Calls Tryz.prog 100 #[jM r,wF s A c,iO x P d,wF t A' c'] w fun e w'=>e= .returned (wF (M.ended r s x t) A' c')∧Below w.heap.size w w':=by
 have HGM:=hide hgm;obtain ⟨res,hres⟩:∃ q,M.ended r s x t=q:=⟨_,rfl⟩;rw [hres];have aro:=hide hres;clear hres;have HR:=hide hr;have ayJ:=hpb.more (S':=fun b=>b<w.heap.size) (fun b h _=>h)
 have hp0:0≤x.aC:=by omega
 have hp1:x.aC≤1:=by omega
 clear hr hgm
 go_enter Tryz.func100,Tryz.ntmps100
 go_upto_region 0 with (fail)
 go_cut [4,5,6,7,8] (fun v4 v5 v6 v7 v8 wx=>v4=ptr w.heap.size∧v5=ptr (w.heap.size+1)∧v6=ptr (w.heap.size+2)∧v7=ptr (w.heap.size+3)∧v8=ptr (w.heap.size+4)∧bU w wx [([.string r.game,.int .i64 r.target,.int .i64 r.aY],25),(aW s A c,42),(au ⟨x,P,d⟩,69),(aW t A' c',42),(aj,42)])
 case first=>
  go_wp2;go_meet;exact ⟨rfl,rfl,rfl,rfl,rfl,((((((bU.nil w).new (by simp) ([.string r.game,.int .i64 r.target,.int .i64 r.aY]) _).new (by simp) (aW s A c) _).new (by simp) (au ⟨x,P,d⟩) _).new (by simp) (aW t A' c') _).new (by simp) (aj) _)⟩
 case rest=>
  obtain ⟨rfl,rfl,rfl,rfl,rfl,hB⟩:=hcut
  go_upto_region 1 with (fail)
  go_cut [9,10] (fun v9 v10 wx=>v9= .int .i64 x.aC∧v10= .bool (M.good r s x)∧bU w wx [([.string r.game,.int .i64 r.target,.int .i64 r.aY],25),(aW s A c,42),(au ⟨x,P,d⟩,69),(aW t A' c',42),(aj,42)])
  case first=>
   have hX:=hB.get 2 rfl;have k0:=hX.cell (j:=0) rfl;have GL:=hX.frozen 0
   have hr0:∀ W:World,(fun w':World=>∀ p q,p<w.heap.size+5→w'.cell? ⟨p,q,none⟩=wc.cell? ⟨p,q,none⟩) W→W.rangeAt (w.heap.size) 0 ([.string r.game,.int .i64 r.target,.int .i64 r.aY]):=fun W h j v hj=>by rw [h _ _ (by omega)];exact (hB.bf rfl).range j v hj
   have hr1:∀ W:World,(fun w':World=>∀ p q,p<w.heap.size+5→w'.cell? ⟨p,q,none⟩=wc.cell? ⟨p,q,none⟩) W→W.rangeAt (w.heap.size+1) 0 (aW s A c):=fun W h j v hj=>by rw [h _ _ (by omega)];exact (hB.get 1 rfl).range j v hj
   have hr2:∀ W:World,(fun w':World=>∀ p q,p<w.heap.size+5→w'.cell? ⟨p,q,none⟩=wc.cell? ⟨p,q,none⟩) W→W.rangeAt (w.heap.size+2) 0 (au ⟨x,P,d⟩):=fun W h j v hj=>by rw [h _ _ (by omega)];exact (hB.get 2 rfl).range j v hj
   refine wp_region_held_drew (S:=(fun w':World=>∀ p q,p<w.heap.size+5→w'.cell? ⟨p,q,none⟩=wc.cell? ⟨p,q,none⟩)) (by kernel_rfl) ?jw (fun hHeld=>?_)
   case jw=>first | exact fun p q h=>rfl | exact fun p q h=>hB.drew.cells hb1 p q h
   refine tk 0 ?_;refine tk 1 ?_;refine Zf 2 hr0 Tryz.underlying25 ?_;refine Zf 3 hr1 Tryz.underlying42 ?_;refine Zf 4 hr2 Tryz.underlying69 ?_;refine tr 5 fun K hK=>?_;go_simp
   (go_at_call 71;refine (ZT S r s x A P c d _ (hpb.below hB.drew.bw) (hpp.below hB.drew.bw) HR.out hg).mono ?_;rintro e w1 ⟨rfl,hb1⟩;have hB1:=hB.drew.call (by simp) hb1)
   refine Zd hK (by first | (first | exact fun p q h=>rfl | exact fun p q h=>hB.drew.cells hb1 p q h) | (dsimp only;first | exact fun p q h=>rfl | exact fun p q h=>hB.drew.cells hb1 p q h)) fun hHeld=>?_;clear hK K;refine tk 6 ?_;refine tk 7 ?_;refine wpAnyH_done (by kernel_rfl) ?_ _;go_wp2;go_meet;exact ⟨rfl,rfl,by first | exact hB1 | exact hB1.drew⟩
  case rest=>
   obtain ⟨rfl,rfl,hC⟩:=hcut;clear hB;have hsame:∃ gd,M.good r s x=gd:=⟨_,rfl⟩;obtain ⟨gd,hgd⟩:=hsame;have JG:=hide hgd;rw [hgd];clear hgd;have hgm:=HGM.out
   have aaq:(r.game.toList == [115,116,114,97,105,103,104,116])=false:=by rw [hgm];decide+kernel
   have ahw:(r.game.toList == [101,105,103,104,116])=false:=by rw [hgm];decide+kernel
   have aln:(r.game.toList == [110,105,110,101])=true:=by rw [hgm];decide+kernel
   have hv:=aro.out.symm.trans (am2 (t:=t) hgm JG.out);have HVV:=hide hv;clear hv hgm
   go_upto_region 2 with (fail)
   go_cut [32] (fun v wx=>v= .bool false∧bU w wx [([.string r.game,.int .i64 r.target,.int .i64 r.aY],25),(aW s A c,42),(au ⟨x,P,d⟩,69),(aW t A' c',42),(aj,42)])
   case first=>
    have hR:=hC.bf rfl;have g0:=hR.cell (j:=0) rfl;have gf0:=hR.frozen 0
    go_quiet (fail)
    go_wp2;go_meet;exact ⟨rfl,hC.drewN _⟩
   case rest=>
    obtain ⟨rfl,hC⟩:=hcut;have hR:=hC.bf rfl;have g0:=hR.cell (j:=0) rfl;have gf0:=hR.frozen 0;have hvv:=HVV.out
    by_cases hm:(9:Int)∈M.objects x
    · rw [decide_eq_true hm] at hvv
      have HM:=hide hm;clear hm
      cases gd with
      | true=>
        rw [if_pos (by decide)] at hvv;have HEQ:=hide hvv;clear hvv
        go_wp2_with (first | (refine aN 69 (.tmp 6) rfl ?_;refine aG (hC.get 2 rfl) Tryz.underlying69 rfl Zk rfl (.tmp 6) rfl rfl ?_) | (refine aN 69 (.tmp 6) rfl ?_;refine su (hC.get 2 rfl) Tryz.underlying69 rfl Zk rfl (.tmp 6) rfl rfl ?_) | (refine vg 69 (.tmp 6) rfl ?_;refine sD (hC.get 2 rfl) Tryz.underlying69 rfl Zk (.tmp 6) rfl rfl ?_) | (go_at_call 72;refine (Ze S x P d _ (hpp.below hC.bw)).mono ?_;rintro e w2 ⟨A1,c1,rfl,hr1,hb2⟩;have hC2:=hC.call (by simp) hb2;have hF:=hC2.get 3 rfl;have k13:=hF.cell (j:=13) rfl;have X9:=hF.frozen 13;have k14:=hF.cell (j:=14) rfl;have atL:=hF.frozen 14;have hE:bU w ((w2.setCell ⟨w.heap.size+3,13,none⟩ (.bool true)).setCell ⟨w.heap.size+3,14,none⟩ (.int .i64 x.aC)) [([.string r.game,.int .i64 r.target,.int .i64 r.aY],25),(aW s A c,42),(au ⟨x,P,d⟩,69),(aW ({t with over:=true,bC:=x.aC }) A' c',42),(aj,42)]:=((hC2.set 3 rfl 13 _).set 3 rfl 14 _);have zz0:=(hE.bf rfl).cell (j:=0) rfl) | (go_at_call 54;refine (adF _ A1 c1 (M.objects x) _ _ hr1 HM.out).mono ?_;rintro e dO ⟨rfl,rfl⟩) | (refine aN 42 (.tmp 7) rfl ?_;refine aG (hE.get 3 rfl) Tryz.underlying42 rfl Zc rfl (.tmp 7) rfl rfl ?_) | (refine aO 42 (.tmp 8) (.tmp 89) rfl ?_;refine aF (hE.get 4 rfl) (aW ({t with over:=true,bC:=x.aC }) A' c') rfl Zc (dL _ _ _) rfl (.tmp 8) (.tmp 89) rfl rfl rfl ?_))
        have hZ:=hE.put 4 rfl (aW ({t with over:=true,bC:=x.aC }) A' c') rfl;exact bodyPost_ret (bP (p:=8) (hZ.get 4 rfl) Tryz.underlying42 rfl Zc rfl _ rfl) rfl ⟨by rw [HEQ.out];rfl,hZ.bw⟩
      | false=>
        rw [if_neg (by decide)] at hvv;have HEQ:=hide hvv;clear hvv
        go_wp2_with (first | (refine aN 42 (.tmp 7) rfl ?_;refine aG (hC.get 3 rfl) Tryz.underlying42 rfl Zc rfl (.tmp 7) rfl rfl ?_) | (refine aO 42 (.tmp 8) (.tmp 89) rfl ?_;refine aF (hC.get 4 rfl) (aW (t) A' c') rfl Zc (dL _ _ _) rfl (.tmp 8) (.tmp 89) rfl rfl rfl ?_))
        have hZ:=hC.put 4 rfl (aW (t) A' c') rfl;exact bodyPost_ret (bP (p:=8) (hZ.get 4 rfl) Tryz.underlying42 rfl Zc rfl _ rfl) rfl ⟨by rw [HEQ.out];rfl,hZ.bw⟩
    · rw [decide_eq_false hm,Bool.and_false,if_neg (by decide)] at hvv
      have HM:=hide hm;have HEQ:=hide hvv;clear hm hvv
      cases gd with
      | true=>
        go_wp2_with (first | (refine aN 69 (.tmp 6) rfl ?_;refine aG (hC.get 2 rfl) Tryz.underlying69 rfl Zk rfl (.tmp 6) rfl rfl ?_) | (refine aN 69 (.tmp 6) rfl ?_;refine su (hC.get 2 rfl) Tryz.underlying69 rfl Zk rfl (.tmp 6) rfl rfl ?_) | (refine vg 69 (.tmp 6) rfl ?_;refine sD (hC.get 2 rfl) Tryz.underlying69 rfl Zk (.tmp 6) rfl rfl ?_) | (go_at_call 72;refine (Ze S x P d _ (hpp.below hC.bw)).mono ?_;rintro e w2 ⟨A1,c1,rfl,hr1,hb2⟩;have hC2:=hC.call (by simp) hb2;have zz0:=(hC2.bf rfl).cell (j:=0) rfl) | (go_at_call 54;refine (abY _ A1 c1 (M.objects x) _ _ hr1 HM.out).mono ?_;rintro e dO ⟨rfl,rfl⟩) | (refine aN 42 (.tmp 7) rfl ?_;refine aG (hC2.get 3 rfl) Tryz.underlying42 rfl Zc rfl (.tmp 7) rfl rfl ?_) | (refine aO 42 (.tmp 8) (.tmp 89) rfl ?_;refine aF (hC2.get 4 rfl) (aW (t) A' c') rfl Zc (dL _ _ _) rfl (.tmp 8) (.tmp 89) rfl rfl rfl ?_))
        have hZ:=hC2.put 4 rfl (aW (t) A' c') rfl;exact bodyPost_ret (bP (p:=8) (hZ.get 4 rfl) Tryz.underlying42 rfl Zc rfl _ rfl) rfl ⟨by rw [HEQ.out];rfl,hZ.bw⟩
      | false=>
        go_wp2_with (first | (refine aN 42 (.tmp 7) rfl ?_;refine aG (hC.get 3 rfl) Tryz.underlying42 rfl Zc rfl (.tmp 7) rfl rfl ?_) | (refine aO 42 (.tmp 8) (.tmp 89) rfl ?_;refine aF (hC.get 4 rfl) (aW (t) A' c') rfl Zc (dL _ _ _) rfl (.tmp 8) (.tmp 89) rfl rfl rfl ?_))
        have hZ:=hC.put 4 rfl (aW (t) A' c') rfl;exact bodyPost_ret (bP (p:=8) (hZ.get 4 rfl) Tryz.underlying42 rfl Zc rfl _ rfl) rfl ⟨by rw [HEQ.out];rfl,hZ.bw⟩
theorem aiB (S:Nat→Prop) (r:M.Rules) (s:M.State) (x:M.aI) (t:M.State) (A P A':Option Addr) (c d c':Nat) (w:World) (hpb:bD w S A c s.ay) (hpp:jl w S P d x.aA) (hr:M.aH r=0) (hg:0≤s.group∧s.group≤2) (hp:x.aC=0∨x.aC=1) (hgm:r.game=M.aQ):
 Calls Tryz.prog 100 #[jM r,wF s A c,iO x P d,wF t A' c'] w fun e w'=>e= .returned (wF (M.ended r s x t) A' c')∧Below w.heap.size w w':=by
 have HGM:=hide hgm;obtain ⟨res,hres⟩:∃ q,M.ended r s x t=q:=⟨_,rfl⟩;rw [hres];have aro:=hide hres;clear hres;have HR:=hide hr;have ayJ:=hpb.more (S':=fun b=>b<w.heap.size) (fun b h _=>h)
 have hp0:0≤x.aC:=by omega
 have hp1:x.aC≤1:=by omega
 clear hr hgm
 go_enter Tryz.func100,Tryz.ntmps100
 go_upto_region 0 with (fail)
 go_cut [4,5,6,7,8] (fun v4 v5 v6 v7 v8 wx=>v4=ptr w.heap.size∧v5=ptr (w.heap.size+1)∧v6=ptr (w.heap.size+2)∧v7=ptr (w.heap.size+3)∧v8=ptr (w.heap.size+4)∧bU w wx [([.string r.game,.int .i64 r.target,.int .i64 r.aY],25),(aW s A c,42),(au ⟨x,P,d⟩,69),(aW t A' c',42),(aj,42)])
 case first=>
  go_wp2;go_meet;exact ⟨rfl,rfl,rfl,rfl,rfl,((((((bU.nil w).new (by simp) ([.string r.game,.int .i64 r.target,.int .i64 r.aY]) _).new (by simp) (aW s A c) _).new (by simp) (au ⟨x,P,d⟩) _).new (by simp) (aW t A' c') _).new (by simp) (aj) _)⟩
 case rest=>
  obtain ⟨rfl,rfl,rfl,rfl,rfl,hB⟩:=hcut
  go_upto_region 1 with (fail)
  go_cut [9,10] (fun v9 v10 wx=>v9= .int .i64 x.aC∧v10= .bool (M.good r s x)∧bU w wx [([.string r.game,.int .i64 r.target,.int .i64 r.aY],25),(aW s A c,42),(au ⟨x,P,d⟩,69),(aW t A' c',42),(aj,42)])
  case first=>
   have hX:=hB.get 2 rfl;have k0:=hX.cell (j:=0) rfl;have GL:=hX.frozen 0
   have hr0:∀ W:World,(fun w':World=>∀ p q,p<w.heap.size+5→w'.cell? ⟨p,q,none⟩=wc.cell? ⟨p,q,none⟩) W→W.rangeAt (w.heap.size) 0 ([.string r.game,.int .i64 r.target,.int .i64 r.aY]):=fun W h j v hj=>by rw [h _ _ (by omega)];exact (hB.bf rfl).range j v hj
   have hr1:∀ W:World,(fun w':World=>∀ p q,p<w.heap.size+5→w'.cell? ⟨p,q,none⟩=wc.cell? ⟨p,q,none⟩) W→W.rangeAt (w.heap.size+1) 0 (aW s A c):=fun W h j v hj=>by rw [h _ _ (by omega)];exact (hB.get 1 rfl).range j v hj
   have hr2:∀ W:World,(fun w':World=>∀ p q,p<w.heap.size+5→w'.cell? ⟨p,q,none⟩=wc.cell? ⟨p,q,none⟩) W→W.rangeAt (w.heap.size+2) 0 (au ⟨x,P,d⟩):=fun W h j v hj=>by rw [h _ _ (by omega)];exact (hB.get 2 rfl).range j v hj
   refine wp_region_held_drew (S:=(fun w':World=>∀ p q,p<w.heap.size+5→w'.cell? ⟨p,q,none⟩=wc.cell? ⟨p,q,none⟩)) (by kernel_rfl) ?lJ (fun hHeld=>?_)
   case lJ=>first | exact fun p q h=>rfl | exact fun p q h=>hB.drew.cells hb1 p q h
   refine tk 0 ?_;refine tk 1 ?_;refine Zf 2 hr0 Tryz.underlying25 ?_;refine Zf 3 hr1 Tryz.underlying42 ?_;refine Zf 4 hr2 Tryz.underlying69 ?_;refine tr 5 fun K hK=>?_;go_simp
   (go_at_call 71;refine (ZT S r s x A P c d _ (hpb.below hB.drew.bw) (hpp.below hB.drew.bw) HR.out hg).mono ?_;rintro e w1 ⟨rfl,hb1⟩;have hB1:=hB.drew.call (by simp) hb1)
   refine Zd hK (by first | (first | exact fun p q h=>rfl | exact fun p q h=>hB.drew.cells hb1 p q h) | (dsimp only;first | exact fun p q h=>rfl | exact fun p q h=>hB.drew.cells hb1 p q h)) fun hHeld=>?_;clear hK K;refine tk 6 ?_;refine tk 7 ?_;refine wpAnyH_done (by kernel_rfl) ?_ _;go_wp2;go_meet;exact ⟨rfl,rfl,by first | exact hB1 | exact hB1.drew⟩
  case rest=>
   obtain ⟨rfl,rfl,hC⟩:=hcut;clear hB;have hsame:∃ gd,M.good r s x=gd:=⟨_,rfl⟩;obtain ⟨gd,hgd⟩:=hsame;have JG:=hide hgd;rw [hgd];clear hgd;have hgm:=HGM.out
   have aaq:(r.game.toList == [115,116,114,97,105,103,104,116])=false:=by rw [hgm];decide+kernel
   have ahw:(r.game.toList == [101,105,103,104,116])=true:=by rw [hgm];decide+kernel
   have aln:(r.game.toList == [110,105,110,101])=false:=by rw [hgm];decide+kernel
   have hv:=aro.out.symm.trans (ak1 (t:=t) hgm JG.out);have HVV:=hide hv;clear hv hgm
   go_upto_region 2 with (fail)
   go_cut [32] (fun v wx=>v= .bool false∧bU w wx [([.string r.game,.int .i64 r.target,.int .i64 r.aY],25),(aW s A c,42),(au ⟨x,P,d⟩,69),(aW t A' c',42),(aj,42)])
   case first=>
    have hR:=hC.bf rfl;have g0:=hR.cell (j:=0) rfl;have gf0:=hR.frozen 0
    go_quiet (fail)
    go_wp2;go_meet;exact ⟨rfl,hC.drewN _⟩
   case rest=>
    obtain ⟨rfl,hC⟩:=hcut;have hR:=hC.bf rfl;have g0:=hR.cell (j:=0) rfl;have gf0:=hR.frozen 0;have hX:=hC.get 2 rfl;have x1:=hX.cell (j:=1) rfl;have xf1:=hX.frozen 1
    by_cases hk:x.kind=M.dh
    · have hk1:(x.kind.toList == [98,114,101,97,107])=true:=by rw [hk];decide+kernel
      have hk2:(x.kind.toList != [98,114,101,97,107])=false:=by simp [bne,hk1]
      have hvv:=HVV.out;rw [decide_eq_true hk,Bool.not_true,Bool.false_and,if_neg (by decide)] at hvv;have HEQ:=hide hvv;clear hk hvv
      go_wp2_with (first | (refine aN 42 (.tmp 7) rfl ?_;refine aG (hC.get 3 rfl) Tryz.underlying42 rfl Zc rfl (.tmp 7) rfl rfl ?_) | (refine aO 42 (.tmp 8) (.tmp 89) rfl ?_;refine aF (hC.get 4 rfl) (aW (t) A' c') rfl Zc (dL _ _ _) rfl (.tmp 8) (.tmp 89) rfl rfl rfl ?_))
      have hZ:=hC.put 4 rfl (aW (t) A' c') rfl;exact bodyPost_ret (bP (p:=8) (hZ.get 4 rfl) Tryz.underlying42 rfl Zc rfl _ rfl) rfl ⟨by rw [HEQ.out];rfl,hZ.bw⟩
    · have hk1:(x.kind.toList == [98,114,101,97,107])=false:=beq_eq_false_iff_ne.2 (bQ hk)
      have hk2:(x.kind.toList != [98,114,101,97,107])=true:=by simp [bne,hk1]
      have hvv:=HVV.out;rw [decide_eq_false hk,Bool.not_false,Bool.true_and] at hvv;clear hk
      by_cases hm:(8:Int)∈M.objects x
      · rw [decide_eq_true hm,if_pos rfl] at hvv
        have HM:=hide hm;clear hm;obtain ⟨vw,hvw⟩:∃ v,(if (gd && decide (x.aJ=8) && decide (M.targets r s=[8]))=true then x.aC else 1 - x.aC)=v:=⟨_,rfl⟩;rw [hvw] at hvv;have HV:=hide hvw;have HEQ:=hide hvv;clear hvw hvv
        go_upto_region 9 with (first | (refine aN 69 (.tmp 6) rfl ?_;refine aG (hC.get 2 rfl) Tryz.underlying69 rfl Zk rfl (.tmp 6) rfl rfl ?_) | (refine aN 69 (.tmp 6) rfl ?_;refine su (hC.get 2 rfl) Tryz.underlying69 rfl Zk rfl (.tmp 6) rfl rfl ?_) | (refine vg 69 (.tmp 6) rfl ?_;refine sD (hC.get 2 rfl) Tryz.underlying69 rfl Zk (.tmp 6) rfl rfl ?_) | (go_at_call 72;refine (Ze S x P d _ (hpp.below hC.bw)).mono ?_;rintro e w2 ⟨A1,c1,rfl,hr1,hb2⟩;have hC2:=hC.call (by simp) hb2;skip) | (go_at_call 54;refine (adF _ A1 c1 (M.objects x) _ _ hr1 HM.out).mono ?_;rintro e dO ⟨rfl,rfl⟩) | (refine aN 25 (.tmp 4) rfl ?_;refine aG (hC2.bf rfl) Tryz.underlying25 rfl Zw rfl (.tmp 4) rfl rfl ?_) | (refine aN 42 (.tmp 5) rfl ?_;refine aG (hC2.get 1 rfl) Tryz.underlying42 rfl Zc rfl (.tmp 5) rfl rfl ?_) | (go_at_call 51;refine (ZC (fun b=>b<w.heap.size) r s A c _ (ayJ.below hC2.bw) HR.out hg).mono ?_;rintro e w3 ⟨A3,c3,rfl,hr3,hb3⟩;have Xu:=hC2.call (by simp) hb3;have hF:=Xu.get 3 rfl;have k13:=hF.cell (j:=13) rfl;have X9:=hF.frozen 13;have k14:=hF.cell (j:=14) rfl;have atL:=hF.frozen 14;have hE:bU w ((w3.setCell ⟨w.heap.size+3,13,none⟩ (.bool true)).setCell ⟨w.heap.size+3,14,none⟩ (.int .i64 (1 - x.aC))) [([.string r.game,.int .i64 r.target,.int .i64 r.aY],25),(aW s A c,42),(au ⟨x,P,d⟩,69),(aW ({t with over:=true,bC:=(1 - x.aC) }) A' c',42),(aj,42)]:=((Xu.set 3 rfl 13 _).set 3 rfl 14 _);have zz0:=(hE.bf rfl).cell (j:=0) rfl))
        obtain ⟨W4,QN⟩:∃ W4,((w3.setCell ⟨w.heap.size+3,13,none⟩ (.bool true)).setCell ⟨w.heap.size+3,14,none⟩ (.int .i64 (1 - x.aC)))=W4:=⟨_,rfl⟩;rw [QN];rw [QN] at hE
        have hr4:bD W4 (aol (fun b=>b<w.heap.size) w2) A3 c3 (M.targets r s):=by
         have hz2:=hC2.size (by simp)
         simp only [List.length_cons,List.length_nil] at hz2
         rw [← QN];exact (hr3.setCell (p:=⟨w.heap.size+3,13,none⟩) (by intro h;rcases h with h | h <;> (simp only at h;omega)) _).setCell (p:=⟨w.heap.size+3,14,none⟩) (by intro h;rcases h with h | h <;> (simp only at h;omega)) _
        clear QN hF k13 X9 k14 atL Xu hr3 hC2 hr1;have hX:=hE.get 2 rfl;have y2:=hX.cell (j:=2) rfl;have WO:=hX.frozen 2;have hF:=hE.get 3 rfl;have k14:=hF.cell (j:=14) rfl;have atL:=hF.frozen 14;have hE2:bU w (W4.setCell ⟨w.heap.size+3,14,none⟩ (.int .i64 x.aC)) [([.string r.game,.int .i64 r.target,.int .i64 r.aY],25),(aW s A c,42),(au ⟨x,P,d⟩,69),(aW ({t with over:=true,bC:=x.aC }) A' c',42),(aj,42)]:=(hE.set 3 rfl 14 _);obtain ⟨T,hT⟩:∃ T,M.targets r s=T:=⟨_,rfl⟩;rw [hT] at hr4 ⊢;have HT:=hide hT;clear hT
        cases gd with
        | false=>
          obtain rfl:vw=1 - x.aC:=by rw [← HV.out];rfl
          go_wp2_with (first | (refine aN 42 (.tmp 7) rfl ?_;refine aG (hE.get 3 rfl) Tryz.underlying42 rfl Zc rfl (.tmp 7) rfl rfl ?_) | (refine aO 42 (.tmp 8) (.tmp 89) rfl ?_;refine aF (hE.get 4 rfl) (aW ({t with over:=true,bC:=1 - x.aC }) A' c') rfl Zc (dL _ _ _) rfl (.tmp 8) (.tmp 89) rfl rfl rfl ?_))
          have hZ:=hE.put 4 rfl (aW ({t with over:=true,bC:=1 - x.aC }) A' c') rfl;exact bodyPost_ret (bP (p:=8) (hZ.get 4 rfl) Tryz.underlying42 rfl Zc rfl _ rfl) rfl ⟨by rw [HEQ.out];rfl,hZ.bw⟩
        | true=>
          by_cases hb:x.aJ=8
          · have hb1:(x.aJ == 8)=true:=by simpa using hb
            have hvw:vw=if decide (T=[8])=true then x.aC else 1 - x.aC:=by rw [← HV.out,HT.out,hb];rfl
            clear hb
            by_cases hl:T.length=1
            · have hl1:((T.length:Int) == 1)=true:=by simp [hl]
              have hl0:0<T.length:=by omega
              obtain ⟨b,o,rfl,_,hbl,hc⟩:=hr4.at_ 0 hl0;have hck:=hc 0 hl0
              simp only [Nat.add_zero] at hck
              clear hc
              by_cases h8:T[0]=8
              · have h81:(T[0] == 8)=true:=by simpa using h8
                obtain rfl:vw=x.aC:=by rw [hvw,decide_eq_true (afb.2 ⟨hl0,hl,h8⟩)];rfl
                clear h8 hl hvw
                go_wp2_with (first | (refine aN 42 (.tmp 7) rfl ?_;refine aG (hE2.get 3 rfl) Tryz.underlying42 rfl Zc rfl (.tmp 7) rfl rfl ?_) | (refine aO 42 (.tmp 8) (.tmp 89) rfl ?_;refine aF (hE2.get 4 rfl) (aW ({t with over:=true,bC:=x.aC }) A' c') rfl Zc (dL _ _ _) rfl (.tmp 8) (.tmp 89) rfl rfl rfl ?_))
                have hZ:=hE2.put 4 rfl (aW ({t with over:=true,bC:=x.aC }) A' c') rfl;exact bodyPost_ret (bP (p:=8) (hZ.get 4 rfl) Tryz.underlying42 rfl Zc rfl _ rfl) rfl ⟨by rw [HEQ.out];rfl,hZ.bw⟩
              · have h81:(T[0] == 8)=false:=by simpa using h8
                obtain rfl:vw=1 - x.aC:=by rw [hvw,decide_eq_false (fun h=>h8 (afb.1 h).2.2)];rfl
                clear h8 hl hvw
                go_wp2_with (first | (refine aN 42 (.tmp 7) rfl ?_;refine aG (hE.get 3 rfl) Tryz.underlying42 rfl Zc rfl (.tmp 7) rfl rfl ?_) | (refine aO 42 (.tmp 8) (.tmp 89) rfl ?_;refine aF (hE.get 4 rfl) (aW ({t with over:=true,bC:=1 - x.aC }) A' c') rfl Zc (dL _ _ _) rfl (.tmp 8) (.tmp 89) rfl rfl rfl ?_))
                have hZ:=hE.put 4 rfl (aW ({t with over:=true,bC:=1 - x.aC }) A' c') rfl;exact bodyPost_ret (bP (p:=8) (hZ.get 4 rfl) Tryz.underlying42 rfl Zc rfl _ rfl) rfl ⟨by rw [HEQ.out];rfl,hZ.bw⟩
            · have hl1:((T.length:Int) == 1)=false:=by simp only [beq_eq_false_iff_ne,ne_eq];omega
              obtain rfl:vw=1 - x.aC:=by rw [hvw,decide_eq_false (fun h=>hl (afb.1 h).2.1)];rfl
              clear hl hvw
              go_wp2_with (first | (refine aN 42 (.tmp 7) rfl ?_;refine aG (hE.get 3 rfl) Tryz.underlying42 rfl Zc rfl (.tmp 7) rfl rfl ?_) | (refine aO 42 (.tmp 8) (.tmp 89) rfl ?_;refine aF (hE.get 4 rfl) (aW ({t with over:=true,bC:=1 - x.aC }) A' c') rfl Zc (dL _ _ _) rfl (.tmp 8) (.tmp 89) rfl rfl rfl ?_))
              have hZ:=hE.put 4 rfl (aW ({t with over:=true,bC:=1 - x.aC }) A' c') rfl;exact bodyPost_ret (bP (p:=8) (hZ.get 4 rfl) Tryz.underlying42 rfl Zc rfl _ rfl) rfl ⟨by rw [HEQ.out];rfl,hZ.bw⟩
          · have hb1:(x.aJ == 8)=false:=by simpa using hb
            obtain rfl:vw=1 - x.aC:=by rw [← HV.out];simp [hb]
            clear hb
            go_wp2_with (first | (refine aN 42 (.tmp 7) rfl ?_;refine aG (hE.get 3 rfl) Tryz.underlying42 rfl Zc rfl (.tmp 7) rfl rfl ?_) | (refine aO 42 (.tmp 8) (.tmp 89) rfl ?_;refine aF (hE.get 4 rfl) (aW ({t with over:=true,bC:=1 - x.aC }) A' c') rfl Zc (dL _ _ _) rfl (.tmp 8) (.tmp 89) rfl rfl rfl ?_))
            have hZ:=hE.put 4 rfl (aW ({t with over:=true,bC:=1 - x.aC }) A' c') rfl;exact bodyPost_ret (bP (p:=8) (hZ.get 4 rfl) Tryz.underlying42 rfl Zc rfl _ rfl) rfl ⟨by rw [HEQ.out];rfl,hZ.bw⟩
      · rw [decide_eq_false hm,if_neg (by decide)] at hvv
        have HM:=hide hm;have HEQ:=hide hvv;clear hm hvv
        go_wp2_with (first | (refine aN 69 (.tmp 6) rfl ?_;refine aG (hC.get 2 rfl) Tryz.underlying69 rfl Zk rfl (.tmp 6) rfl rfl ?_) | (refine aN 69 (.tmp 6) rfl ?_;refine su (hC.get 2 rfl) Tryz.underlying69 rfl Zk rfl (.tmp 6) rfl rfl ?_) | (refine vg 69 (.tmp 6) rfl ?_;refine sD (hC.get 2 rfl) Tryz.underlying69 rfl Zk (.tmp 6) rfl rfl ?_) | (go_at_call 72;refine (Ze S x P d _ (hpp.below hC.bw)).mono ?_;rintro e w2 ⟨A1,c1,rfl,hr1,hb2⟩;have hC2:=hC.call (by simp) hb2;have zz0:=(hC2.bf rfl).cell (j:=0) rfl) | (go_at_call 54;refine (abY _ A1 c1 (M.objects x) _ _ hr1 HM.out).mono ?_;rintro e dO ⟨rfl,rfl⟩) | (refine aN 42 (.tmp 7) rfl ?_;refine aG (hC2.get 3 rfl) Tryz.underlying42 rfl Zc rfl (.tmp 7) rfl rfl ?_) | (refine aO 42 (.tmp 8) (.tmp 89) rfl ?_;refine aF (hC2.get 4 rfl) (aW (t) A' c') rfl Zc (dL _ _ _) rfl (.tmp 8) (.tmp 89) rfl rfl rfl ?_))
        have hZ:=hC2.put 4 rfl (aW (t) A' c') rfl;exact bodyPost_ret (bP (p:=8) (hZ.get 4 rfl) Tryz.underlying42 rfl Zc rfl _ rfl) rfl ⟨by rw [HEQ.out];rfl,hZ.bw⟩
theorem ake (S:Nat→Prop) (r:M.Rules) (s:M.State) (x:M.aI) (t:M.State) (A P A':Option Addr) (c d c':Nat) (w:World) (hpb:bD w S A c s.ay) (hpp:jl w S P d x.aA) (hr:M.aH r=0) (hg:0≤s.group∧s.group≤2) (hp:x.aC=0∨x.aC=1):
 Calls Tryz.prog 100 #[jM r,wF s A c,iO x P d,wF t A' c'] w fun e w'=>e= .returned (wF (M.ended r s x t) A' c')∧Below w.heap.size w w':=by
 rcases M.um hr with h | h | h
 · exact aeJ S r s x t A P A' c d c' w hpb hpp hr hg hp h
 · exact aiB S r s x t A P A' c d c' w hpb hpp hr hg hp h
 · exact aiP S r s x t A P A' c d c' w hpb hpp hr hg hp h
end Go.Proofs.YtelpepbpdojikaaGreatDoor
