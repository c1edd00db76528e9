/- Parts of the proofs about chapter 5 (pool), joined by program. -/
import Derived.Test.YtelpepbpdojikaaGreatDoorKg24
import Derived.Test.YtelpepbpdojikaaGreatDoorKh5
import Derived.Test.YtelpepbpdojikaaGreatDoorKh7
set_option maxHeartbeats 4000000
set_option maxRecDepth 100000
set_option linter.unusedVariables false
set_option linter.unusedSimpArgs false
namespace Go.Proofs.YtelpepbpdojikaaGreatDoor
open Go.RowKit
theorem aax (S:Nat→Prop) (A:Option Addr) (c:Nat) (zs:List Int) (w:World) (h:bD w S A c zs):
 Calls Tryz.prog 45 #[.slice A zs.length c] w fun r w'=>r= .returned (.int .i64 (aU zs))∧w=w':=by
 obtain ⟨b1,b2,b3⟩:=h.bd
 go_enter Tryz.func45,Tryz.ntmps45
 go_wp2
 go_loop [7] (fun i=>∃ k:Nat,k≤zs.length∧i= .int .i64 k∧aU zs=aU (zs.drop k)) (fun i=>zs.length - (intOf i).toNat)
 case atStart=>exact ⟨0,Nat.zero_le _,rfl,by simp⟩
 case round=>
  obtain ⟨k,hk,rfl,hx⟩:=hrel
  by_cases hlt:k<zs.length
  · obtain ⟨b,o,rfl,_,_,hc⟩:=h.at_ k hlt
    have hck:=hc k hlt
    rw [Cj hlt] at hx
    clear hc
    by_cases he:zs[k]=0
    · have he':(zs[k] != 0)=false:=by simp [he]
      rw [if_neg (by simp [he])] at hx
      have HX:=hide hx
      clear hx he
      go_wp2
      go_round
      case rel=>exact ⟨k+1,by omega,by go_num,HX.out⟩
      case measure=>simp [intOf];omega
    · have he':(zs[k] != 0)=true:=by simp [he]
      rw [if_pos he] at hx
      have HX:=hide hx
      clear hx he
      go_wp2
      go_ret
      exact ⟨dG HX.out.symm,rfl⟩
  · have hz:aU zs=0:=by rw [hx,List.drop_of_length_le (by omega),aU]
    have HX:=hide hz
    clear hx hz
    go_wp2
    go_ret
    exact ⟨dG HX.out.symm,rfl⟩
theorem adi (S:Nat→Prop) (r:M.Rules) (l:List Sh) (A:Option Addr) (c:Nat) (w:World) (hp:wG w S A c l):
 Calls Tryz.prog 20 #[jM r,.slice A l.length c] w fun e w'=>e= .returned (.int .i64 (aU [M.aH r,M.je (plain l)]))∧Below w.heap.size w w':=by
 obtain ⟨b1,b2,b3⟩:=hp.bd
 obtain ⟨g,tg,fo⟩:=r
 have K0:=Keeps.FT w (.cells #[.string g,.int .i64 tg,.int .i64 fo] 25)
 go_enter Tryz.func20,Tryz.ntmps20
 go_wp2_with (first | (go_at_call 37;refine (Zk ⟨g,tg,fo⟩ _).mono ?_;rintro e w1 ⟨rfl,hb1⟩;have K1:=K0.call hb1) | (go_at_call 41;refine (aaE S l A c _ (hp.below K1.bw)).mono ?_;rintro e w2 ⟨rfl,hb2⟩;have K2:=K1.call hb2) | (go_at_call 45;refine (aax (fun _=>True) _ _ [M.aH ⟨g,tg,fo⟩,M.je (plain l)] _ (bD.lit _ _ [M.aH ⟨g,tg,fo⟩,M.je (plain l)] (by simp) _ trivial)).mono ?_;rintro e dO ⟨rfl,rfl⟩))
 go_ret
 exact ⟨rfl,(K2.alloc _).bw⟩
theorem aaL:(Tryz.prog.info? 42).map (·.size)=some 15:=by kernel_rfl
theorem afi (S S':Nat→Prop) (x y:M.State) (A B:Option Addr) (c d:Nat) (w:World) (hp:bD w S A c x.ay) (hq:bD w S' B d y.ay):
 Calls Tryz.prog 23 #[wF x A c,wF y B d] w fun e w'=>e= .returned (.bool (x.eq y))∧Below w.heap.size w w':=by
 have hsm:=fun W h h'=>adF S S' x y A B c d W h h'
 have HSM:=hide hsm
 clear hsm
 go_enter Tryz.func23,Tryz.ntmps23
 go_upto_region 1 with (fail)
 have hB:=((bU.nil w).new (by simp) (aW x A c) 33).new (by simp) (aW y B d) 42
 go_wp2_with (first | (refine aN 33 (.tmp 2) rfl ?_;refine aG (hB.bf rfl) Tryz.underlying33 rfl bW rfl (.tmp 2) rfl rfl ?_) | (refine aN 42 (.tmp 3) rfl ?_;refine aG (hB.get 1 rfl) Tryz.underlying42 rfl aaL rfl (.tmp 3) rfl rfl ?_) | (go_at_call 68;refine (HSM.out _ (hp.below hB.bw) (hq.below hB.bw)).mono ?_;rintro e w1 ⟨rfl,hb1⟩))
 go_ret
 exact ⟨rfl,hB.bw.trans (hb1.mono hB.bw.size)⟩
theorem abn:(Tryz.prog.info? 69).map (fun i=>(i.zero,i.size,i.bytes))=some (some (.agg #[.int .i64 0,.string ⟨#[]⟩,.int .i64 0,.int .i64 0,.int .i64 0,.bool false,.slice none 0 0]),7,80):=by kernel_rfl
theorem aeC (S:Nat→Prop) (l:List Sh) (A:Option Addr) (c:Nat) (w:World) (hp:wG w S A c l) (hl:l.length*80≤140737488355328) (hpl:∀ e∈l,e.x.aA.length*16≤140737488355328):
 Calls Tryz.prog 15 #[.slice A l.length c] w fun e w'=>∃ l' A' c',plain l'=plain l∧e= .returned (.slice A' l'.length c')∧wG w' (fun b=>w.heap.size≤b) A' c' l'∧Below w.heap.size w w':=by
 obtain ⟨b1,b2,b3⟩:=hp.bd
 obtain ⟨i0,hi0,hz0,hz1,hz2⟩:=info_parts abn
 go_enter Tryz.func15,Tryz.ntmps15
 go_wp2
 go_loopw [3,8] (fun v i wr=>∃ (k:Nat) (l':List Sh) (A':Option Addr) (c':Nat),k≤l.length∧i= .int .i64 k∧v= .slice A' l'.length c'∧l'.length=k∧Aside (plain l'=plain (l.take k))∧jR 69 w.heap.size l' A' c' wr∧Below w.heap.size w wr) (fun _ i=>fun _=>l.length - (intOf i).toNat)
 case atStart=>exact ⟨0,[],none,0,Nat.zero_le _,rfl,rfl,rfl,rfl,jR.nil _ _ _,Below.refl _ _⟩
 case round=>
  obtain ⟨k,l',A',c',hk,rfl,rfl,hlk,hpk,st,hbw⟩:=hrel
  have VQ:=hide hpk
  have DX:=hbw.size
  by_cases hlt:k<l.length
  · obtain ⟨b,o,rfl,_,hbl,hcs⟩:=Reads.at_ (hp.below hbw).1 (by omega)
    have h00:wr.rangeAt b (o+k*7) (au l[k]):=fun j v hj=>by
     have hj7:j<7:=(List.getElem?_eq_some_iff.1 hj).1
     rw [Nat.add_assoc]
     exact hcs _ _ ((jI l k hlt j hj7).trans hj)
    have hpo:=(hp.below hbw).aA k hlt
    have ah5:=hpl _ (List.getElem_mem hlt)
    have i1:(0:Int)≤(k:Int):=by omega
    have i2:(k:Int)<(l.length:Int):=by omega
    have hl1:l'.length<l.length:=by omega
    have WU:=hide hlk
    clear hlk
    have hbx:=Held.new wr JB 66
    go_upto_region 5 with (first | (refine aN 66 (.tmp 10) rfl ?_;refine jh (g:=b) (o:=o+k*7) h00 Tryz.underlying66 rfl aV rfl (.tmp 10) rfl rfl ?_) | (refine aO 66 (.tmp 5) (.tmp 11) rfl ?_;refine aF hbx (au l[k]) rfl aV (uq _ _ _) rfl (.tmp 5) (.tmp 11) rfl rfl rfl ?_))
    obtain ⟨W2,hW2⟩:∃ W2,(wr.alloc (.cells #[.int .i64 0,.string ⟨#[]⟩,.int .i64 0,.int .i64 0,.int .i64 0,.bool false,.slice none 0 0] 66)).setCells wr.heap.size 0 (au l[k])=W2:=⟨_,rfl⟩
    have hbb:Below wr.heap.size wr W2:=by rw [← hW2];exact below_setCells _ (Nat.le_refl _) _ _ _ _ ((Below.refl _ _).alloc (Nat.le_refl _) _)
    have hby:Held W2 wr.heap.size (au l[k]) 66:=by rw [← hW2];exact hbx.whole (au l[k]) rfl
    rw [hW2]
    have hown:=abC S l[k].x l[k].a l[k].c W2 (Reads.below hpo hbb) ah5
    have hst2:=st.below hbb
    have HOWN:=hide hown
    have hzz:=hbb.size
    clear hcs hown hW2 hbx h00
    go_wp2_with (first | (refine aN 66 (.tmp 5) rfl ?_;refine aG hby Tryz.underlying66 rfl aV rfl (.tmp 5) rfl rfl ?_) | (go_at_call 26;refine HOWN.out.mono ?_;rintro e w3 ⟨A3,c3,rfl,hr3,hb3⟩) | (at_builtin;refine wpList_append_lies _ rfl _ _ _ rfl w.heap.size 69 i0 (.agg #[.int .i64 0,.string ⟨#[]⟩,.int .i64 0,.int .i64 0,.int .i64 0,.bool false,.slice none 0 0]) 7 80 Tryz.underlying26 hi0 hz0 hz1 hz2 rfl (by omega) _ _ _ rfl ((hst2.below hb3).own.alloc _) ⟨w3.heap.size,0,none⟩ 1 1 (au ⟨l[k].x,A3,c3⟩) rfl rfl (dK _ _ _ _ (by simp)) (uq _ _ _) (by omega) (by simp only [maxLen];omega) (by omega) (by have:=hb3.size;simp;omega) (w3.heap.size+1) (by simp) ?_))
    intro g1 cap w4 hown4 hgrow hat _
    have SE:=hst2.append (x:=⟨l[k].x,A3,c3⟩) hb3 (by omega) hr3 hgrow hown4 hat
    have hb4:Below w.heap.size w w4:=(((hbw.trans (hbb.mono DX)).trans (hb3.mono (by omega))).alloc (by have:=hb3.size;omega) _).trans (dX ((hst2.below hb3).own.alloc _) hgrow (by omega) (by have:=hb3.size;simp;omega))
    have HST:=hide SE
    clear SE hgrow hown4
    go_wp2
    go_roundw
    case rel=>exact ⟨k+1,l'++[⟨l[k].x,A3,c3⟩],some ⟨g1,0,none⟩,cap,by omega,by go_num,by simp,by simp [WU.out],by rw [List.take_succ_eq_append_getElem hlt];show plain _=plain _;unfold plain at*;rw [List.map_append,List.map_append,VQ.out];rfl,HST.out,hb4⟩
    case measure=>simp [intOf] <;> omega
  · have hke:k=l.length:=by omega
    have hrd:=st.read (by omega)
    have hpk':plain l'=plain l:=by rw [VQ.out,hke,List.take_length]
    have HP:=hide hpk'
    clear hlk hke hpk'
    go_wp2
    go_ret
    exact ⟨l',A',c',HP.out,rfl,hrd,hbw⟩
theorem Zy:(Tryz.prog.info? 69).map (·.size)=some 7:=by kernel_rfl
def shortS (x:M.aI):Bool:=decide (x.kind.size≤60∧x.aA.length≤18)
def aev (k n:Nat):Bool:=decide (¬ ((n<k∧k≤1000)∨1003<k))
def ZL (l:List M.aI) (n:Nat):Bool:=aev l.length n && l.all shortS
theorem aaj {l:List Sh} {k:Nat} (hk:k<l.length):((plain l).drop k).all shortS=(shortS l[k].x && ((plain l).drop (k+1)).all shortS):=by
 have h:(plain l).drop k=l[k].x::(plain l).drop (k+1):=by
  rw [List.drop_eq_getElem_cons (by rw [eF];exact hk),Iu l k hk]
 rw [h];rfl
theorem aeX (S:Nat→Prop) (l:List Sh) (A:Option Addr) (c n:Nat) (w:World) (hp:wG w S A c l):
 Calls Tryz.prog 16 #[.slice A l.length c,.int .i64 n] w fun e w'=>e= .returned (.bool (ZL (plain l) n))∧Below w.heap.size w w':=by
 obtain ⟨b1,b2,b3⟩:=hp.bd
 have bad:(n<l.length∧l.length≤1000)∨1003<l.length→ZL (plain l) n=false:=fun h=>by
  unfold ZL aev;rw [eF,decide_eq_false (fun hn=>hn h)];rfl
 have HBAD:=hide bad
 clear bad
 by_cases h1:n<l.length
 · have i1:(n:Int)<(l.length:Int):=by omega
   by_cases h2:l.length≤1000
   · have i2:(l.length:Int)≤1000:=by omega
     have HR:=hide (HBAD.out (.inl ⟨h1,h2⟩))
     go_enter Tryz.func16,Tryz.ntmps16
     go_wp2
     go_ret
     exact ⟨by rw [HR.out] <;> rfl,Below.refl _ _⟩
   · have i2:¬ (l.length:Int)≤1000:=by omega
     by_cases h3:1003<l.length
     · have i3:(1003:Int)<(l.length:Int):=by omega
       have HR:=hide (HBAD.out (.inr h3))
       go_enter Tryz.func16,Tryz.ntmps16
       go_wp2
       go_ret
       exact ⟨by rw [HR.out] <;> rfl,Below.refl _ _⟩
     · have i3:¬ (1003:Int)<(l.length:Int):=by omega
       have hgo:ZL (plain l) n=(plain l).all shortS:=by unfold ZL aev;rw [eF,decide_eq_true (by omega)];rfl
       have WT:=hide hgo
       clear hgo HBAD
       go_enter Tryz.func16,Tryz.ntmps16
       go_wp2
       go_loopw [5] (fun i wr=>∃ k:Nat,k≤l.length∧i= .int .i64 k∧(plain l).all shortS=((plain l).drop k).all shortS∧Below w.heap.size w wr) (fun i _=>l.length - (intOf i).toNat)
       case atStart=>exact ⟨0,Nat.zero_le _,rfl,by simp,Below.refl _ _⟩
       case round=>
        obtain ⟨k,hk,rfl,hx1,hb⟩:=hrel
        by_cases hlt:k<l.length
        · obtain ⟨b,o,rfl,_,hbl,hcs⟩:=Reads.at_ (hp.below hb).1 (by omega)
          have h00:wr.rangeAt b (o+k*7) (au l[k]):=fun j v hj=>by
           have hj7:j<7:=(List.getElem?_eq_some_iff.1 hj).1
           rw [Nat.add_assoc]
           exact hcs _ _ ((jI l k hlt j hj7).trans hj)
          have hst:=aaj hlt
          have HX:=hide (hx1.trans hst)
          have hcall:=fun W:World=>ZJ l[k].x l[k].a l[k].c W ((jl.bd (hp.aA k hlt)).2.2)
          obtain ⟨B,hB⟩:∃ B,shortS l[k].x=B:=⟨_,rfl⟩
          have hB':decide (l[k].x.kind.size≤60∧l[k].x.aA.length≤18)=B:=hB
          rw [hB'] at hcall
          have HC:=hide hcall
          have HB:=hide hB
          have j1:(0:Int)≤(k:Int):=by omega
          have j2:(k:Int)<(l.length:Int):=by omega
          clear hcall hx1 hst hcs hB hB'
          cases B with
          | true=>
            go_wp2_with (first | (refine aN 69 (.tmp 28) rfl ?_;refine jh (g:=b) (o:=o+k*7) h00 Tryz.underlying69 rfl Zy rfl (.tmp 28) rfl rfl ?_) | (go_at_call 27;refine (HC.out _).mono ?_;rintro e w1 ⟨rfl,hb1⟩))
            go_roundw
            case rel=>exact ⟨k+1,by omega,by go_num,by rw [HX.out,HB.out];rfl,hb.trans (hb1.mono hb.size)⟩
            case measure=>simp [intOf];omega
          | false=>
            go_wp2_with (first | (refine aN 69 (.tmp 28) rfl ?_;refine jh (g:=b) (o:=o+k*7) h00 Tryz.underlying69 rfl Zy rfl (.tmp 28) rfl rfl ?_) | (go_at_call 27;refine (HC.out _).mono ?_;rintro e w1 ⟨rfl,hb1⟩))
            go_ret
            exact ⟨by rw [WT.out,HX.out,HB.out] <;> rfl,hb.trans (hb1.mono hb.size)⟩
        · have hkk:k=l.length:=by omega
          have hz:(plain l).all shortS=true:=by rw [hx1,hkk, ← eF l,List.drop_length];rfl
          have HZ:=hide hz
          clear hx1 hkk hz
          go_wp2
          go_ret
          exact ⟨by rw [WT.out,HZ.out] <;> rfl,hb⟩
 · have i1:¬ (n:Int)<(l.length:Int):=by omega
   by_cases h3:1003<l.length
   · have i3:(1003:Int)<(l.length:Int):=by omega
     have HR:=hide (HBAD.out (.inr h3))
     go_enter Tryz.func16,Tryz.ntmps16
     go_wp2
     go_ret
     exact ⟨by rw [HR.out] <;> rfl,Below.refl _ _⟩
   · have i3:¬ (1003:Int)<(l.length:Int):=by omega
     have hgo:ZL (plain l) n=(plain l).all shortS:=by unfold ZL aev;rw [eF,decide_eq_true (by omega)];rfl
     have WT:=hide hgo
     clear hgo HBAD
     go_enter Tryz.func16,Tryz.ntmps16
     go_wp2
     go_loopw [5] (fun i wr=>∃ k:Nat,k≤l.length∧i= .int .i64 k∧(plain l).all shortS=((plain l).drop k).all shortS∧Below w.heap.size w wr) (fun i _=>l.length - (intOf i).toNat)
     case atStart=>exact ⟨0,Nat.zero_le _,rfl,by simp,Below.refl _ _⟩
     case round=>
      obtain ⟨k,hk,rfl,hx1,hb⟩:=hrel
      by_cases hlt:k<l.length
      · obtain ⟨b,o,rfl,_,hbl,hcs⟩:=Reads.at_ (hp.below hb).1 (by omega)
        have h00:wr.rangeAt b (o+k*7) (au l[k]):=fun j v hj=>by
         have hj7:j<7:=(List.getElem?_eq_some_iff.1 hj).1
         rw [Nat.add_assoc]
         exact hcs _ _ ((jI l k hlt j hj7).trans hj)
        have hst:=aaj hlt
        have HX:=hide (hx1.trans hst)
        have hcall:=fun W:World=>ZJ l[k].x l[k].a l[k].c W ((jl.bd (hp.aA k hlt)).2.2)
        obtain ⟨B,hB⟩:∃ B,shortS l[k].x=B:=⟨_,rfl⟩
        have hB':decide (l[k].x.kind.size≤60∧l[k].x.aA.length≤18)=B:=hB
        rw [hB'] at hcall
        have HC:=hide hcall
        have HB:=hide hB
        have j1:(0:Int)≤(k:Int):=by omega
        have j2:(k:Int)<(l.length:Int):=by omega
        clear hcall hx1 hst hcs hB hB'
        cases B with
        | true=>
          go_wp2_with (first | (refine aN 69 (.tmp 28) rfl ?_;refine jh (g:=b) (o:=o+k*7) h00 Tryz.underlying69 rfl Zy rfl (.tmp 28) rfl rfl ?_) | (go_at_call 27;refine (HC.out _).mono ?_;rintro e w1 ⟨rfl,hb1⟩))
          go_roundw
          case rel=>exact ⟨k+1,by omega,by go_num,by rw [HX.out,HB.out];rfl,hb.trans (hb1.mono hb.size)⟩
          case measure=>simp [intOf];omega
        | false=>
          go_wp2_with (first | (refine aN 69 (.tmp 28) rfl ?_;refine jh (g:=b) (o:=o+k*7) h00 Tryz.underlying69 rfl Zy rfl (.tmp 28) rfl rfl ?_) | (go_at_call 27;refine (HC.out _).mono ?_;rintro e w1 ⟨rfl,hb1⟩))
          go_ret
          exact ⟨by rw [WT.out,HX.out,HB.out] <;> rfl,hb.trans (hb1.mono hb.size)⟩
      · have hkk:k=l.length:=by omega
        have hz:(plain l).all shortS=true:=by rw [hx1,hkk, ← eF l,List.drop_length];rfl
        have HZ:=hide hz
        clear hx1 hkk hz
        go_wp2
        go_ret
        exact ⟨by rw [WT.out,HZ.out] <;> rfl,hb⟩
theorem ZP:(Tryz.prog.info? 42).map (·.size)=some 15:=by kernel_rfl
theorem aeJ (r:M.Rules) (w:World):
 Calls Tryz.prog 38 #[jM r] w fun e w'=>∃ A c,e= .returned (wF (M.start r) A c)∧bD w' (fun b=>w.heap.size≤b) A c (M.start r).ay∧Below w.heap.size w w':=by
 have hcl:=fun W=>Zo r W
 have JF:=hide hcl
 clear hcl
 go_enter Tryz.func38,Tryz.ntmps38
 go_upto_region 1 with (fail)
 have hB:=((bU.nil w).new (by simp) [.string r.game,.int .i64 r.target,.int .i64 r.aY] 25).new (by simp) aj 42
 have hbl:∀ (A:Option Addr) (c:Nat) (w:World),(Instr.build 42 #[(1,.bool true),(6,.slice A (M.jA r).length c),(10,.int .i64 1)]).run Tryz.prog w= .ok (.agg (aW (M.start r) A c).toArray) w:=fun A c w=>by kernel_rfl
 go_wp2_with (first | (refine aN 25 (.tmp 1) rfl ?_;refine aG (hB.bf rfl) Tryz.underlying25 rfl (by kernel_rfl) rfl (.tmp 1) rfl rfl ?_) | (go_at_call 90;refine (JF.out _).mono ?_;rintro e w1 ⟨A1,c1,rfl,hr1,hb1⟩;have hB1:=hB.call (by simp) hb1;dsimp only) | (refine aO 42 (.tmp 2) (.tmp 5) rfl ?_;refine aF (hB1.get 1 rfl) (aW (M.start r) A1 c1) rfl ZP (dL _ _ _) rfl (.tmp 2) (.tmp 5) rfl rfl rfl ?_))
 have hB2:=hB1.put 1 rfl (aW (M.start r) A1 c1) rfl
 have hsz:=hB.size (by simp)
 simp only [List.length_append,List.length_cons,List.length_nil] at hsz
 refine bodyPost_ret (bP (p:=2) (hB2.get 1 rfl) Tryz.underlying42 rfl ZP rfl _ rfl) rfl ⟨A1,c1,rfl,?_,hB2.bw⟩
 exact bD.more (Reads.keep hr1 (by rw [setCells_size];exact Nat.le_refl _) (fun b o hb hlt=>World.cell?_of_block (Held.lC (g:=w.heap.size+1) (b:=b) (by simp at hb;omega) _ _ _))) (fun b _ h=>by simp at h;show w.heap.size≤b;omega)
end Go.Proofs.YtelpepbpdojikaaGreatDoor
