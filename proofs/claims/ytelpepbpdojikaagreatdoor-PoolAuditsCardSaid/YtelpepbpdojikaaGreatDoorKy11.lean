/- Parts of a proof. -/
import Derived.Test.YtelpepbpdojikaaGreatDoorKg24
import Derived.Test.YtelpepbpdojikaaGreatDoorKy10
import Derived.Test.YtelpepbpdojikaaGreatDoorKy9
set_option maxHeartbeats 8000000
set_option maxRecDepth 100000
set_option linter.unusedVariables false
set_option linter.unusedSimpArgs false
namespace Go.Proofs.YtelpepbpdojikaaGreatDoor
open Go.RowKit
theorem adM (S:Nat→Prop) (A:Option Addr) (c:Nat) (zs:List Int) (w:World) (h:bD w S A c zs):
 Calls Tryz.prog 45 #[.slice A zs.length c] w fun r w'=>r= .returned (.int .i64 (aU zs))∧w=w':=by
 obtain ⟨b1,b2,b3⟩:=h.bd
 go_enter Tryz.func45,Tryz.ntmps45
 go_wp2
 go_loop [7] (fun i=>∃ k:Nat,k≤zs.length∧i= .int .i64 k∧aU zs=aU (zs.drop k)) (fun i=>zs.length - (intOf i).toNat)
 case atStart=>exact ⟨0,Nat.zero_le _,rfl,by simp⟩
 case round=>
  obtain ⟨k,hk,rfl,hx⟩:=hrel
  by_cases hlt:k<zs.length
  · obtain ⟨b,o,rfl,_,_,hc⟩:=h.at_ k hlt
    have hck:=hc k hlt;rw [Cj hlt] at hx;clear hc
    by_cases he:zs[k]=0
    · have he':(zs[k] != 0)=false:=by simp [he]
      rw [if_neg (by simp [he])] at hx;have HX:=hide hx;clear hx he;go_wp2
      go_round
      case rel=>exact ⟨k+1,by omega,by go_num,HX.out⟩
      case measure=>simp [intOf];omega
    · have he':(zs[k] != 0)=true:=by simp [he]
      rw [if_pos he] at hx;have HX:=hide hx;clear hx he;go_wp2;go_ret;exact ⟨dG HX.out.symm,rfl⟩
  · have hz:aU zs=0:=by rw [hx,List.drop_of_length_le (by omega),aU]
    have HX:=hide hz;clear hx hz;go_wp2;go_ret;exact ⟨dG HX.out.symm,rfl⟩
theorem ahR (S:Nat→Prop) (r:M.Rules) (l:List Sh) (A:Option Addr) (c:Nat) (w:World) (hp:wG w S A c l):
 Calls Tryz.prog 20 #[jM r,.slice A l.length c] w fun e w'=>e= .returned (.int .i64 (aU [M.aH r,M.je (plain l)]))∧Below w.heap.size w w':=by
 obtain ⟨b1,b2,b3⟩:=hp.bd;obtain ⟨g,tg,fo⟩:=r;have K0:=Keeps.FT w (.cells #[.string g,.int .i64 tg,.int .i64 fo] 25)
 go_enter Tryz.func20,Tryz.ntmps20
 go_wp2_with (first | (go_at_call 37;refine (aiu ⟨g,tg,fo⟩ _).mono ?_;rintro e w1 ⟨rfl,hb1⟩;have K1:=K0.call hb1) | (go_at_call 41;refine (aeC S l A c _ (hp.below K1.bw)).mono ?_;rintro e w2 ⟨rfl,hb2⟩;have K2:=K1.call hb2) | (go_at_call 45;refine (adM (fun _=>True) _ _ [M.aH ⟨g,tg,fo⟩,M.je (plain l)] _ (bD.lit _ _ [M.aH ⟨g,tg,fo⟩,M.je (plain l)] (by simp) _ trivial)).mono ?_;rintro e dO ⟨rfl,rfl⟩))
 go_ret;exact ⟨rfl,(K2.alloc _).bw⟩
theorem amr:(Tryz.prog.info? 69).map (fun i=>(i.zero,i.size,i.bytes))=some (some (.agg #[.int .i64 0,.string ⟨#[]⟩,.int .i64 0,.int .i64 0,.int .i64 0,.bool false,.slice none 0 0]),7,80):=by kernel_rfl
theorem ZL (S:Nat→Prop) (l:List Sh) (A:Option Addr) (c:Nat) (w:World) (hp:wG w S A c l) (hl:l.length*80≤140737488355328) (hpl:∀ e∈l,e.x.aA.length*16≤140737488355328):
 Calls Tryz.prog 15 #[.slice A l.length c] w fun e w'=>∃ l' A' c',plain l'=plain l∧e= .returned (.slice A' l'.length c')∧wG w' (fun b=>w.heap.size≤b) A' c' l'∧Below w.heap.size w w':=by
 obtain ⟨b1,b2,b3⟩:=hp.bd;obtain ⟨i0,hi0,hz0,hz1,hz2⟩:=info_parts amr
 go_enter Tryz.func15,Tryz.ntmps15
 go_wp2
 go_loopw [3,8] (fun v i wr=>∃ (k:Nat) (l':List Sh) (A':Option Addr) (c':Nat),k≤l.length∧i= .int .i64 k∧v= .slice A' l'.length c'∧l'.length=k∧Aside (plain l'=plain (l.take k))∧jR 69 w.heap.size l' A' c' wr∧Below w.heap.size w wr) (fun _ i=>fun _=>l.length - (intOf i).toNat)
 case atStart=>exact ⟨0,[],none,0,Nat.zero_le _,rfl,rfl,rfl,rfl,jR.nil _ _ _,Below.refl _ _⟩
 case round=>
  obtain ⟨k,l',A',c',hk,rfl,rfl,hlk,hpk,st,hbw⟩:=hrel;have VQ:=hide hpk;have DX:=hbw.size
  by_cases hlt:k<l.length
  · obtain ⟨b,o,rfl,_,hbl,hcs⟩:=Reads.at_ (hp.below hbw).1 (by omega)
    have h00:wr.rangeAt b (o+k*7) (au l[k]):=fun j v hj=>by
     have hj7:j<7:=(List.getElem?_eq_some_iff.1 hj).1;rw [Nat.add_assoc];exact hcs _ _ ((jI l k hlt j hj7).trans hj)
    have hpo:=(hp.below hbw).aA k hlt;have aEv:=hpl _ (List.getElem_mem hlt)
    have i1:(0:Int)≤(k:Int):=by omega
    have i2:(k:Int)<(l.length:Int):=by omega
    have hl1:l'.length<l.length:=by omega
    have WU:=hide hlk;clear hlk;have hbx:=Held.new wr JB 66
    go_upto_region 5 with (first | (refine aN 66 (.tmp 10) rfl ?_;refine jh (g:=b) (o:=o+k*7) h00 Tryz.underlying66 rfl aV rfl (.tmp 10) rfl rfl ?_) | (refine aO 66 (.tmp 5) (.tmp 11) rfl ?_;refine aF hbx (au l[k]) rfl aV (uq _ _ _) rfl (.tmp 5) (.tmp 11) rfl rfl rfl ?_))
    obtain ⟨W2,hW2⟩:∃ W2,(wr.alloc (.cells #[.int .i64 0,.string ⟨#[]⟩,.int .i64 0,.int .i64 0,.int .i64 0,.bool false,.slice none 0 0] 66)).setCells wr.heap.size 0 (au l[k])=W2:=⟨_,rfl⟩
    have hbb:Below wr.heap.size wr W2:=by rw [← hW2];exact below_setCells _ (Nat.le_refl _) _ _ _ _ ((Below.refl _ _).alloc (Nat.le_refl _) _)
    have hby:Held W2 wr.heap.size (au l[k]) 66:=by rw [← hW2];exact hbx.whole (au l[k]) rfl
    rw [hW2];have hown:=anx S l[k].x l[k].a l[k].c W2 (Reads.below hpo hbb) aEv;have hst2:=st.below hbb;have HOWN:=hide hown;have hzz:=hbb.size;clear hcs hown hW2 hbx h00
    go_wp2_with (first | (refine aN 66 (.tmp 5) rfl ?_;refine aG hby Tryz.underlying66 rfl aV rfl (.tmp 5) rfl rfl ?_) | (go_at_call 26;refine HOWN.out.mono ?_;rintro e w3 ⟨A3,c3,rfl,hr3,hb3⟩) | (at_builtin;refine wpList_append_lies _ rfl _ _ _ rfl w.heap.size 69 i0 (.agg #[.int .i64 0,.string ⟨#[]⟩,.int .i64 0,.int .i64 0,.int .i64 0,.bool false,.slice none 0 0]) 7 80 Tryz.underlying26 hi0 hz0 hz1 hz2 rfl (by omega) _ _ _ rfl ((hst2.below hb3).own.alloc _) ⟨w3.heap.size,0,none⟩ 1 1 (au ⟨l[k].x,A3,c3⟩) rfl rfl (dK _ _ _ _ (by simp)) (uq _ _ _) (by omega) (by simp only [maxLen];omega) (by omega) (by have:=hb3.size;simp;omega) (w3.heap.size+1) (by simp) ?_))
    intro g1 cap w4 hown4 hgrow hat _;have SE:=hst2.append (x:=⟨l[k].x,A3,c3⟩) hb3 (by omega) hr3 hgrow hown4 hat;have hb4:Below w.heap.size w w4:=(((hbw.trans (hbb.mono DX)).trans (hb3.mono (by omega))).alloc (by have:=hb3.size;omega) _).trans (dX ((hst2.below hb3).own.alloc _) hgrow (by omega) (by have:=hb3.size;simp;omega));have HST:=hide SE;clear SE hgrow hown4;go_wp2
    go_roundw
    case rel=>exact ⟨k+1,l'++[⟨l[k].x,A3,c3⟩],some ⟨g1,0,none⟩,cap,by omega,by go_num,by simp,by simp [WU.out],by rw [List.take_succ_eq_append_getElem hlt];show plain _=plain _;unfold plain at*;rw [List.map_append,List.map_append,VQ.out];rfl,HST.out,hb4⟩
    case measure=>simp [intOf] <;> omega
  · have hke:k=l.length:=by omega
    have hrd:=st.read (by omega)
    have hpk':plain l'=plain l:=by rw [VQ.out,hke,List.take_length]
    have HP:=hide hpk';clear hlk hke hpk';go_wp2;go_ret;exact ⟨l',A',c',HP.out,rfl,hrd,hbw⟩
theorem Z8:(Tryz.prog.info? 69).map (·.size)=some 7:=by kernel_rfl
def shortS (x:M.aI):Bool:=decide (x.kind.size≤60∧x.aA.length≤18)
def avF (k n:Nat):Bool:=decide (¬ ((n<k∧k≤1000)∨1003<k))
def aaZ (l:List M.aI) (n:Nat):Bool:=avF l.length n && l.all shortS
theorem ajo {l:List Sh} {k:Nat} (hk:k<l.length):((plain l).drop k).all shortS=(shortS l[k].x && ((plain l).drop (k+1)).all shortS):=by
 have h:(plain l).drop k=l[k].x::(plain l).drop (k+1):=by
  rw [List.drop_eq_getElem_cons (by rw [eF];exact hk),Iu l k hk]
 rw [h];rfl
theorem Zn (S:Nat→Prop) (l:List Sh) (A:Option Addr) (c n:Nat) (w:World) (hp:wG w S A c l):
 Calls Tryz.prog 16 #[.slice A l.length c,.int .i64 n] w fun e w'=>e= .returned (.bool (aaZ (plain l) n))∧Below w.heap.size w w':=by
 obtain ⟨b1,b2,b3⟩:=hp.bd
 have bad:(n<l.length∧l.length≤1000)∨1003<l.length→aaZ (plain l) n=false:=fun h=>by
  unfold aaZ avF;rw [eF,decide_eq_false (fun hn=>hn h)];rfl
 have HBAD:=hide bad;clear bad
 by_cases h1:n<l.length
 · have i1:(n:Int)<(l.length:Int):=by omega
   by_cases h2:l.length≤1000
   · have i2:(l.length:Int)≤1000:=by omega
     have HR:=hide (HBAD.out (.inl ⟨h1,h2⟩))
     go_enter Tryz.func16,Tryz.ntmps16
     go_wp2;go_ret;exact ⟨by rw [HR.out] <;> rfl,Below.refl _ _⟩
   · have i2:¬ (l.length:Int)≤1000:=by omega
     by_cases h3:1003<l.length
     · have i3:(1003:Int)<(l.length:Int):=by omega
       have HR:=hide (HBAD.out (.inr h3))
       go_enter Tryz.func16,Tryz.ntmps16
       go_wp2;go_ret;exact ⟨by rw [HR.out] <;> rfl,Below.refl _ _⟩
     · have i3:¬ (1003:Int)<(l.length:Int):=by omega
       have hgo:aaZ (plain l) n=(plain l).all shortS:=by unfold aaZ avF;rw [eF,decide_eq_true (by omega)];rfl
       have WT:=hide hgo;clear hgo HBAD
       go_enter Tryz.func16,Tryz.ntmps16
       go_wp2
       go_loopw [5] (fun i wr=>∃ k:Nat,k≤l.length∧i= .int .i64 k∧(plain l).all shortS=((plain l).drop k).all shortS∧Below w.heap.size w wr) (fun i _=>l.length - (intOf i).toNat)
       case atStart=>exact ⟨0,Nat.zero_le _,rfl,by simp,Below.refl _ _⟩
       case round=>
        obtain ⟨k,hk,rfl,hx1,hb⟩:=hrel
        by_cases hlt:k<l.length
        · obtain ⟨b,o,rfl,_,hbl,hcs⟩:=Reads.at_ (hp.below hb).1 (by omega)
          have h00:wr.rangeAt b (o+k*7) (au l[k]):=fun j v hj=>by
           have hj7:j<7:=(List.getElem?_eq_some_iff.1 hj).1;rw [Nat.add_assoc];exact hcs _ _ ((jI l k hlt j hj7).trans hj)
          have hst:=ajo hlt;have HX:=hide (hx1.trans hst);have hcall:=fun W:World=>acO l[k].x l[k].a l[k].c W ((jl.bd (hp.aA k hlt)).2.2);obtain ⟨B,hB⟩:∃ B,shortS l[k].x=B:=⟨_,rfl⟩;have hB':decide (l[k].x.kind.size≤60∧l[k].x.aA.length≤18)=B:=hB;rw [hB'] at hcall;have HC:=hide hcall;have HB:=hide hB
          have j1:(0:Int)≤(k:Int):=by omega
          have j2:(k:Int)<(l.length:Int):=by omega
          clear hcall hx1 hst hcs hB hB'
          cases B with
          | true=>
            go_wp2_with (first | (refine aN 69 (.tmp 28) rfl ?_;refine jh (g:=b) (o:=o+k*7) h00 Tryz.underlying69 rfl Z8 rfl (.tmp 28) rfl rfl ?_) | (go_at_call 27;refine (HC.out _).mono ?_;rintro e w1 ⟨rfl,hb1⟩))
            go_roundw
            case rel=>exact ⟨k+1,by omega,by go_num,by rw [HX.out,HB.out];rfl,hb.trans (hb1.mono hb.size)⟩
            case measure=>simp [intOf];omega
          | false=>
            go_wp2_with (first | (refine aN 69 (.tmp 28) rfl ?_;refine jh (g:=b) (o:=o+k*7) h00 Tryz.underlying69 rfl Z8 rfl (.tmp 28) rfl rfl ?_) | (go_at_call 27;refine (HC.out _).mono ?_;rintro e w1 ⟨rfl,hb1⟩))
            go_ret;exact ⟨by rw [WT.out,HX.out,HB.out] <;> rfl,hb.trans (hb1.mono hb.size)⟩
        · have hkk:k=l.length:=by omega
          have hz:(plain l).all shortS=true:=by rw [hx1,hkk, ← eF l,List.drop_length];rfl
          have HZ:=hide hz;clear hx1 hkk hz;go_wp2;go_ret;exact ⟨by rw [WT.out,HZ.out] <;> rfl,hb⟩
 · have i1:¬ (n:Int)<(l.length:Int):=by omega
   by_cases h3:1003<l.length
   · have i3:(1003:Int)<(l.length:Int):=by omega
     have HR:=hide (HBAD.out (.inr h3))
     go_enter Tryz.func16,Tryz.ntmps16
     go_wp2;go_ret;exact ⟨by rw [HR.out] <;> rfl,Below.refl _ _⟩
   · have i3:¬ (1003:Int)<(l.length:Int):=by omega
     have hgo:aaZ (plain l) n=(plain l).all shortS:=by unfold aaZ avF;rw [eF,decide_eq_true (by omega)];rfl
     have WT:=hide hgo;clear hgo HBAD
     go_enter Tryz.func16,Tryz.ntmps16
     go_wp2
     go_loopw [5] (fun i wr=>∃ k:Nat,k≤l.length∧i= .int .i64 k∧(plain l).all shortS=((plain l).drop k).all shortS∧Below w.heap.size w wr) (fun i _=>l.length - (intOf i).toNat)
     case atStart=>exact ⟨0,Nat.zero_le _,rfl,by simp,Below.refl _ _⟩
     case round=>
      obtain ⟨k,hk,rfl,hx1,hb⟩:=hrel
      by_cases hlt:k<l.length
      · obtain ⟨b,o,rfl,_,hbl,hcs⟩:=Reads.at_ (hp.below hb).1 (by omega)
        have h00:wr.rangeAt b (o+k*7) (au l[k]):=fun j v hj=>by
         have hj7:j<7:=(List.getElem?_eq_some_iff.1 hj).1;rw [Nat.add_assoc];exact hcs _ _ ((jI l k hlt j hj7).trans hj)
        have hst:=ajo hlt;have HX:=hide (hx1.trans hst);have hcall:=fun W:World=>acO l[k].x l[k].a l[k].c W ((jl.bd (hp.aA k hlt)).2.2);obtain ⟨B,hB⟩:∃ B,shortS l[k].x=B:=⟨_,rfl⟩;have hB':decide (l[k].x.kind.size≤60∧l[k].x.aA.length≤18)=B:=hB;rw [hB'] at hcall;have HC:=hide hcall;have HB:=hide hB
        have j1:(0:Int)≤(k:Int):=by omega
        have j2:(k:Int)<(l.length:Int):=by omega
        clear hcall hx1 hst hcs hB hB'
        cases B with
        | true=>
          go_wp2_with (first | (refine aN 69 (.tmp 28) rfl ?_;refine jh (g:=b) (o:=o+k*7) h00 Tryz.underlying69 rfl Z8 rfl (.tmp 28) rfl rfl ?_) | (go_at_call 27;refine (HC.out _).mono ?_;rintro e w1 ⟨rfl,hb1⟩))
          go_roundw
          case rel=>exact ⟨k+1,by omega,by go_num,by rw [HX.out,HB.out];rfl,hb.trans (hb1.mono hb.size)⟩
          case measure=>simp [intOf];omega
        | false=>
          go_wp2_with (first | (refine aN 69 (.tmp 28) rfl ?_;refine jh (g:=b) (o:=o+k*7) h00 Tryz.underlying69 rfl Z8 rfl (.tmp 28) rfl rfl ?_) | (go_at_call 27;refine (HC.out _).mono ?_;rintro e w1 ⟨rfl,hb1⟩))
          go_ret;exact ⟨by rw [WT.out,HX.out,HB.out] <;> rfl,hb.trans (hb1.mono hb.size)⟩
      · have hkk:k=l.length:=by omega
        have hz:(plain l).all shortS=true:=by rw [hx1,hkk, ← eF l,List.drop_length];rfl
        have HZ:=hide hz;clear hx1 hkk hz;go_wp2;go_ret;exact ⟨by rw [WT.out,HZ.out] <;> rfl,hb⟩
theorem aaL:(Tryz.prog.info? 42).map (·.size)=some 15:=by kernel_rfl
theorem akz (r:M.Rules) (w:World):
 Calls Tryz.prog 38 #[jM r] w fun e w'=>∃ A c,e= .returned (wF (M.start r) A c)∧bD w' (fun b=>w.heap.size≤b) A c (M.start r).ay∧Below w.heap.size w w':=by
 have hcl:=fun W=>Z5 r W;have JF:=hide hcl;clear hcl
 go_enter Tryz.func38,Tryz.ntmps38
 go_upto_region 1 with (fail)
 have hB:=((bU.nil w).new (by simp) [.string r.game,.int .i64 r.target,.int .i64 r.aY] 25).new (by simp) aj 42
 have hbl:∀ (A:Option Addr) (c:Nat) (w:World),(Instr.build 42 #[(1,.bool true),(6,.slice A (M.jA r).length c),(10,.int .i64 1)]).run Tryz.prog w= .ok (.agg (aW (M.start r) A c).toArray) w:=fun A c w=>by kernel_rfl
 go_wp2_with (first | (refine aN 25 (.tmp 1) rfl ?_;refine aG (hB.bf rfl) Tryz.underlying25 rfl (by kernel_rfl) rfl (.tmp 1) rfl rfl ?_) | (go_at_call 90;refine (JF.out _).mono ?_;rintro e w1 ⟨A1,c1,rfl,hr1,hb1⟩;have hB1:=hB.call (by simp) hb1;dsimp only) | (refine aO 42 (.tmp 2) (.tmp 5) rfl ?_;refine aF (hB1.get 1 rfl) (aW (M.start r) A1 c1) rfl aaL (dL _ _ _) rfl (.tmp 2) (.tmp 5) rfl rfl rfl ?_))
 have hB2:=hB1.put 1 rfl (aW (M.start r) A1 c1) rfl;have hsz:=hB.size (by simp)
 simp only [List.length_append,List.length_cons,List.length_nil] at hsz
 refine bodyPost_ret (bP (p:=2) (hB2.get 1 rfl) Tryz.underlying42 rfl aaL rfl _ rfl) rfl ⟨A1,c1,rfl,?_,hB2.bw⟩;exact bD.more (Reads.keep hr1 (by rw [setCells_size];exact Nat.le_refl _) (fun b o hb hlt=>World.cell?_of_block (Held.lC (g:=w.heap.size+1) (b:=b) (by simp at hb;omega) _ _ _))) (fun b _ h=>by simp at h;show w.heap.size≤b;omega)
structure StE where
 s:M.State
 a:Option Addr
 c:Nat
def stC (e:StE):List Value:=aW e.s e.a e.c
theorem agQ (e:StE):(stC e).length=15:=rfl
theorem akG:(Tryz.prog.info? 42).map (fun i=>(i.zero,i.size,i.bytes))=some (some (.agg aj.toArray),15,112):=by kernel_rfl
theorem Reads.sets {S:Nat→Prop} {size n:Nat} {A:Option Addr} {c:Nat} {xs:List Value} {g:Nat} (hg:¬ S g):∀ (vs:List Value) (o:Nat) (W:World),Reads W S size A n c xs→Reads (W.setCells g o vs) S size A n c xs
 | [],_,_,h=>h
 | v::r,o,W,h=>Reads.sets hg r (o+1) _ (h.setCell (p:=⟨g,o,none⟩) hg v)
theorem bD.zero (W:World):bD W (fun _=>True) none 0 M.zero.ay:=Reads.none_ _ _ _
theorem ayX {W:World} {D:Nat} {e:TypeId} {size n:Nat} {v:Value} {xs:List Value} (h:W.ownsRow D e size v n xs) {g:Nat} (hg:v.ownBlock=some g):g<W.heap.size:=(Array.getElem?_eq_some_iff.1 (bg h hg).2.choose_spec.1).1
section
variable {W:World}
theorem ahK {w4:World} {o:Obj} {v:Value} (hgrow:(W.alloc o).grownBy w4 v.ownBlock) {b:Nat} (hb:b<W.heap.size) (hn:v.ownBlock≠some b):w4.heap[b]? =W.heap[b]? :=
 (hgrow.block b (by simp;omega) (fun e=>hn e.symm)).trans (heap_alloc_old W o hb)
theorem ap4 {w4:World} {o:Obj} {v:Value} {D:Nat} (hgrow:(W.alloc o).grownBy w4 v.ownBlock) (hX:∀ g,v.ownBlock=some g→D≤g) (hD:D≤W.heap.size):Below D W w4:=
 ⟨hgrow.os,hgrow.tape,hgrow.output,Nat.le_trans (by simp) hgrow.size,fun b hb=>ahK hgrow (Nat.lt_of_lt_of_le hb hD) (fun e=>Nat.lt_irrefl _ (Nat.lt_of_lt_of_le hb (hX b e)))⟩
end
def RdT (w:World) (S:Nat→Prop) (A:Option Addr) (c:Nat) (L:List StE):Prop:=Reads w S 15 A L.length c (L.flatMap stC)∧∀ e∈L,bD w S e.a e.c e.s.ay
theorem RdT.below {w w':World} {S:Nat→Prop} {A:Option Addr} {c:Nat} {L:List StE} (h:RdT w S A c L) (hb:Below w.heap.size w w'):RdT w' S A c L:=
 ⟨Reads.below h.1 hb,fun e he=>(h.2 e he).below hb⟩
theorem RdT.more {w:World} {S S':Nat→Prop} {A:Option Addr} {c:Nat} {L:List StE} (h:RdT w S A c L) (hS:∀ b,b<w.heap.size→S b→S' b):RdT w S' A c L:=
 ⟨Reads.more h.1 hS,fun e he=>(h.2 e he).more hS⟩
structure ZF (e:TypeId) (D:Nat) (Z:Nat→Prop) (L:List StE) (A:Option Addr) (c:Nat) (W:World):Prop where
 own:W.ownsRow D e 15 (.slice A L.length c) L.length (L.flatMap stC)
 each:∀ x∈L,bD W (fun b=>Z b∧(Value.slice A L.length c).ownBlock≠some b) x.a x.c x.s.ay
section
variable {e:TypeId} {D:Nat} {Z:Nat→Prop} {L:List StE} {A:Option Addr} {c:Nat} {W W':World}
theorem ZF.below (h:ZF e D Z L A c W) (hb:Below W.heap.size W W'):ZF e D Z L A c W':=
 ⟨bT h.own (fun g hg=>hb.block g (Array.getElem?_eq_some_iff.1 (bg h.own hg).2.choose_spec.1).1),fun x hx=>(h.each x hx).below hb⟩
theorem ZF.drew (h:ZF e D Z L A c W):ZF e D Z L A c W.drew:=⟨h.own,h.each⟩
theorem ZF.sets {g:Nat} (h:ZF e D Z L A c W) (hg:g<D) (hz:¬ Z g) (vs:List Value) (o:Nat):ZF e D Z L A c (W.setCells g o vs):=
 ⟨bT h.own (fun b hb=>Held.lC (by have:=(bg h.own hb).1;omega) _ _ _),fun x hx=>bD.sets (fun h'=>hz h'.1) _ _ _ (h.each x hx)⟩
theorem ZF.read {S:Nat→Prop} (h:ZF e D Z L A c W) (hn:L.length≤17592186044416) (hD:∀ b,D≤b→S b) (hZ:∀ b,Z b→S b):RdT W S A c L:=
 ⟨Reads.kG h.own hD hn,fun x hx=>(h.each x hx).more (fun b _ h=>hZ b h.1)⟩
theorem ZF.apart {w4:World} {g1 cap n:Nat} {o:Obj} (hgrow:(W.alloc o).grownBy w4 (Value.slice A L.length c).ownBlock) (hat:(Value.slice A L.length c).ownBlock=some g1∨g1=W.heap.size+1) {A2:Option Addr} {c2:Nat} {zs:List Int}
 (hy:bD W (fun b=>Z b∧(Value.slice A L.length c).ownBlock≠some b) A2 c2 zs):bD w4 (fun b=>Z b∧(Value.slice (some ⟨g1,0,none⟩) n cap).ownBlock≠some b) A2 c2 zs:=by
 have h1:=bD.more hy (S':=fun b=>(Z b∧(Value.slice A L.length c).ownBlock≠some b)∧b<W.heap.size) (fun b hb h=>⟨h,hb⟩);have h2:=bD.keep h1 (by have:=hgrow.size;simp at this;omega) (w':=w4) (fun b o hb hlt=>(hgrow.cell_far ⟨b,o,none⟩ (by simp;omega) (fun e=>hb.1.2 e.symm)).trans (World.cell?_alloc_lt _ _ ⟨b,o,none⟩ hlt));refine bD.more h2 (fun b _ hb=>⟨hb.1.1,fun e=>?_⟩);have e':(some g1:Option Nat)=some b:=e
 cases e'
 rcases hat with h3 | h3
 · exact hb.1.2 h3
 · have:=hb.2;omega
theorem ZF.append {w4:World} {g1 cap:Nat} {o:Obj} {x:StE} (h:ZF e D Z L A c W) (hx:bD W (fun b=>Z b∧(Value.slice A L.length c).ownBlock≠some b) x.a x.c x.s.ay)
 (hgrow:(W.alloc o).grownBy w4 (Value.slice A L.length c).ownBlock) (hown4:w4.ownsRow D e 15 (.slice (some ⟨g1,0,none⟩) (L.length+1) cap) (L.length+1) (L.flatMap stC++stC x)) (hat:(Value.slice A L.length c).ownBlock=some g1∨g1=W.heap.size+1):
 ZF e D Z (L++[x]) (some ⟨g1,0,none⟩) cap w4:=by
 have hl:(L++[x]).length=L.length+1:=by simp
 refine ⟨?_,fun y hy=>?_⟩
 · rw [hl,List.flatMap_append]
   have:[x].flatMap stC=stC x:=by simp
   rw [this];exact hown4
 · rcases List.mem_append.1 hy with hy | hy
   · exact ZF.apart hgrow hat (h.each y hy)
   · obtain rfl:=List.mem_singleton.1 hy
     exact ZF.apart hgrow hat hx
theorem ZF.lit {e:TypeId} {D:Nat} {Z:Nat→Prop} (W:World) (x:StE) (hD:D≤W.heap.size) (hx:bD W Z x.a x.c x.s.ay):ZF e D Z [x] (some ⟨W.heap.size,0,none⟩) 1 (W.alloc (.cells (stC x).toArray e)):=by
 refine ⟨?_,fun y hy=>?_⟩
 · have h:=World.ownsRow_lit (base:=D) (size:=15) (e:=e) W (stC x).toArray 1 hD (by simp only [maxLen];omega) (by simp [agQ])
   simpa using h
 · obtain rfl:=List.mem_singleton.1 hy
   exact bD.more ((bD.more hx (S':=fun b=>Z b∧b<W.heap.size) (fun b hb h=>⟨h,hb⟩)).alloc _) (fun b hb h=>⟨h.1,fun e=>by cases e;exact Nat.lt_irrefl _ h.2⟩)
end
theorem auY {r:M.Rules} {s:M.State} {x:M.aI} (h:M.legal r s x=0):M.step r s x=M.next r s x:=by unfold M.step;rw [if_pos h]
theorem av1 {r:M.Rules} {s:M.State} {x:M.aI} (h:¬ M.legal r s x=0):M.step r s x=s:=by unfold M.step;rw [if_neg h]
structure StL (r:M.Rules) (l:List M.aI) (n:Nat) (L:List StE):Prop where
 len:L.length=n+1
 get:∀ k (h:k<L.length),L[k].s=M.TS r l k
theorem StL.snoc {r:M.Rules} {l:List M.aI} {n:Nat} {L:List StE} {x:StE} (h:StL r l n L) (hx:x.s=M.TS r l (n+1)):StL r l (n+1) (L++[x]):=by
 have hl:=h.len;refine ⟨by simp [hl],fun k hk=>?_⟩
 rcases Nat.lt_or_ge k L.length with hlt | hge
 · rw [List.getElem_append_left hlt];exact h.get k hlt
 · have hk2:k=L.length:=by simp at hk;omega
   subst hk2;rw [List.getElem_append_right (Nat.le_refl _)]
   simp [hx,hl]
theorem aqZ {r:M.Rules} {l:List M.aI} {k:Nat} (hk:k<l.length):M.TS r l (k+1)=M.step r (M.TS r l k) l[k]:=by
 unfold M.TS
 rw [List.take_succ_eq_append_getElem hk,M.anp]
theorem avT {r:M.Rules} {l:List M.aI} (hr:M.aH r=0) (hl:M.je l=0) (k:Nat):M.Ok r (1+16*(l.take k).length) (M.TS r l k):=
 M.alf hr _ (fun x hx=>((M.Zt l).1 hl).2 x (List.mem_of_mem_take hx)) _ 1 (by omega) (M.NG r)
theorem auQ {r:M.Rules} {l:List M.aI} (hr:M.aH r=0) (hl:M.je l=0) (k:Nat):M.Ok r 500000 (M.TS r l k):=by
 refine (avT hr hl k).more ?_;have h1:=((M.Zt l).1 hl).1
 have h2:(l.take k).length≤l.length:=by rw [List.length_take];omega
 omega
theorem ajX:(Tryz.prog.info? 33).map (fun i=>(i.zero,i.size,i.bytes))=some (some (.agg aj.toArray),15,112):=by kernel_rfl
def RTL (r:M.Rules) (l:List Sh) (L:List StE):Prop:=∀ k (h:k<L.length),L[k].s=lQ r l (k+1)
theorem RTL.snoc {r:M.Rules} {l:List Sh} {L:List StE} {x:StE} (h:RTL r l L) (hx:x.s=lQ r l (L.length+1)):RTL r l (L++[x]):=by
 intro k hk
 rcases Nat.lt_or_ge k L.length with hlt | hge
 · rw [List.getElem_append_left hlt];exact h k hlt
 · have hk2:k=L.length:=by simp at hk;omega
   subst hk2;rw [List.getElem_append_right (Nat.le_refl _)]
   simp [hx]
structure RTs (r:M.Rules) (l:List Sh) (w:World) (B D:Nat) (X Y:Nat→Prop) (xs:List wY) (W:World):Prop where
 bw:Below w.heap.size w W
 sz:D≤W.heap.size
 sep:∀ b,X b∨Y b→D≤b
 a:∃ (L:List StE) (A:Option Addr) (c:Nat),Held W B [.slice A L.length c] 178∧iJ W D X Y 33 15 (.slice A L.length c) L.length (L.flatMap stC)∧L.length=xs.length∧RTL r l L∧∀ y∈L,KI W X (fun b=>D≤b∧(Value.slice A L.length c).ownBlock≠some b) y.a y.c y.s.ay
section
variable {r:M.Rules} {l:List Sh} {w:World} {B D:Nat}
theorem RTs.abides (hw:w.heap.size<B) (h9:B<D):tq (RTs r l w B D):=by
 intro X Y pre W X' Y' W' h ht hX hY
 have hno:∀ b,b<D→¬ X b:=fun b hb hx=>by have:=h.sep b (.inl hx);omega
 obtain ⟨L,A,c,hv,ho,hl,hg,hk⟩:=h.a;refine ⟨kS h.bw ht (fun b hb=>by have:=h.sep b (.inl hb);omega) (by have:=h.sz;omega),Nat.le_trans h.sz ht.size,?_,⟨L,A,c,hv.turn ht (hno _ h9),ho.turn ht hX hY,hl,hg,fun y hy=>(hk y hy).turn ht hX⟩⟩
 rintro b (hb | hb)
 · rcases hX b hb with h2 | h2
   · exact h.sep b (.inl h2)
   · exact Nat.le_trans h.sz h2
 · rcases hY b hb with h2 | h2
   · exact h.sep b (.inr h2)
   · exact Nat.le_trans h.sz h2
theorem RTs.putObj {X Y:Nat→Prop} {pre:List wY} {W:World} {lp:Nat} {o:Obj} (h:RTs r l w B D X Y pre W) (hD:w.heap.size≤D) (hlp:D≤lp) (hl:W.heap[lp]? =some o) (ho:o.isCells=false) (o':Obj):RTs r l w B D X Y pre (W.putObj lp o'):=by
 obtain ⟨L,A,c,hv,hw,h1,hg,hk⟩:=h.a;exact ⟨jY h.bw (by omega) _,by simpa using h.sz,h.sep,⟨L,A,c,hv.putObj hl ho _,hw.putObj hl ho _,h1,hg,fun y hy=>(hk y hy).putObj hl ho _⟩⟩
theorem ao1 {X S0:Nat→Prop} {W w5:World} {A:Option Addr} {c g1 n cap:Nat} {zs:List Int} {v:Value} (h:bD W S0 A c zs) (hS:∀ b,S0 b→b<W.heap.size→¬ X b∧D≤b∧v.ownBlock≠some b) (hT:Turn (fun b=>b=B∨v.ownBlock=some b) W w5) (hB:B<D) (hat:v.ownBlock=some g1∨W.heap.size≤g1):
 KI w5 X (fun b=>D≤b∧(Value.slice (some ⟨g1,0,none⟩) n cap).ownBlock≠some b) A c zs:=by
 have h1:=bD.more h (S':=fun b=>b<W.heap.size∧¬ X b∧D≤b∧v.ownBlock≠some b) (fun b hb h=>⟨hb,hS b h hb⟩)
 have h2:bD w5 _ A c zs:=Reads.keep h1 hT.size (fun b o hs hl=>World.cell?_of_block (hT.block b hl (by
  rintro (e | e)
  · exact absurd hs.2.2.1 (by omega)
  · exact hs.2.2.2 e)))
 refine KI.of h2 (fun b hs _=>⟨hs.2.1,hs.2.2.1,fun e=>?_⟩);have e':(some g1:Option Nat)=some b:=e
 cases e'
 rcases hat with h3 | h3
 · exact hs.2.2.2 h3
 · have:=hs.1;omega
theorem RTs.fin {X Y K:Nat→Prop} {Ix:(Nat→Prop)→(Nat→Prop)→List wY→World→Prop} {x:wY} {pre:List wY} {W w5:World} {A A2:Option Addr} {c g1 cap c2:Nat} {L:List StE} {a:Act} (hw:w.heap.size≤B) (hB:B<D) (hWs:D≤W.heap.size) (hbw:Below w.heap.size w W) (hsep:∀ b,X b∨Y b→D≤b)
 (hX:∀ b,X b∨Y b→D≤b∧b<W.heap.size) (hK:∀ b,K b→b<D∧b≠B) (iL:iJ W D X Y 33 15 (.slice A L.length c) L.length (L.flatMap stC)) (hT:Turn (fun b=>b=B∨(Value.slice A L.length c).ownBlock=some b) W w5) (hV:Held w5 B [.slice (some ⟨g1,0,none⟩) (L.length+1) cap] 178)
 (hO:iJ w5 D X Y 33 15 (.slice (some ⟨g1,0,none⟩) (L.length+1) cap) (L.length+1) (L.flatMap stC++stC ⟨x.t,A2,c2⟩)) (hat:(Value.slice A L.length c).ownBlock=some g1∨W.heap.size≤g1) (hl:L.length=pre.length) (hg:RTL r l L) (ht:x.t=lQ r l (pre.length+1)) (hx:bD W Y A2 c2 x.t.ay) (hxy:∀ b,Y b→¬ X b)
 (hk:∀ y∈L,KI W X (fun b=>D≤b∧(Value.slice A L.length c).ownBlock≠some b) y.a y.c y.s.ay):rU K D X Y (RTs r l w B D) Ix (pre++[x]) W .normal a w5:=by
 obtain ⟨h1,h2⟩:=Js hWs hX hB hK iL hT
 have e1:(L++[(⟨x.t,A2,c2⟩:StE)]).length=L.length+1:=by simp
 refine ⟨h1,h2,⟨kS hbw hT ?_ (by omega),Nat.le_trans hWs hT.size,hsep,⟨L++[⟨x.t,A2,c2⟩],some ⟨g1,0,none⟩,cap,?_,?_,?_,hg.snoc (by rw [hl];exact ht),fun y hy=>?_⟩⟩⟩
 · rintro b (h | h)
   · omega
   · have:=(bg iL.own h).1;omega
 · rw [e1];exact hV
 · rw [e1,List.flatMap_append]
   have:[(⟨x.t,A2,c2⟩:StE)].flatMap stC=stC ⟨x.t,A2,c2⟩:=by simp
   rw [this];exact hO
 · rw [e1,List.length_append,List.length_singleton,hl]
 · rcases List.mem_append.1 hy with hy | hy
   · obtain ⟨Z,hz,hz2⟩:=hk y hy
     exact ao1 hz (fun b hb _=>⟨(hz2 b hb).2.1,(hz2 b hb).2.2.1,(hz2 b hb).2.2.2⟩) hT hB hat
   · obtain rfl:=List.mem_singleton.1 hy
     exact ao1 hx (fun b hb _=>⟨hxy b hb,(hX b (.inr hb)).1,(fun e=>(iL.far b e).2 hb)⟩) hT hB hat
end
theorem af7 (S:Nat→Prop) (r:M.Rules) (l:List Sh) (A:Option Addr) (c:Nat) (w:World) (hp:wG w S A c l) (hr:M.aH r=0) (Vb:M.je (plain l)=0):
 Calls Tryz.prog 107 #[jM r,.slice A l.length c] w fun e w'=>∃ L A2 c2,e= .returned (.slice A2 (L:List StE).length c2)∧L.length=l.length∧RTL r l L∧RdT w' (fun b=>w.heap.size≤b) A2 c2 L∧Below w.heap.size w w':=by
 refine callsIn_wide.1 (callsIn_of_wp_marks (F:=Fence.wide) (n:=5) Tryz.func107 rfl trivial ?_ rfl)
 simp only [Tryz.ntmps107,List.size_toArray,List.length_cons,List.length_nil,Nat.reduceAdd,Nat.reduceSub,Array.replicate_succ,
  Array.replicate_zero,List.push_toArray,List.append_toArray,List.nil_append,List.cons_append]
 refine wpIn_wide.2 ?_
 generalize hQ':bodyPostM Fence.wide 5 Tryz.prog _ _=Q'
 have HR:=hide hr;have hls:=((M.Zt _).1 Vb).1;rw [eF] at hls;have HL:Hid (∀ e∈l,M.cZ e.x=0):=hide (fun e he=>((M.Zt _).1 Vb).2 _ (List.mem_map_of_mem he));have JH:=hide hls;have HQ:=hide hQ';clear hQ' hr hls Vb
 go_upto_region 2 with (fail)
 refine adr (p:=fun W=>Code.wp _ _ _ _ W) (fun wc hwc=>?_)
 have hB:bU w wc [([.string r.game,.int .i64 r.target,.int .i64 r.aY],23),([.slice none 0 0],178)]:=by rw [hwc];exact (((bU.nil w).new (by simp) ([.string r.game,.int .i64 r.target,.int .i64 r.aY]) _).new (by simp) ([.slice none 0 0]) _)
 clear hwc;have k0:=(hB.bf rfl).cell (j:=0) rfl;have GL:=(hB.bf rfl).frozen 0;have k1:=(hB.bf rfl).cell (j:=1) rfl;have JE:=(hB.bf rfl).frozen 1;have k2:=(hB.bf rfl).cell (j:=2) rfl;have Pn:=(hB.bf rfl).frozen 2
 have xA:w.heap.size+2≤wc.heap.size:=by simpa using hB.size (by simp)
 go_wp2_with (go_at_call 65;refine (uJ r _ _ _ _).mono ?_;rintro e w3 ⟨rfl,hC⟩)
 rename_i KQ RI;clear k0 GL k1 JE k2 Pn
 have hD3:wc.heap.size+2≤w3.heap.size:=by
  have:=hC.size (by simp)
  simpa using this
 have hb3:Below w.heap.size w w3:=hB.bw.trans (hC.bw.mono (by omega));have Kt:Held w3 wc.heap.size [.string r.game,.int .i64 r.target,.int .i64 r.aY] 23:=hC.bf rfl;have Ko:Held w3 (wc.heap.size+1) [.slice A l.length c] 24:=hC.get 1 rfl
 have hK3:∀ b,(b=wc.heap.size∨b=wc.heap.size+1∨(S b∧b<w.heap.size))→b<w3.heap.size:=by rintro b (h | h | ⟨_,h⟩) <;> omega
 have RN:wG w3 (fun b=>b=wc.heap.size∨b=wc.heap.size+1∨(S b∧b<w.heap.size)) A c l:=(hp.more (S':=(fun b=>b=wc.heap.size∨b=wc.heap.size+1∨(S b∧b<w.heap.size))) (fun b hb h=> .inr (.inr ⟨h,hb⟩))).below hb3;have hA3:Held w3 (w.heap.size+1) [.slice none 0 0] 178:=(hB.get 1 rfl).upto hC.bw (by omega);refine (wpIn_wide (n:=5)).1 ?_
 refine kJ (F:=Fence.wide) rfl (by decide) rfl trivial (fun _ _=>rfl) (sN r l A c (fun b=>b=wc.heap.size∨b=wc.heap.size+1∨(S b∧b<w.heap.size)) _ _ 4 w3 (by decide) HR.out HL.out JH.out hK3 Kt (.inl rfl) Ko (.inr (.inl rfl)) RN) hK3 (Below.refl _ _) (fun _=>rfl) (RTs r l w (w.heap.size+1) w3.heap.size) (fun _ _ _ _=>False) (RTs.abides (by omega) (by omega)) (fun _ _ _ _ _ _ _ h _ _ _=>h)
  (fun X Y pre W lp o o' h hlp hl ho=>h.putObj (by omega) hlp hl ho o') (fun _ _ _ _ _ _ _ h _ _ _=>h) (fun X Y pre x W lp o o' h hlp hl ho=>h.putObj hl ho o') ?h0 (fun x a W=>∃ Be v0 v1 v2 v3 v4 v6 v8 v9 v10 v11 v12 v13 v14 v15 v16 v17 v18 v19,a= {tmps:= #[v0,v1,v2,v3,v4,ptr (w.heap.size+1),v6,ptr Be,v8,v9,v10,v11,v12,v13,v14,v15,v16,v17,v18,v19],defers:=[] }∧w3.heap.size≤Be∧Held W Be (bH r x) 133) ?assign ?ap ?body ?done ?stop
 case h0=>
  intro W hW;exact ⟨(hb3.trans (hW.mono (by omega))),hW.size,fun b h=>h.elim (fun h=>h.elim) (fun h=>h.elim),⟨[],none,0,hA3.below hW,⟨World.ownsRow_nil _ _ _ _,fun g hg=>by cases hg⟩,rfl,fun k h=>absurd h (Nat.not_lt_zero _),fun y hy=>by cases hy⟩⟩
 case ap=>
  rintro x a' W lp o o' ⟨Be,v0,v1,v2,v3,v4,v6,v8,v9,v10,v11,v12,v13,v14,v15,v16,v17,v18,v19,e2,h1,h2⟩ hlp hl ho
  exact ⟨Be,v0,v1,v2,v3,v4,v6,v8,v9,v10,v11,v12,v13,v14,v15,v16,v17,v18,v19,e2,h1,h2.putObj hl ho _⟩
 case stop=>exact fun _ _ _ _ _ _ _ h _=>h.elim
 case assign=>
  intro lp X Y pre x W K' hi ht hk Au;have hb:=((Below.refl W.heap.size W).alloc (Nat.le_refl _) (.cells jk.toArray 133));have hb':=below_setCells W.heap.size (Nat.le_refl _) (bH r x) 0 _ _ hb;have hE0:=Held.new W jk 133;have hsz:=hi.sz
  have fin:∀ v0 v1 v2 v3 v4 v6 v8 v9 v10 v11 v12 v13 v14 v15 v16 v17 v18 v19:Value,K' {tmps:= #[v0,v1,v2,v3,v4,ptr (w.heap.size+1),v6,ptr W.heap.size,v8,v9,v10,v11,v12,v13,v14,v15,v16,v17,v18,v19],defers:=[] } ((W.alloc (.cells jk.toArray 133)).setCells W.heap.size 0 (bH r x)):=fun _ _ _ _ _ _ _ _ _ _ _ _ _ _ _ _ _ _=>
   hk _ _ ⟨hb'.size,fun k o hk hl _=>(hb'.block k (Array.getElem?_eq_some_iff.1 hl).1).trans hl⟩
    ⟨hb'.size,fun b h=>hb'.block b (Au b h),fun b h=>hb'.block b (Nat.lt_of_lt_of_le (hK3 b h) hsz)⟩
    (RTs.abides (by omega) (by omega) _ _ _ _ _ _ _ hi (Turn.of_below hb') (fun b h=> .inl h) (fun b h=> .inl h))
    ⟨ht.i,ht.lt,ht.e,ht.s,ht.t,ht.rule,ht.a.below hb',ht.b.below hb',ht.xy⟩
    ⟨W.heap.size,_,_,_,_,_,_,_,_,_,_,_,_,_,_,_,_,_,_,rfl,hsz,hE0.whole _ rfl⟩
  have FIN:=hide fin;clear hk fin hb hb' hi ht Au hsz
  simp [zh]
  refine aS (by kernel_rfl) (by rintro ⟨_,_,h⟩;exact h) ?_
  go_wp2_with (refine aO 133 (.tmp 7) (.tmp 12) rfl ?_;refine aF hE0 (bH r x) rfl mG (tX _ _) rfl (.tmp 7) (.tmp 12) rfl rfl rfl ?_)
  exact FIN.out _ _ _ _ _ _ _ _ _ _ _ _ _ _ _ _ _ _
 case body=>
  rintro lp X Y pre x a' W hi ht ⟨Be,v0,v1,v2,v3,v4,v6,v8,v9,v10,v11,v12,v13,v14,v15,v16,v17,v18,v19,rfl,Ry,hE⟩ hlt Au hWs
  obtain ⟨L,AL,cL,hV,iL,hLl,hLg,hLk⟩:=hi.a
  have hle:l[pre.length]=x.e:=by have:=ht.e;rw [List.getElem?_eq_getElem hlt] at this;exact Option.some.inj this
  have hst:x.t=lQ r l (pre.length+1):=by rw [vF r l _ hlt,ht.t,ht.s,hle]
  have hLn:L.length≤1000:=by have:=JH.out;omega
  have h28:W.rangeAt Be 28 [.int .i64 x.t.turn,.bool x.t.brk,.bool x.t.hand,.bool x.t.push,.bool x.t.pushed,.int .i64 x.t.group,.slice x.A' x.t.ay.length x.c',.int .i64 x.t.s0,.int .i64 x.t.s1,.int .i64 x.t.f0,.int .i64 x.t.f1,.int .i64 x.t.run,.int .i64 x.t.aZ,.bool x.t.over,.int .i64 x.t.bC]:=fun j v hj=>by
   have h1:=hE.cell (Gx r x.i x.e x.s x.t x.A x.A' x.c x.c' x.rule (3+j) v (Jz r x.t x.A' x.c' j v hj));rw [show 28+j=25+(3+j) by omega];exact h1
  have hsz:=hi.sz;have hbw:=hi.bw;have hsep:=hi.sep;have c9:=hV.cell (j:=0) rfl;have f9:=hV.frozen 0;obtain ⟨i0,hi0,hz0,hz1,hz2⟩:=info_parts ajX;have HF:=hide (fun (w5:World) (g1 cap:Nat) h1 h2 h3 h4=>RTs.fin (Ix:=fun _ _ _ _=>False) (a:={tmps:= #[],defers:=[] }) (K:=fun b=>b=wc.heap.size∨b=wc.heap.size+1∨(S b∧b<w.heap.size)) (x:=x) (pre:=pre) (w5:=w5) (g1:=g1) (cap:=cap) (w:=w) (B:=w.heap.size+1) (by omega) (by omega) hWs hbw hsep Au (by rintro b (h | h | ⟨_,h⟩) <;> constructor <;> omega) iL h1 h2 h3 h4 hLl hLg hst ht.b ht.xy hLk);have HV:=hide hV;have HX:=hide Au;have hown:=iL.own;have NQ:=hide iL;clear hLg hLk hLl hst hle hi ht Au hsep iL hV;apply wpIn_block;refine aS (by kernel_rfl) (by rintro ⟨_,_,h⟩;exact h) ?_
  go_wp2_with (first | (refine aN 33 (.tmp 15) rfl ?_;refine jh (g:=Be) (o:=28) h28 Tryz.underlying33 rfl bW rfl (.tmp 15) rfl rfl ?_) | (at_builtin;refine wpList_append_lies _ rfl _ _ _ rfl (w3.heap.size) 33 i0 (.agg aj.toArray) 15 112 Tryz.underlying178 hi0 hz0 hz1 hz2 rfl (by omega) _ _ _ rfl (hown.alloc _) ⟨W.heap.size,0,none⟩ 1 1 [.int .i64 x.t.turn,.bool x.t.brk,.bool x.t.hand,.bool x.t.push,.bool x.t.pushed,.int .i64 x.t.group,.slice x.A' x.t.ay.length x.c',.int .i64 x.t.s0,.int .i64 x.t.s1,.int .i64 x.t.f0,.int .i64 x.t.f1,.int .i64 x.t.run,.int .i64 x.t.aZ,.bool x.t.over,.int .i64 x.t.bC] rfl rfl (dK _ _ _ _ rfl) ?c1 (by omega) ?c2 ?c3 ?c4 (W.heap.size+1) (by simp) ?_))
  case c1=>exact dL x.t x.A' x.c'
  case c2=>simp only [maxLen];omega
  case c3=>omega
  case c4=>simp;omega
  intro g1 cap w4 hown4 hgrow hat hlt4;obtain ⟨xu,PY,P7,PX⟩:=yQ HV.out (by omega) NQ.out (fun b h=>(HX.out b h).2) hWs hgrow hown4 hat rfl;have c4:=xu.cell (j:=0) rfl;have f4:=xu.frozen 0;have FIN:=hide (HF.out _ _ _ PY P7 PX (hat.imp id (fun h=>by omega)));clear PY P7 PX hgrow hown4 c9 f9 xu hat;go_wp2;exact FIN.out
 case done=>
  intro D X Y xs W hD hS hi hdef;obtain ⟨L,AL,cL,hV,iL,hLl,hLg,hLk⟩:=hi.a;have hbw:=hi.bw;have hWs:=hi.sz;have c9:=hV.cell (j:=0) rfl;have Dv:=hide hdef
  have hLn:L.length≤1000:=by have:=JH.out;omega
  have fin:∀ (a:Act),a.defers=[{target:= .collected D,args:= #[] }]→a.tmps.getD 4 undef= .slice AL L.length cL→Q' .ret a W:=by
   intro a e1 e4;rw [← HQ.out];refine uf e1 Dv.out (results_tmp rfl _ _ _) ⟨L,AL,cL,by rw [e4],by omega,hLg,⟨?_,fun y hy=>?_⟩,jY hbw (by omega) _⟩
   · exact Reads.kG (iL.putObj Dv.out rfl _).own (fun g hg=>by omega) (by omega)
   · exact ((hLk y hy).putObj Dv.out rfl _).out.more (fun b _ h=>by omega)
  have FIN:=hide fin;clear fin hi hdef iL hV hLk hLg hLl hS;refine RI _ _ ?_
  dsimp only
  refine uY ?_;go_wp2;exact FIN.out _ rfl rfl
theorem amV (a0 a1 a2 a3 a4 b0 b1 b2 b3 b4:Bool) (w:World):(Op.equalIn 10000 206 (.agg #[.bool a0,.bool a1,.bool a2,.bool a3,.bool a4]) (.agg #[.bool b0,.bool b1,.bool b2,.bool b3,.bool b4])).run Tryz.prog w= .ok ((a0 == b0) && ((a1 == b1) && ((a2 == b2) && ((a3 == b3) && (a4 == b4))))) w:=by
 obtain ⟨i,hi⟩:∃ i,Tryz.prog.info? 4=some i:=⟨_,rfl⟩
 have hu:Tryz.prog.underlying 206=some (.array 5 4):=by kernel_rfl
 have hui:Tryz.prog.underlying 4=some .bool:=by kernel_rfl
 have hc:Tryz.prog.cellsOf 4=1:=by kernel_rfl
 have h5:List.range 5=[0,1,2,3,4]:=rfl
 have p0:∀ (v0 v1 v2 v3 v4:Value) (w:World),(part 4 #[v0,v1,v2,v3,v4] (0*1)).run Tryz.prog w= .ok v0 w:=fun _ _ _ _ _ w=>by kernel_rfl
 have p1:∀ (v0 v1 v2 v3 v4:Value) (w:World),(part 4 #[v0,v1,v2,v3,v4] (1*1)).run Tryz.prog w= .ok v1 w:=fun _ _ _ _ _ w=>by kernel_rfl
 have p2:∀ (v0 v1 v2 v3 v4:Value) (w:World),(part 4 #[v0,v1,v2,v3,v4] (2*1)).run Tryz.prog w= .ok v2 w:=fun _ _ _ _ _ w=>by kernel_rfl
 have p3:∀ (v0 v1 v2 v3 v4:Value) (w:World),(part 4 #[v0,v1,v2,v3,v4] (3*1)).run Tryz.prog w= .ok v3 w:=fun _ _ _ _ _ w=>by kernel_rfl
 have p4:∀ (v0 v1 v2 v3 v4:Value) (w:World),(part 4 #[v0,v1,v2,v3,v4] (4*1)).run Tryz.prog w= .ok v4 w:=fun _ _ _ _ _ w=>by kernel_rfl
 have q:∀ (a b:Bool) (w:World),(Op.equalIn 9999 4 (.bool a) (.bool b)).run Tryz.prog w= .ok (a == b) w:=fun a b w=>run_equalIn_bool' w 9998 _ _ _ hui;rw [show (10000:Nat)=9999+1 from rfl,run_equalIn_array w 9999 _ _ hu hi,h5,hc]
 unfold Op.eqItems Op.eqItems Op.eqItems Op.eqItems Op.eqItems Op.eqItems
 simp only [Sem.run_bind,p0,p1,p2,p3,p4,q,Result.andThen_ok]
 cases h0:(a0 == b0) <;> cases h1:(a1 == b1) <;> cases h2:(a2 == b2) <;> cases h3:(a3 == b3) <;> cases h4:(a4 == b4) <;> simp [q,p1,p2,p3,p4,h1,h2,h3,h4]
theorem aqb (a0 a1 a2 a3 a4 b0 b1 b2 b3 b4:Int) (w:World):(Op.equalIn 10000 208 (.agg #[.int .i64 a0,.int .i64 a1,.int .i64 a2,.int .i64 a3,.int .i64 a4]) (.agg #[.int .i64 b0,.int .i64 b1,.int .i64 b2,.int .i64 b3,.int .i64 b4])).run Tryz.prog w= .ok ((a0 == b0) && ((a1 == b1) && ((a2 == b2) && ((a3 == b3) && (a4 == b4))))) w:=by
 obtain ⟨i,hi⟩:∃ i,Tryz.prog.info? 3=some i:=⟨_,rfl⟩
 have hu:Tryz.prog.underlying 208=some (.array 5 3):=by kernel_rfl
 have hui:Tryz.prog.underlying 3=some (.int .i64):=by kernel_rfl
 have hc:Tryz.prog.cellsOf 3=1:=by kernel_rfl
 have h5:List.range 5=[0,1,2,3,4]:=rfl
 have p0:∀ (v0 v1 v2 v3 v4:Value) (w:World),(part 3 #[v0,v1,v2,v3,v4] (0*1)).run Tryz.prog w= .ok v0 w:=fun _ _ _ _ _ w=>by kernel_rfl
 have p1:∀ (v0 v1 v2 v3 v4:Value) (w:World),(part 3 #[v0,v1,v2,v3,v4] (1*1)).run Tryz.prog w= .ok v1 w:=fun _ _ _ _ _ w=>by kernel_rfl
 have p2:∀ (v0 v1 v2 v3 v4:Value) (w:World),(part 3 #[v0,v1,v2,v3,v4] (2*1)).run Tryz.prog w= .ok v2 w:=fun _ _ _ _ _ w=>by kernel_rfl
 have p3:∀ (v0 v1 v2 v3 v4:Value) (w:World),(part 3 #[v0,v1,v2,v3,v4] (3*1)).run Tryz.prog w= .ok v3 w:=fun _ _ _ _ _ w=>by kernel_rfl
 have p4:∀ (v0 v1 v2 v3 v4:Value) (w:World),(part 3 #[v0,v1,v2,v3,v4] (4*1)).run Tryz.prog w= .ok v4 w:=fun _ _ _ _ _ w=>by kernel_rfl
 have q:∀ (a b:Int) (w:World),(Op.equalIn 9999 3 (.int .i64 a) (.int .i64 b)).run Tryz.prog w= .ok (a == b) w:=fun a b w=>run_equalIn_int w 9998 _ _ _ a b hui;rw [show (10000:Nat)=9999+1 from rfl,run_equalIn_array w 9999 _ _ hu hi,h5,hc]
 unfold Op.eqItems Op.eqItems Op.eqItems Op.eqItems Op.eqItems Op.eqItems
 simp only [Sem.run_bind,p0,p1,p2,p3,p4,q,Result.andThen_ok]
 cases h0:(a0 == b0) <;> cases h1:(a1 == b1) <;> cases h2:(a2 == b2) <;> cases h3:(a3 == b3) <;> cases h4:(a4 == b4) <;> simp [q,p1,p2,p3,p4,h1,h2,h3,h4]
theorem am9:Tryz.prog.eqGuardType Tryz.prog.depth 206=false:=by kernel_rfl
theorem anh:Tryz.prog.eqGuardType Tryz.prog.depth 208=false:=by kernel_rfl
theorem aoz:(Tryz.prog.info? 206).map (·.size)=some 5:=by kernel_rfl
theorem aoU:(Tryz.prog.info? 208).map (·.size)=some 5:=by kernel_rfl
def ac2 (x:M.State):List Value:=[.bool x.brk,.bool x.hand,.bool x.push,.bool x.pushed,.bool x.over]
def ahY (x:M.State):List Value:=[.int .i64 x.turn,.int .i64 x.group,.int .i64 x.run,.int .i64 x.aZ,.int .i64 x.bC]
theorem Zu (x:M.State) (A:Option Addr) (c:Nat) (w:World):Calls Tryz.prog 148 #[wF x A c] w fun e w'=>e= .returned (.agg (ac2 x).toArray)∧Below w.heap.size w w':=by
 go_enter Tryz.func148,Tryz.ntmps148
 have hB:=((bU.nil w).new (by simp) (aW x A c) 33).new (by simp) [.bool false,.bool false,.bool false,.bool false,.bool false] 206;have hS:=hB.bf rfl;have k0:=hS.cell (j:=0) rfl;have k1:=hS.cell (j:=1) rfl;have k2:=hS.cell (j:=2) rfl;have k3:=hS.cell (j:=3) rfl;have k4:=hS.cell (j:=4) rfl;have k5:=hS.cell (j:=5) rfl;have k6:=hS.cell (j:=6) rfl;have k7:=hS.cell (j:=7) rfl;have k8:=hS.cell (j:=8) rfl;have k9:=hS.cell (j:=9) rfl;have k10:=hS.cell (j:=10) rfl;have k11:=hS.cell (j:=11) rfl;have k12:=hS.cell (j:=12) rfl;have k13:=hS.cell (j:=13) rfl;have k14:=hS.cell (j:=14) rfl
 go_wp2_with (refine aO 206 (.tmp 2) (.tmp 13) rfl ?_;refine aF (hB.get 1 rfl) (ac2 x) rfl aoz (by simp [ac2,Value.oneCell']) rfl (.tmp 2) (.tmp 13) rfl rfl rfl ?_)
 exact bodyPost_ret (bP (p:=2) ((hB.put 1 rfl (ac2 x) rfl).get 1 rfl) Tryz.underlying206 rfl aoz rfl _ rfl) rfl ⟨rfl,(hB.put 1 rfl (ac2 x) rfl).bw⟩
theorem Zz (x:M.State) (A:Option Addr) (c:Nat) (w:World):Calls Tryz.prog 149 #[wF x A c] w fun e w'=>e= .returned (.agg (ahY x).toArray)∧Below w.heap.size w w':=by
 go_enter Tryz.func149,Tryz.ntmps149
 have hB:=((bU.nil w).new (by simp) (aW x A c) 33).new (by simp) [.int .i64 0,.int .i64 0,.int .i64 0,.int .i64 0,.int .i64 0] 208;have hS:=hB.bf rfl;have k0:=hS.cell (j:=0) rfl;have k1:=hS.cell (j:=1) rfl;have k2:=hS.cell (j:=2) rfl;have k3:=hS.cell (j:=3) rfl;have k4:=hS.cell (j:=4) rfl;have k5:=hS.cell (j:=5) rfl;have k6:=hS.cell (j:=6) rfl;have k7:=hS.cell (j:=7) rfl;have k8:=hS.cell (j:=8) rfl;have k9:=hS.cell (j:=9) rfl;have k10:=hS.cell (j:=10) rfl;have k11:=hS.cell (j:=11) rfl;have k12:=hS.cell (j:=12) rfl;have k13:=hS.cell (j:=13) rfl;have k14:=hS.cell (j:=14) rfl
 go_wp2_with (refine aO 208 (.tmp 2) (.tmp 13) rfl ?_;refine aF (hB.get 1 rfl) (ahY x) rfl aoU (by simp [ahY,Value.oneCell']) rfl (.tmp 2) (.tmp 13) rfl rfl rfl ?_)
 exact bodyPost_ret (bP (p:=2) ((hB.put 1 rfl (ahY x) rfl).get 1 rfl) Tryz.underlying208 rfl aoU rfl _ rfl) rfl ⟨rfl,(hB.put 1 rfl (ahY x) rfl).bw⟩
def ahi (x y:M.State):Bool:=(x.brk == y.brk) && ((x.hand == y.hand) && ((x.push == y.push) && ((x.pushed == y.pushed) && ((x.over == y.over)))))
def alR (x y:M.State):Bool:=(x.turn == y.turn) && ((x.group == y.group) && ((x.run == y.run) && ((x.aZ == y.aZ) && ((x.bC == y.bC)))))
theorem afp (S S':Nat→Prop) (x y:M.State) (A B:Option Addr) (c d:Nat) (w:World) (hp:bD w S A c x.ay) (hq:bD w S' B d y.ay):
 Calls Tryz.prog 108 #[wF x A c,wF y B d] w fun e w'=>e= .returned (.bool (x.eq y))∧Below w.heap.size w w':=by
 obtain ⟨b1,b2,b3⟩:=hp.bd;obtain ⟨c1,c2,c3⟩:=hq.bd
 have heq:∀ W,Below w.heap.size w W→Calls Tryz.prog 147 #[.slice A x.ay.length c,.slice B y.ay.length d] W fun e w'=>e= .returned (.bool (decide (x.ay=y.ay)))∧∃ n,w'=W.drewN n:=
  fun W hW=>EZ (fun _=>True) A B c d x.ay y.ay W (Reads.more (Reads.below hp hW) (fun _ _ _=>trivial)) (Reads.more (Reads.below hq hW) (fun _ _ _=>trivial))
 obtain ⟨R,hR⟩:∃ R,x.eq y=R:=⟨_,rfl⟩;rw [hR];have HR:=hide hR;clear hR;have zC:=ZV
 go_enter Tryz.func108,Tryz.ntmps108
 have hB:=((bU.nil w).new (by simp) (aW x A c) 33).new (by simp) (aW y B d) 33;have hX:=hB.bf rfl;have hY:=hB.get 1 rfl;have k6:=hX.cell (j:=6) rfl;have k7:=hX.cell (j:=7) rfl;have k8:=hX.cell (j:=8) rfl;have k9:=hX.cell (j:=9) rfl;have k10:=hX.cell (j:=10) rfl;have m6:=hY.cell (j:=6) rfl;have m7:=hY.cell (j:=7) rfl;have m8:=hY.cell (j:=8) rfl;have m9:=hY.cell (j:=9) rfl;have m10:=hY.cell (j:=10) rfl
 by_cases h1:x.ay=y.ay
 rotate_left
 · rw [decide_eq_false h1] at heq
   have HEQ:=hide heq;obtain rfl:R=false:=HR.out.symm.trans (Zh (fun e=>h1 (by rw [e])));clear heq h1
   go_wp2_with (first | (go_at_call 147;refine (HEQ.out _ hB.bw).mono ?_;rintro e w9 ⟨rfl,n,rfl⟩))
   all_goals go_ret
   all_goals exact ⟨rfl,below_drewN hB.bw _⟩
 rw [decide_eq_true h1] at heq;have HEQ:=hide heq;clear heq
 by_cases h2:x.s0=y.s0∧x.s1=y.s1
 rotate_left
 · have hsc:∀ w,(Op.equalIn 10000 31 (.agg #[.int .i64 x.s0,.int .i64 x.s1]) (.agg #[.int .i64 y.s0,.int .i64 y.s1])).run Tryz.prog w= .ok false w:=fun w=>by
    rw [ZW]
    have:((x.s0 == y.s0) && (x.s1 == y.s1))=false:=by rw [Bool.eq_false_iff];intro hb;simp at hb;exact h2 hb
    rw [this]
   obtain rfl:R=false:=HR.out.symm.trans (Zh (fun e=>h2 (by rw [e];exact ⟨rfl,rfl⟩)));clear h1 h2
   go_wp2_with (first | (go_at_call 147;refine (HEQ.out _ hB.bw).mono ?_;rintro e w9 ⟨rfl,n,rfl⟩))
   all_goals go_ret
   all_goals exact ⟨rfl,below_drewN hB.bw _⟩
 have hsc:∀ w,(Op.equalIn 10000 31 (.agg #[.int .i64 x.s0,.int .i64 x.s1]) (.agg #[.int .i64 y.s0,.int .i64 y.s1])).run Tryz.prog w= .ok true w:=fun w=>by rw [ZW,h2.1,h2.2];simp
 by_cases h3:x.f0=y.f0∧x.f1=y.f1
 rotate_left
 · have hsf:∀ w,(Op.equalIn 10000 31 (.agg #[.int .i64 x.f0,.int .i64 x.f1]) (.agg #[.int .i64 y.f0,.int .i64 y.f1])).run Tryz.prog w= .ok false w:=fun w=>by
    rw [ZW]
    have:((x.f0 == y.f0) && (x.f1 == y.f1))=false:=by rw [Bool.eq_false_iff];intro hb;simp at hb;exact h3 hb
    rw [this]
   obtain rfl:R=false:=HR.out.symm.trans (Zh (fun e=>h3 (by rw [e];exact ⟨rfl,rfl⟩)));clear h1 h2 h3
   go_wp2_with (first | (go_at_call 147;refine (HEQ.out _ hB.bw).mono ?_;rintro e w9 ⟨rfl,n,rfl⟩))
   all_goals go_ret
   all_goals exact ⟨rfl,below_drewN hB.bw _⟩
 have hsf:∀ w,(Op.equalIn 10000 31 (.agg #[.int .i64 x.f0,.int .i64 x.f1]) (.agg #[.int .i64 y.f0,.int .i64 y.f1])).run Tryz.prog w= .ok true w:=fun w=>by rw [ZW,h3.1,h3.2];simp
 have hg5:=am9;have hi5:=anh;have hfl:∀ (w:World),(Op.equalIn 10000 206 (.agg (ac2 x).toArray) (.agg (ac2 y).toArray)).run Tryz.prog w= .ok (ahi x y) w:=fun w=>amV _ _ _ _ _ _ _ _ _ _ w;have hnu:∀ (w:World),(Op.equalIn 10000 208 (.agg (ahY x).toArray) (.agg (ahY y).toArray)).run Tryz.prog w= .ok (alR x y) w:=fun w=>aqb _ _ _ _ _ _ _ _ _ _ w
 have hall:x.eq y=(ahi x y && alR x y):=by
  rw [Bool.eq_iff_iff,M.State.eq_iff]
  constructor
  · rintro rfl;simp [ahi,alR]
  · intro h
    simp only [ahi,alR,Bool.and_eq_true,beq_iff_eq] at h
    cases x;cases y
    simp only at h h1 h2 h3
    simp_all
 clear h1 h2 h3
 go_upto_region 3 with (first | (go_at_call 147;refine (HEQ.out _ hB.bw).mono ?_;rintro e w9 ⟨rfl,n,rfl⟩))
 refine adr (p:=fun W=>Code.wp _ _ _ _ W) (fun wb hwb=>?_)
 have hBb:bU w wb [(aW x A c,33),(aW y B d,33)]:=by rw [hwb];exact hB.drewN _
 have hrx:∀ W',(fun w':World=>Below wb.heap.size wb w') W'→W'.rangeAt w.heap.size 0 (aW x A c):=fun W' h=>((hBb.bf rfl).below h).range;have hry:∀ W',(fun w':World=>Below wb.heap.size wb w') W'→W'.rangeAt (w.heap.size+1) 0 (aW y B d):=fun W' h=>((hBb.get 1 rfl).below h).range;clear hwb hB hX hY k6 k7 k8 k9 k10 m6 m7 m8 m9 m10;have agv:True:=trivial;have agC:True:=trivial;obtain ⟨n,hn⟩:∃ n,alR x y=n:=⟨_,rfl⟩;rw [hn] at hnu hall
 cases hf:ahi x y with
 | false=>
   rw [hf] at hfl hall;obtain rfl:R=false:=HR.out.symm.trans hall;clear hall hf hnu hn;refine wp_region_held_drew (S:=(fun w':World=>Below wb.heap.size wb w')) (by kernel_rfl) ?eP (fun hHeld=>?_)
   case eP=>exact (Below.refl _ _).drew
   refine Zf 0 hrx Tryz.underlying33 ?_;refine Zf 2 hry Tryz.underlying33 ?_;refine tr 1 fun K hK=>?_;go_simp
   (first | (go_at_call 148;(first | (have _t:=agv;clear agv;refine (Zu x A c _).mono ?_) | refine (Zu y B d _).mono ?_);rintro e w6 ⟨rfl,hb6⟩) | (go_at_call 149;(first | (have _t:=agC;clear agC;refine (Zz x A c _).mono ?_) | refine (Zz y B d _).mono ?_);rintro e w6 ⟨rfl,hb6⟩))
   refine Zd hK (hHeld.trans (hb6.mono hHeld.size)) fun hHeld=>?_;clear hK K;refine tr 3 fun K hK=>?_;go_simp
   (first | (go_at_call 148;(first | (have _t:=agv;clear agv;refine (Zu x A c _).mono ?_) | refine (Zu y B d _).mono ?_);rintro e w6 ⟨rfl,hb6⟩) | (go_at_call 149;(first | (have _t:=agC;clear agC;refine (Zz x A c _).mono ?_) | refine (Zz y B d _).mono ?_);rintro e w6 ⟨rfl,hb6⟩))
   refine Zd hK (hHeld.trans (hb6.mono hHeld.size)) fun hHeld=>?_;clear hK K;refine tk 4 ?_;refine tk 5 ?_;refine tu 6 ?_;refine tu 7 ?_;refine tu 8 ?_;refine tu 9 ?_;refine tu 10 ?_;refine tk 11 ?_;refine tk 12 ?_;refine wpAnyH_done (by kernel_rfl) ?_ _;go_wp2;go_ret;exact ⟨rfl,hBb.bw.trans (hHeld.mono (hBb.bw.size))⟩
 | true=>
   rw [hf] at hfl hall;obtain rfl:R=n:=HR.out.symm.trans hall;clear hall hf hn;refine wp_region_held_drew (S:=(fun w':World=>Below wb.heap.size wb w')) (by kernel_rfl) ?jw (fun hHeld=>?_)
   case jw=>exact (Below.refl _ _).drew
   refine Zf 0 hrx Tryz.underlying33 ?_;refine Zf 2 hry Tryz.underlying33 ?_;refine tr 1 fun K hK=>?_;go_simp
   (first | (go_at_call 148;(first | (have _t:=agv;clear agv;refine (Zu x A c _).mono ?_) | refine (Zu y B d _).mono ?_);rintro e w6 ⟨rfl,hb6⟩) | (go_at_call 149;(first | (have _t:=agC;clear agC;refine (Zz x A c _).mono ?_) | refine (Zz y B d _).mono ?_);rintro e w6 ⟨rfl,hb6⟩))
   refine Zd hK (hHeld.trans (hb6.mono hHeld.size)) fun hHeld=>?_;clear hK K;refine tr 3 fun K hK=>?_;go_simp
   (first | (go_at_call 148;(first | (have _t:=agv;clear agv;refine (Zu x A c _).mono ?_) | refine (Zu y B d _).mono ?_);rintro e w6 ⟨rfl,hb6⟩) | (go_at_call 149;(first | (have _t:=agC;clear agC;refine (Zz x A c _).mono ?_) | refine (Zz y B d _).mono ?_);rintro e w6 ⟨rfl,hb6⟩))
   refine Zd hK (hHeld.trans (hb6.mono hHeld.size)) fun hHeld=>?_;clear hK K;refine tk 4 ?_;refine tk 5 ?_;refine Zf 6 hrx Tryz.underlying33 ?_;refine Zf 8 hry Tryz.underlying33 ?_;refine tr 7 fun K hK=>?_;go_simp
   (first | (go_at_call 148;(first | (have _t:=agv;clear agv;refine (Zu x A c _).mono ?_) | refine (Zu y B d _).mono ?_);rintro e w6 ⟨rfl,hb6⟩) | (go_at_call 149;(first | (have _t:=agC;clear agC;refine (Zz x A c _).mono ?_) | refine (Zz y B d _).mono ?_);rintro e w6 ⟨rfl,hb6⟩))
   refine Zd hK (hHeld.trans (hb6.mono hHeld.size)) fun hHeld=>?_;clear hK K;refine tr 9 fun K hK=>?_;go_simp
   (first | (go_at_call 148;(first | (have _t:=agv;clear agv;refine (Zu x A c _).mono ?_) | refine (Zu y B d _).mono ?_);rintro e w6 ⟨rfl,hb6⟩) | (go_at_call 149;(first | (have _t:=agC;clear agC;refine (Zz x A c _).mono ?_) | refine (Zz y B d _).mono ?_);rintro e w6 ⟨rfl,hb6⟩))
   refine Zd hK (hHeld.trans (hb6.mono hHeld.size)) fun hHeld=>?_;clear hK K;refine tk 10 ?_;refine tk 11 ?_;refine tk 12 ?_;refine wpAnyH_done (by kernel_rfl) ?_ _;go_wp2;go_ret;exact ⟨rfl,hBb.bw.trans (hHeld.mono (hBb.bw.size))⟩
end Go.Proofs.YtelpepbpdojikaaGreatDoor
