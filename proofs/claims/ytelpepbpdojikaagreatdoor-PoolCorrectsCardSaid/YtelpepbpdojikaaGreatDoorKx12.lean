/- Parts of a proof. -/
import Derived.Test.YtelpepbpdojikaaGreatDoorKg24
import Derived.Test.YtelpepbpdojikaaGreatDoorKx11
import Derived.Test.YtelpepbpdojikaaGreatDoorKx9
set_option maxHeartbeats 8000000
set_option maxRecDepth 100000
set_option linter.unusedVariables false
set_option linter.unusedSimpArgs false
namespace Go.Proofs.YtelpepbpdojikaaGreatDoor
open Go.RowKit
theorem akG (S:Nat→Prop) (A:Option Addr) (c:Nat) (zs:List Int) (w:World) (h:bD w S A c zs):
 Calls Tryz.prog 45 #[.slice A zs.length c] w fun r w'=>r= .returned (.int .i64 (aU zs))∧w=w':=by
 obtain ⟨b1,b2,b3⟩:=h.bd
 go_enter Tryz.func45,Tryz.ntmps45
 go_wp2
 go_loop [7] (fun i=>∃ k:Nat,k≤zs.length∧i= .int .i64 k∧aU zs=aU (zs.drop k)) (fun i=>zs.length - (intOf i).toNat)
 case atStart=>exact ⟨0,Nat.zero_le _,rfl,by simp⟩
 case round=>
  obtain ⟨k,hk,rfl,hx⟩:=hrel
  by_cases hlt:k<zs.length
  · obtain ⟨b,o,rfl,_,_,hc⟩:=h.at_ k hlt
    have hck:=hc k hlt;rw [Cj hlt] at hx;clear hc
    by_cases he:zs[k]=0
    · have he':(zs[k] != 0)=false:=by simp [he]
      rw [if_neg (by simp [he])] at hx;have HX:=hide hx;clear hx he;go_wp2
      go_round
      case rel=>exact ⟨k+1,by omega,by go_num,HX.out⟩
      case measure=>simp [intOf];omega
    · have he':(zs[k] != 0)=true:=by simp [he]
      rw [if_pos he] at hx;have HX:=hide hx;clear hx he;go_wp2;go_ret;exact ⟨dG HX.out.symm,rfl⟩
  · have hz:aU zs=0:=by rw [hx,List.drop_of_length_le (by omega),aU]
    have HX:=hide hz;clear hx hz;go_wp2;go_ret;exact ⟨dG HX.out.symm,rfl⟩
theorem ah5 (S:Nat→Prop) (r:M.Rules) (l:List Sh) (A:Option Addr) (c:Nat) (w:World) (hp:wG w S A c l):
 Calls Tryz.prog 20 #[jM r,.slice A l.length c] w fun e w'=>e= .returned (.int .i64 (aU [M.aH r,M.je (plain l)]))∧Below w.heap.size w w':=by
 obtain ⟨b1,b2,b3⟩:=hp.bd;obtain ⟨g,tg,fo⟩:=r;have K0:=Keeps.FT w (.cells #[.string g,.int .i64 tg,.int .i64 fo] 25)
 go_enter Tryz.func20,Tryz.ntmps20
 go_wp2_with (first | (go_at_call 37;refine (aiu ⟨g,tg,fo⟩ _).mono ?_;rintro e w1 ⟨rfl,hb1⟩;have K1:=K0.call hb1) | (go_at_call 41;refine (aeJ S l A c _ (hp.below K1.bw)).mono ?_;rintro e w2 ⟨rfl,hb2⟩;have K2:=K1.call hb2) | (go_at_call 45;refine (akG (fun _=>True) _ _ [M.aH ⟨g,tg,fo⟩,M.je (plain l)] _ (bD.lit _ _ [M.aH ⟨g,tg,fo⟩,M.je (plain l)] (by simp) _ trivial)).mono ?_;rintro e dO ⟨rfl,rfl⟩))
 go_ret;exact ⟨rfl,(K2.alloc _).bw⟩
theorem anT:(Tryz.prog.info? 69).map (fun i=>(i.zero,i.size,i.bytes))=some (some (.agg #[.int .i64 0,.string ⟨#[]⟩,.int .i64 0,.int .i64 0,.int .i64 0,.bool false,.slice none 0 0]),7,80):=by kernel_rfl
theorem Zy (S:Nat→Prop) (l:List Sh) (A:Option Addr) (c:Nat) (w:World) (hp:wG w S A c l) (hl:l.length*80≤140737488355328) (hpl:∀ e∈l,e.x.aA.length*16≤140737488355328):
 Calls Tryz.prog 15 #[.slice A l.length c] w fun e w'=>∃ l' A' c',plain l'=plain l∧e= .returned (.slice A' l'.length c')∧wG w' (fun b=>w.heap.size≤b) A' c' l'∧Below w.heap.size w w':=by
 obtain ⟨b1,b2,b3⟩:=hp.bd;obtain ⟨i0,hi0,hz0,hz1,hz2⟩:=info_parts anT
 go_enter Tryz.func15,Tryz.ntmps15
 go_wp2
 go_loopw [3,8] (fun v i wr=>∃ (k:Nat) (l':List Sh) (A':Option Addr) (c':Nat),k≤l.length∧i= .int .i64 k∧v= .slice A' l'.length c'∧l'.length=k∧Aside (plain l'=plain (l.take k))∧jR 69 w.heap.size l' A' c' wr∧Below w.heap.size w wr) (fun _ i=>fun _=>l.length - (intOf i).toNat)
 case atStart=>exact ⟨0,[],none,0,Nat.zero_le _,rfl,rfl,rfl,rfl,jR.nil _ _ _,Below.refl _ _⟩
 case round=>
  obtain ⟨k,l',A',c',hk,rfl,rfl,hlk,hpk,st,hbw⟩:=hrel;have VQ:=hide hpk;have DX:=hbw.size
  by_cases hlt:k<l.length
  · obtain ⟨b,o,rfl,_,hbl,hcs⟩:=Reads.at_ (hp.below hbw).1 (by omega)
    have h00:wr.rangeAt b (o+k*7) (au l[k]):=fun j v hj=>by
     have hj7:j<7:=(List.getElem?_eq_some_iff.1 hj).1;rw [Nat.add_assoc];exact hcs _ _ ((jI l k hlt j hj7).trans hj)
    have hpo:=(hp.below hbw).aA k hlt;have aHK:=hpl _ (List.getElem_mem hlt)
    have i1:(0:Int)≤(k:Int):=by omega
    have i2:(k:Int)<(l.length:Int):=by omega
    have hl1:l'.length<l.length:=by omega
    have WU:=hide hlk;clear hlk;have hbx:=Held.new wr JB 66
    go_upto_region 5 with (first | (refine aN 66 (.tmp 10) rfl ?_;refine jh (g:=b) (o:=o+k*7) h00 Tryz.underlying66 rfl aV rfl (.tmp 10) rfl rfl ?_) | (refine aO 66 (.tmp 5) (.tmp 11) rfl ?_;refine aF hbx (au l[k]) rfl aV (uq _ _ _) rfl (.tmp 5) (.tmp 11) rfl rfl rfl ?_))
    obtain ⟨W2,hW2⟩:∃ W2,(wr.alloc (.cells #[.int .i64 0,.string ⟨#[]⟩,.int .i64 0,.int .i64 0,.int .i64 0,.bool false,.slice none 0 0] 66)).setCells wr.heap.size 0 (au l[k])=W2:=⟨_,rfl⟩
    have hbb:Below wr.heap.size wr W2:=by rw [← hW2];exact below_setCells _ (Nat.le_refl _) _ _ _ _ ((Below.refl _ _).alloc (Nat.le_refl _) _)
    have hby:Held W2 wr.heap.size (au l[k]) 66:=by rw [← hW2];exact hbx.whole (au l[k]) rfl
    rw [hW2];have hown:=Zo S l[k].x l[k].a l[k].c W2 (Reads.below hpo hbb) aHK;have hst2:=st.below hbb;have HOWN:=hide hown;have hzz:=hbb.size;clear hcs hown hW2 hbx h00
    go_wp2_with (first | (refine aN 66 (.tmp 5) rfl ?_;refine aG hby Tryz.underlying66 rfl aV rfl (.tmp 5) rfl rfl ?_) | (go_at_call 26;refine HOWN.out.mono ?_;rintro e w3 ⟨A3,c3,rfl,hr3,hb3⟩) | (at_builtin;refine wpList_append_lies _ rfl _ _ _ rfl w.heap.size 69 i0 (.agg #[.int .i64 0,.string ⟨#[]⟩,.int .i64 0,.int .i64 0,.int .i64 0,.bool false,.slice none 0 0]) 7 80 Tryz.underlying26 hi0 hz0 hz1 hz2 rfl (by omega) _ _ _ rfl ((hst2.below hb3).own.alloc _) ⟨w3.heap.size,0,none⟩ 1 1 (au ⟨l[k].x,A3,c3⟩) rfl rfl (dK _ _ _ _ (by simp)) (uq _ _ _) (by omega) (by simp only [maxLen];omega) (by omega) (by have:=hb3.size;simp;omega) (w3.heap.size+1) (by simp) ?_))
    intro g1 cap w4 hown4 hgrow hat _;have SE:=hst2.append (x:=⟨l[k].x,A3,c3⟩) hb3 (by omega) hr3 hgrow hown4 hat;have hb4:Below w.heap.size w w4:=(((hbw.trans (hbb.mono DX)).trans (hb3.mono (by omega))).alloc (by have:=hb3.size;omega) _).trans (dX ((hst2.below hb3).own.alloc _) hgrow (by omega) (by have:=hb3.size;simp;omega));have HST:=hide SE;clear SE hgrow hown4;go_wp2
    go_roundw
    case rel=>exact ⟨k+1,l'++[⟨l[k].x,A3,c3⟩],some ⟨g1,0,none⟩,cap,by omega,by go_num,by simp,by simp [WU.out],by rw [List.take_succ_eq_append_getElem hlt];show plain _=plain _;unfold plain at*;rw [List.map_append,List.map_append,VQ.out];rfl,HST.out,hb4⟩
    case measure=>simp [intOf] <;> omega
  · have hke:k=l.length:=by omega
    have hrd:=st.read (by omega)
    have hpk':plain l'=plain l:=by rw [VQ.out,hke,List.take_length]
    have HP:=hide hpk';clear hlk hke hpk';go_wp2;go_ret;exact ⟨l',A',c',HP.out,rfl,hrd,hbw⟩
theorem aaj:(Tryz.prog.info? 69).map (·.size)=some 7:=by kernel_rfl
def shortS (x:M.aI):Bool:=decide (x.kind.size≤60∧x.aA.length≤18)
def ay8 (k n:Nat):Bool:=decide (¬ ((n<k∧k≤1000)∨1003<k))
def abn (l:List M.aI) (n:Nat):Bool:=ay8 l.length n && l.all shortS
theorem ake {l:List Sh} {k:Nat} (hk:k<l.length):((plain l).drop k).all shortS=(shortS l[k].x && ((plain l).drop (k+1)).all shortS):=by
 have h:(plain l).drop k=l[k].x::(plain l).drop (k+1):=by
  rw [List.drop_eq_getElem_cons (by rw [eF];exact hk),Iu l k hk]
 rw [h];rfl
theorem Z5 (S:Nat→Prop) (l:List Sh) (A:Option Addr) (c n:Nat) (w:World) (hp:wG w S A c l):
 Calls Tryz.prog 16 #[.slice A l.length c,.int .i64 n] w fun e w'=>e= .returned (.bool (abn (plain l) n))∧Below w.heap.size w w':=by
 obtain ⟨b1,b2,b3⟩:=hp.bd
 have bad:(n<l.length∧l.length≤1000)∨1003<l.length→abn (plain l) n=false:=fun h=>by
  unfold abn ay8;rw [eF,decide_eq_false (fun hn=>hn h)];rfl
 have HBAD:=hide bad;clear bad
 by_cases h1:n<l.length
 · have i1:(n:Int)<(l.length:Int):=by omega
   by_cases h2:l.length≤1000
   · have i2:(l.length:Int)≤1000:=by omega
     have HR:=hide (HBAD.out (.inl ⟨h1,h2⟩))
     go_enter Tryz.func16,Tryz.ntmps16
     go_wp2;go_ret;exact ⟨by rw [HR.out] <;> rfl,Below.refl _ _⟩
   · have i2:¬ (l.length:Int)≤1000:=by omega
     by_cases h3:1003<l.length
     · have i3:(1003:Int)<(l.length:Int):=by omega
       have HR:=hide (HBAD.out (.inr h3))
       go_enter Tryz.func16,Tryz.ntmps16
       go_wp2;go_ret;exact ⟨by rw [HR.out] <;> rfl,Below.refl _ _⟩
     · have i3:¬ (1003:Int)<(l.length:Int):=by omega
       have hgo:abn (plain l) n=(plain l).all shortS:=by unfold abn ay8;rw [eF,decide_eq_true (by omega)];rfl
       have WT:=hide hgo;clear hgo HBAD
       go_enter Tryz.func16,Tryz.ntmps16
       go_wp2
       go_loopw [5] (fun i wr=>∃ k:Nat,k≤l.length∧i= .int .i64 k∧(plain l).all shortS=((plain l).drop k).all shortS∧Below w.heap.size w wr) (fun i _=>l.length - (intOf i).toNat)
       case atStart=>exact ⟨0,Nat.zero_le _,rfl,by simp,Below.refl _ _⟩
       case round=>
        obtain ⟨k,hk,rfl,hx1,hb⟩:=hrel
        by_cases hlt:k<l.length
        · obtain ⟨b,o,rfl,_,hbl,hcs⟩:=Reads.at_ (hp.below hb).1 (by omega)
          have h00:wr.rangeAt b (o+k*7) (au l[k]):=fun j v hj=>by
           have hj7:j<7:=(List.getElem?_eq_some_iff.1 hj).1;rw [Nat.add_assoc];exact hcs _ _ ((jI l k hlt j hj7).trans hj)
          have hst:=ake hlt;have HX:=hide (hx1.trans hst);have hcall:=fun W:World=>ZB l[k].x l[k].a l[k].c W ((jl.bd (hp.aA k hlt)).2.2);obtain ⟨B,hB⟩:∃ B,shortS l[k].x=B:=⟨_,rfl⟩;have hB':decide (l[k].x.kind.size≤60∧l[k].x.aA.length≤18)=B:=hB;rw [hB'] at hcall;have HC:=hide hcall;have HB:=hide hB
          have j1:(0:Int)≤(k:Int):=by omega
          have j2:(k:Int)<(l.length:Int):=by omega
          clear hcall hx1 hst hcs hB hB'
          cases B with
          | true=>
            go_wp2_with (first | (refine aN 69 (.tmp 28) rfl ?_;refine jh (g:=b) (o:=o+k*7) h00 Tryz.underlying69 rfl aaj rfl (.tmp 28) rfl rfl ?_) | (go_at_call 27;refine (HC.out _).mono ?_;rintro e w1 ⟨rfl,hb1⟩))
            go_roundw
            case rel=>exact ⟨k+1,by omega,by go_num,by rw [HX.out,HB.out];rfl,hb.trans (hb1.mono hb.size)⟩
            case measure=>simp [intOf];omega
          | false=>
            go_wp2_with (first | (refine aN 69 (.tmp 28) rfl ?_;refine jh (g:=b) (o:=o+k*7) h00 Tryz.underlying69 rfl aaj rfl (.tmp 28) rfl rfl ?_) | (go_at_call 27;refine (HC.out _).mono ?_;rintro e w1 ⟨rfl,hb1⟩))
            go_ret;exact ⟨by rw [WT.out,HX.out,HB.out] <;> rfl,hb.trans (hb1.mono hb.size)⟩
        · have hkk:k=l.length:=by omega
          have hz:(plain l).all shortS=true:=by rw [hx1,hkk, ← eF l,List.drop_length];rfl
          have HZ:=hide hz;clear hx1 hkk hz;go_wp2;go_ret;exact ⟨by rw [WT.out,HZ.out] <;> rfl,hb⟩
 · have i1:¬ (n:Int)<(l.length:Int):=by omega
   by_cases h3:1003<l.length
   · have i3:(1003:Int)<(l.length:Int):=by omega
     have HR:=hide (HBAD.out (.inr h3))
     go_enter Tryz.func16,Tryz.ntmps16
     go_wp2;go_ret;exact ⟨by rw [HR.out] <;> rfl,Below.refl _ _⟩
   · have i3:¬ (1003:Int)<(l.length:Int):=by omega
     have hgo:abn (plain l) n=(plain l).all shortS:=by unfold abn ay8;rw [eF,decide_eq_true (by omega)];rfl
     have WT:=hide hgo;clear hgo HBAD
     go_enter Tryz.func16,Tryz.ntmps16
     go_wp2
     go_loopw [5] (fun i wr=>∃ k:Nat,k≤l.length∧i= .int .i64 k∧(plain l).all shortS=((plain l).drop k).all shortS∧Below w.heap.size w wr) (fun i _=>l.length - (intOf i).toNat)
     case atStart=>exact ⟨0,Nat.zero_le _,rfl,by simp,Below.refl _ _⟩
     case round=>
      obtain ⟨k,hk,rfl,hx1,hb⟩:=hrel
      by_cases hlt:k<l.length
      · obtain ⟨b,o,rfl,_,hbl,hcs⟩:=Reads.at_ (hp.below hb).1 (by omega)
        have h00:wr.rangeAt b (o+k*7) (au l[k]):=fun j v hj=>by
         have hj7:j<7:=(List.getElem?_eq_some_iff.1 hj).1;rw [Nat.add_assoc];exact hcs _ _ ((jI l k hlt j hj7).trans hj)
        have hst:=ake hlt;have HX:=hide (hx1.trans hst);have hcall:=fun W:World=>ZB l[k].x l[k].a l[k].c W ((jl.bd (hp.aA k hlt)).2.2);obtain ⟨B,hB⟩:∃ B,shortS l[k].x=B:=⟨_,rfl⟩;have hB':decide (l[k].x.kind.size≤60∧l[k].x.aA.length≤18)=B:=hB;rw [hB'] at hcall;have HC:=hide hcall;have HB:=hide hB
        have j1:(0:Int)≤(k:Int):=by omega
        have j2:(k:Int)<(l.length:Int):=by omega
        clear hcall hx1 hst hcs hB hB'
        cases B with
        | true=>
          go_wp2_with (first | (refine aN 69 (.tmp 28) rfl ?_;refine jh (g:=b) (o:=o+k*7) h00 Tryz.underlying69 rfl aaj rfl (.tmp 28) rfl rfl ?_) | (go_at_call 27;refine (HC.out _).mono ?_;rintro e w1 ⟨rfl,hb1⟩))
          go_roundw
          case rel=>exact ⟨k+1,by omega,by go_num,by rw [HX.out,HB.out];rfl,hb.trans (hb1.mono hb.size)⟩
          case measure=>simp [intOf];omega
        | false=>
          go_wp2_with (first | (refine aN 69 (.tmp 28) rfl ?_;refine jh (g:=b) (o:=o+k*7) h00 Tryz.underlying69 rfl aaj rfl (.tmp 28) rfl rfl ?_) | (go_at_call 27;refine (HC.out _).mono ?_;rintro e w1 ⟨rfl,hb1⟩))
          go_ret;exact ⟨by rw [WT.out,HX.out,HB.out] <;> rfl,hb.trans (hb1.mono hb.size)⟩
      · have hkk:k=l.length:=by omega
        have hz:(plain l).all shortS=true:=by rw [hx1,hkk, ← eF l,List.drop_length];rfl
        have HZ:=hide hz;clear hx1 hkk hz;go_wp2;go_ret;exact ⟨by rw [WT.out,HZ.out] <;> rfl,hb⟩
theorem aaS:(Tryz.prog.info? 42).map (·.size)=some 15:=by kernel_rfl
theorem alK (r:M.Rules) (w:World):
 Calls Tryz.prog 38 #[jM r] w fun e w'=>∃ A c,e= .returned (wF (M.start r) A c)∧bD w' (fun b=>w.heap.size≤b) A c (M.start r).ay∧Below w.heap.size w w':=by
 have hcl:=fun W=>Z9 r W;have JF:=hide hcl;clear hcl
 go_enter Tryz.func38,Tryz.ntmps38
 go_upto_region 1 with (fail)
 have hB:=((bU.nil w).new (by simp) [.string r.game,.int .i64 r.target,.int .i64 r.aY] 25).new (by simp) aj 42
 have hbl:∀ (A:Option Addr) (c:Nat) (w:World),(Instr.build 42 #[(1,.bool true),(6,.slice A (M.jA r).length c),(10,.int .i64 1)]).run Tryz.prog w= .ok (.agg (aW (M.start r) A c).toArray) w:=fun A c w=>by kernel_rfl
 go_wp2_with (first | (refine aN 25 (.tmp 1) rfl ?_;refine aG (hB.bf rfl) Tryz.underlying25 rfl (by kernel_rfl) rfl (.tmp 1) rfl rfl ?_) | (go_at_call 90;refine (JF.out _).mono ?_;rintro e w1 ⟨A1,c1,rfl,hr1,hb1⟩;have hB1:=hB.call (by simp) hb1;dsimp only) | (refine aO 42 (.tmp 2) (.tmp 5) rfl ?_;refine aF (hB1.get 1 rfl) (aW (M.start r) A1 c1) rfl aaS (dL _ _ _) rfl (.tmp 2) (.tmp 5) rfl rfl rfl ?_))
 have hB2:=hB1.put 1 rfl (aW (M.start r) A1 c1) rfl;have hsz:=hB.size (by simp)
 simp only [List.length_append,List.length_cons,List.length_nil] at hsz
 refine bodyPost_ret (bP (p:=2) (hB2.get 1 rfl) Tryz.underlying42 rfl aaS rfl _ rfl) rfl ⟨A1,c1,rfl,?_,hB2.bw⟩;exact bD.more (Reads.keep hr1 (by rw [setCells_size];exact Nat.le_refl _) (fun b o hb hlt=>World.cell?_of_block (Held.lC (g:=w.heap.size+1) (b:=b) (by simp at hb;omega) _ _ _))) (fun b _ h=>by simp at h;show w.heap.size≤b;omega)
structure StE where
 s:M.State
 a:Option Addr
 c:Nat
def stC (e:StE):List Value:=aW e.s e.a e.c
theorem amc (e:StE):(stC e).length=15:=rfl
theorem alR:(Tryz.prog.info? 42).map (fun i=>(i.zero,i.size,i.bytes))=some (some (.agg aj.toArray),15,112):=by kernel_rfl
theorem Reads.sets {S:Nat→Prop} {size n:Nat} {A:Option Addr} {c:Nat} {xs:List Value} {g:Nat} (hg:¬ S g):∀ (vs:List Value) (o:Nat) (W:World),Reads W S size A n c xs→Reads (W.setCells g o vs) S size A n c xs
 | [],_,_,h=>h
 | v::r,o,W,h=>Reads.sets hg r (o+1) _ (h.setCell (p:=⟨g,o,none⟩) hg v)
theorem bD.zero (W:World):bD W (fun _=>True) none 0 M.zero.ay:=Reads.none_ _ _ _
theorem aBR {W:World} {D:Nat} {e:TypeId} {size n:Nat} {v:Value} {xs:List Value} (h:W.ownsRow D e size v n xs) {g:Nat} (hg:v.ownBlock=some g):g<W.heap.size:=(Array.getElem?_eq_some_iff.1 (bg h hg).2.choose_spec.1).1
section
variable {W:World}
theorem ahY {w4:World} {o:Obj} {v:Value} (hgrow:(W.alloc o).grownBy w4 v.ownBlock) {b:Nat} (hb:b<W.heap.size) (hn:v.ownBlock≠some b):w4.heap[b]? =W.heap[b]? :=
 (hgrow.block b (by simp;omega) (fun e=>hn e.symm)).trans (heap_alloc_old W o hb)
theorem asg {w4:World} {o:Obj} {v:Value} {D:Nat} (hgrow:(W.alloc o).grownBy w4 v.ownBlock) (hX:∀ g,v.ownBlock=some g→D≤g) (hD:D≤W.heap.size):Below D W w4:=
 ⟨hgrow.os,hgrow.tape,hgrow.output,Nat.le_trans (by simp) hgrow.size,fun b hb=>ahY hgrow (Nat.lt_of_lt_of_le hb hD) (fun e=>Nat.lt_irrefl _ (Nat.lt_of_lt_of_le hb (hX b e)))⟩
end
def RdT (w:World) (S:Nat→Prop) (A:Option Addr) (c:Nat) (L:List StE):Prop:=Reads w S 15 A L.length c (L.flatMap stC)∧∀ e∈L,bD w S e.a e.c e.s.ay
theorem RdT.below {w w':World} {S:Nat→Prop} {A:Option Addr} {c:Nat} {L:List StE} (h:RdT w S A c L) (hb:Below w.heap.size w w'):RdT w' S A c L:=
 ⟨Reads.below h.1 hb,fun e he=>(h.2 e he).below hb⟩
theorem RdT.more {w:World} {S S':Nat→Prop} {A:Option Addr} {c:Nat} {L:List StE} (h:RdT w S A c L) (hS:∀ b,b<w.heap.size→S b→S' b):RdT w S' A c L:=
 ⟨Reads.more h.1 hS,fun e he=>(h.2 e he).more hS⟩
structure ZH (e:TypeId) (D:Nat) (Z:Nat→Prop) (L:List StE) (A:Option Addr) (c:Nat) (W:World):Prop where
 own:W.ownsRow D e 15 (.slice A L.length c) L.length (L.flatMap stC)
 each:∀ x∈L,bD W (fun b=>Z b∧(Value.slice A L.length c).ownBlock≠some b) x.a x.c x.s.ay
section
variable {e:TypeId} {D:Nat} {Z:Nat→Prop} {L:List StE} {A:Option Addr} {c:Nat} {W W':World}
theorem ZH.below (h:ZH e D Z L A c W) (hb:Below W.heap.size W W'):ZH e D Z L A c W':=
 ⟨bT h.own (fun g hg=>hb.block g (Array.getElem?_eq_some_iff.1 (bg h.own hg).2.choose_spec.1).1),fun x hx=>(h.each x hx).below hb⟩
theorem ZH.drew (h:ZH e D Z L A c W):ZH e D Z L A c W.drew:=⟨h.own,h.each⟩
theorem ZH.sets {g:Nat} (h:ZH e D Z L A c W) (hg:g<D) (hz:¬ Z g) (vs:List Value) (o:Nat):ZH e D Z L A c (W.setCells g o vs):=
 ⟨bT h.own (fun b hb=>Held.lC (by have:=(bg h.own hb).1;omega) _ _ _),fun x hx=>bD.sets (fun h'=>hz h'.1) _ _ _ (h.each x hx)⟩
theorem ZH.read {S:Nat→Prop} (h:ZH e D Z L A c W) (hn:L.length≤17592186044416) (hD:∀ b,D≤b→S b) (hZ:∀ b,Z b→S b):RdT W S A c L:=
 ⟨Reads.kG h.own hD hn,fun x hx=>(h.each x hx).more (fun b _ h=>hZ b h.1)⟩
theorem ZH.apart {w4:World} {g1 cap n:Nat} {o:Obj} (hgrow:(W.alloc o).grownBy w4 (Value.slice A L.length c).ownBlock) (hat:(Value.slice A L.length c).ownBlock=some g1∨g1=W.heap.size+1) {A2:Option Addr} {c2:Nat} {zs:List Int}
 (hy:bD W (fun b=>Z b∧(Value.slice A L.length c).ownBlock≠some b) A2 c2 zs):bD w4 (fun b=>Z b∧(Value.slice (some ⟨g1,0,none⟩) n cap).ownBlock≠some b) A2 c2 zs:=by
 have h1:=bD.more hy (S':=fun b=>(Z b∧(Value.slice A L.length c).ownBlock≠some b)∧b<W.heap.size) (fun b hb h=>⟨h,hb⟩);have h2:=bD.keep h1 (by have:=hgrow.size;simp at this;omega) (w':=w4) (fun b o hb hlt=>(hgrow.cell_far ⟨b,o,none⟩ (by simp;omega) (fun e=>hb.1.2 e.symm)).trans (World.cell?_alloc_lt _ _ ⟨b,o,none⟩ hlt));refine bD.more h2 (fun b _ hb=>⟨hb.1.1,fun e=>?_⟩);have e':(some g1:Option Nat)=some b:=e
 cases e'
 rcases hat with h3 | h3
 · exact hb.1.2 h3
 · have:=hb.2;omega
theorem ZH.append {w4:World} {g1 cap:Nat} {o:Obj} {x:StE} (h:ZH e D Z L A c W) (hx:bD W (fun b=>Z b∧(Value.slice A L.length c).ownBlock≠some b) x.a x.c x.s.ay)
 (hgrow:(W.alloc o).grownBy w4 (Value.slice A L.length c).ownBlock) (hown4:w4.ownsRow D e 15 (.slice (some ⟨g1,0,none⟩) (L.length+1) cap) (L.length+1) (L.flatMap stC++stC x)) (hat:(Value.slice A L.length c).ownBlock=some g1∨g1=W.heap.size+1):
 ZH e D Z (L++[x]) (some ⟨g1,0,none⟩) cap w4:=by
 have hl:(L++[x]).length=L.length+1:=by simp
 refine ⟨?_,fun y hy=>?_⟩
 · rw [hl,List.flatMap_append]
   have:[x].flatMap stC=stC x:=by simp
   rw [this];exact hown4
 · rcases List.mem_append.1 hy with hy | hy
   · exact ZH.apart hgrow hat (h.each y hy)
   · obtain rfl:=List.mem_singleton.1 hy
     exact ZH.apart hgrow hat hx
theorem ZH.lit {e:TypeId} {D:Nat} {Z:Nat→Prop} (W:World) (x:StE) (hD:D≤W.heap.size) (hx:bD W Z x.a x.c x.s.ay):ZH e D Z [x] (some ⟨W.heap.size,0,none⟩) 1 (W.alloc (.cells (stC x).toArray e)):=by
 refine ⟨?_,fun y hy=>?_⟩
 · have h:=World.ownsRow_lit (base:=D) (size:=15) (e:=e) W (stC x).toArray 1 hD (by simp only [maxLen];omega) (by simp [amc])
   simpa using h
 · obtain rfl:=List.mem_singleton.1 hy
   exact bD.more ((bD.more hx (S':=fun b=>Z b∧b<W.heap.size) (fun b hb h=>⟨h,hb⟩)).alloc _) (fun b hb h=>⟨h.1,fun e=>by cases e;exact Nat.lt_irrefl _ h.2⟩)
end
theorem ax7 {r:M.Rules} {s:M.State} {x:M.aI} (h:M.legal r s x=0):M.step r s x=M.next r s x:=by unfold M.step;rw [if_pos h]
theorem azH {r:M.Rules} {s:M.State} {x:M.aI} (h:¬ M.legal r s x=0):M.step r s x=s:=by unfold M.step;rw [if_neg h]
structure StL (r:M.Rules) (l:List M.aI) (n:Nat) (L:List StE):Prop where
 len:L.length=n+1
 get:∀ k (h:k<L.length),L[k].s=M.TS r l k
theorem StL.snoc {r:M.Rules} {l:List M.aI} {n:Nat} {L:List StE} {x:StE} (h:StL r l n L) (hx:x.s=M.TS r l (n+1)):StL r l (n+1) (L++[x]):=by
 have hl:=h.len;refine ⟨by simp [hl],fun k hk=>?_⟩
 rcases Nat.lt_or_ge k L.length with hlt | hge
 · rw [List.getElem_append_left hlt];exact h.get k hlt
 · have hk2:k=L.length:=by simp at hk;omega
   subst hk2;rw [List.getElem_append_right (Nat.le_refl _)]
   simp [hx,hl]
theorem atL {r:M.Rules} {l:List M.aI} {k:Nat} (hk:k<l.length):M.TS r l (k+1)=M.step r (M.TS r l k) l[k]:=by
 unfold M.TS
 rw [List.take_succ_eq_append_getElem hk,M.aoN]
theorem azA {r:M.Rules} {l:List M.aI} (hr:M.aH r=0) (hl:M.je l=0) (k:Nat):M.Ok r (1+16*(l.take k).length) (M.TS r l k):=
 M.amV hr _ (fun x hx=>((M.Zt l).1 hl).2 x (List.mem_of_mem_take hx)) _ 1 (by omega) (M.NG r)
theorem ax0 {r:M.Rules} {l:List M.aI} (hr:M.aH r=0) (hl:M.je l=0) (k:Nat):M.Ok r 500000 (M.TS r l k):=by
 refine (azA hr hl k).more ?_;have h1:=((M.Zt l).1 hl).1
 have h2:(l.take k).length≤l.length:=by rw [List.length_take];omega
 omega
theorem ao8:(Tryz.prog.info? 66).map (fun i=>(i.zero,i.size,i.bytes))=some (some (.agg #[.int .i64 0,.string ⟨#[]⟩,.int .i64 0,.int .i64 0,.int .i64 0,.bool false,.slice none 0 0]),7,80):=by kernel_rfl
theorem asG:(Tryz.prog.info? 107).map (fun i=>(i.zero,i.size,i.bytes))=some (some (.agg #[.int .i64 0,.int .i64 0]),2,16):=by kernel_rfl
def aax (t:TypeId) (W:World) (g cap:Nat) (L:List Sh):Prop:=∃ sp,Held W g (bI L++sp) t∧(bI L++sp).length=cap*7∧L.length≤cap∧cap≤maxLen
theorem axM (zs:List M.rD):∀ v∈bK zs,v.oneCell'=true:=by
 intro v hv
 unfold bK at hv
 obtain ⟨p,_,hp⟩:=List.mem_flatMap.1 hv
 rcases List.mem_cons.1 hp with rfl | hp
 · rfl
 · rw [List.mem_singleton] at hp;subst hp;rfl
theorem arf (l:List Sh):∀ v∈bI l,v.oneCell'=true:=by
 intro v hv
 unfold bI at hv
 obtain ⟨p,_,hp⟩:=List.mem_flatMap.1 hv;exact ND p v hp
theorem arx {t:TypeId} {W:World} {D g cap:Nat} {l:List Sh} (h:W.ownsRow D t 7 (.slice (some ⟨g,0,none⟩) l.length cap) l.length (bI l)):∃ g',(some ⟨g,0,none⟩:Option Addr)=some ⟨g',0,none⟩∧D≤g'∧aax t W g' cap l:=by
 obtain ⟨_,⟨e,_⟩ | ⟨g',cap',cur,e,h1,h2,h3,h4,h5,h6⟩⟩:=h
 · cases e
 · cases e
   refine ⟨g,rfl,h1,cur.toList.drop (l.length*7),?_,?_,h3,h4⟩
   · rw [← h6,List.take_append_drop]
     exact h2
   · rw [← h6,List.take_append_drop, ← h5];simp
theorem aax.owns {t:TypeId} {W:World} {D g cap:Nat} {l:List Sh} (h:aax t W g cap l) (hD:D≤g):W.ownsRow D t 7 (.slice (some ⟨g,0,none⟩) l.length cap) l.length (bI l):=by
 obtain ⟨sp,h1,h2,h3,h4⟩:=h;refine ⟨yJ l,.inr ⟨g,cap,_,rfl,hD,h1,h3,h4,by simpa using h2,?_⟩⟩;rw [List.toList_toArray, ← yJ l,List.take_left']
 rfl
theorem afD (L:List Sh) (k:Nat) (hk:k<L.length):bI L=bI (L.take k)++au L[k]++bI (L.drop (k+1)):=by
 conv=>lhs;rw [← List.take_append_drop k L,List.drop_eq_getElem_cons hk,nI]
 rw [List.append_assoc]
 rfl
theorem aro (L:List Sh) (k:Nat) (hk:k<L.length) (x:Sh):bI (L.set k x)=bI (L.take k)++au x++bI (L.drop (k+1)):=by
 have h:=afD (L.set k x) k (by simpa using hk);rw [List.getElem_set_self,List.take_set_of_le (Nat.le_refl _),List.drop_set_of_lt (Nat.lt_succ_self _)] at h;exact h
theorem ai3 {L:List Sh} {k:Nat} (hk:k<L.length):(bI (L.take k)).length=k*7:=by rw [yJ,List.length_take,Nat.min_eq_left (Nat.le_of_lt hk)]
theorem aax.put {t:TypeId} {W:World} {g cap k:Nat} {L:List Sh} (h:aax t W g cap L) (hk:k<L.length) (x:Sh):aax t (W.setCells g (k*7) (au x)) g cap (L.set k x):=by
 obtain ⟨sp,h1,h2,h3,h4⟩:=h;refine ⟨sp,?_,?_,by simpa using h3,h4⟩
 · rw [afD L k hk,List.append_assoc _ _ sp] at h1
   have h5:=Held.GX (au x) _ _ _ _ h1 rfl;rw [ai3 hk] at h5;rw [aro L k hk,List.append_assoc _ _ sp];exact h5
 · rw [← h2,List.length_append,List.length_append,yJ,yJ,List.length_set]
theorem aax.aA {t:TypeId} {W:World} {g cap k:Nat} {L:List Sh} (h:aax t W g cap L) (hk:k<L.length) (A:Option Addr) (c:Nat):aax t (W.setCell ⟨g,k*7+6,none⟩ (.slice A L[k].x.aA.length c)) g cap (L.set k ⟨L[k].x,A,c⟩):=by
 obtain ⟨sp,h1,h2,h3,h4⟩:=h;refine ⟨sp,?_,?_,by simpa using h3,h4⟩
 · have h5:=h1.set (k*7+6) (.slice A L[k].x.aA.length c)
   have e:(bI L++sp).set (k*7+6) (.slice A L[k].x.aA.length c)=bI (L.set k ⟨L[k].x,A,c⟩)++sp:=by
    rw [afD L k hk,aro L k hk,List.append_assoc,List.append_assoc, ← ai3 hk,List.set_append_right _ _ (by omega),Nat.add_sub_cancel_left];rw [List.append_assoc,List.append_assoc]
    rfl
   rw [e] at h5;exact h5
 · rw [← h2,List.length_append,List.length_append,yJ,yJ,List.length_set]
theorem aax.there {t:TypeId} {W:World} {g cap k:Nat} {L:List Sh} (h:aax t W g cap L) (hk:k<L.length):W.there g (k*7) 7:=fun j hj=>by
 obtain ⟨sp,h1,h2,h3,h4⟩:=h
 have hl:k*7+j<(bI L++sp).length:=by rw [h2];omega
 rw [h1.cell (List.getElem?_eq_getElem hl)];exact ⟨rfl,h1.frozen _⟩
theorem aax.at_ {t:TypeId} {W:World} {g cap k:Nat} {L:List Sh} (h:aax t W g cap L) (hk:k<L.length):W.cell? ⟨g,k*7+6,none⟩=some (.slice L[k].a L[k].x.aA.length L[k].c)∧W.frozen? ⟨g,k*7+6,none⟩=false:=by
 obtain ⟨sp,h1,h2,h3,h4⟩:=h;refine ⟨h1.cell ?_,h1.frozen _⟩;rw [List.getElem?_append_left (by rw [yJ];omega),jI L k hk 6 (by omega)]
 rfl
theorem aax.below {t:TypeId} {W W':World} {g cap:Nat} {L:List Sh} (h:aax t W g cap L) (hb:Below W.heap.size W W'):aax t W' g cap L:=by
 obtain ⟨sp,h1,h2⟩:=h;exact ⟨sp,h1.below hb,h2⟩
theorem aax.lt {t:TypeId} {W:World} {g cap:Nat} {L:List Sh} (h:aax t W g cap L):g<W.heap.size:=by
 obtain ⟨sp,h1,h2⟩:=h;exact h1.lt
theorem ahb (S:Nat→Prop) (A:Option Addr) (c:Nat) (zs:List M.rD) (w:World) (h:jl w S A c zs) (hn:zs.length*16≤140737488355328):
 Calls Tryz.prog 106 #[.slice A zs.length c] w fun e w'=>∃ A' c',e= .returned (.slice A' zs.length c')∧jl w' (fun b=>w.heap.size≤b) A' c' zs∧Below w.heap.size w w':=by
 obtain ⟨i0,hi,hz0,hz1,hz2⟩:=info_parts asG;obtain ⟨b1,b2,b3⟩:=Reads.bd h
 rcases Nat.eq_zero_or_pos zs.length with h0 | h0
 · obtain rfl:=List.eq_nil_of_length_eq_zero h0
   cases A with
   | none=>
     go_enter Tryz.func106,Tryz.ntmps106
     go_wp2;go_ret;exact ⟨none,0,rfl,Reads.none_ _ _ _,Below.refl _ _⟩
   | some a=>
     have hf:=run_firstCells_some (P:=Tryz.prog) w 2 0 a 0 c [] (by simp) (by intro j v h;simp at h)
     go_enter Tryz.func106,Tryz.ntmps106
     go_wp2;go_ret;exact ⟨none,0,rfl,Reads.none_ _ _ _,Below.refl _ _⟩
 · obtain ⟨b,o,rfl,_,hbl,hc⟩:=Reads.at_ h h0
   have hnews:∀ j u,(bK zs)[j]? =some u→w.cell? ((⟨b,o,none⟩:Addr).add j)=some u:=by
    intro j u hu;rw [rH];exact hc j u hu
   have HC:=hide hc;have hln:=(nG zs);clear hc
   go_enter Tryz.func106,Tryz.ntmps106
   go_wp2_with (at_builtin;refine wpList_append_lies _ rfl _ _ _ rfl w.heap.size 107 i0 (.agg #[.int .i64 0,.int .i64 0]) 2 16 Tryz.underlying64 hi hz0 hz1 hz2 rfl (by omega) (.slice none 0 0) 0 [] rfl (World.ownsRow_nil _ _ _ _) ⟨b,o,none⟩ zs.length c (bK zs) rfl hln hnews ?c1 h0 ?c2 ?c3 (Nat.le_refl _) w.heap.size rfl ?_)
   case c1=>exact axM zs
   case c2=>simp only [maxLen];omega
   case c3=>omega
   intro g1 cap w1 hown1 hgrow _ _;have hb1:Below w.heap.size w w1:=dX (World.ownsRow_nil _ w.heap.size 107 2) hgrow (Nat.le_refl _) (Nat.le_refl _);have HO:=hide hown1;clear hown1 hgrow;go_wp2;go_ret;have hown2:=HO.out;exact ⟨_,_,by simp,Reads.kG hown2 (fun b h=>h) (by omega),hb1⟩
theorem agf (S:Nat→Prop) (A:Option Addr) (c:Nat) (l:List Sh) (w:World) (h:wG w S A c l) (hl:l.length≤1000):
 Calls Tryz.prog 105 #[.slice A l.length c] w fun e w'=>∃ A' c',e= .returned (.slice A' l.length c')∧(0<l.length→∃ g,A'=some ⟨g,0,none⟩∧w.heap.size≤g∧aax 66 w' g c' l)∧Below w.heap.size w w':=by
 obtain ⟨i0,hi,hz0,hz1,hz2⟩:=info_parts ao8;obtain ⟨b1,b2,b3⟩:=Reads.bd h.1
 rcases Nat.eq_zero_or_pos l.length with h0 | h0
 · obtain rfl:=List.eq_nil_of_length_eq_zero h0
   cases A with
   | none=>
     go_enter Tryz.func105,Tryz.ntmps105
     go_wp2;go_ret;exact ⟨none,0,rfl,fun h=>absurd h (Nat.lt_irrefl _),Below.refl _ _⟩
   | some a=>
     have hf:=run_firstCells_some (P:=Tryz.prog) w 7 0 a 0 c [] (by simp) (by intro j v h;simp at h)
     go_enter Tryz.func105,Tryz.ntmps105
     go_wp2;go_ret;exact ⟨none,0,rfl,fun h=>absurd h (Nat.lt_irrefl _),Below.refl _ _⟩
 · obtain ⟨b,o,rfl,_,hbl,hc⟩:=Reads.at_ h.1 h0
   have hnews:∀ j u,(bI l)[j]? =some u→w.cell? ((⟨b,o,none⟩:Addr).add j)=some u:=by
    intro j u hu;rw [rH];exact hc j u hu
   have HC:=hide hc;have hln:=(yJ l);clear hc
   go_enter Tryz.func105,Tryz.ntmps105
   go_wp2_with (at_builtin;refine wpList_append_lies _ rfl _ _ _ rfl w.heap.size 66 i0 (.agg #[.int .i64 0,.string ⟨#[]⟩,.int .i64 0,.int .i64 0,.int .i64 0,.bool false,.slice none 0 0]) 7 80 Tryz.underlying24 hi hz0 hz1 hz2 rfl (by omega) (.slice none 0 0) 0 [] rfl (World.ownsRow_nil _ _ _ _) ⟨b,o,none⟩ l.length c (bI l) rfl hln hnews ?c1 h0 ?c2 ?c3 (Nat.le_refl _) w.heap.size rfl ?_)
   case c1=>exact arf l
   case c2=>simp only [maxLen];omega
   case c3=>omega
   intro g1 cap w1 hown1 hgrow _ _;have hb1:Below w.heap.size w w1:=dX (World.ownsRow_nil _ w.heap.size 66 7) hgrow (Nat.le_refl _) (Nat.le_refl _);have HO:=hide hown1;clear hown1 hgrow;go_wp2;go_ret;have hown2:=HO.out;exact ⟨_,_,by simp,fun _=>arx hown2,hb1⟩
theorem anh:(Tryz.prog.info? 69).map (fun i=>(i.zero,i.size,i.bytes))=some (some (.agg #[.int .i64 0,.string ⟨#[]⟩,.int .i64 0,.int .i64 0,.int .i64 0,.bool false,.slice none 0 0]),7,80):=by kernel_rfl
theorem agC:(Tryz.prog.info? 69).map (·.size)=some 7:=by kernel_rfl
def aa6 (l:List M.aI) (n:Int) (x:M.aI):Int:=if n<1∨(l.length:Int)<n then 10 else M.cZ x
def ar8 (l:List M.aI) (n:Int) (x:M.aI):List M.aI:=if aa6 l n x=0 then l.set (n - 1).toNat x else []
theorem amA {l:List M.aI} {n:Int} {x:M.aI} (h:aa6 l n x≠0):ar8 l n x=[]:=if_neg h
theorem afw (l:List Sh) (k:Nat) (x:M.aI) (A:Option Addr) (c:Nat):plain (l.set k ⟨x,A,c⟩)=(plain l).set k x:=by
 unfold plain;rw [List.map_set]
theorem ay1 {l:List Sh} {k:Nat} {x:M.aI} (hk:k<l.length) (h:M.cZ x=0) (A:Option Addr) (c:Nat):aa6 (plain l) ((k:Int)+1) x=0∧plain (l.set k ⟨x,A,c⟩)=ar8 (plain l) ((k:Int)+1) x:=by
 have hE:aa6 (plain l) ((k:Int)+1) x=0:=by unfold aa6;rw [eF,if_neg (by omega),h]
 refine ⟨hE,?_⟩
 unfold ar8
 rw [if_pos hE,afw]
 congr 1
 omega
theorem aj6 (W:World) (D:Nat) (e:TypeId) (size:Nat) (g:Nat) (hg:D≤g) (h:W.heap[g]? =some (.cells #[] e (0,0))):W.ownsRow D e size (.slice (some ⟨g,0,none⟩) 0 0) 0 []:=
 ⟨by simp,.inr ⟨g,0, #[],rfl,hg,h,Nat.le_refl _,Nat.zero_le _,by simp,by simp⟩⟩
theorem aiB (S S':Nat→Prop) (l:List Sh) (A:Option Addr) (c:Nat) (n:Int) (x:M.aI) (P:Option Addr) (d:Nat) (w:World) (hp:wG w S A c l) (hx:jl w S' P d x.aA) (hl:l.length≤1000):
 Calls Tryz.prog 56 #[.slice A l.length c,.int .i64 n,iO x P d] w fun e w'=>∃ L A' c',e= .returned (.tuple #[.slice A' (L:List Sh).length c',.int .i64 (aa6 (plain l) n x)])∧plain L=ar8 (plain l) n x∧wG w' (fun _=>True) A' c' L∧Below w.heap.size w w':=by
 by_cases ho:n<1∨(l.length:Int)<n
 · have q0:M.out n 1 (l.length:Int)=true:=decide_eq_true ho
   have hE:aa6 (plain l) n x=10:=by unfold aa6;rw [eF,if_pos ho]
   have hM:=amA (show aa6 (plain l) n x≠0 by rw [hE];decide);have ho2:=fun w=>sF n 1 (l.length:Int) w
   simp only [q0] at ho2
   have HO:=hide ho2;have HE:=hide (And.intro hE hM);clear hE hM ho2 ho q0
   go_enter Tryz.func56,Tryz.ntmps56
   have hB:=(bU.nil w).new (by simp) (au ⟨x,P,d⟩) 69
   go_wp2_with (first | (go_at_call 78;refine (HO.out _).mono ?_;rintro e w9 ⟨rfl,rfl⟩;dsimp only))
   go_ret2;exact ⟨[],none,0,by rw [HE.out.1] <;> rfl,by rw [HE.out.2] <;> rfl,⟨Reads.none_ _ _ _,fun e he=>by cases he⟩,hB.bw⟩
 have q0:M.out n 1 (l.length:Int)=false:=decide_eq_false ho;obtain ⟨k,rfl⟩:∃ k:Nat,n=(k:Int)+1:=⟨(n - 1).toNat,by omega⟩
 have hk:k<l.length:=by omega
 have ho2:=fun w=>sF ((k:Int)+1) 1 (l.length:Int) w
 simp only [q0] at ho2
 have HO:=hide ho2;have hx2:=fun W (h:jl W S' P d x.aA)=>AL S' x P d W h;obtain ⟨E,hE⟩:∃ E,M.cZ x=E:=⟨_,rfl⟩
 simp only [hE] at hx2
 have HX:=hide hx2;clear ho2 hx2
 by_cases hz:E=0
 rotate_left
 · have hE1:aa6 (plain l) ((k:Int)+1) x=E:=by unfold aa6;rw [eF,if_neg ho,hE]
   have hM:=amA (show aa6 (plain l) ((k:Int)+1) x≠0 by rw [hE1];exact hz);have HE:=hide (And.intro hE1 hM)
   have q1:(E != 0)=true:=by simpa using hz
   clear hE1 hM hz ho hE
   go_enter Tryz.func56,Tryz.ntmps56
   have hB:=(bU.nil w).new (by simp) (au ⟨x,P,d⟩) 69
   go_wp2_with (first | (go_at_call 78;refine (HO.out _).mono ?_;rintro e w9 ⟨rfl,rfl⟩;dsimp only) | (refine aN 69 (.tmp 5) rfl ?_;refine aG (hB.bf rfl) Tryz.underlying69 rfl agC rfl (.tmp 5) rfl rfl ?_) | (go_at_call 30;refine (HX.out _ (Reads.below hx hB.bw)).mono ?_;rintro e w1 ⟨rfl,hb1⟩;have hB1:=hB.call (by simp) hb1;dsimp only))
   go_ret2;exact ⟨[],none,0,by rw [HE.out.1] <;> rfl,by rw [HE.out.2] <;> rfl,⟨Reads.none_ _ _ _,fun e he=>by cases he⟩,hB1.bw⟩
 subst hz;have hC:=ay1 hk hE P d;have HC:=hide hC;obtain ⟨i0,hi,hz0,hz1,hz2⟩:=info_parts anh;clear hC hE ho q0
 go_enter Tryz.func56,Tryz.ntmps56
 have hB:=(bU.nil w).new (by simp) (au ⟨x,P,d⟩) 69
 go_upto_region 6 with (first | (go_at_call 78;refine (HO.out _).mono ?_;rintro e w9 ⟨rfl,rfl⟩;dsimp only) | (refine aN 69 (.tmp 5) rfl ?_;refine aG (hB.bf rfl) Tryz.underlying69 rfl agC rfl (.tmp 5) rfl rfl ?_) | (go_at_call 30;refine (HX.out _ (Reads.below hx hB.bw)).mono ?_;rintro e w1 ⟨rfl,hb1⟩;have hB1:=hB.call (by simp) hb1;dsimp only))
 have hsz:w.heap.size+1≤w1.heap.size:=by simpa using hB1.size (by simp)
 have hp1:=hp.below hB1.bw;have hx1:=Reads.below hx hB1.bw;obtain ⟨b,o,rfl,_,hbl,hcs⟩:=Reads.at_ hp.1 (by omega);have P9:=Nat.lt_of_lt_of_le hbl hB1.bw.size
 have hnews:∀ j u,(bI l)[j]? =some u→w1.cell? ((⟨b,o,none⟩:Addr).add j)=some u:=by
  intro j u hu;rw [rH];exact (hB1.bw.cell (p:=⟨b,o+j,none⟩) hbl).trans (hcs j u hu)
 have hln:=yJ l
 have h0:0<l.length:=by omega
 have HCS:=hide hcs
 have i1:(0:Int)≤(k:Int):=by omega
 have i2:(k:Int)<(l.length:Int):=by omega
 clear hcs
 go_upto_region 7 with (at_builtin;refine wpList_append_lies _ rfl _ _ _ rfl w.heap.size 69 i0 (.agg #[.int .i64 0,.string ⟨#[]⟩,.int .i64 0,.int .i64 0,.int .i64 0,.bool false,.slice none 0 0]) 7 80 Tryz.underlying26 hi hz0 hz1 hz2 rfl (by omega) (.slice (some ⟨w1.heap.size,0,none⟩) 0 0) 0 [] rfl (aj6 _ _ _ _ _ (by omega) (World.alloc_heap_new _ _)) ⟨b,o,none⟩ l.length c (bI l) rfl hln ?c0 ?c1 h0 ?c2 ?c3 ?c4 (w1.heap.size+1) (by simp) ?_)
 case c0=>exact fun j u hu=>(by have h:=hnews j u hu;rw [rH] at h ⊢;exact (World.cell?_alloc_lt w1 _ ⟨b,o+j,none⟩ P9).trans h)
 case c1=>exact arf l
 case c2=>simp only [maxLen];omega
 case c3=>omega
 case c4=>simp;omega
 intro g1 cap w4 hown4 hgrow hat hlt4;have hbd:=dX (B:=w1.heap.size) (aj6 (w1.alloc (.cells #[] 69)) w1.heap.size 69 7 w1.heap.size (Nat.le_refl _) (World.alloc_heap_new _ _)) hgrow (Nat.le_refl _) (by simp);have aDy:Below w1.heap.size w1 w4:=((Below.refl _ _).alloc (Nat.le_refl _) _).trans hbd;obtain ⟨g,hge,hgd,hrow⟩:=arx hown4
 cases hge
 have hx4:=(hB1.bf rfl).below aDy
 go_wp2_with (first | (refine aN 69 (.tmp 5) rfl ?_;refine aG (hx4) Tryz.underlying69 rfl agC rfl (.tmp 5) rfl rfl ?_) | (refine aO 69 (.tmp 26) (.tmp 25) rfl ?_;refine Az (g:=g1) (o:=k*7) (vs:=(au ⟨x,P,d⟩)) (hrow.there hk) agC (uq _ _ _) rfl (.tmp 26) (.tmp 25) rfl rfl rfl ?_))
 go_ret2;have hbf:Below w.heap.size w (w4.setCells g1 (k*7) (au ⟨x,P,d⟩)):=below_setCells _ hgd _ _ _ _ (hB1.bw.trans (aDy.mono hB1.bw.size));refine ⟨l.set k ⟨x,P,d⟩,some ⟨g1,0,none⟩,cap,by rw [HC.out.1,List.length_set] <;> rfl,HC.out.2,⟨Reads.kG ((hrow.put hk ⟨x,P,d⟩).owns hgd) (fun _ _=>trivial) (by rw [List.length_set];omega),fun e he=>?_⟩,hbf⟩
 rcases List.mem_or_eq_of_mem_set he with h | rfl
 · exact Reads.more (Reads.below (hp.2 e h) hbf) (fun _ _ _=>trivial)
 · exact Reads.more (Reads.below hx hbf) (fun _ _ _=>trivial)
theorem awX:(Tryz.prog.info? 66).map (·.size)=some 7:=by kernel_rfl
def pcE (l:List M.aI) (n:Int) (x:M.aI):Int:=aU [M.je l,wh (decide (n<1) || decide ((l.length:Int)<n)) 10,M.cZ x]
def pcM (l:List M.aI) (n:Int) (x:M.aI):List M.aI:=if pcE l n x=0 then l.set (n - 1).toNat x else []
theorem abY (l:List M.aI) (n:Int) (x:M.aI):pcE l n x=if M.je l=0 then aa6 l n x else M.je l:=by
 unfold pcE aa6 aU aU aU aU wh
 by_cases h1:M.je l=0
 · by_cases h2:n<1∨(l.length:Int)<n
   · have:(decide (n<1) || decide ((l.length:Int)<n))=true:=by simpa using h2
     simp [h1,h2,this]
   · have:(decide (n<1) || decide ((l.length:Int)<n))=false:=by simpa using h2
     simp [h1,h2,this]
     exact Eq.symm
 · simp [h1]
structure PcI (g cap k:Nat) (l0:List M.aI) (w0 W:World):Prop where
 r:∃ L:List Sh,plain L=l0∧aax 66 W g cap L∧∀ e∈L,jl W (fun b=>b≠g) e.a e.c e.x.aA
 b:Below w0.heap.size w0 W
theorem akU (S S':Nat→Prop) (l:List Sh) (A:Option Addr) (c:Nat) (n:Int) (x:M.aI) (P:Option Addr) (d:Nat) (w:World) (hp:wG w S A c l) (hx:jl w S' P d x.aA):
 Calls Tryz.prog 55 #[.slice A l.length c,.int .i64 n,iO x P d] w fun e w'=>∃ L A' c',e= .returned (.tuple #[.slice A' (L:List Sh).length c',.int .i64 (pcE (plain l) n x)])∧plain L=pcM (plain l) n x∧wG w' (fun _=>True) A' c' L∧Below w.heap.size w w':=by
 obtain ⟨E1,hE1⟩:∃ E,M.je (plain l)=E:=⟨_,rfl⟩;obtain ⟨E3,hE3⟩:∃ E,M.cZ x=E:=⟨_,rfl⟩;obtain ⟨b1,b2,b3⟩:=hp.bd;obtain ⟨E,hEE⟩:∃ E,pcE (plain l) n x=E:=⟨_,rfl⟩
 have hEv:aU [E1,wh (decide (n<1) || decide ((l.length:Int)<n)) 10,E3]=E:=by rw [← hEE, ← hE1, ← hE3];unfold pcE;rw [eF]
 by_cases h1:n<1
 · have t1:decide (n<1)=true:=decide_eq_true h1
   have hE:aU [E1,wh true 10,E3]=E:=by rw [← hEv,t1];rfl
   have h0:E≠0:=by
    rw [← hE]
    unfold aU aU wh
    by_cases h:E1=0 <;> simp [h]
   clear hEv h1;have hfi:=fun A c w h=>first_any (fun _=>True) A c [E1,wh true 10,E3] w h
   simp only [hE] at hfi
   have HFI:=hide hfi;clear hfi
   go_enter Tryz.func55,Tryz.ntmps55
   go_upto_region 1 with (fail)
   refine acH (p:=fun W=>Code.wp _ _ _ _ W) (fun w0 hw0=>?_)
   have hB:bU w w0 [((au ⟨x,P,d⟩),66)]:=by rw [hw0];exact (bU.nil w).new (by simp) (au ⟨x,P,d⟩) 66
   clear hw0;have hrx:∀ W',(fun w':World=>Below w0.heap.size w0 w') W'→W'.rangeAt w.heap.size 0 (au ⟨x,P,d⟩):=fun W' h=>((hB.bf rfl).below h).range;have hcl:=fun W (h:(fun w':World=>Below w0.heap.size w0 w') W)=>Hq S l A c W ((hp.below hB.bw).below h);have hcx:=fun W (h:(fun w':World=>Below w0.heap.size w0 w') W)=>vS S' x P d W (Reads.below (Reads.below hx hB.bw) h)
   simp only [hE1] at hcl
   simp only [hE3] at hcx
   have JF:=hide hcl;have HCX:=hide hcx;clear hcl hcx;clear hE hE1 hE3;refine wp_region_held_drew (S:=(fun w':World=>Below w0.heap.size w0 w')) (by kernel_rfl) ?eP (fun hHeld=>?_)
   case eP=>exact (Below.refl _ _).drew
   refine tk 0 ?_;refine tk 2 ?_;refine tk 3 ?_;refine Zf 11 hrx Tryz.underlying66 ?_;refine tr 1 fun K hK=>?_;go_simp
   (go_at_call 40;refine (JF.out _ hHeld).mono ?_;rintro e w1 ⟨rfl,hb1⟩)
   refine Zc hK (hHeld.trans (hb1.mono hHeld.size)) fun hHeld=>?_;clear hK K;refine tk 4 ?_;refine tu 5 ?_;refine tu 6 ?_;refine tu 7 ?_;refine tu 8 ?_;refine tk 9 ?_;refine tr 10 fun K hK=>?_;go_simp
   (go_at_call 87;refine (bY _ _ _).mono ?_;rintro e w9 ⟨rfl,rfl⟩)
   refine Zc hK (hHeld) fun hHeld=>?_;clear hK K;refine tr 12 fun K hK=>?_;go_simp
   (go_at_call 35;refine (HCX.out _ hHeld).mono ?_;rintro e w3 ⟨rfl,hb3⟩)
   refine Zc hK (hHeld.trans (hb3.mono hHeld.size)) fun hHeld=>?_;clear hK K;refine tr 13 fun K hK=>?_;go_simp;refine Zc hK (Below.alloc hHeld hHeld.size _) fun hHeld=>?_;clear hK K;refine tr 14 fun K hK=>?_;go_simp
   (go_at_call 85;refine (HFI.out _ _ _ (bD.lit _ _ _ (by simp) _ trivial)).mono ?_;rintro e w8 ⟨rfl,rfl⟩)
   refine Zc hK (hHeld) fun hHeld=>?_;clear hK K;refine tk 15 ?_;refine wpAnyH_done (by kernel_rfl) ?_ _
   have hz:(E != 0)=true:=by simpa using h0
   have HR:=hide (show pcE (plain l) n x=E∧pcM (plain l) n x=[] from ⟨hEE,if_neg (by rw [hEE];exact h0)⟩);clear h0 hEE;go_wp2;go_ret2;exact ⟨[],none,0,by rw [HR.out.1] <;> rfl,by rw [HR.out.2] <;> rfl,⟨Reads.none_ _ _ _,fun e he=>by cases he⟩,hB.bw.trans (hHeld.mono hB.bw.size)⟩
 have t1:decide (n<1)=false:=decide_eq_false h1;obtain ⟨b,t2⟩:∃ b,decide ((l.length:Int)<n)=b:=⟨_,rfl⟩
 have hE:aU [E1,wh b 10,E3]=E:=by rw [← hEv,t1,t2];rfl
 clear hEv h1;have hfi:=fun A c w h=>first_any (fun _=>True) A c [E1,wh b 10,E3] w h
 simp only [hE] at hfi
 have HFI:=hide hfi;clear hfi
 go_enter Tryz.func55,Tryz.ntmps55
 go_upto_region 1 with (fail)
 refine acH (p:=fun W=>Code.wp _ _ _ _ W) (fun w0 hw0=>?_)
 have hB:bU w w0 [((au ⟨x,P,d⟩),66)]:=by rw [hw0];exact (bU.nil w).new (by simp) (au ⟨x,P,d⟩) 66
 clear hw0;have hrx:∀ W',(fun w':World=>Below w0.heap.size w0 w') W'→W'.rangeAt w.heap.size 0 (au ⟨x,P,d⟩):=fun W' h=>((hB.bf rfl).below h).range;have hcl:=fun W (h:(fun w':World=>Below w0.heap.size w0 w') W)=>Hq S l A c W ((hp.below hB.bw).below h);have hcx:=fun W (h:(fun w':World=>Below w0.heap.size w0 w') W)=>vS S' x P d W (Reads.below (Reads.below hx hB.bw) h)
 simp only [hE1] at hcl
 simp only [hE3] at hcx
 have JF:=hide hcl;have HCX:=hide hcx;clear hcl hcx;have HE1:=hide hE1;have HE3:=hide hE3;clear hE1 hE3 hE;refine wp_region_held_drew (S:=(fun w':World=>Below w0.heap.size w0 w')) (by kernel_rfl) ?jw (fun hHeld=>?_)
 case jw=>exact (Below.refl _ _).drew
 refine tk 0 ?_;refine tk 2 ?_;refine tk 3 ?_;refine Zf 11 hrx Tryz.underlying66 ?_;refine tr 1 fun K hK=>?_;go_simp
 (go_at_call 40;refine (JF.out _ hHeld).mono ?_;rintro e w1 ⟨rfl,hb1⟩)
 refine Zc hK (hHeld.trans (hb1.mono hHeld.size)) fun hHeld=>?_;clear hK K;refine tk 4 ?_;refine tk 5 ?_;refine tk 6 ?_;refine tk 7 ?_;refine tk 8 ?_;refine tk 9 ?_;refine tr 10 fun K hK=>?_;go_simp
 (go_at_call 87;refine (bY _ _ _).mono ?_;rintro e w9 ⟨rfl,rfl⟩)
 refine Zc hK (hHeld) fun hHeld=>?_;clear hK K;refine tr 12 fun K hK=>?_;go_simp
 (go_at_call 35;refine (HCX.out _ hHeld).mono ?_;rintro e w3 ⟨rfl,hb3⟩)
 refine Zc hK (hHeld.trans (hb3.mono hHeld.size)) fun hHeld=>?_;clear hK K;refine tr 13 fun K hK=>?_;go_simp;refine Zc hK (Below.alloc hHeld hHeld.size _) fun hHeld=>?_;clear hK K;refine tr 14 fun K hK=>?_;go_simp
 (go_at_call 85;refine (HFI.out _ _ _ (bD.lit _ _ _ (by simp) _ trivial)).mono ?_;rintro e w8 ⟨rfl,rfl⟩)
 refine Zc hK (hHeld) fun hHeld=>?_;clear hK K;refine tk 15 ?_;refine wpAnyH_done (by kernel_rfl) ?_ _
 by_cases h0:E=0
 rotate_left
 · clear t1 t2
   have hz:(E != 0)=true:=by simpa using h0
   have HR:=hide (show pcE (plain l) n x=E∧pcM (plain l) n x=[] from ⟨hEE,if_neg (by rw [hEE];exact h0)⟩);clear h0 hEE;go_wp2;go_ret2;exact ⟨[],none,0,by rw [HR.out.1] <;> rfl,by rw [HR.out.2] <;> rfl,⟨Reads.none_ _ _ _,fun e he=>by cases he⟩,hB.bw.trans (hHeld.mono hB.bw.size)⟩
 subst h0;have hs:=abY (plain l) n x;rw [hEE] at hs
 have hl0:M.je (plain l)=0:=by
  by_cases h:M.je (plain l)=0
  · exact h
  · rw [if_neg h] at hs;exact absurd hs.symm h
 rw [if_pos hl0] at hs
 have hn:¬ (n<1∨(l.length:Int)<n):=fun h=>by
  unfold aa6 at hs
  rw [eF,if_pos h] at hs;exact absurd hs (by decide)
 have hx0:M.cZ x=0:=by unfold aa6 at hs;rw [eF,if_neg hn] at hs;exact hs.symm
 obtain ⟨k0,rfl⟩:∃ k:Nat,n=(k:Int)+1:=⟨(n - 1).toNat,by omega⟩
 have hk0:k0<l.length:=by omega
 have hmv:pcM (plain l) ((k0:Int)+1) x=(plain l).set k0 x:=by unfold pcM;rw [if_pos hEE];congr 1;omega
 have hll:=(M.Zt _).1 hl0;rw [eF] at hll
 have hsm:∀ e∈(plain l).set k0 x,e.aA.length*16≤140737488355328:=fun e he=>by
  have:M.cZ e=0:=by
   rcases List.mem_or_eq_of_mem_set he with h | rfl
   · exact hll.2 e h
   · exact hx0
  have:=(M.uw this).few
  omega
 have hcs:=fun W h=>agf S A c l W h hll.1;have HCS:=hide hcs;have HLT:=hide (show 0<l.length by omega);have HR:=hide (And.intro hEE hmv);have HSM:=hide hsm;clear hcs hsm hEE hmv hs hl0 hn hx0 hll t1 t2;have hbw:=hB.bw.trans (hHeld.mono hB.bw.size)
 have i1:(0:Int)≤(k0:Int):=by omega
 have i2:(k0:Int)<(l.length:Int):=by omega
 go_upto_region 6 with (first | (go_at_call 105;refine (HCS.out _ (hp.below hbw)).mono ?_;rintro e w4 ⟨A4,c4,rfl,hrow,hb4⟩;obtain ⟨g,rfl,hg,hrow⟩:=hrow HLT.out;have hx4:=(hB.bf rfl).below (hHeld.trans (hb4.mono hHeld.size));dsimp only) | (refine aN 66 (.tmp 5) rfl ?_;refine aG (hx4) Tryz.underlying66 rfl awX rfl (.tmp 5) rfl rfl ?_) | (refine aO 66 (.tmp 35) (.tmp 34) rfl ?_;refine Az (g:=g) (o:=k0*7) (vs:=(au ⟨x,P,d⟩)) (hrow.there hk0) awX (uq _ _ _) rfl (.tmp 35) (.tmp 34) rfl rfl rfl ?_))
 refine acH (p:=fun W=>Code.wp _ _ _ _ W) (fun w5 hw5=>?_);have hgw:w.heap.size≤g:=Nat.le_trans hbw.size hg
 have hb5:Below w.heap.size w w5:=by rw [hw5];exact below_setCells _ hgw _ _ _ _ (hbw.trans (hb4.mono hbw.size))
 have hI:PcI g c4 0 ((plain l).set k0 x) w w5:=⟨⟨l.set k0 ⟨x,P,d⟩,afw _ _ _ _ _,by rw [hw5];exact hrow.put hk0 ⟨x,P,d⟩,fun e he=>by
  rcases List.mem_or_eq_of_mem_set he with h | rfl
  · exact Reads.more (Reads.below (Reads.more (hp.2 e h) (S':=fun b=>b<w.heap.size) (fun b hb _=>hb)) hb5) (fun b _ hb=>by omega)
  · exact Reads.more (Reads.below (Reads.more hx (S':=fun b=>b<w.heap.size) (fun b hb _=>hb)) hb5) (fun b _ hb=>by omega)⟩,hb5⟩
 clear hw5 hx4 hrow hb4 hHeld hbw hrx hB hg hb5;go_wp2
 go_loopw [38] (fun i wr=>∃ k:Nat,k≤l.length∧i= .int .i64 k∧PcI g c4 k ((plain l).set k0 x) w wr) (fun i _=>l.length - (intOf i).toNat)
 case atStart=>exact ⟨0,Nat.zero_le _,rfl,hI⟩
 case round=>
  obtain ⟨k,hk,rfl,hJ⟩:=hrel;clear hI;obtain ⟨⟨L,hL,aqx,xY⟩,hbk⟩:=hJ
  have hlen:L.length=l.length:=by have:=congrArg List.length hL;rw [List.length_set,eF,eF] at this;exact this
  by_cases hlt:k<l.length
  · have hkL:k<L.length:=by omega
    have hc6:=(aqx.at_ hkL).1;have hpk:=xY _ (List.getElem_mem hkL);have hgl:=aqx.lt;have hpl:=HSM.out L[k].x (by rw [← hL];exact List.mem_map_of_mem (List.getElem_mem hkL))
    have hLs:(plain L).set k L[k].x=plain L:=by
     have h2:k<(plain L).length:=by rw [eF];exact hkL
     have h3:L[k].x=(plain L)[k]:=by simp [plain]
     rw [h3,List.set_getElem_self]
    have Dw:=hide hpl;have UC:=hide xY
    have j1:(0:Int)≤(k:Int):=by omega
    have j2:(k:Int)<(l.length:Int):=by omega
    have HLN:=hide hlen;clear hpl xY hlen
    go_wp2_with (first | (go_at_call 106;refine (ahb _ _ _ _ _ hpk Dw.out).mono ?_;rintro e w7 ⟨A7,c7,rfl,Qb,hb7⟩;have awJ:=aqx.below hb7;have YX:=(awJ.at_ hkL).1;have hf7:=(awJ.at_ hkL).2;dsimp only))
    have hbf:Below w.heap.size w (w7.setCell ⟨g,k*7+6,none⟩ (.slice A7 L[k].x.aA.length c7)):=(hbk.trans (hb7.mono hbk.size)).setCell (p:=⟨g,k*7+6,none⟩) hgw _
    go_roundw
    case rel=>
     refine ⟨k+1,by omega,by go_num,⟨⟨L.set k ⟨L[k].x,A7,c7⟩,by rw [afw,hLs,hL],awJ.aA hkL A7 c7,fun e he=>?_⟩,hbf⟩⟩
     rcases List.mem_or_eq_of_mem_set he with h | rfl
     · exact Reads.setCell (Reads.below (UC.out e h) hb7) (fun h=>h rfl) _
     · exact Reads.setCell (Reads.more Qb (fun b _ h=>by omega)) (fun h=>h rfl) _
    case measure=>simp [intOf];omega
  · have i9:¬ ((k:Int)<(l.length:Int)):=by omega
    have hfin:=aqx.owns hgw;rw [← hlen] at i9 ⊢;have HF:=hide hfin;have HL2:=hide hlen;clear hlt hfin hlen;go_wp2;go_ret2;exact ⟨L,_,_,by rw [HR.out.1] <;> rfl,by rw [HR.out.2];exact hL,⟨Reads.kG HF.out (fun _ _=>trivial) (by have:=HL2.out;omega),fun e he=>Reads.more (xY e he) (fun _ _ _=>trivial)⟩,hbk⟩
theorem alf:(Tryz.prog.info? 33).map (fun i=>(i.zero,i.size,i.bytes))=some (some (.agg aj.toArray),15,112):=by kernel_rfl
def RTL (r:M.Rules) (l:List Sh) (L:List StE):Prop:=∀ k (h:k<L.length),L[k].s=lQ r l (k+1)
theorem RTL.snoc {r:M.Rules} {l:List Sh} {L:List StE} {x:StE} (h:RTL r l L) (hx:x.s=lQ r l (L.length+1)):RTL r l (L++[x]):=by
 intro k hk
 rcases Nat.lt_or_ge k L.length with hlt | hge
 · rw [List.getElem_append_left hlt];exact h k hlt
 · have hk2:k=L.length:=by simp at hk;omega
   subst hk2;rw [List.getElem_append_right (Nat.le_refl _)]
   simp [hx]
structure RTs (r:M.Rules) (l:List Sh) (w:World) (B D:Nat) (X Y:Nat→Prop) (xs:List wY) (W:World):Prop where
 bw:Below w.heap.size w W
 sz:D≤W.heap.size
 sep:∀ b,X b∨Y b→D≤b
 a:∃ (L:List StE) (A:Option Addr) (c:Nat),Held W B [.slice A L.length c] 178∧iJ W D X Y 33 15 (.slice A L.length c) L.length (L.flatMap stC)∧L.length=xs.length∧RTL r l L∧∀ y∈L,KI W X (fun b=>D≤b∧(Value.slice A L.length c).ownBlock≠some b) y.a y.c y.s.ay
section
variable {r:M.Rules} {l:List Sh} {w:World} {B D:Nat}
theorem RTs.abides (hw:w.heap.size<B) (h9:B<D):tq (RTs r l w B D):=by
 intro X Y pre W X' Y' W' h ht hX hY
 have hno:∀ b,b<D→¬ X b:=fun b hb hx=>by have:=h.sep b (.inl hx);omega
 obtain ⟨L,A,c,hv,ho,hl,hg,hk⟩:=h.a;refine ⟨kS h.bw ht (fun b hb=>by have:=h.sep b (.inl hb);omega) (by have:=h.sz;omega),Nat.le_trans h.sz ht.size,?_,⟨L,A,c,hv.turn ht (hno _ h9),ho.turn ht hX hY,hl,hg,fun y hy=>(hk y hy).turn ht hX⟩⟩
 rintro b (hb | hb)
 · rcases hX b hb with h2 | h2
   · exact h.sep b (.inl h2)
   · exact Nat.le_trans h.sz h2
 · rcases hY b hb with h2 | h2
   · exact h.sep b (.inr h2)
   · exact Nat.le_trans h.sz h2
theorem RTs.putObj {X Y:Nat→Prop} {pre:List wY} {W:World} {lp:Nat} {o:Obj} (h:RTs r l w B D X Y pre W) (hD:w.heap.size≤D) (hlp:D≤lp) (hl:W.heap[lp]? =some o) (ho:o.isCells=false) (o':Obj):RTs r l w B D X Y pre (W.putObj lp o'):=by
 obtain ⟨L,A,c,hv,hw,h1,hg,hk⟩:=h.a;exact ⟨jY h.bw (by omega) _,by simpa using h.sz,h.sep,⟨L,A,c,hv.putObj hl ho _,hw.putObj hl ho _,h1,hg,fun y hy=>(hk y hy).putObj hl ho _⟩⟩
theorem aqL {X S0:Nat→Prop} {W w5:World} {A:Option Addr} {c g1 n cap:Nat} {zs:List Int} {v:Value} (h:bD W S0 A c zs) (hS:∀ b,S0 b→b<W.heap.size→¬ X b∧D≤b∧v.ownBlock≠some b) (hT:Turn (fun b=>b=B∨v.ownBlock=some b) W w5) (hB:B<D) (hat:v.ownBlock=some g1∨W.heap.size≤g1):
 KI w5 X (fun b=>D≤b∧(Value.slice (some ⟨g1,0,none⟩) n cap).ownBlock≠some b) A c zs:=by
 have h1:=bD.more h (S':=fun b=>b<W.heap.size∧¬ X b∧D≤b∧v.ownBlock≠some b) (fun b hb h=>⟨hb,hS b h hb⟩)
 have h2:bD w5 _ A c zs:=Reads.keep h1 hT.size (fun b o hs hl=>World.cell?_of_block (hT.block b hl (by
  rintro (e | e)
  · exact absurd hs.2.2.1 (by omega)
  · exact hs.2.2.2 e)))
 refine KI.of h2 (fun b hs _=>⟨hs.2.1,hs.2.2.1,fun e=>?_⟩);have e':(some g1:Option Nat)=some b:=e
 cases e'
 rcases hat with h3 | h3
 · exact hs.2.2.2 h3
 · have:=hs.1;omega
theorem RTs.fin {X Y K:Nat→Prop} {Ix:(Nat→Prop)→(Nat→Prop)→List wY→World→Prop} {x:wY} {pre:List wY} {W w5:World} {A A2:Option Addr} {c g1 cap c2:Nat} {L:List StE} {a:Act} (hw:w.heap.size≤B) (hB:B<D) (hWs:D≤W.heap.size) (hbw:Below w.heap.size w W) (hsep:∀ b,X b∨Y b→D≤b)
 (hX:∀ b,X b∨Y b→D≤b∧b<W.heap.size) (hK:∀ b,K b→b<D∧b≠B) (iL:iJ W D X Y 33 15 (.slice A L.length c) L.length (L.flatMap stC)) (hT:Turn (fun b=>b=B∨(Value.slice A L.length c).ownBlock=some b) W w5) (hV:Held w5 B [.slice (some ⟨g1,0,none⟩) (L.length+1) cap] 178)
 (hO:iJ w5 D X Y 33 15 (.slice (some ⟨g1,0,none⟩) (L.length+1) cap) (L.length+1) (L.flatMap stC++stC ⟨x.t,A2,c2⟩)) (hat:(Value.slice A L.length c).ownBlock=some g1∨W.heap.size≤g1) (hl:L.length=pre.length) (hg:RTL r l L) (ht:x.t=lQ r l (pre.length+1)) (hx:bD W Y A2 c2 x.t.ay) (hxy:∀ b,Y b→¬ X b)
 (hk:∀ y∈L,KI W X (fun b=>D≤b∧(Value.slice A L.length c).ownBlock≠some b) y.a y.c y.s.ay):rU K D X Y (RTs r l w B D) Ix (pre++[x]) W .normal a w5:=by
 obtain ⟨h1,h2⟩:=Js hWs hX hB hK iL hT
 have e1:(L++[(⟨x.t,A2,c2⟩:StE)]).length=L.length+1:=by simp
 refine ⟨h1,h2,⟨kS hbw hT ?_ (by omega),Nat.le_trans hWs hT.size,hsep,⟨L++[⟨x.t,A2,c2⟩],some ⟨g1,0,none⟩,cap,?_,?_,?_,hg.snoc (by rw [hl];exact ht),fun y hy=>?_⟩⟩⟩
 · rintro b (h | h)
   · omega
   · have:=(bg iL.own h).1;omega
 · rw [e1];exact hV
 · rw [e1,List.flatMap_append]
   have:[(⟨x.t,A2,c2⟩:StE)].flatMap stC=stC ⟨x.t,A2,c2⟩:=by simp
   rw [this];exact hO
 · rw [e1,List.length_append,List.length_singleton,hl]
 · rcases List.mem_append.1 hy with hy | hy
   · obtain ⟨Z,hz,hz2⟩:=hk y hy
     exact aqL hz (fun b hb _=>⟨(hz2 b hb).2.1,(hz2 b hb).2.2.1,(hz2 b hb).2.2.2⟩) hT hB hat
   · obtain rfl:=List.mem_singleton.1 hy
     exact aqL hx (fun b hb _=>⟨hxy b hb,(hX b (.inr hb)).1,(fun e=>(iL.far b e).2 hb)⟩) hT hB hat
end
theorem afY (S:Nat→Prop) (r:M.Rules) (l:List Sh) (A:Option Addr) (c:Nat) (w:World) (hp:wG w S A c l) (hr:M.aH r=0) (Vb:M.je (plain l)=0):
 Calls Tryz.prog 107 #[jM r,.slice A l.length c] w fun e w'=>∃ L A2 c2,e= .returned (.slice A2 (L:List StE).length c2)∧L.length=l.length∧RTL r l L∧RdT w' (fun b=>w.heap.size≤b) A2 c2 L∧Below w.heap.size w w':=by
 refine callsIn_wide.1 (callsIn_of_wp_marks (F:=Fence.wide) (n:=5) Tryz.func107 rfl trivial ?_ rfl)
 simp only [Tryz.ntmps107,List.size_toArray,List.length_cons,List.length_nil,Nat.reduceAdd,Nat.reduceSub,Array.replicate_succ,
  Array.replicate_zero,List.push_toArray,List.append_toArray,List.nil_append,List.cons_append]
 refine wpIn_wide.2 ?_
 generalize hQ':bodyPostM Fence.wide 5 Tryz.prog _ _=Q'
 have HR:=hide hr;have hls:=((M.Zt _).1 Vb).1;rw [eF] at hls;have HL:Hid (∀ e∈l,M.cZ e.x=0):=hide (fun e he=>((M.Zt _).1 Vb).2 _ (List.mem_map_of_mem he));have JH:=hide hls;have HQ:=hide hQ';clear hQ' hr hls Vb
 go_upto_region 2 with (fail)
 refine acH (p:=fun W=>Code.wp _ _ _ _ W) (fun wc hwc=>?_)
 have hB:bU w wc [([.string r.game,.int .i64 r.target,.int .i64 r.aY],23),([.slice none 0 0],178)]:=by rw [hwc];exact (((bU.nil w).new (by simp) ([.string r.game,.int .i64 r.target,.int .i64 r.aY]) _).new (by simp) ([.slice none 0 0]) _)
 clear hwc;have k0:=(hB.bf rfl).cell (j:=0) rfl;have GL:=(hB.bf rfl).frozen 0;have k1:=(hB.bf rfl).cell (j:=1) rfl;have JE:=(hB.bf rfl).frozen 1;have k2:=(hB.bf rfl).cell (j:=2) rfl;have Pn:=(hB.bf rfl).frozen 2
 have xA:w.heap.size+2≤wc.heap.size:=by simpa using hB.size (by simp)
 go_wp2_with (go_at_call 65;refine (uJ r _ _ _ _).mono ?_;rintro e w3 ⟨rfl,hC⟩)
 rename_i KQ RI;clear k0 GL k1 JE k2 Pn
 have hD3:wc.heap.size+2≤w3.heap.size:=by
  have:=hC.size (by simp)
  simpa using this
 have hb3:Below w.heap.size w w3:=hB.bw.trans (hC.bw.mono (by omega));have Kt:Held w3 wc.heap.size [.string r.game,.int .i64 r.target,.int .i64 r.aY] 23:=hC.bf rfl;have Ko:Held w3 (wc.heap.size+1) [.slice A l.length c] 24:=hC.get 1 rfl
 have hK3:∀ b,(b=wc.heap.size∨b=wc.heap.size+1∨(S b∧b<w.heap.size))→b<w3.heap.size:=by rintro b (h | h | ⟨_,h⟩) <;> omega
 have RN:wG w3 (fun b=>b=wc.heap.size∨b=wc.heap.size+1∨(S b∧b<w.heap.size)) A c l:=(hp.more (S':=(fun b=>b=wc.heap.size∨b=wc.heap.size+1∨(S b∧b<w.heap.size))) (fun b hb h=> .inr (.inr ⟨h,hb⟩))).below hb3;have hA3:Held w3 (w.heap.size+1) [.slice none 0 0] 178:=(hB.get 1 rfl).upto hC.bw (by omega);refine (wpIn_wide (n:=5)).1 ?_
 refine kJ (F:=Fence.wide) rfl (by decide) rfl trivial (fun _ _=>rfl) (sN r l A c (fun b=>b=wc.heap.size∨b=wc.heap.size+1∨(S b∧b<w.heap.size)) _ _ 4 w3 (by decide) HR.out HL.out JH.out hK3 Kt (.inl rfl) Ko (.inr (.inl rfl)) RN) hK3 (Below.refl _ _) (fun _=>rfl) (RTs r l w (w.heap.size+1) w3.heap.size) (fun _ _ _ _=>False) (RTs.abides (by omega) (by omega)) (fun _ _ _ _ _ _ _ h _ _ _=>h)
  (fun X Y pre W lp o o' h hlp hl ho=>h.putObj (by omega) hlp hl ho o') (fun _ _ _ _ _ _ _ h _ _ _=>h) (fun X Y pre x W lp o o' h hlp hl ho=>h.putObj hl ho o') ?h0 (fun x a W=>∃ Be v0 v1 v2 v3 v4 v6 v8 v9 v10 v11 v12 v13 v14 v15 v16 v17 v18 v19,a= {tmps:= #[v0,v1,v2,v3,v4,ptr (w.heap.size+1),v6,ptr Be,v8,v9,v10,v11,v12,v13,v14,v15,v16,v17,v18,v19],defers:=[] }∧w3.heap.size≤Be∧Held W Be (bH r x) 133) ?assign ?ap ?body ?done ?stop
 case h0=>
  intro W hW;exact ⟨(hb3.trans (hW.mono (by omega))),hW.size,fun b h=>h.elim (fun h=>h.elim) (fun h=>h.elim),⟨[],none,0,hA3.below hW,⟨World.ownsRow_nil _ _ _ _,fun g hg=>by cases hg⟩,rfl,fun k h=>absurd h (Nat.not_lt_zero _),fun y hy=>by cases hy⟩⟩
 case ap=>
  rintro x a' W lp o o' ⟨Be,v0,v1,v2,v3,v4,v6,v8,v9,v10,v11,v12,v13,v14,v15,v16,v17,v18,v19,e2,h1,h2⟩ hlp hl ho
  exact ⟨Be,v0,v1,v2,v3,v4,v6,v8,v9,v10,v11,v12,v13,v14,v15,v16,v17,v18,v19,e2,h1,h2.putObj hl ho _⟩
 case stop=>exact fun _ _ _ _ _ _ _ h _=>h.elim
 case assign=>
  intro lp X Y pre x W K' hi ht hk Au;have hb:=((Below.refl W.heap.size W).alloc (Nat.le_refl _) (.cells jk.toArray 133));have hb':=below_setCells W.heap.size (Nat.le_refl _) (bH r x) 0 _ _ hb;have hE0:=Held.new W jk 133;have hsz:=hi.sz
  have fin:∀ v0 v1 v2 v3 v4 v6 v8 v9 v10 v11 v12 v13 v14 v15 v16 v17 v18 v19:Value,K' {tmps:= #[v0,v1,v2,v3,v4,ptr (w.heap.size+1),v6,ptr W.heap.size,v8,v9,v10,v11,v12,v13,v14,v15,v16,v17,v18,v19],defers:=[] } ((W.alloc (.cells jk.toArray 133)).setCells W.heap.size 0 (bH r x)):=fun _ _ _ _ _ _ _ _ _ _ _ _ _ _ _ _ _ _=>
   hk _ _ ⟨hb'.size,fun k o hk hl _=>(hb'.block k (Array.getElem?_eq_some_iff.1 hl).1).trans hl⟩
    ⟨hb'.size,fun b h=>hb'.block b (Au b h),fun b h=>hb'.block b (Nat.lt_of_lt_of_le (hK3 b h) hsz)⟩
    (RTs.abides (by omega) (by omega) _ _ _ _ _ _ _ hi (Turn.of_below hb') (fun b h=> .inl h) (fun b h=> .inl h))
    ⟨ht.i,ht.lt,ht.e,ht.s,ht.t,ht.rule,ht.a.below hb',ht.b.below hb',ht.xy⟩
    ⟨W.heap.size,_,_,_,_,_,_,_,_,_,_,_,_,_,_,_,_,_,_,rfl,hsz,hE0.whole _ rfl⟩
  have FIN:=hide fin;clear hk fin hb hb' hi ht Au hsz
  simp [zh]
  refine aS (by kernel_rfl) (by rintro ⟨_,_,h⟩;exact h) ?_
  go_wp2_with (refine aO 133 (.tmp 7) (.tmp 12) rfl ?_;refine aF hE0 (bH r x) rfl mG (tX _ _) rfl (.tmp 7) (.tmp 12) rfl rfl rfl ?_)
  exact FIN.out _ _ _ _ _ _ _ _ _ _ _ _ _ _ _ _ _ _
 case body=>
  rintro lp X Y pre x a' W hi ht ⟨Be,v0,v1,v2,v3,v4,v6,v8,v9,v10,v11,v12,v13,v14,v15,v16,v17,v18,v19,rfl,Ry,hE⟩ hlt Au hWs
  obtain ⟨L,AL,cL,hV,iL,hLl,hLg,hLk⟩:=hi.a
  have hle:l[pre.length]=x.e:=by have:=ht.e;rw [List.getElem?_eq_getElem hlt] at this;exact Option.some.inj this
  have hst:x.t=lQ r l (pre.length+1):=by rw [vF r l _ hlt,ht.t,ht.s,hle]
  have hLn:L.length≤1000:=by have:=JH.out;omega
  have h28:W.rangeAt Be 28 [.int .i64 x.t.turn,.bool x.t.brk,.bool x.t.hand,.bool x.t.push,.bool x.t.pushed,.int .i64 x.t.group,.slice x.A' x.t.ay.length x.c',.int .i64 x.t.s0,.int .i64 x.t.s1,.int .i64 x.t.f0,.int .i64 x.t.f1,.int .i64 x.t.run,.int .i64 x.t.aZ,.bool x.t.over,.int .i64 x.t.bC]:=fun j v hj=>by
   have h1:=hE.cell (Gx r x.i x.e x.s x.t x.A x.A' x.c x.c' x.rule (3+j) v (Jz r x.t x.A' x.c' j v hj));rw [show 28+j=25+(3+j) by omega];exact h1
  have hsz:=hi.sz;have hbw:=hi.bw;have hsep:=hi.sep;have c9:=hV.cell (j:=0) rfl;have f9:=hV.frozen 0;obtain ⟨i0,hi0,hz0,hz1,hz2⟩:=info_parts alf;have HF:=hide (fun (w5:World) (g1 cap:Nat) h1 h2 h3 h4=>RTs.fin (Ix:=fun _ _ _ _=>False) (a:={tmps:= #[],defers:=[] }) (K:=fun b=>b=wc.heap.size∨b=wc.heap.size+1∨(S b∧b<w.heap.size)) (x:=x) (pre:=pre) (w5:=w5) (g1:=g1) (cap:=cap) (w:=w) (B:=w.heap.size+1) (by omega) (by omega) hWs hbw hsep Au (by rintro b (h | h | ⟨_,h⟩) <;> constructor <;> omega) iL h1 h2 h3 h4 hLl hLg hst ht.b ht.xy hLk);have HV:=hide hV;have HX:=hide Au;have hown:=iL.own;have NQ:=hide iL;clear hLg hLk hLl hst hle hi ht Au hsep iL hV;apply wpIn_block;refine aS (by kernel_rfl) (by rintro ⟨_,_,h⟩;exact h) ?_
  go_wp2_with (first | (refine aN 33 (.tmp 15) rfl ?_;refine jh (g:=Be) (o:=28) h28 Tryz.underlying33 rfl bW rfl (.tmp 15) rfl rfl ?_) | (at_builtin;refine wpList_append_lies _ rfl _ _ _ rfl (w3.heap.size) 33 i0 (.agg aj.toArray) 15 112 Tryz.underlying178 hi0 hz0 hz1 hz2 rfl (by omega) _ _ _ rfl (hown.alloc _) ⟨W.heap.size,0,none⟩ 1 1 [.int .i64 x.t.turn,.bool x.t.brk,.bool x.t.hand,.bool x.t.push,.bool x.t.pushed,.int .i64 x.t.group,.slice x.A' x.t.ay.length x.c',.int .i64 x.t.s0,.int .i64 x.t.s1,.int .i64 x.t.f0,.int .i64 x.t.f1,.int .i64 x.t.run,.int .i64 x.t.aZ,.bool x.t.over,.int .i64 x.t.bC] rfl rfl (dK _ _ _ _ rfl) ?c1 (by omega) ?c2 ?c3 ?c4 (W.heap.size+1) (by simp) ?_))
  case c1=>exact dL x.t x.A' x.c'
  case c2=>simp only [maxLen];omega
  case c3=>omega
  case c4=>simp;omega
  intro g1 cap w4 hown4 hgrow hat hlt4;obtain ⟨xu,PY,P7,PX⟩:=yQ HV.out (by omega) NQ.out (fun b h=>(HX.out b h).2) hWs hgrow hown4 hat rfl;have c4:=xu.cell (j:=0) rfl;have f4:=xu.frozen 0;have FIN:=hide (HF.out _ _ _ PY P7 PX (hat.imp id (fun h=>by omega)));clear PY P7 PX hgrow hown4 c9 f9 xu hat;go_wp2;exact FIN.out
 case done=>
  intro D X Y xs W hD hS hi hdef;obtain ⟨L,AL,cL,hV,iL,hLl,hLg,hLk⟩:=hi.a;have hbw:=hi.bw;have hWs:=hi.sz;have c9:=hV.cell (j:=0) rfl;have Dv:=hide hdef
  have hLn:L.length≤1000:=by have:=JH.out;omega
  have fin:∀ (a:Act),a.defers=[{target:= .collected D,args:= #[] }]→a.tmps.getD 4 undef= .slice AL L.length cL→Q' .ret a W:=by
   intro a e1 e4;rw [← HQ.out];refine uf e1 Dv.out (results_tmp rfl _ _ _) ⟨L,AL,cL,by rw [e4],by omega,hLg,⟨?_,fun y hy=>?_⟩,jY hbw (by omega) _⟩
   · exact Reads.kG (iL.putObj Dv.out rfl _).own (fun g hg=>by omega) (by omega)
   · exact ((hLk y hy).putObj Dv.out rfl _).out.more (fun b _ h=>by omega)
  have FIN:=hide fin;clear fin hi hdef iL hV hLk hLg hLl hS;refine RI _ _ ?_
  dsimp only
  refine uY ?_;go_wp2;exact FIN.out _ rfl rfl
theorem aoe (a0 a1 a2 a3 a4 b0 b1 b2 b3 b4:Bool) (w:World):(Op.equalIn 10000 206 (.agg #[.bool a0,.bool a1,.bool a2,.bool a3,.bool a4]) (.agg #[.bool b0,.bool b1,.bool b2,.bool b3,.bool b4])).run Tryz.prog w= .ok ((a0 == b0) && ((a1 == b1) && ((a2 == b2) && ((a3 == b3) && (a4 == b4))))) w:=by
 obtain ⟨i,hi⟩:∃ i,Tryz.prog.info? 4=some i:=⟨_,rfl⟩
 have hu:Tryz.prog.underlying 206=some (.array 5 4):=by kernel_rfl
 have hui:Tryz.prog.underlying 4=some .bool:=by kernel_rfl
 have hc:Tryz.prog.cellsOf 4=1:=by kernel_rfl
 have h5:List.range 5=[0,1,2,3,4]:=rfl
 have p0:∀ (v0 v1 v2 v3 v4:Value) (w:World),(part 4 #[v0,v1,v2,v3,v4] (0*1)).run Tryz.prog w= .ok v0 w:=fun _ _ _ _ _ w=>by kernel_rfl
 have p1:∀ (v0 v1 v2 v3 v4:Value) (w:World),(part 4 #[v0,v1,v2,v3,v4] (1*1)).run Tryz.prog w= .ok v1 w:=fun _ _ _ _ _ w=>by kernel_rfl
 have p2:∀ (v0 v1 v2 v3 v4:Value) (w:World),(part 4 #[v0,v1,v2,v3,v4] (2*1)).run Tryz.prog w= .ok v2 w:=fun _ _ _ _ _ w=>by kernel_rfl
 have p3:∀ (v0 v1 v2 v3 v4:Value) (w:World),(part 4 #[v0,v1,v2,v3,v4] (3*1)).run Tryz.prog w= .ok v3 w:=fun _ _ _ _ _ w=>by kernel_rfl
 have p4:∀ (v0 v1 v2 v3 v4:Value) (w:World),(part 4 #[v0,v1,v2,v3,v4] (4*1)).run Tryz.prog w= .ok v4 w:=fun _ _ _ _ _ w=>by kernel_rfl
 have q:∀ (a b:Bool) (w:World),(Op.equalIn 9999 4 (.bool a) (.bool b)).run Tryz.prog w= .ok (a == b) w:=fun a b w=>run_equalIn_bool' w 9998 _ _ _ hui;rw [show (10000:Nat)=9999+1 from rfl,run_equalIn_array w 9999 _ _ hu hi,h5,hc]
 unfold Op.eqItems Op.eqItems Op.eqItems Op.eqItems Op.eqItems Op.eqItems
 simp only [Sem.run_bind,p0,p1,p2,p3,p4,q,Result.andThen_ok]
 cases h0:(a0 == b0) <;> cases h1:(a1 == b1) <;> cases h2:(a2 == b2) <;> cases h3:(a3 == b3) <;> cases h4:(a4 == b4) <;> simp [q,p1,p2,p3,p4,h1,h2,h3,h4]
theorem asz (a0 a1 a2 a3 a4 b0 b1 b2 b3 b4:Int) (w:World):(Op.equalIn 10000 208 (.agg #[.int .i64 a0,.int .i64 a1,.int .i64 a2,.int .i64 a3,.int .i64 a4]) (.agg #[.int .i64 b0,.int .i64 b1,.int .i64 b2,.int .i64 b3,.int .i64 b4])).run Tryz.prog w= .ok ((a0 == b0) && ((a1 == b1) && ((a2 == b2) && ((a3 == b3) && (a4 == b4))))) w:=by
 obtain ⟨i,hi⟩:∃ i,Tryz.prog.info? 3=some i:=⟨_,rfl⟩
 have hu:Tryz.prog.underlying 208=some (.array 5 3):=by kernel_rfl
 have hui:Tryz.prog.underlying 3=some (.int .i64):=by kernel_rfl
 have hc:Tryz.prog.cellsOf 3=1:=by kernel_rfl
 have h5:List.range 5=[0,1,2,3,4]:=rfl
 have p0:∀ (v0 v1 v2 v3 v4:Value) (w:World),(part 3 #[v0,v1,v2,v3,v4] (0*1)).run Tryz.prog w= .ok v0 w:=fun _ _ _ _ _ w=>by kernel_rfl
 have p1:∀ (v0 v1 v2 v3 v4:Value) (w:World),(part 3 #[v0,v1,v2,v3,v4] (1*1)).run Tryz.prog w= .ok v1 w:=fun _ _ _ _ _ w=>by kernel_rfl
 have p2:∀ (v0 v1 v2 v3 v4:Value) (w:World),(part 3 #[v0,v1,v2,v3,v4] (2*1)).run Tryz.prog w= .ok v2 w:=fun _ _ _ _ _ w=>by kernel_rfl
 have p3:∀ (v0 v1 v2 v3 v4:Value) (w:World),(part 3 #[v0,v1,v2,v3,v4] (3*1)).run Tryz.prog w= .ok v3 w:=fun _ _ _ _ _ w=>by kernel_rfl
 have p4:∀ (v0 v1 v2 v3 v4:Value) (w:World),(part 3 #[v0,v1,v2,v3,v4] (4*1)).run Tryz.prog w= .ok v4 w:=fun _ _ _ _ _ w=>by kernel_rfl
 have q:∀ (a b:Int) (w:World),(Op.equalIn 9999 3 (.int .i64 a) (.int .i64 b)).run Tryz.prog w= .ok (a == b) w:=fun a b w=>run_equalIn_int w 9998 _ _ _ a b hui;rw [show (10000:Nat)=9999+1 from rfl,run_equalIn_array w 9999 _ _ hu hi,h5,hc]
 unfold Op.eqItems Op.eqItems Op.eqItems Op.eqItems Op.eqItems Op.eqItems
 simp only [Sem.run_bind,p0,p1,p2,p3,p4,q,Result.andThen_ok]
 cases h0:(a0 == b0) <;> cases h1:(a1 == b1) <;> cases h2:(a2 == b2) <;> cases h3:(a3 == b3) <;> cases h4:(a4 == b4) <;> simp [q,p1,p2,p3,p4,h1,h2,h3,h4]
theorem aoz:Tryz.prog.eqGuardType Tryz.prog.depth 206=false:=by kernel_rfl
theorem aoG:Tryz.prog.eqGuardType Tryz.prog.depth 208=false:=by kernel_rfl
theorem ap4:(Tryz.prog.info? 206).map (·.size)=some 5:=by kernel_rfl
theorem aqE:(Tryz.prog.info? 208).map (·.size)=some 5:=by kernel_rfl
def ac9 (x:M.State):List Value:=[.bool x.brk,.bool x.hand,.bool x.push,.bool x.pushed,.bool x.over]
def aic (x:M.State):List Value:=[.int .i64 x.turn,.int .i64 x.group,.int .i64 x.run,.int .i64 x.aZ,.int .i64 x.bC]
theorem Zu (x:M.State) (A:Option Addr) (c:Nat) (w:World):Calls Tryz.prog 148 #[wF x A c] w fun e w'=>e= .returned (.agg (ac9 x).toArray)∧Below w.heap.size w w':=by
 go_enter Tryz.func148,Tryz.ntmps148
 have hB:=((bU.nil w).new (by simp) (aW x A c) 33).new (by simp) [.bool false,.bool false,.bool false,.bool false,.bool false] 206;have hS:=hB.bf rfl;have k0:=hS.cell (j:=0) rfl;have k1:=hS.cell (j:=1) rfl;have k2:=hS.cell (j:=2) rfl;have k3:=hS.cell (j:=3) rfl;have k4:=hS.cell (j:=4) rfl;have k5:=hS.cell (j:=5) rfl;have k6:=hS.cell (j:=6) rfl;have k7:=hS.cell (j:=7) rfl;have k8:=hS.cell (j:=8) rfl;have k9:=hS.cell (j:=9) rfl;have k10:=hS.cell (j:=10) rfl;have k11:=hS.cell (j:=11) rfl;have k12:=hS.cell (j:=12) rfl;have k13:=hS.cell (j:=13) rfl;have k14:=hS.cell (j:=14) rfl
 go_wp2_with (refine aO 206 (.tmp 2) (.tmp 13) rfl ?_;refine aF (hB.get 1 rfl) (ac9 x) rfl ap4 (by simp [ac9,Value.oneCell']) rfl (.tmp 2) (.tmp 13) rfl rfl rfl ?_)
 exact bodyPost_ret (bP (p:=2) ((hB.put 1 rfl (ac9 x) rfl).get 1 rfl) Tryz.underlying206 rfl ap4 rfl _ rfl) rfl ⟨rfl,(hB.put 1 rfl (ac9 x) rfl).bw⟩
theorem Zz (x:M.State) (A:Option Addr) (c:Nat) (w:World):Calls Tryz.prog 149 #[wF x A c] w fun e w'=>e= .returned (.agg (aic x).toArray)∧Below w.heap.size w w':=by
 go_enter Tryz.func149,Tryz.ntmps149
 have hB:=((bU.nil w).new (by simp) (aW x A c) 33).new (by simp) [.int .i64 0,.int .i64 0,.int .i64 0,.int .i64 0,.int .i64 0] 208;have hS:=hB.bf rfl;have k0:=hS.cell (j:=0) rfl;have k1:=hS.cell (j:=1) rfl;have k2:=hS.cell (j:=2) rfl;have k3:=hS.cell (j:=3) rfl;have k4:=hS.cell (j:=4) rfl;have k5:=hS.cell (j:=5) rfl;have k6:=hS.cell (j:=6) rfl;have k7:=hS.cell (j:=7) rfl;have k8:=hS.cell (j:=8) rfl;have k9:=hS.cell (j:=9) rfl;have k10:=hS.cell (j:=10) rfl;have k11:=hS.cell (j:=11) rfl;have k12:=hS.cell (j:=12) rfl;have k13:=hS.cell (j:=13) rfl;have k14:=hS.cell (j:=14) rfl
 go_wp2_with (refine aO 208 (.tmp 2) (.tmp 13) rfl ?_;refine aF (hB.get 1 rfl) (aic x) rfl aqE (by simp [aic,Value.oneCell']) rfl (.tmp 2) (.tmp 13) rfl rfl rfl ?_)
 exact bodyPost_ret (bP (p:=2) ((hB.put 1 rfl (aic x) rfl).get 1 rfl) Tryz.underlying208 rfl aqE rfl _ rfl) rfl ⟨rfl,(hB.put 1 rfl (aic x) rfl).bw⟩
def ahw (x y:M.State):Bool:=(x.brk == y.brk) && ((x.hand == y.hand) && ((x.push == y.push) && ((x.pushed == y.pushed) && ((x.over == y.over)))))
def anx (x y:M.State):Bool:=(x.turn == y.turn) && ((x.group == y.group) && ((x.run == y.run) && ((x.aZ == y.aZ) && ((x.bC == y.bC)))))
theorem afp (S S':Nat→Prop) (x y:M.State) (A B:Option Addr) (c d:Nat) (w:World) (hp:bD w S A c x.ay) (hq:bD w S' B d y.ay):
 Calls Tryz.prog 108 #[wF x A c,wF y B d] w fun e w'=>e= .returned (.bool (x.eq y))∧Below w.heap.size w w':=by
 obtain ⟨b1,b2,b3⟩:=hp.bd;obtain ⟨c1,c2,c3⟩:=hq.bd
 have heq:∀ W,Below w.heap.size w W→Calls Tryz.prog 147 #[.slice A x.ay.length c,.slice B y.ay.length d] W fun e w'=>e= .returned (.bool (decide (x.ay=y.ay)))∧∃ n,w'=W.drewN n:=
  fun W hW=>EZ (fun _=>True) A B c d x.ay y.ay W (Reads.more (Reads.below hp hW) (fun _ _ _=>trivial)) (Reads.more (Reads.below hq hW) (fun _ _ _=>trivial))
 obtain ⟨R,hR⟩:∃ R,x.eq y=R:=⟨_,rfl⟩;rw [hR];have HR:=hide hR;clear hR;have zC:=adT
 go_enter Tryz.func108,Tryz.ntmps108
 have hB:=((bU.nil w).new (by simp) (aW x A c) 33).new (by simp) (aW y B d) 33;have hX:=hB.bf rfl;have hY:=hB.get 1 rfl;have k6:=hX.cell (j:=6) rfl;have k7:=hX.cell (j:=7) rfl;have k8:=hX.cell (j:=8) rfl;have k9:=hX.cell (j:=9) rfl;have k10:=hX.cell (j:=10) rfl;have m6:=hY.cell (j:=6) rfl;have m7:=hY.cell (j:=7) rfl;have m8:=hY.cell (j:=8) rfl;have m9:=hY.cell (j:=9) rfl;have m10:=hY.cell (j:=10) rfl
 by_cases h1:x.ay=y.ay
 rotate_left
 · rw [decide_eq_false h1] at heq
   have HEQ:=hide heq;obtain rfl:R=false:=HR.out.symm.trans (Zh (fun e=>h1 (by rw [e])));clear heq h1
   go_wp2_with (first | (go_at_call 147;refine (HEQ.out _ hB.bw).mono ?_;rintro e w9 ⟨rfl,n,rfl⟩))
   all_goals go_ret
   all_goals exact ⟨rfl,below_drewN hB.bw _⟩
 rw [decide_eq_true h1] at heq;have HEQ:=hide heq;clear heq
 by_cases h2:x.s0=y.s0∧x.s1=y.s1
 rotate_left
 · have hsc:∀ w,(Op.equalIn 10000 31 (.agg #[.int .i64 x.s0,.int .i64 x.s1]) (.agg #[.int .i64 y.s0,.int .i64 y.s1])).run Tryz.prog w= .ok false w:=fun w=>by
    rw [aaL]
    have:((x.s0 == y.s0) && (x.s1 == y.s1))=false:=by rw [Bool.eq_false_iff];intro hb;simp at hb;exact h2 hb
    rw [this]
   obtain rfl:R=false:=HR.out.symm.trans (Zh (fun e=>h2 (by rw [e];exact ⟨rfl,rfl⟩)));clear h1 h2
   go_wp2_with (first | (go_at_call 147;refine (HEQ.out _ hB.bw).mono ?_;rintro e w9 ⟨rfl,n,rfl⟩))
   all_goals go_ret
   all_goals exact ⟨rfl,below_drewN hB.bw _⟩
 have hsc:∀ w,(Op.equalIn 10000 31 (.agg #[.int .i64 x.s0,.int .i64 x.s1]) (.agg #[.int .i64 y.s0,.int .i64 y.s1])).run Tryz.prog w= .ok true w:=fun w=>by rw [aaL,h2.1,h2.2];simp
 by_cases h3:x.f0=y.f0∧x.f1=y.f1
 rotate_left
 · have hsf:∀ w,(Op.equalIn 10000 31 (.agg #[.int .i64 x.f0,.int .i64 x.f1]) (.agg #[.int .i64 y.f0,.int .i64 y.f1])).run Tryz.prog w= .ok false w:=fun w=>by
    rw [aaL]
    have:((x.f0 == y.f0) && (x.f1 == y.f1))=false:=by rw [Bool.eq_false_iff];intro hb;simp at hb;exact h3 hb
    rw [this]
   obtain rfl:R=false:=HR.out.symm.trans (Zh (fun e=>h3 (by rw [e];exact ⟨rfl,rfl⟩)));clear h1 h2 h3
   go_wp2_with (first | (go_at_call 147;refine (HEQ.out _ hB.bw).mono ?_;rintro e w9 ⟨rfl,n,rfl⟩))
   all_goals go_ret
   all_goals exact ⟨rfl,below_drewN hB.bw _⟩
 have hsf:∀ w,(Op.equalIn 10000 31 (.agg #[.int .i64 x.f0,.int .i64 x.f1]) (.agg #[.int .i64 y.f0,.int .i64 y.f1])).run Tryz.prog w= .ok true w:=fun w=>by rw [aaL,h3.1,h3.2];simp
 have hg5:=aoz;have hi5:=aoG;have hfl:∀ (w:World),(Op.equalIn 10000 206 (.agg (ac9 x).toArray) (.agg (ac9 y).toArray)).run Tryz.prog w= .ok (ahw x y) w:=fun w=>aoe _ _ _ _ _ _ _ _ _ _ w;have hnu:∀ (w:World),(Op.equalIn 10000 208 (.agg (aic x).toArray) (.agg (aic y).toArray)).run Tryz.prog w= .ok (anx x y) w:=fun w=>asz _ _ _ _ _ _ _ _ _ _ w
 have hall:x.eq y=(ahw x y && anx x y):=by
  rw [Bool.eq_iff_iff,M.State.eq_iff]
  constructor
  · rintro rfl;simp [ahw,anx]
  · intro h
    simp only [ahw,anx,Bool.and_eq_true,beq_iff_eq] at h
    cases x;cases y
    simp only at h h1 h2 h3
    simp_all
 clear h1 h2 h3
 go_upto_region 3 with (first | (go_at_call 147;refine (HEQ.out _ hB.bw).mono ?_;rintro e w9 ⟨rfl,n,rfl⟩))
 refine acH (p:=fun W=>Code.wp _ _ _ _ W) (fun wb hwb=>?_)
 have hBb:bU w wb [(aW x A c,33),(aW y B d,33)]:=by rw [hwb];exact hB.drewN _
 have hrx:∀ W',(fun w':World=>Below wb.heap.size wb w') W'→W'.rangeAt w.heap.size 0 (aW x A c):=fun W' h=>((hBb.bf rfl).below h).range;have hry:∀ W',(fun w':World=>Below wb.heap.size wb w') W'→W'.rangeAt (w.heap.size+1) 0 (aW y B d):=fun W' h=>((hBb.get 1 rfl).below h).range;clear hwb hB hX hY k6 k7 k8 k9 k10 m6 m7 m8 m9 m10;have agn:True:=trivial;have agv:True:=trivial;obtain ⟨n,hn⟩:∃ n,anx x y=n:=⟨_,rfl⟩;rw [hn] at hnu hall
 cases hf:ahw x y with
 | false=>
   rw [hf] at hfl hall;obtain rfl:R=false:=HR.out.symm.trans hall;clear hall hf hnu hn;refine wp_region_held_drew (S:=(fun w':World=>Below wb.heap.size wb w')) (by kernel_rfl) ?eP (fun hHeld=>?_)
   case eP=>exact (Below.refl _ _).drew
   refine Zf 0 hrx Tryz.underlying33 ?_;refine Zf 2 hry Tryz.underlying33 ?_;refine tr 1 fun K hK=>?_;go_simp
   (first | (go_at_call 148;(first | (have _t:=agn;clear agn;refine (Zu x A c _).mono ?_) | refine (Zu y B d _).mono ?_);rintro e w6 ⟨rfl,hb6⟩) | (go_at_call 149;(first | (have _t:=agv;clear agv;refine (Zz x A c _).mono ?_) | refine (Zz y B d _).mono ?_);rintro e w6 ⟨rfl,hb6⟩))
   refine Zc hK (hHeld.trans (hb6.mono hHeld.size)) fun hHeld=>?_;clear hK K;refine tr 3 fun K hK=>?_;go_simp
   (first | (go_at_call 148;(first | (have _t:=agn;clear agn;refine (Zu x A c _).mono ?_) | refine (Zu y B d _).mono ?_);rintro e w6 ⟨rfl,hb6⟩) | (go_at_call 149;(first | (have _t:=agv;clear agv;refine (Zz x A c _).mono ?_) | refine (Zz y B d _).mono ?_);rintro e w6 ⟨rfl,hb6⟩))
   refine Zc hK (hHeld.trans (hb6.mono hHeld.size)) fun hHeld=>?_;clear hK K;refine tk 4 ?_;refine tk 5 ?_;refine tu 6 ?_;refine tu 7 ?_;refine tu 8 ?_;refine tu 9 ?_;refine tu 10 ?_;refine tk 11 ?_;refine tk 12 ?_;refine wpAnyH_done (by kernel_rfl) ?_ _;go_wp2;go_ret;exact ⟨rfl,hBb.bw.trans (hHeld.mono (hBb.bw.size))⟩
 | true=>
   rw [hf] at hfl hall;obtain rfl:R=n:=HR.out.symm.trans hall;clear hall hf hn;refine wp_region_held_drew (S:=(fun w':World=>Below wb.heap.size wb w')) (by kernel_rfl) ?jw (fun hHeld=>?_)
   case jw=>exact (Below.refl _ _).drew
   refine Zf 0 hrx Tryz.underlying33 ?_;refine Zf 2 hry Tryz.underlying33 ?_;refine tr 1 fun K hK=>?_;go_simp
   (first | (go_at_call 148;(first | (have _t:=agn;clear agn;refine (Zu x A c _).mono ?_) | refine (Zu y B d _).mono ?_);rintro e w6 ⟨rfl,hb6⟩) | (go_at_call 149;(first | (have _t:=agv;clear agv;refine (Zz x A c _).mono ?_) | refine (Zz y B d _).mono ?_);rintro e w6 ⟨rfl,hb6⟩))
   refine Zc hK (hHeld.trans (hb6.mono hHeld.size)) fun hHeld=>?_;clear hK K;refine tr 3 fun K hK=>?_;go_simp
   (first | (go_at_call 148;(first | (have _t:=agn;clear agn;refine (Zu x A c _).mono ?_) | refine (Zu y B d _).mono ?_);rintro e w6 ⟨rfl,hb6⟩) | (go_at_call 149;(first | (have _t:=agv;clear agv;refine (Zz x A c _).mono ?_) | refine (Zz y B d _).mono ?_);rintro e w6 ⟨rfl,hb6⟩))
   refine Zc hK (hHeld.trans (hb6.mono hHeld.size)) fun hHeld=>?_;clear hK K;refine tk 4 ?_;refine tk 5 ?_;refine Zf 6 hrx Tryz.underlying33 ?_;refine Zf 8 hry Tryz.underlying33 ?_;refine tr 7 fun K hK=>?_;go_simp
   (first | (go_at_call 148;(first | (have _t:=agn;clear agn;refine (Zu x A c _).mono ?_) | refine (Zu y B d _).mono ?_);rintro e w6 ⟨rfl,hb6⟩) | (go_at_call 149;(first | (have _t:=agv;clear agv;refine (Zz x A c _).mono ?_) | refine (Zz y B d _).mono ?_);rintro e w6 ⟨rfl,hb6⟩))
   refine Zc hK (hHeld.trans (hb6.mono hHeld.size)) fun hHeld=>?_;clear hK K;refine tr 9 fun K hK=>?_;go_simp
   (first | (go_at_call 148;(first | (have _t:=agn;clear agn;refine (Zu x A c _).mono ?_) | refine (Zu y B d _).mono ?_);rintro e w6 ⟨rfl,hb6⟩) | (go_at_call 149;(first | (have _t:=agv;clear agv;refine (Zz x A c _).mono ?_) | refine (Zz y B d _).mono ?_);rintro e w6 ⟨rfl,hb6⟩))
   refine Zc hK (hHeld.trans (hb6.mono hHeld.size)) fun hHeld=>?_;clear hK K;refine tk 10 ?_;refine tk 11 ?_;refine tk 12 ?_;refine wpAnyH_done (by kernel_rfl) ?_ _;go_wp2;go_ret;exact ⟨rfl,hBb.bw.trans (hHeld.mono (hBb.bw.size))⟩
theorem axF {l m:List Sh} (h:plain l=plain m) {k:Nat} (hl:k<l.length) (hm:k<m.length):l[k].x=m[k].x:=by
 have h1:(plain l)[k]? =(plain m)[k]? :=by rw [h]
 simpa [plain,List.getElem?_eq_getElem hl,List.getElem?_eq_getElem hm] using h1
theorem af7 {W W':World} {b o:Nat} {cs:List Value} (h:W.rangeAt b o cs) (hl:b<W.heap.size) (hb:Below W.heap.size W W'):W'.rangeAt b o cs:=fun i v hi=>(hb.cell (p:=⟨b,o+i,none⟩) hl).trans (h i v hi)
theorem ajo (S S':Nat→Prop) (l m:List Sh) (A B:Option Addr) (c d:Nat) (w:World) (hp:wG w S A c l) (hq:wG w S' B d m) (he:plain l=plain m):
 Calls Tryz.prog 57 #[.slice A l.length c,.slice B m.length d] w fun e w'=>e= .returned (.bool true)∧Below w.heap.size w w':=by
 have hl:l.length=m.length:=by have:=congrArg List.length he;simpa [eF] using this
 have q0:((l.length:Int) != (m.length:Int))=false:=by rw [hl];simp
 have HE:=hide (And.intro he hl);have hbl:=hp.bd.2.2;have hbm:=hq.bd.2.2;clear he hl
 go_enter Tryz.func57,Tryz.ntmps57
 go_wp2
 go_loopw [5] (fun i wr=>∃ k:Nat,k≤l.length∧i= .int .i64 k∧Below w.heap.size w wr) (fun i _=>l.length - (intOf i).toNat)
 case atStart=>exact ⟨0,Nat.zero_le _,rfl,Below.refl _ _⟩
 case round=>
  obtain ⟨k,hk,rfl,hbr⟩:=hrel
  by_cases hlt:k<l.length
  · have hlm:k<m.length:=by have:=HE.out.2;omega
    have hpr:=hp.below hbr;have hqr:=hq.below hbr;obtain ⟨b,o,rfl,_,P9,hcs⟩:=Reads.at_ hpr.1 (by omega);obtain ⟨b',o',rfl,_,XM,hcs'⟩:=Reads.at_ hqr.1 (by omega);have h00:=ab6 (f:=au) (n:=7) (fun _=>rfl) hcs k hlt;have h01:=ab6 (f:=au) (n:=7) (fun _=>rfl) hcs' k hlm;have hpp:=hpr.aA k hlt;have hpq:=hqr.aA k hlm;have hx:=axF HE.out.1 hlt hlm;obtain ⟨a,ha⟩:∃ a,l[k]=a:=⟨_,rfl⟩;obtain ⟨a',ha'⟩:∃ a,m[k]=a:=⟨_,rfl⟩;rw [ha] at h00 hpp hx;rw [ha'] at h01 hpq hx;obtain ⟨x,ax,cx⟩:=a;obtain ⟨y,ay,cy⟩:=a';obtain rfl:x=y:=hx;have hra:=fun W' (h:(fun w':World=>Below wr.heap.size wr w') W')=>af7 h00 P9 h;have hrb:=fun W' (h:(fun w':World=>Below wr.heap.size wr w') W')=>af7 h01 XM h;have hsm:=fun W' (h:(fun w':World=>Below wr.heap.size wr w') W')=>al5 _ _ x x ax ay cx cy W' (Reads.below hpp h) (Reads.below hpq h)
    simp only [aiW.2 rfl] at hsm
    have HSM:=hide hsm
    have i1:(0:Int)≤(k:Int):=by omega
    have i2:(k:Int)<(l.length:Int):=by omega
    have i3:(k:Int)<(m.length:Int):=by omega
    clear hsm ha ha' hpp hpq h00 h01 hcs hcs' hpr hqr hp hq;go_wp2;refine wp_region_held_drew (S:=(fun w':World=>Below wr.heap.size wr w')) (by kernel_rfl) ?eP (fun hHeld=>?_)
    case eP=>exact (Below.refl _ _).drew
    refine tk 0 ?_;refine tk 1 ?_;refine tk 2 ?_;refine Zf 3 hra Tryz.underlying69 ?_;refine tk 4 ?_;refine tk 5 ?_;refine tk 6 ?_;refine Zf 7 hrb Tryz.underlying69 ?_;refine tr 8 fun K hK=>?_;go_simp
    (go_at_call 33;refine (HSM.out _ hHeld).mono ?_;rintro e w2 ⟨rfl,hb2⟩)
    refine Zc hK (hHeld.trans (hb2.mono hHeld.size)) fun hHeld=>?_;clear hK K;refine tk 9 ?_;refine wpAnyH_done (by kernel_rfl) ?_ _;go_wp2
    go_roundw
    case rel=>exact ⟨k+1,by omega,by go_num,hbr.trans (hHeld.mono hbr.size)⟩
    case measure=>simp [intOf];omega
  · have i9:¬ ((k:Int)<(l.length:Int)):=by omega
    clear hlt;go_wp2;go_ret;exact ⟨rfl,hbr⟩
end Go.Proofs.YtelpepbpdojikaaGreatDoor
