/- Parts of the proofs about chapter 5 (pool), joined by program. -/
import Derived.Test.YtelpepbpdojikaaGreatDoorKg24
import Derived.Test.YtelpepbpdojikaaGreatDoorKz8
import Derived.Test.YtelpepbpdojikaaGreatDoorKz9
set_option maxHeartbeats 4000000
set_option maxRecDepth 100000
set_option linter.unusedVariables false
set_option linter.unusedSimpArgs false
namespace Go.Proofs.YtelpepbpdojikaaGreatDoor
open Go.RowKit
theorem afi (S:Nat→Prop) (A:Option Addr) (c:Nat) (zs:List Int) (w:World) (h:bD w S A c zs):
 Calls Tryz.prog 45 #[.slice A zs.length c] w fun r w'=>r= .returned (.int .i64 (aU zs))∧w=w':=by
 obtain ⟨b1,b2,b3⟩:=h.bd
 go_enter Tryz.func45,Tryz.ntmps45
 go_wp2
 go_loop [7] (fun i=>∃ k:Nat,k≤zs.length∧i= .int .i64 k∧aU zs=aU (zs.drop k)) (fun i=>zs.length - (intOf i).toNat)
 case atStart=>exact ⟨0,Nat.zero_le _,rfl,by simp⟩
 case round=>
  obtain ⟨k,hk,rfl,hx⟩:=hrel
  by_cases hlt:k<zs.length
  · obtain ⟨b,o,rfl,_,_,hc⟩:=h.at_ k hlt
    have hck:=hc k hlt
    rw [Cj hlt] at hx
    clear hc
    by_cases he:zs[k]=0
    · have he':(zs[k] != 0)=false:=by simp [he]
      rw [if_neg (by simp [he])] at hx
      have HX:=hide hx
      clear hx he
      go_wp2
      go_round
      case rel=>exact ⟨k+1,by omega,by go_num,HX.out⟩
      case measure=>simp [intOf];omega
    · have he':(zs[k] != 0)=true:=by simp [he]
      rw [if_pos he] at hx
      have HX:=hide hx
      clear hx he
      go_wp2
      go_ret
      exact ⟨dG HX.out.symm,rfl⟩
  · have hz:aU zs=0:=by rw [hx,List.drop_of_length_le (by omega),aU]
    have HX:=hide hz
    clear hx hz
    go_wp2
    go_ret
    exact ⟨dG HX.out.symm,rfl⟩
theorem Zn (S:Nat→Prop) (r:M.Rules) (l:List Sh) (A:Option Addr) (c:Nat) (w:World) (hp:wG w S A c l):
 Calls Tryz.prog 20 #[jM r,.slice A l.length c] w fun e w'=>e= .returned (.int .i64 (aU [M.aH r,M.je (plain l)]))∧Below w.heap.size w w':=by
 obtain ⟨b1,b2,b3⟩:=hp.bd
 obtain ⟨g,tg,fo⟩:=r
 have K0:=Keeps.FT w (.cells #[.string g,.int .i64 tg,.int .i64 fo] 25)
 go_enter Tryz.func20,Tryz.ntmps20
 go_wp2_with (first | (go_at_call 37;refine (Zo ⟨g,tg,fo⟩ _).mono ?_;rintro e w1 ⟨rfl,hb1⟩;have K1:=K0.call hb1) | (go_at_call 41;refine (afp S l A c _ (hp.below K1.bw)).mono ?_;rintro e w2 ⟨rfl,hb2⟩;have K2:=K1.call hb2) | (go_at_call 45;refine (afi (fun _=>True) _ _ [M.aH ⟨g,tg,fo⟩,M.je (plain l)] _ (bD.lit _ _ [M.aH ⟨g,tg,fo⟩,M.je (plain l)] (by simp) _ trivial)).mono ?_;rintro e dO ⟨rfl,rfl⟩))
 go_ret
 exact ⟨rfl,(K2.alloc _).bw⟩
theorem afw:(Tryz.prog.info? 42).map (·.size)=some 15:=by kernel_rfl
theorem agf (S S':Nat→Prop) (x y:M.State) (A B:Option Addr) (c d:Nat) (w:World) (hp:bD w S A c x.ay) (hq:bD w S' B d y.ay):
 Calls Tryz.prog 23 #[wF x A c,wF y B d] w fun e w'=>e= .returned (.bool (x.eq y))∧Below w.heap.size w w':=by
 have hsm:=fun W h h'=>alD S S' x y A B c d W h h'
 have HSM:=hide hsm
 clear hsm
 go_enter Tryz.func23,Tryz.ntmps23
 go_upto_region 1 with (fail)
 have hB:=((bU.nil w).new (by simp) (aW x A c) 33).new (by simp) (aW y B d) 42
 go_wp2_with (first | (refine aN 33 (.tmp 2) rfl ?_;refine aG (hB.bf rfl) Tryz.underlying33 rfl bW rfl (.tmp 2) rfl rfl ?_) | (refine aN 42 (.tmp 3) rfl ?_;refine aG (hB.get 1 rfl) Tryz.underlying42 rfl afw rfl (.tmp 3) rfl rfl ?_) | (go_at_call 68;refine (HSM.out _ (hp.below hB.bw) (hq.below hB.bw)).mono ?_;rintro e w1 ⟨rfl,hb1⟩))
 go_ret
 exact ⟨rfl,hB.bw.trans (hb1.mono hB.bw.size)⟩
theorem agX:(Tryz.prog.info? 69).map (fun i=>(i.zero,i.size,i.bytes))=some (some (.agg #[.int .i64 0,.string ⟨#[]⟩,.int .i64 0,.int .i64 0,.int .i64 0,.bool false,.slice none 0 0]),7,80):=by kernel_rfl
theorem aax (S:Nat→Prop) (l:List Sh) (A:Option Addr) (c:Nat) (w:World) (hp:wG w S A c l) (hl:l.length*80≤140737488355328) (hpl:∀ e∈l,e.x.aA.length*16≤140737488355328):
 Calls Tryz.prog 15 #[.slice A l.length c] w fun e w'=>∃ l' A' c',plain l'=plain l∧e= .returned (.slice A' l'.length c')∧wG w' (fun b=>w.heap.size≤b) A' c' l'∧Below w.heap.size w w':=by
 obtain ⟨b1,b2,b3⟩:=hp.bd
 obtain ⟨i0,hi0,hz0,hz1,hz2⟩:=info_parts agX
 go_enter Tryz.func15,Tryz.ntmps15
 go_wp2
 go_loopw [3,8] (fun v i wr=>∃ (k:Nat) (l':List Sh) (A':Option Addr) (c':Nat),k≤l.length∧i= .int .i64 k∧v= .slice A' l'.length c'∧l'.length=k∧Aside (plain l'=plain (l.take k))∧jR 69 w.heap.size l' A' c' wr∧Below w.heap.size w wr) (fun _ i=>fun _=>l.length - (intOf i).toNat)
 case atStart=>exact ⟨0,[],none,0,Nat.zero_le _,rfl,rfl,rfl,rfl,jR.nil _ _ _,Below.refl _ _⟩
 case round=>
  obtain ⟨k,l',A',c',hk,rfl,rfl,hlk,hpk,st,hbw⟩:=hrel
  have VQ:=hide hpk
  have DX:=hbw.size
  by_cases hlt:k<l.length
  · obtain ⟨b,o,rfl,_,hbl,hcs⟩:=Reads.at_ (hp.below hbw).1 (by omega)
    have h00:wr.rangeAt b (o+k*7) (au l[k]):=fun j v hj=>by
     have hj7:j<7:=(List.getElem?_eq_some_iff.1 hj).1
     rw [Nat.add_assoc]
     exact hcs _ _ ((jI l k hlt j hj7).trans hj)
    have hpo:=(hp.below hbw).aA k hlt
    have aiW:=hpl _ (List.getElem_mem hlt)
    have i1:(0:Int)≤(k:Int):=by omega
    have i2:(k:Int)<(l.length:Int):=by omega
    have hl1:l'.length<l.length:=by omega
    have WU:=hide hlk
    clear hlk
    have hbx:=Held.new wr JB 66
    go_upto_region 5 with (first | (refine aN 66 (.tmp 10) rfl ?_;refine jh (g:=b) (o:=o+k*7) h00 Tryz.underlying66 rfl aV rfl (.tmp 10) rfl rfl ?_) | (refine aO 66 (.tmp 5) (.tmp 11) rfl ?_;refine aF hbx (au l[k]) rfl aV (uq _ _ _) rfl (.tmp 5) (.tmp 11) rfl rfl rfl ?_))
    obtain ⟨W2,hW2⟩:∃ W2,(wr.alloc (.cells #[.int .i64 0,.string ⟨#[]⟩,.int .i64 0,.int .i64 0,.int .i64 0,.bool false,.slice none 0 0] 66)).setCells wr.heap.size 0 (au l[k])=W2:=⟨_,rfl⟩
    have hbb:Below wr.heap.size wr W2:=by rw [← hW2];exact below_setCells _ (Nat.le_refl _) _ _ _ _ ((Below.refl _ _).alloc (Nat.le_refl _) _)
    have hby:Held W2 wr.heap.size (au l[k]) 66:=by rw [← hW2];exact hbx.whole (au l[k]) rfl
    rw [hW2]
    have hown:=ahD S l[k].x l[k].a l[k].c W2 (Reads.below hpo hbb) aiW
    have hst2:=st.below hbb
    have HOWN:=hide hown
    have hzz:=hbb.size
    clear hcs hown hW2 hbx h00
    go_wp2_with (first | (refine aN 66 (.tmp 5) rfl ?_;refine aG hby Tryz.underlying66 rfl aV rfl (.tmp 5) rfl rfl ?_) | (go_at_call 26;refine HOWN.out.mono ?_;rintro e w3 ⟨A3,c3,rfl,hr3,hb3⟩) | (at_builtin;refine wpList_append_lies _ rfl _ _ _ rfl w.heap.size 69 i0 (.agg #[.int .i64 0,.string ⟨#[]⟩,.int .i64 0,.int .i64 0,.int .i64 0,.bool false,.slice none 0 0]) 7 80 Tryz.underlying26 hi0 hz0 hz1 hz2 rfl (by omega) _ _ _ rfl ((hst2.below hb3).own.alloc _) ⟨w3.heap.size,0,none⟩ 1 1 (au ⟨l[k].x,A3,c3⟩) rfl rfl (dK _ _ _ _ (by simp)) (uq _ _ _) (by omega) (by simp only [maxLen];omega) (by omega) (by have:=hb3.size;simp;omega) (w3.heap.size+1) (by simp) ?_))
    intro g1 cap w4 hown4 hgrow hat _
    have SE:=hst2.append (x:=⟨l[k].x,A3,c3⟩) hb3 (by omega) hr3 hgrow hown4 hat
    have hb4:Below w.heap.size w w4:=(((hbw.trans (hbb.mono DX)).trans (hb3.mono (by omega))).alloc (by have:=hb3.size;omega) _).trans (dX ((hst2.below hb3).own.alloc _) hgrow (by omega) (by have:=hb3.size;simp;omega))
    have HST:=hide SE
    clear SE hgrow hown4
    go_wp2
    go_roundw
    case rel=>exact ⟨k+1,l'++[⟨l[k].x,A3,c3⟩],some ⟨g1,0,none⟩,cap,by omega,by go_num,by simp,by simp [WU.out],by rw [List.take_succ_eq_append_getElem hlt];show plain _=plain _;unfold plain at*;rw [List.map_append,List.map_append,VQ.out];rfl,HST.out,hb4⟩
    case measure=>simp [intOf] <;> omega
  · have hke:k=l.length:=by omega
    have hrd:=st.read (by omega)
    have hpk':plain l'=plain l:=by rw [VQ.out,hke,List.take_length]
    have HP:=hide hpk'
    clear hlk hke hpk'
    go_wp2
    go_ret
    exact ⟨l',A',c',HP.out,rfl,hrd,hbw⟩
theorem ZI:(Tryz.prog.info? 69).map (·.size)=some 7:=by kernel_rfl
def shortS (x:M.aI):Bool:=decide (x.kind.size≤60∧x.aA.length≤18)
def amA (k n:Nat):Bool:=decide (¬ ((n<k∧k≤1000)∨1003<k))
def Z4 (l:List M.aI) (n:Nat):Bool:=amA l.length n && l.all shortS
theorem aeQ {l:List Sh} {k:Nat} (hk:k<l.length):((plain l).drop k).all shortS=(shortS l[k].x && ((plain l).drop (k+1)).all shortS):=by
 have h:(plain l).drop k=l[k].x::(plain l).drop (k+1):=by
  rw [List.drop_eq_getElem_cons (by rw [eF];exact hk),Iu l k hk]
 rw [h];rfl
theorem Zr (S:Nat→Prop) (l:List Sh) (A:Option Addr) (c n:Nat) (w:World) (hp:wG w S A c l):
 Calls Tryz.prog 16 #[.slice A l.length c,.int .i64 n] w fun e w'=>e= .returned (.bool (Z4 (plain l) n))∧Below w.heap.size w w':=by
 obtain ⟨b1,b2,b3⟩:=hp.bd
 have bad:(n<l.length∧l.length≤1000)∨1003<l.length→Z4 (plain l) n=false:=fun h=>by
  unfold Z4 amA;rw [eF,decide_eq_false (fun hn=>hn h)];rfl
 have HBAD:=hide bad
 clear bad
 by_cases h1:n<l.length
 · have i1:(n:Int)<(l.length:Int):=by omega
   by_cases h2:l.length≤1000
   · have i2:(l.length:Int)≤1000:=by omega
     have HR:=hide (HBAD.out (.inl ⟨h1,h2⟩))
     go_enter Tryz.func16,Tryz.ntmps16
     go_wp2
     go_ret
     exact ⟨by rw [HR.out] <;> rfl,Below.refl _ _⟩
   · have i2:¬ (l.length:Int)≤1000:=by omega
     by_cases h3:1003<l.length
     · have i3:(1003:Int)<(l.length:Int):=by omega
       have HR:=hide (HBAD.out (.inr h3))
       go_enter Tryz.func16,Tryz.ntmps16
       go_wp2
       go_ret
       exact ⟨by rw [HR.out] <;> rfl,Below.refl _ _⟩
     · have i3:¬ (1003:Int)<(l.length:Int):=by omega
       have hgo:Z4 (plain l) n=(plain l).all shortS:=by unfold Z4 amA;rw [eF,decide_eq_true (by omega)];rfl
       have WT:=hide hgo
       clear hgo HBAD
       go_enter Tryz.func16,Tryz.ntmps16
       go_wp2
       go_loopw [5] (fun i wr=>∃ k:Nat,k≤l.length∧i= .int .i64 k∧(plain l).all shortS=((plain l).drop k).all shortS∧Below w.heap.size w wr) (fun i _=>l.length - (intOf i).toNat)
       case atStart=>exact ⟨0,Nat.zero_le _,rfl,by simp,Below.refl _ _⟩
       case round=>
        obtain ⟨k,hk,rfl,hx1,hb⟩:=hrel
        by_cases hlt:k<l.length
        · obtain ⟨b,o,rfl,_,hbl,hcs⟩:=Reads.at_ (hp.below hb).1 (by omega)
          have h00:wr.rangeAt b (o+k*7) (au l[k]):=fun j v hj=>by
           have hj7:j<7:=(List.getElem?_eq_some_iff.1 hj).1
           rw [Nat.add_assoc]
           exact hcs _ _ ((jI l k hlt j hj7).trans hj)
          have hst:=aeQ hlt
          have HX:=hide (hx1.trans hst)
          have hcall:=fun W:World=>aac l[k].x l[k].a l[k].c W ((jl.bd (hp.aA k hlt)).2.2)
          obtain ⟨B,hB⟩:∃ B,shortS l[k].x=B:=⟨_,rfl⟩
          have hB':decide (l[k].x.kind.size≤60∧l[k].x.aA.length≤18)=B:=hB
          rw [hB'] at hcall
          have HC:=hide hcall
          have HB:=hide hB
          have j1:(0:Int)≤(k:Int):=by omega
          have j2:(k:Int)<(l.length:Int):=by omega
          clear hcall hx1 hst hcs hB hB'
          cases B with
          | true=>
            go_wp2_with (first | (refine aN 69 (.tmp 28) rfl ?_;refine jh (g:=b) (o:=o+k*7) h00 Tryz.underlying69 rfl ZI rfl (.tmp 28) rfl rfl ?_) | (go_at_call 27;refine (HC.out _).mono ?_;rintro e w1 ⟨rfl,hb1⟩))
            go_roundw
            case rel=>exact ⟨k+1,by omega,by go_num,by rw [HX.out,HB.out];rfl,hb.trans (hb1.mono hb.size)⟩
            case measure=>simp [intOf];omega
          | false=>
            go_wp2_with (first | (refine aN 69 (.tmp 28) rfl ?_;refine jh (g:=b) (o:=o+k*7) h00 Tryz.underlying69 rfl ZI rfl (.tmp 28) rfl rfl ?_) | (go_at_call 27;refine (HC.out _).mono ?_;rintro e w1 ⟨rfl,hb1⟩))
            go_ret
            exact ⟨by rw [WT.out,HX.out,HB.out] <;> rfl,hb.trans (hb1.mono hb.size)⟩
        · have hkk:k=l.length:=by omega
          have hz:(plain l).all shortS=true:=by rw [hx1,hkk, ← eF l,List.drop_length];rfl
          have HZ:=hide hz
          clear hx1 hkk hz
          go_wp2
          go_ret
          exact ⟨by rw [WT.out,HZ.out] <;> rfl,hb⟩
 · have i1:¬ (n:Int)<(l.length:Int):=by omega
   by_cases h3:1003<l.length
   · have i3:(1003:Int)<(l.length:Int):=by omega
     have HR:=hide (HBAD.out (.inr h3))
     go_enter Tryz.func16,Tryz.ntmps16
     go_wp2
     go_ret
     exact ⟨by rw [HR.out] <;> rfl,Below.refl _ _⟩
   · have i3:¬ (1003:Int)<(l.length:Int):=by omega
     have hgo:Z4 (plain l) n=(plain l).all shortS:=by unfold Z4 amA;rw [eF,decide_eq_true (by omega)];rfl
     have WT:=hide hgo
     clear hgo HBAD
     go_enter Tryz.func16,Tryz.ntmps16
     go_wp2
     go_loopw [5] (fun i wr=>∃ k:Nat,k≤l.length∧i= .int .i64 k∧(plain l).all shortS=((plain l).drop k).all shortS∧Below w.heap.size w wr) (fun i _=>l.length - (intOf i).toNat)
     case atStart=>exact ⟨0,Nat.zero_le _,rfl,by simp,Below.refl _ _⟩
     case round=>
      obtain ⟨k,hk,rfl,hx1,hb⟩:=hrel
      by_cases hlt:k<l.length
      · obtain ⟨b,o,rfl,_,hbl,hcs⟩:=Reads.at_ (hp.below hb).1 (by omega)
        have h00:wr.rangeAt b (o+k*7) (au l[k]):=fun j v hj=>by
         have hj7:j<7:=(List.getElem?_eq_some_iff.1 hj).1
         rw [Nat.add_assoc]
         exact hcs _ _ ((jI l k hlt j hj7).trans hj)
        have hst:=aeQ hlt
        have HX:=hide (hx1.trans hst)
        have hcall:=fun W:World=>aac l[k].x l[k].a l[k].c W ((jl.bd (hp.aA k hlt)).2.2)
        obtain ⟨B,hB⟩:∃ B,shortS l[k].x=B:=⟨_,rfl⟩
        have hB':decide (l[k].x.kind.size≤60∧l[k].x.aA.length≤18)=B:=hB
        rw [hB'] at hcall
        have HC:=hide hcall
        have HB:=hide hB
        have j1:(0:Int)≤(k:Int):=by omega
        have j2:(k:Int)<(l.length:Int):=by omega
        clear hcall hx1 hst hcs hB hB'
        cases B with
        | true=>
          go_wp2_with (first | (refine aN 69 (.tmp 28) rfl ?_;refine jh (g:=b) (o:=o+k*7) h00 Tryz.underlying69 rfl ZI rfl (.tmp 28) rfl rfl ?_) | (go_at_call 27;refine (HC.out _).mono ?_;rintro e w1 ⟨rfl,hb1⟩))
          go_roundw
          case rel=>exact ⟨k+1,by omega,by go_num,by rw [HX.out,HB.out];rfl,hb.trans (hb1.mono hb.size)⟩
          case measure=>simp [intOf];omega
        | false=>
          go_wp2_with (first | (refine aN 69 (.tmp 28) rfl ?_;refine jh (g:=b) (o:=o+k*7) h00 Tryz.underlying69 rfl ZI rfl (.tmp 28) rfl rfl ?_) | (go_at_call 27;refine (HC.out _).mono ?_;rintro e w1 ⟨rfl,hb1⟩))
          go_ret
          exact ⟨by rw [WT.out,HX.out,HB.out] <;> rfl,hb.trans (hb1.mono hb.size)⟩
      · have hkk:k=l.length:=by omega
        have hz:(plain l).all shortS=true:=by rw [hx1,hkk, ← eF l,List.drop_length];rfl
        have HZ:=hide hz
        clear hx1 hkk hz
        go_wp2
        go_ret
        exact ⟨by rw [WT.out,HZ.out] <;> rfl,hb⟩
structure StE where
 s:M.State
 a:Option Addr
 c:Nat
def stC (e:StE):List Value:=aW e.s e.a e.c
theorem am2 (e:StE):(stC e).length=15:=rfl
def acO (a:M.uZ):List Value:=[.int .i64 a.number,.int .i64 a.rule]
theorem agQ (a:M.uZ):(acO a).length=2:=rfl
theorem Reads.sets {S:Nat→Prop} {size n:Nat} {A:Option Addr} {c:Nat} {xs:List Value} {g:Nat} (hg:¬ S g):∀ (vs:List Value) (o:Nat) (W:World),Reads W S size A n c xs→Reads (W.setCells g o vs) S size A n c xs
 | [],_,_,h=>h
 | v::r,o,W,h=>Reads.sets hg r (o+1) _ (h.setCell (p:=⟨g,o,none⟩) hg v)
theorem bD.zero (W:World):bD W (fun _=>True) none 0 M.zero.ay:=Reads.none_ _ _ _
theorem acr.drewN {size n:Nat} {xs:List Value} {v:Value} {W:World} (h:acr size xs n v W) (k:Nat):acr size xs n v (W.drewN k):=by
 obtain ⟨A,c,h1,h2⟩:=h
 exact ⟨A,c,h1,h2.drewN k⟩
theorem ZY {W:World} {D:Nat} {e:TypeId} {size n:Nat} {v:Value} {xs:List Value} (h:W.ownsRow D e size v n xs) {g:Nat} (hg:v.ownBlock=some g):g<W.heap.size:=(Array.getElem?_eq_some_iff.1 (bg h hg).2.choose_spec.1).1
section
variable {W:World}
theorem Zq {w4:World} {o:Obj} {v:Value} (hgrow:(W.alloc o).grownBy w4 v.ownBlock) {b:Nat} (hb:b<W.heap.size) (hn:v.ownBlock≠some b):w4.heap[b]? =W.heap[b]? :=
 (hgrow.block b (by simp;omega) (fun e=>hn e.symm)).trans (heap_alloc_old W o hb)
theorem aeC {w4:World} {o:Obj} {v:Value} {X:Nat→Prop} (hgrow:(W.alloc o).grownBy w4 v.ownBlock) (hX:∀ g,v.ownBlock=some g→X g):Turn X W w4:=
 ⟨hgrow.os,hgrow.tape,hgrow.output,Nat.le_trans (by simp) hgrow.size,fun b hb hn=>Zq hgrow hb (fun e=>hn (hX b e))⟩
theorem aev {w4:World} {o:Obj} {v:Value} (hgrow:(W.alloc o).grownBy w4 v.ownBlock) {S S':Nat→Prop} {A:Option Addr} {c:Nat} {zs:List Int} (h:bD W S A c zs) (hS:∀ b,b<W.heap.size→S b→v.ownBlock≠some b∧S' b):bD w4 S' A c zs:=by
 have h1:=bD.more h (S':=fun b=>(S b∧b<W.heap.size)) (fun b hb h=>⟨h,hb⟩)
 have h2:=bD.keep h1 (Nat.le_trans (by simp) hgrow.size) (w':=w4) (fun b o hb hlt=>World.cell?_of_block (Zq hgrow hb.2 (hS b hb.2 hb.1).1))
 exact bD.more h2 (fun b _ hb=>(hS b hb.2 hb.1).2)
end
def RdT (w:World) (S:Nat→Prop) (A:Option Addr) (c:Nat) (L:List StE):Prop:=Reads w S 15 A L.length c (L.flatMap stC)∧∀ e∈L,bD w S e.a e.c e.s.ay
theorem RdT.below {w w':World} {S:Nat→Prop} {A:Option Addr} {c:Nat} {L:List StE} (h:RdT w S A c L) (hb:Below w.heap.size w w'):RdT w' S A c L:=
 ⟨Reads.below h.1 hb,fun e he=>(h.2 e he).below hb⟩
theorem RdT.more {w:World} {S S':Nat→Prop} {A:Option Addr} {c:Nat} {L:List StE} (h:RdT w S A c L) (hS:∀ b,b<w.heap.size→S b→S' b):RdT w S' A c L:=
 ⟨Reads.more h.1 hS,fun e he=>(h.2 e he).more hS⟩
structure Zp (e:TypeId) (D:Nat) (Z:Nat→Prop) (L:List StE) (A:Option Addr) (c:Nat) (W:World):Prop where
 own:W.ownsRow D e 15 (.slice A L.length c) L.length (L.flatMap stC)
 each:∀ x∈L,bD W (fun b=>Z b∧(Value.slice A L.length c).ownBlock≠some b) x.a x.c x.s.ay
section
variable {e:TypeId} {D:Nat} {Z:Nat→Prop} {L:List StE} {A:Option Addr} {c:Nat} {W W':World}
theorem Zp.below (h:Zp e D Z L A c W) (hb:Below W.heap.size W W'):Zp e D Z L A c W':=
 ⟨bT h.own (fun g hg=>hb.block g (Array.getElem?_eq_some_iff.1 (bg h.own hg).2.choose_spec.1).1),fun x hx=>(h.each x hx).below hb⟩
theorem Zp.drew (h:Zp e D Z L A c W):Zp e D Z L A c W.drew:=⟨h.own,h.each⟩
theorem Zp.sets {g:Nat} (h:Zp e D Z L A c W) (hg:g<D) (hz:¬ Z g) (vs:List Value) (o:Nat):Zp e D Z L A c (W.setCells g o vs):=
 ⟨bT h.own (fun b hb=>Held.lC (by have:=(bg h.own hb).1;omega) _ _ _),fun x hx=>bD.sets (fun h'=>hz h'.1) _ _ _ (h.each x hx)⟩
theorem Zp.read {S:Nat→Prop} (h:Zp e D Z L A c W) (hn:L.length≤17592186044416) (hD:∀ b,D≤b→S b) (hZ:∀ b,Z b→S b):RdT W S A c L:=
 ⟨Reads.kG h.own hD hn,fun x hx=>(h.each x hx).more (fun b _ h=>hZ b h.1)⟩
theorem Zp.apart {w4:World} {g1 cap n:Nat} {o:Obj} (hgrow:(W.alloc o).grownBy w4 (Value.slice A L.length c).ownBlock) (hat:(Value.slice A L.length c).ownBlock=some g1∨g1=W.heap.size+1) {A2:Option Addr} {c2:Nat} {zs:List Int}
 (hy:bD W (fun b=>Z b∧(Value.slice A L.length c).ownBlock≠some b) A2 c2 zs):bD w4 (fun b=>Z b∧(Value.slice (some ⟨g1,0,none⟩) n cap).ownBlock≠some b) A2 c2 zs:=by
 have h1:=bD.more hy (S':=fun b=>(Z b∧(Value.slice A L.length c).ownBlock≠some b)∧b<W.heap.size) (fun b hb h=>⟨h,hb⟩)
 have h2:=bD.keep h1 (by have:=hgrow.size;simp at this;omega) (w':=w4) (fun b o hb hlt=>(hgrow.cell_far ⟨b,o,none⟩ (by simp;omega) (fun e=>hb.1.2 e.symm)).trans (World.cell?_alloc_lt _ _ ⟨b,o,none⟩ hlt))
 refine bD.more h2 (fun b _ hb=>⟨hb.1.1,fun e=>?_⟩)
 have e':(some g1:Option Nat)=some b:=e
 cases e'
 rcases hat with h3 | h3
 · exact hb.1.2 h3
 · have:=hb.2;omega
theorem Zp.append {w4:World} {g1 cap:Nat} {o:Obj} {x:StE} (h:Zp e D Z L A c W) (hx:bD W (fun b=>Z b∧(Value.slice A L.length c).ownBlock≠some b) x.a x.c x.s.ay)
 (hgrow:(W.alloc o).grownBy w4 (Value.slice A L.length c).ownBlock) (hown4:w4.ownsRow D e 15 (.slice (some ⟨g1,0,none⟩) (L.length+1) cap) (L.length+1) (L.flatMap stC++stC x)) (hat:(Value.slice A L.length c).ownBlock=some g1∨g1=W.heap.size+1):
 Zp e D Z (L++[x]) (some ⟨g1,0,none⟩) cap w4:=by
 have hl:(L++[x]).length=L.length+1:=by simp
 refine ⟨?_,fun y hy=>?_⟩
 · rw [hl,List.flatMap_append]
   have:[x].flatMap stC=stC x:=by simp
   rw [this]
   exact hown4
 · rcases List.mem_append.1 hy with hy | hy
   · exact Zp.apart hgrow hat (h.each y hy)
   · obtain rfl:=List.mem_singleton.1 hy
     exact Zp.apart hgrow hat hx
theorem Zp.lit {e:TypeId} {D:Nat} {Z:Nat→Prop} (W:World) (x:StE) (hD:D≤W.heap.size) (hx:bD W Z x.a x.c x.s.ay):Zp e D Z [x] (some ⟨W.heap.size,0,none⟩) 1 (W.alloc (.cells (stC x).toArray e)):=by
 refine ⟨?_,fun y hy=>?_⟩
 · have h:=World.ownsRow_lit (base:=D) (size:=15) (e:=e) W (stC x).toArray 1 hD (by simp only [maxLen];omega) (by simp [am2])
   simpa using h
 · obtain rfl:=List.mem_singleton.1 hy
   exact bD.more ((bD.more hx (S':=fun b=>Z b∧b<W.heap.size) (fun b hb h=>⟨h,hb⟩)).alloc _) (fun b hb h=>⟨h.1,fun e=>by cases e;exact Nat.lt_irrefl _ h.2⟩)
end
theorem alY {r:M.Rules} {s:M.State} {x:M.aI} (h:M.legal r s x=0):M.step r s x=M.next r s x:=by unfold M.step;rw [if_pos h]
theorem am9 {r:M.Rules} {s:M.State} {x:M.aI} (h:¬ M.legal r s x=0):M.step r s x=s:=by unfold M.step;rw [if_neg h]
end Go.Proofs.YtelpepbpdojikaaGreatDoor
