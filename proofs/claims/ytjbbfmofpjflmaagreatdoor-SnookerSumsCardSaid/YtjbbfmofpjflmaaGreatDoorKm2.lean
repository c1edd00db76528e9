/- Parts of a proof. -/
import Derived.Test.YtjbbfmofpjflmaaGreatDoorKb35
import Derived.Test.YtjbbfmofpjflmaaGreatDoorKm0
import Derived.Test.YtjbbfmofpjflmaaGreatDoorKm1
set_option linter.unusedVariables false
set_option linter.unusedSimpArgs false
namespace Go.Proofs.YtjbbfmofpjflmaaGreatDoor
open Go.RowKit
section
variable {w W W':World} {L:List (Nat × List Value × TypeId)} {B e size k g:Nat} {v:Value} {xs:List Value} {cs:List Value} {t:TypeId}
theorem Bx.grow {row:Option Nat} (h:Bx w W L) (hg:W.grownBy W' row) (hr:∀ b,row=some b→w.heap.size≤b) (hL:∀ p∈L,row≠some p.1):Bx w W' L:=
 ⟨h.bw.grown hg h.bw.size hr,fun p hp=>⟨(h.bx p hp).1,(h.bx p hp).2.blk (hg.block p.1 (h.bx p hp).2.lt (fun e=>hL p hp e.symm))⟩,h.nd⟩
theorem own_ne (h:W.ownsRow B e size v k xs) (hh:Held W g cs t) (ht:t≠e):v.ownBlock≠some g:=by
 intro hv;obtain ⟨_,⟨rfl,_⟩ | ⟨g',cap,cur,rfl,_,h4,_⟩⟩:=h
 · cases hv
 · cases hv
   have hh:W.heap[g']? =some (.cells cs.toArray t (0,0)):=hh;rw [hh] at h4
   injection h4 with h4
   injection h4 with _ h2
   exact ht h2
theorem adY (h:W.ownsRow B e size v k xs) (hn:v.ownBlock≠some g) (vs:List Value) (o:Nat):(W.setCells g o vs).ownsRow B e size v k xs:=
 h.kept (row:=some g) (by
  have hb:=below_setCells (B:=0) g (Nat.zero_le _) vs o W W (Below.refl _ _)
  exact ⟨hb.os,hb.tape,hb.output,hb.size,fun b _ hne=>Held.nH (fun e=>hne (by rw [e])) vs o W⟩) (.inr hn)
end
section
variable {w W W':World} {L L':List (Nat × List Value × TypeId)} {B e size k:Nat} {v:Value} {xs:List Value}
end
theorem Bx.ahw {w W W':World} {L:List (Nat × List Value × TypeId)} {D e size k:Nat} {v:Value} {xs:List Value} (h:Bx w W L) (hO:W.ownsRow D e size v k xs) (hD:w.heap.size≤D) (hg:W.grownBy W' v.ownBlock) (hT:∀ p∈L,p.1<D∨p.2.2≠e):Bx w W' L:=
 h.grow hg (fun _ hb=>Nat.le_trans hD (hO.lt _ hb).1) (fun p hp e=>by
  rcases hT p hp with h1 | h1
  · have:=(hO.lt _ e).1;omega
  · exact own_ne hO (h.bx p hp).2 h1 e)
theorem ai2 {a b:Int} (h:(a != b)=false):a=b:=by simpa using h
theorem alu {g:Sk.Game} {l:List En} (h:Sk.iq g (bare l)=0):X6 g l=jq g l l.length∧UL g l=kV g l l.length:=
 ⟨by unfold X6;rw [if_pos h,Rt],by unfold UL;rw [if_pos h,Bh]⟩
theorem ajX {g:Sk.Game} {s:Sk.State} {e:Sk.Entry} (h:Sk.Ok g s) (he:Sk.dV g e=0):iU g s e=0:=by
 unfold iU;rw [Sk.kG.2 h,he];rfl
theorem ahV {g:Sk.Game} {s:Sk.State} {e:Sk.Entry} (h:Sk.Ok g s) (he:Sk.dV g e=0) (hl:Sk.legal g s e=0) (hk:e.kind=Sk.dJ):Jb g s e=0∧Uo g s e=Sk.judge g s e:=by
 have h1:O1 g s e=0:=by unfold O1;rw [rQ,ajX h he];simp [hk,iL]
 have h2:Jb g s e=0:=by unfold Jb;rw [h1];simp [hl]
 exact ⟨h2,by unfold Uo;rw [if_pos h2]⟩
namespace Sk
theorem aaJ (g:Game) (p:Int) (x:Entry):∀ (l:List Entry) (s:State),aad g p s (l++[x])=aad g p s l+(if legal g (final g s l) x=0∧x.kind=dJ∧(final g s l).turn=1 - p then (judge g (final g s l) x).penalty else 0)
 | [],s=>by
   rw [List.nil_append,aad,aad,aad]
   show _+0=0+_
   rw [Int.add_zero,Int.zero_add]
   congr
 | y::l,s=>by
   have e:final g s (y::l)=final g (step g s y) l:=rfl;rw [List.cons_append,aad,aad,aaJ g p x l,e]
   omega
theorem abJ (g:Game) (x:Entry):∀ (l:List Entry) (s:State),aal g s (l++[x])=aal g s l++[((step g (final g s l) x).s0,(step g (final g s l) x).s1)]
 | [],s=>rfl
 | y::l,s=>by
   have e:final g s (y::l)=final g (step g s y) l:=rfl;rw [List.cons_append,aal,aal,abJ g x l,e]
   rfl
theorem ae4 {bs:List Int} (h:∀ b∈bs,0<b):∀ j,0≤total (bs.take j)∧total (bs.take j)≤total bs:=by
 induction bs with
 | nil=>intro j;simp [total]
 | cons b l ih=>
   intro j;have hb:=h b List.mem_cons_self;have hl:=fun x hx=>h x (List.mem_cons_of_mem b hx)
   cases j with
   | zero=>
     have h0:=(ih hl 0)
     have h1:total (l.take 0)=0:=by simp [total]
     rw [List.take_zero,total,total]
     omega
   | succ j=>
     have h1:=ih hl j;rw [List.take_succ_cons,total,total]
     omega
theorem aeW {bs:List Int} {j:Nat} (hj:j<bs.length):total (bs.take (j+1))=total (bs.take j)+bs[j]:=by
 rw [List.take_succ_eq_append_getElem hj,aaB]
 simp [total]
end Sk
def pnL (g:Sk.Game) (l:List En) (p:Int) (k:Nat):Int:=Sk.aad g p (Sk.start g) (bare (l.take k))
theorem adP (l:List En) (k:Nat) (hk:k<l.length):bare (l.take (k+1))=bare (l.take k)++[l[k].x]:=by rw [List.take_succ_eq_append_getElem hk];unfold bare;rw [List.map_append];rfl
theorem aef (g:Sk.Game) (l:List En) (p:Int):pnL g l p 0=0:=by unfold pnL;simp [bare,Sk.aad]
theorem aib (g:Sk.Game) (l:List En) (p:Int) {k:Nat} (hk:k<l.length):pnL g l p (k+1)=pnL g l p k+(if Sk.legal g (jq g l k) l[k].x=0∧l[k].x.kind=Sk.dJ∧(jq g l k).turn=1 - p then (Sk.judge g (jq g l k) l[k].x).penalty else 0):=by
 unfold pnL
 rw [adP l k hk,Sk.aaJ]
 rfl
def aa8 (g:Sk.Game) (l:List En) (k:Nat):List (Int × Int):=Sk.aal g (Sk.start g) (bare (l.take k))
theorem aen (g:Sk.Game) (l:List En) {k:Nat} (hk:k≤l.length):(aa8 g l k).length=k:=by unfold aa8;rw [Sk.aaR,kQ,List.length_take];omega
theorem ahg (g:Sk.Game) (l:List En) {k:Nat} (hk:k<l.length):aa8 g l (k+1)=aa8 g l k++[((jq g l (k+1)).s0,(jq g l (k+1)).s1)]:=by
 unfold aa8
 rw [adP l k hk,Sk.abJ,qU g l k hk]
 rfl
theorem afc {g:Sk.Game} {s:Sk.State} {e:Sk.Entry} (h:Jb g s e=0):Sk.legal g s e=0∧e.kind=Sk.dJ:=by
 unfold Jb at h
 by_cases h1:O1 g s e=0
 · rw [if_neg (by simp [h1])] at h
   refine ⟨?_,(O4 h1).2⟩
   by_cases h2:Sk.legal g s e=0
   · exact h2
   · rw [if_pos h2] at h;exact absurd h (by decide)
 · rw [if_pos h1] at h;exact absurd h h1
theorem ain {g:Sk.Game} {l:List En} {k:Nat} (hk:k<l.length) (ho:Sk.Ok g (jq g l k)) (he:Sk.dV g l[k].x=0) (p:Int):
 pnL g l p (k+1)=pnL g l p k+(if Jb g (jq g l k) l[k].x=0∧(jq g l k).turn=1 - p then (Uo g (jq g l k) l[k].x).penalty else 0):=by
 rw [aib g l p hk]
 congr 1
 by_cases h:Jb g (jq g l k) l[k].x=0
 · obtain ⟨h1,h2⟩:=afc h
   have h3:Uo g (jq g l k) l[k].x=Sk.judge g (jq g l k) l[k].x:=by unfold Uo;rw [if_pos h]
   simp [h,h1,h2,h3]
 · rw [if_neg (fun hh=>h (ahV ho he hh.1 hh.2.1).1),if_neg (fun hh=>h hh.1)]
theorem afJ {g:Sk.Game} {s:Sk.State} {e:Sk.Entry} (ho:Sk.Ok g s) (he:Sk.dV g e=0) (h:Jb g s e=0):0≤(Uo g s e).penalty∧(Uo g s e).penalty≤1000000:=by
 obtain ⟨h1,h2⟩:=afc h
 have h3:Uo g s e=Sk.judge g s e:=by unfold Uo;rw [if_pos h]
 rw [h3];exact ⟨(Sk.adf ho he h1 h2).penalty,(Sk.FW ho.inr.colour.2 (Sk.Fp he h2)).2⟩
theorem aex {g:Sk.Game} {l:List En} (hg:Sk.iq g (bare l)=0) (p:Int) (hp:p=0∨p=1):Vd g l p=0∧(∀ b∈Ve g l p,0<b)∧pnL g l p l.length+Sk.total (Ve g l p)=Sk.score (jq g l l.length) p:=by
 have hE:Vd g l p=0:=by unfold Vd;rw [rQ,hg];rcases hp with rfl | rfl <;> simp [Sk.out,iL]
 have hR:Ve g l p=Sk.breaks g p (bare l):=by unfold Ve;rw [if_pos hE]
 obtain ⟨h1,h2,_⟩:=Sk.ab9.1 hg;have hm:∀ x∈bare l,Sk.dV g x=0:=(Sk.ab9.1 hg).2.2;have ho:=Sk.GZ h1;have hb:=Sk.abj (g:=g) p (bare l) (Sk.start g) 0 ho hm (by omega) (fun _=>rfl);have hs:=Sk.acX (g:=g) p hp (bare l) (Sk.start g) ho hm
 have h0:Sk.score (Sk.start g) p=0:=by unfold Sk.score Sk.start;split <;> rfl
 refine ⟨hE,by rw [hR];exact hb.2,?_⟩
 have e1:pnL g l p l.length=Sk.aad g p (Sk.start g) (bare l):=by unfold pnL;rw [List.take_length]
 have e2:Sk.total (Ve g l p)=Sk.aat g p (Sk.start g) (bare l):=by rw [hR];have:=hb.1;unfold Sk.breaks;omega
 rw [e1,e2,Rt,hs,h0]
 omega
theorem afk:∀ (C:List (Int × Int)) (q:Nat) (h:q<C.length) (u:Int),(C.flatMap ad4).set (q*2) (.int .i64 u)=(C.set q (u,C[q].2)).flatMap ad4
 | c::C,0,_,u=>rfl
 | c::C,q+1,h,u=>by
   have ih:=afk C q (by simpa using h) u
   have e:(q+1)*2=q*2+1+1:=by omega
   rw [e]
   show Value.int .i64 c.1::Value.int .i64 c.2::(C.flatMap ad4).set (q*2) (.int .i64 u)=_
   rw [ih];rfl
theorem aft:∀ (C:List (Int × Int)) (q:Nat) (h:q<C.length) (u:Int),(C.flatMap ad4).set (q*2+1) (.int .i64 u)=(C.set q (C[q].1,u)).flatMap ad4
 | c::C,0,_,u=>rfl
 | c::C,q+1,h,u=>by
   have ih:=aft C q (by simpa using h) u
   have e:(q+1)*2+1=q*2+1+1+1:=by omega
   rw [e]
   show Value.int .i64 c.1::Value.int .i64 c.2::(C.flatMap ad4).set (q*2+1) (.int .i64 u)=_
   rw [ih];rfl
theorem ah3 {W:World} {D e size n c:Nat} {A:Option Addr} {xs:List Value} (h:W.ownsRow D e size (.slice A n c) n xs) (hn:0<n):∃ gb,A=some ⟨gb,0,none⟩∧D≤gb:=by
 obtain ⟨_,⟨_,h0⟩ | ⟨g,cap,cur,hv,hg,_⟩⟩:=h
 · omega
 · injection hv with h1
   exact ⟨g,h1,hg⟩
section
variable {w W:World} {a:Nat × List Value × TypeId}
theorem Bx.pull (l1:List (Nat × List Value × TypeId)) {l2:List (Nat × List Value × TypeId)} (h:Bx w W (l1++a::l2)):Bx w W (a::(l1++l2)):=
 ⟨h.bw,fun p hp=>h.bx p (List.perm_middle.mem_iff.2 hp),(List.Perm.pairwise_iff (fun h=>Ne.symm h) List.perm_middle).1 h.nd⟩
theorem Bx.push (l1:List (Nat × List Value × TypeId)) {l2:List (Nat × List Value × TypeId)} (h:Bx w W (a::(l1++l2))):Bx w W (l1++a::l2):=
 ⟨h.bw,fun p hp=>h.bx p (List.perm_middle.mem_iff.1 hp),(List.Perm.pairwise_iff (fun h=>Ne.symm h) List.perm_middle).2 h.nd⟩
end
theorem acG:(Tryz.prog.info? 24).map (·.size)=some 2:=by kernel_rfl
theorem aji:(Tryz.prog.info? 24).map (fun i=>(i.zero,i.size,i.bytes))=some (some (.agg #[.int .i64 0,.int .i64 0]),2,16):=by kernel_rfl
end Go.Proofs.YtjbbfmofpjflmaaGreatDoor
