/- Parts of the proofs about chapter 5 (pool), joined by program. -/
import Derived.Test.YtelpepbpdojikaaGreatDoorKg14
import Derived.Test.YtelpepbpdojikaaGreatDoorKg22
set_option maxHeartbeats 4000000
set_option maxRecDepth 100000
set_option linter.unusedVariables false
set_option linter.unusedSimpArgs false
namespace Go.Proofs.YtelpepbpdojikaaGreatDoor
open Go.RowKit
def JB:List Value:=[.int .i64 0,.string ⟨#[]⟩,.int .i64 0,.int .i64 0,.int .i64 0,.bool false,.slice none 0 0]
theorem uq (x:M.aI) (A:Option Addr) (c:Nat):∀ v∈au ⟨x,A,c⟩,v.oneCell'=true:=by simp [au,Value.oneCell']
def AY (x:M.aI) (k:Nat):M.aI:={x with aA:=x.aA.take k }
theorem Nz (x:M.aI):AY x x.aA.length=x:=by unfold AY;rw [List.take_length]
structure GZ (tr ts td tp:TypeId) (w:World) (src zs:List Value) (x:M.aI) (k:Nat) (A:Option Addr) (c:Nat) (W:World):Prop where
 src:Held W w.heap.size src tr
 z:Held W (w.heap.size+1) zs td
 bx:Held W (w.heap.size+2) (au ⟨AY x k,A,c⟩) ts
 own:W.ownsRow (w.heap.size+3) tp 2 (.slice A k c) k (bK (x.aA.take k))
 bw:Below w.heap.size w W
 sz:w.heap.size+3≤W.heap.size
theorem GZ.append {tr ts td tp:TypeId} {w W W0 w4:World} {src zs:List Value} {x:M.aI} {k:Nat} {A:Option Addr} {c g1 cap:Nat} {o:Obj} (h:GZ tr ts td tp w src zs x k A c W0) (hb:Below W0.heap.size W0 W) (hk:k<x.aA.length) (hgrow:(W.alloc o).grownBy w4 (Value.slice A k c).ownBlock)
 (hown4:w4.ownsRow (w.heap.size+3) tp 2 (.slice (some ⟨g1,0,none⟩) (k+1) cap) (k+1) (bK (x.aA.take k)++[.int .i64 x.aA[k].aJ,.int .i64 x.aA[k].aP])):
 Held w4 (w.heap.size+2) (au ⟨AY x k,A,c⟩) ts∧GZ tr ts td tp w src zs x (k+1) (some ⟨g1,0,none⟩) cap (w4.setCell ⟨w.heap.size+2,6,none⟩ (.slice (some ⟨g1,0,none⟩) (k+1) cap)):=by
 have hs0:=h.sz
 have hs:=hb.size
 have hno:∀ b,b<w.heap.size+3→some b≠(Value.slice A k c).ownBlock:=fun b hb e=>by have:=(bg h.own e.symm).1;omega
 have hH:∀ {b:Nat} {cs:List Value} {t:TypeId},b<w.heap.size+3→Held W0 b cs t→Held w4 b cs t:=fun hlt hb0=>(hgrow.block _ (by have:=hb0.lt;simp;omega) (hno _ hlt)).trans ((hb0.below hb).alloc o)
 have xu:=hH (by omega) h.bx
 have hb4:Below w.heap.size w w4:=(((h.bw.trans (hb.mono (by omega))).alloc (by omega) o).trans (dX ((bT h.own (fun g hg=>hb.block g (Array.getElem?_eq_some_iff.1 (bg h.own hg).2.choose_spec.1).1)).alloc o) hgrow (by omega) (by simp;omega)))
 have hpc:bK (x.aA.take (k+1))=bK (x.aA.take k)++[.int .i64 x.aA[k].aJ,.int .i64 x.aA[k].aP]:=by
  rw [List.take_succ_eq_append_getElem hk];unfold bK;rw [List.flatMap_append];rfl
 refine ⟨xu,(hH (by omega) h.src).other (by omega) _ _,(hH (by omega) h.z).other (by omega) _ _,?_,?_,hb4.setCell (p:=⟨w.heap.size+2,6,none⟩) (by show w.heap.size≤w.heap.size+2;omega) _,?_⟩
 · have hl1:(x.aA.take k).length=k:=by rw [List.length_take];omega
   have hl2:(x.aA.take (k+1)).length=k+1:=by rw [List.length_take];omega
   have he:au ⟨AY x (k+1),some ⟨g1,0,none⟩,cap⟩=(au ⟨AY x k,A,c⟩).set 6 (.slice (some ⟨g1,0,none⟩) (k+1) cap):=by simp [au,AY,hl1,hl2]
   rw [he]
   exact xu.set 6 _
 · rw [hpc]
   exact bT hown4 (fun g hg=>Below.heap_setCell w4 _ _ g (fun e=>by have:=(bg hown4 hg).1;have e:g=w.heap.size+2:=e;omega))
 · have:=hgrow.size
   simp [World.setCell] at this ⊢
   omega
theorem zG (S:Nat→Prop) (x:M.aI) (P:Option Addr) (d:Nat) (w:World) (hp:jl w S P d x.aA) (hl:x.aA.length*16≤140737488355328):
 Calls Tryz.prog 109 #[iO x P d] w fun e w'=>∃ A c,e= .returned (iO x A c)∧jl w' (fun b=>w.heap.size≤b) A c x.aA∧Below w.heap.size w w':=by
 obtain ⟨b1,b2,b3⟩:=hp.bd
 obtain ⟨i0,hi0,hz0,hz1,hz2⟩:=info_parts Et
 have hone:=uq (AY x 0) none 0
 go_enter Tryz.func109,Tryz.ntmps109
 go_upto_region 1 with (fail)
 go_cut [3] from 6 to 18 (fun v3 wx=>v3=ptr (w.heap.size+2)∧GZ 69 66 66 107 w (au ⟨x,P,d⟩) JB x 0 none 0 wx)
 case first=>
  have hB:=(bU.nil w).new (by simp) (au ⟨x,P,d⟩) 69
  have hB2:=hB.new (by simp) JB 66
  have hB3:=hB2.new (by simp) JB 66
  have hl2:(au ⟨AY x 0,none,0⟩).length=(JB).length:=rfl
  go_wp2_with (first | (refine aO 66 (.tmp 3) (.tmp 18) rfl ?_;refine aF (hB3.get 2 rfl) (au ⟨AY x 0,none,0⟩) rfl aV hone rfl (.tmp 3) (.tmp 18) rfl rfl rfl ?_))
  go_meet
  have hb:=hB3.bw
  exact ⟨rfl,(Held.others (by omega) _ _ _ (hB3.bf rfl)),Held.others (by omega) _ _ _ (hB3.get 1 rfl),(hB3.get 2 rfl).whole _ rfl,World.ownsRow_nil _ _ _ _,below_setCells _ (by omega) _ _ _ _ hb,by rw [setCells_size];simp⟩
 case rest=>
  obtain ⟨rfl,st0⟩:=hcut
  have k6:=st0.src.cell (j:=6) rfl
  go_wp2
  go_loopw [22] (fun i wr=>∃ (k:Nat) (A:Option Addr) (c:Nat),k≤x.aA.length∧i= .int .i64 k∧GZ 69 66 66 107 w (au ⟨x,P,d⟩) JB x k A c wr) (fun i _=>x.aA.length - (intOf i).toNat)
  case atStart=>exact ⟨0,none,0,Nat.zero_le _,rfl,st0⟩
  case round=>
   obtain ⟨k,A,c,hk,rfl,st⟩:=hrel
   have hlk:(x.aA.take k).length=k:=by rw [List.length_take];omega
   by_cases hlt:k<x.aA.length
   · obtain ⟨b,o,rfl,_,hbl,hc⟩:=(hp.below st.bw).at_ k hlt
     obtain ⟨hck1,Fb⟩:=hc k hlt
     clear hc
     have m6:wr.cell? ⟨w.heap.size+2,6,none⟩=some (.slice A k c):=(st.bx.cell (j:=6) rfl).trans (by show some (Value.slice A (x.aA.take k).length c)=_;rw [hlk])
     have Y6:=st.bx.frozen 6
     have hlt2:=st.bx.lt
     have i1:(0:Int)≤(k:Int):=by omega
     have i2:(k:Int)<(x.aA.length:Int):=by omega
     go_wp2_with (first | (at_builtin;refine wpList_append_lies _ rfl _ _ _ rfl (w.heap.size+3) 107 i0 (.agg #[.int .i64 0,.int .i64 0]) 2 16 Tryz.underlying64 hi0 hz0 hz1 hz2 rfl (by omega) _ _ _ rfl ((st.own.alloc _).alloc _) ⟨wr.heap.size+1,0,none⟩ 1 1 [.int .i64 x.aA[k].aJ,.int .i64 x.aA[k].aP] rfl rfl (dK _ _ _ _ (by simp)) (by simp [Value.oneCell']) (by omega) (by simp only [maxLen];omega) (by omega) (by have:=st.sz;simp;omega) (wr.heap.size+1+1) (by simp) ?_))
     intro g1 cap w4 hown4 hgrow _ _
     obtain ⟨xu,hst⟩:=GZ.append st ((Below.refl _ _).alloc (Nat.le_refl _) _) hlt hgrow hown4
     have n6:=xu.frozen 6
     have c6:=xu.cell (j:=6) rfl
     have HST:=hide hst
     clear hst hgrow hown4
     go_wp2
     go_roundw
     case rel=>exact ⟨k+1,_,_,by omega,by go_num,HST.out⟩
     case measure=>simp [intOf] <;> omega
   · have hke:k=x.aA.length:=by omega
     subst hke
     have hx:=st.bx
     rw [Nz] at hx
     have hown:=st.own
     rw [List.take_length] at hown
     have hrd:jl wr (fun b=>w.heap.size+3≤b) A c x.aA:=Reads.kG hown (fun b h=>h) (by omega)
     have hz:=st.z
     have Sv:=uq x A c
     go_wp2_with (first | (refine aN 66 (.tmp 3) rfl ?_;refine aG hx Tryz.underlying66 rfl aV rfl (.tmp 3) rfl rfl ?_) | (refine aO 66 (.tmp 2) (.tmp 33) rfl ?_;refine aF hz (au ⟨x,A,c⟩) rfl aV Sv rfl (.tmp 2) (.tmp 33) rfl rfl rfl ?_))
     have hF:=hz.whole (au ⟨x,A,c⟩) rfl
     refine bodyPost_ret (bP (p:=2) hF Tryz.underlying66 rfl aV rfl _ rfl) rfl ⟨A,c,rfl,?_,below_setCells _ (by omega) _ _ _ _ st.bw⟩
     exact Reads.more (Reads.keep hrd (by rw [setCells_size];exact Nat.le_refl _) (fun b o hb hlt=>World.cell?_of_block (Held.lC (g:=w.heap.size+1) (b:=b) (by have hb:w.heap.size+3≤b:=hb;omega) _ _ _))) (fun b _ h=>by have h:w.heap.size+3≤b:=h;show w.heap.size≤b;omega)
end Go.Proofs.YtelpepbpdojikaaGreatDoor
