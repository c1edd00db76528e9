/- Parts of the proofs about chapter 5 (pool), joined by program. -/
import Derived.Test.YtelpepbpdojikaaGreatDoorKg24
import Derived.Test.YtelpepbpdojikaaGreatDoorKm8
import Derived.Test.YtelpepbpdojikaaGreatDoorKm9
set_option maxHeartbeats 4000000
set_option maxRecDepth 100000
set_option linter.unusedVariables false
set_option linter.unusedSimpArgs false
namespace Go.Proofs.YtelpepbpdojikaaGreatDoor
open Go.RowKit
theorem aaZ (S:Nat→Prop) (A:Option Addr) (c:Nat) (zs:List Int) (w:World) (h:bD w S A c zs):
 Calls Tryz.prog 45 #[.slice A zs.length c] w fun r w'=>r= .returned (.int .i64 (aU zs))∧w=w':=by
 obtain ⟨b1,b2,b3⟩:=h.bd
 go_enter Tryz.func45,Tryz.ntmps45
 go_wp2
 go_loop [7] (fun i=>∃ k:Nat,k≤zs.length∧i= .int .i64 k∧aU zs=aU (zs.drop k)) (fun i=>zs.length - (intOf i).toNat)
 case atStart=>exact ⟨0,Nat.zero_le _,rfl,by simp⟩
 case round=>
  obtain ⟨k,hk,rfl,hx⟩:=hrel
  by_cases hlt:k<zs.length
  · obtain ⟨b,o,rfl,_,_,hc⟩:=h.at_ k hlt
    have hck:=hc k hlt
    rw [Cj hlt] at hx
    clear hc
    by_cases he:zs[k]=0
    · have he':(zs[k] != 0)=false:=by simp [he]
      rw [if_neg (by simp [he])] at hx
      have HX:=hide hx
      clear hx he
      go_wp2
      go_round
      case rel=>exact ⟨k+1,by omega,by go_num,HX.out⟩
      case measure=>simp [intOf];omega
    · have he':(zs[k] != 0)=true:=by simp [he]
      rw [if_pos he] at hx
      have HX:=hide hx
      clear hx he
      go_wp2
      go_ret
      exact ⟨dG HX.out.symm,rfl⟩
  · have hz:aU zs=0:=by rw [hx,List.drop_of_length_le (by omega),aU]
    have HX:=hide hz
    clear hx hz
    go_wp2
    go_ret
    exact ⟨dG HX.out.symm,rfl⟩
theorem ajv:(Tryz.prog.info? 42).map (·.size)=some 15:=by kernel_rfl
theorem aj6 (S S':Nat→Prop) (x y:M.State) (A B:Option Addr) (c d:Nat) (w:World) (hp:bD w S A c x.ay) (hq:bD w S' B d y.ay):
 Calls Tryz.prog 23 #[wF x A c,wF y B d] w fun e w'=>e= .returned (.bool (x.eq y))∧Below w.heap.size w w':=by
 have hsm:=fun W h h'=>az9 S S' x y A B c d W h h'
 have HSM:=hide hsm
 clear hsm
 go_enter Tryz.func23,Tryz.ntmps23
 go_upto_region 1 with (fail)
 have hB:=((bU.nil w).new (by simp) (aW x A c) 33).new (by simp) (aW y B d) 42
 go_wp2_with (first | (refine aN 33 (.tmp 2) rfl ?_;refine aG (hB.bf rfl) Tryz.underlying33 rfl bW rfl (.tmp 2) rfl rfl ?_) | (refine aN 42 (.tmp 3) rfl ?_;refine aG (hB.get 1 rfl) Tryz.underlying42 rfl ajv rfl (.tmp 3) rfl rfl ?_) | (go_at_call 68;refine (HSM.out _ (hp.below hB.bw) (hq.below hB.bw)).mono ?_;rintro e w1 ⟨rfl,hb1⟩))
 go_ret
 exact ⟨rfl,hB.bw.trans (hb1.mono hB.bw.size)⟩
theorem Zh:(Tryz.prog.info? 42).map (·.size)=some 15:=by kernel_rfl
structure StE where
 s:M.State
 a:Option Addr
 c:Nat
def stC (e:StE):List Value:=aW e.s e.a e.c
theorem aAP (e:StE):(stC e).length=15:=rfl
theorem Reads.sets {S:Nat→Prop} {size n:Nat} {A:Option Addr} {c:Nat} {xs:List Value} {g:Nat} (hg:¬ S g):∀ (vs:List Value) (o:Nat) (W:World),Reads W S size A n c xs→Reads (W.setCells g o vs) S size A n c xs
 | [],_,_,h=>h
 | v::r,o,W,h=>Reads.sets hg r (o+1) _ (h.setCell (p:=⟨g,o,none⟩) hg v)
theorem bD.zero (W:World):bD W (fun _=>True) none 0 M.zero.ay:=Reads.none_ _ _ _
theorem am2.drewN {size n:Nat} {xs:List Value} {v:Value} {W:World} (h:am2 size xs n v W) (k:Nat):am2 size xs n v (W.drewN k):=by
 obtain ⟨A,c,h1,h2⟩:=h
 exact ⟨A,c,h1,h2.drewN k⟩
section
variable {W:World}
end
def RdT (w:World) (S:Nat→Prop) (A:Option Addr) (c:Nat) (L:List StE):Prop:=Reads w S 15 A L.length c (L.flatMap stC)∧∀ e∈L,bD w S e.a e.c e.s.ay
theorem RdT.below {w w':World} {S:Nat→Prop} {A:Option Addr} {c:Nat} {L:List StE} (h:RdT w S A c L) (hb:Below w.heap.size w w'):RdT w' S A c L:=
 ⟨Reads.below h.1 hb,fun e he=>(h.2 e he).below hb⟩
theorem RdT.more {w:World} {S S':Nat→Prop} {A:Option Addr} {c:Nat} {L:List StE} (h:RdT w S A c L) (hS:∀ b,b<w.heap.size→S b→S' b):RdT w S' A c L:=
 ⟨Reads.more h.1 hS,fun e he=>(h.2 e he).more hS⟩
structure ZQ (e:TypeId) (D:Nat) (Z:Nat→Prop) (L:List StE) (A:Option Addr) (c:Nat) (W:World):Prop where
 own:W.ownsRow D e 15 (.slice A L.length c) L.length (L.flatMap stC)
 each:∀ x∈L,bD W (fun b=>Z b∧(Value.slice A L.length c).ownBlock≠some b) x.a x.c x.s.ay
section
variable {e:TypeId} {D:Nat} {Z:Nat→Prop} {L:List StE} {A:Option Addr} {c:Nat} {W W':World}
theorem ZQ.below (h:ZQ e D Z L A c W) (hb:Below W.heap.size W W'):ZQ e D Z L A c W':=
 ⟨bT h.own (fun g hg=>hb.block g (Array.getElem?_eq_some_iff.1 (bg h.own hg).2.choose_spec.1).1),fun x hx=>(h.each x hx).below hb⟩
theorem ZQ.drew (h:ZQ e D Z L A c W):ZQ e D Z L A c W.drew:=⟨h.own,h.each⟩
theorem ZQ.sets {g:Nat} (h:ZQ e D Z L A c W) (hg:g<D) (hz:¬ Z g) (vs:List Value) (o:Nat):ZQ e D Z L A c (W.setCells g o vs):=
 ⟨bT h.own (fun b hb=>Held.lC (by have:=(bg h.own hb).1;omega) _ _ _),fun x hx=>bD.sets (fun h'=>hz h'.1) _ _ _ (h.each x hx)⟩
theorem ZQ.read {S:Nat→Prop} (h:ZQ e D Z L A c W) (hn:L.length≤17592186044416) (hD:∀ b,D≤b→S b) (hZ:∀ b,Z b→S b):RdT W S A c L:=
 ⟨Reads.kG h.own hD hn,fun x hx=>(h.each x hx).more (fun b _ h=>hZ b h.1)⟩
theorem ZQ.apart {w4:World} {g1 cap n:Nat} {o:Obj} (hgrow:(W.alloc o).grownBy w4 (Value.slice A L.length c).ownBlock) (hat:(Value.slice A L.length c).ownBlock=some g1∨g1=W.heap.size+1) {A2:Option Addr} {c2:Nat} {zs:List Int}
 (hy:bD W (fun b=>Z b∧(Value.slice A L.length c).ownBlock≠some b) A2 c2 zs):bD w4 (fun b=>Z b∧(Value.slice (some ⟨g1,0,none⟩) n cap).ownBlock≠some b) A2 c2 zs:=by
 have h1:=bD.more hy (S':=fun b=>(Z b∧(Value.slice A L.length c).ownBlock≠some b)∧b<W.heap.size) (fun b hb h=>⟨h,hb⟩)
 have h2:=bD.keep h1 (by have:=hgrow.size;simp at this;omega) (w':=w4) (fun b o hb hlt=>(hgrow.cell_far ⟨b,o,none⟩ (by simp;omega) (fun e=>hb.1.2 e.symm)).trans (World.cell?_alloc_lt _ _ ⟨b,o,none⟩ hlt))
 refine bD.more h2 (fun b _ hb=>⟨hb.1.1,fun e=>?_⟩)
 have e':(some g1:Option Nat)=some b:=e
 cases e'
 rcases hat with h3 | h3
 · exact hb.1.2 h3
 · have:=hb.2;omega
theorem ZQ.append {w4:World} {g1 cap:Nat} {o:Obj} {x:StE} (h:ZQ e D Z L A c W) (hx:bD W (fun b=>Z b∧(Value.slice A L.length c).ownBlock≠some b) x.a x.c x.s.ay)
 (hgrow:(W.alloc o).grownBy w4 (Value.slice A L.length c).ownBlock) (hown4:w4.ownsRow D e 15 (.slice (some ⟨g1,0,none⟩) (L.length+1) cap) (L.length+1) (L.flatMap stC++stC x)) (hat:(Value.slice A L.length c).ownBlock=some g1∨g1=W.heap.size+1):
 ZQ e D Z (L++[x]) (some ⟨g1,0,none⟩) cap w4:=by
 have hl:(L++[x]).length=L.length+1:=by simp
 refine ⟨?_,fun y hy=>?_⟩
 · rw [hl,List.flatMap_append]
   have:[x].flatMap stC=stC x:=by simp
   rw [this]
   exact hown4
 · rcases List.mem_append.1 hy with hy | hy
   · exact ZQ.apart hgrow hat (h.each y hy)
   · obtain rfl:=List.mem_singleton.1 hy
     exact ZQ.apart hgrow hat hx
theorem ZQ.lit {e:TypeId} {D:Nat} {Z:Nat→Prop} (W:World) (x:StE) (hD:D≤W.heap.size) (hx:bD W Z x.a x.c x.s.ay):ZQ e D Z [x] (some ⟨W.heap.size,0,none⟩) 1 (W.alloc (.cells (stC x).toArray e)):=by
 refine ⟨?_,fun y hy=>?_⟩
 · have h:=World.ownsRow_lit (base:=D) (size:=15) (e:=e) W (stC x).toArray 1 hD (by simp only [maxLen];omega) (by simp [aAP])
   simpa using h
 · obtain rfl:=List.mem_singleton.1 hy
   exact bD.more ((bD.more hx (S':=fun b=>Z b∧b<W.heap.size) (fun b hb h=>⟨h,hb⟩)).alloc _) (fun b hb h=>⟨h.1,fun e=>by cases e;exact Nat.lt_irrefl _ h.2⟩)
end
end Go.Proofs.YtelpepbpdojikaaGreatDoor
