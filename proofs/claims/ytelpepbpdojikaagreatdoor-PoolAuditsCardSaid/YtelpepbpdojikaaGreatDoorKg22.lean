/- Parts of the proofs about chapter 5 (pool), joined by program. -/
import Derived.Test.YtelpepbpdojikaaGreatDoorKg17
import Derived.Test.YtelpepbpdojikaaGreatDoorKg29
set_option maxHeartbeats 4000000
set_option maxRecDepth 100000
set_option linter.unusedVariables false
set_option linter.unusedSimpArgs false
namespace Go.Proofs.YtelpepbpdojikaaGreatDoor
open Go.RowKit
def lQ (r:M.Rules) (l:List Sh) (k:Nat):M.State:=M.final r (M.start r) (plain (l.take k))
theorem vF (r:M.Rules) (l:List Sh) (k:Nat) (hk:k<l.length):lQ r l (k+1)=M.step r (lQ r l k) l[k].x:=by
 unfold lQ M.final plain
 rw [List.take_succ_eq_append_getElem hk,List.map_append,List.foldl_append]
 rfl
theorem wU {r:M.Rules} {l:List Sh} (hr:M.aH r=0) (hl:∀ e∈l,M.cZ e.x=0):∀ k,k≤l.length→M.Ok r (1+16*(k:Int)) (lQ r l k)
 | 0,_=>by
   have:lQ r l 0=M.start r:=by unfold lQ;simp [plain,M.final]
   rw [this];exact (M.NG r).more (by omega)
 | k+1,hk=>by
   rw [vF r l k (by omega)]
   exact (M.step_ok hr (wU hr hl k (by omega)) (M.uw (hl _ (List.getElem_mem _))) (by omega)).more (by omega)
structure wY where
 i:Nat
 e:Sh
 s:M.State
 A:Option Addr
 c:Nat
 t:M.State
 A':Option Addr
 c':Nat
 rule:Int
def bH (r:M.Rules) (x:wY):List Value:=au x.e++ah r x.s x.A x.c++ah r x.t x.A' x.c'++[.int .i64 x.rule]
def zh (r:M.Rules) (x:wY):Array Value:= #[.int .i64 (x.i:Int),.agg (bH r x).toArray]
def EJ:List Value:=[.int .i64 0,.string ⟨#[]⟩,.int .i64 0,.int .i64 0,.int .i64 0,.bool false,.slice none 0 0]
def jk:List Value:=EJ++aK++aK++[.int .i64 0]
theorem mG:(Tryz.prog.info? 133).map (·.size)=some 44:=by kernel_rfl
theorem tX (r:M.Rules) (x:wY):∀ v∈bH r x,v.oneCell'=true:=by
 intro v hv
 unfold bH at hv
 rw [List.mem_append,List.mem_append,List.mem_append] at hv
 rcases hv with ((h | h) | h) | h
 · revert v;simp [au,Value.oneCell']
 · exact aX _ _ _ _ v h
 · exact aX _ _ _ _ v h
 · rw [List.mem_singleton] at h;subst h;rfl
theorem ND (e:Sh):∀ v∈au e,v.oneCell'=true:=by simp [au,Value.oneCell']
theorem Held.GX {g:Nat} {t:TypeId}:∀ (vs pre mid post:List Value) (W:World),Held W g (pre++mid++post) t→mid.length=vs.length→Held (W.setCells g pre.length vs) g (pre++vs++post) t
 | [],pre,mid,post,W,h,hl=>by
   obtain rfl:=List.eq_nil_of_length_eq_zero (by simpa using hl)
   exact h
 | v::r,pre,[],post,W,h,hl=>by cases hl
 | v::r,pre,u::mid,post,W,h,hl=>by
   have h1:=h.set pre.length v
   rw [show (pre++u::mid++post).set pre.length v=(pre++[v])++mid++post by simp] at h1
   have h2:=Held.GX r (pre++[v]) mid post _ h1 (by simpa using hl)
   rw [List.length_append] at h2
   simpa [World.setCells] using h2
structure Told (r:M.Rules) (l:List Sh) (X Y:Nat→Prop) (pre:List wY) (x:wY) (W:World):Prop where
 i:x.i=pre.length
 lt:pre.length<l.length
 e:l[pre.length]? =some x.e
 s:x.s=lQ r l pre.length
 t:x.t=M.step r x.s x.e.x
 rule:x.rule=M.legal r x.s x.e.x
 a:bD W Y x.A x.c x.s.ay
 b:bD W Y x.A' x.c' x.t.ay
 xy:∀ b,Y b→¬ X b
structure Inv (r:M.Rules) (l:List Sh) (K:Nat→Prop) (J:(Nat→Prop)→(Nat→Prop)→List wY→World→Prop) (W:World) (Bf k:Nat) (X Y:Nat→Prop) (pre:List wY) (A:Option Addr) (c:Nat) (wr:World):Prop where
 len:pre.length=k
 j:J X Y pre wr
 f:Held wr Bf (ah r (lQ r l k) A c) 127
 b:bD wr Y A c (lQ r l k).ay
 xf:X Bf
 xs:∀ b,X b∨Y b→W.heap.size≤b∧b<wr.heap.size
 xy:∀ b,Y b→¬ X b
 k:∀ b,K b→wr.heap[b]? =W.heap[b]?
 sz:W.heap.size≤wr.heap.size
theorem bD.own {W:World} {S:Nat→Prop} {A:Option Addr} {c:Nat} {zs:List Int} (h:bD W S A c zs):bD W (fun b=>S b∧b<W.heap.size∧∃ o,A=some ⟨b,o,none⟩) A c zs:=
 ⟨h.1,h.2.1,h.2.2.1,h.2.2.2.1,fun hn=>by
  obtain ⟨b,o,e,hS,hb,hc⟩:=Reads.at_ h hn
  exact ⟨b,o,e,⟨hS,hb,o,e⟩,hb,hc⟩⟩
theorem jh {ops:Array Oper} {rest:List Oper} {op:Oper} {a:Act} {W:World} {Q:Exit→Act→World→Prop} {g o:Nat} {cs:List Value} {t:TypeId} {d:TypeDesc} (h:W.rangeAt g o cs) (hu:Tryz.prog.underlying t=some d) (hd:d.isRow=true) (hi:(Tryz.prog.info? t).map (·.size)=some cs.length) (hgd:op.guard=none) (x:Operand) (ho:op.op= .load t x) (hx:a.eval x= .pointer (some ⟨g,o,none⟩))
 (k:wpList Tryz.prog ops Q rest (a.put op.dst (.agg cs.toArray)) W):vN Tryz.prog ops Q op rest a W:=
 wpList_load_mid hgd t x ho g o hx cs d h hu hd hi k
theorem Az {ops:Array Oper} {rest:List Oper} {op:Oper} {a:Act} {W:World} {Q:Exit→Act→World→Prop} {g o:Nat} {vs:List Value} {t:TypeId} (h:W.there g o vs.length) (hi:(Tryz.prog.info? t).map (·.size)=some vs.length) (h1:∀ v∈vs,v.oneCell'=true) (hgd:op.guard=none) (x y:Operand) (ho:op.op= .store t x y)
 (hx:a.eval x= .pointer (some ⟨g,o,none⟩)) (hy:a.eval y= .agg vs.toArray)
 (k:wpList Tryz.prog ops Q rest (a.put op.dst undef) (W.setCells g o vs)):vN Tryz.prog ops Q op rest a W:=
 wpList_store_mid hgd t x y ho g o vs.toArray hx hy (by rw [jD rfl rfl];exact h) (by rw [jD rfl rfl];exact hi) (all_oneCell_toArray h1) (by rw [List.toList_toArray];exact k)
theorem uJ (r:M.Rules) (n c:Nat) (A:Option Addr) (w:World):
 Calls Tryz.prog 65 #[jM r,.slice A n c] w fun e w'=>e= .returned (.func (.func 110) #[] #[ptr w.heap.size,ptr (w.heap.size+1)])∧bU w w' [([.string r.game,.int .i64 r.target,.int .i64 r.aY],23),([.slice A n c],24)]:=by
 go_enter Tryz.func65,Tryz.ntmps65
 go_wp2
 go_ret
 exact ⟨rfl,(((bU.nil w).new (by simp) ([.string r.game,.int .i64 r.target,.int .i64 r.aY]) _).new (by simp) ([.slice A n c]) _)⟩
theorem D6 {W W':World} {Bx Bf:Nat} {cx cf:List Value} {tx tf:TypeId} (hX:Held W Bx cx tx) (hF:Held W Bf cf tf) (hb:Below W.heap.size W W'):(∀ q,W'.cell? ⟨Bx,q,none⟩=W.cell? ⟨Bx,q,none⟩)∧(∀ q,W'.cell? ⟨Bf,q,none⟩=W.cell? ⟨Bf,q,none⟩):=
 ⟨fun q=>hb.cell (p:=⟨Bx,q,none⟩) hX.lt,fun q=>hb.cell (p:=⟨Bf,q,none⟩) hF.lt⟩
theorem sQ {W:World} {Bx Bf:Nat} {cx cf:List Value} {tx tf:TypeId} (hX:Held W Bx cx tx) (hF:Held W Bf cf tf) (o:Obj):(∀ q,(W.alloc o).cell? ⟨Bx,q,none⟩=W.cell? ⟨Bx,q,none⟩)∧(∀ q,(W.alloc o).cell? ⟨Bf,q,none⟩=W.cell? ⟨Bf,q,none⟩):=
 D6 hX hF ((Below.refl _ _).alloc (Nat.le_refl _) o)
theorem ny {W W' W2:World} {Bx Bf:Nat} (h:(∀ q,W'.cell? ⟨Bx,q,none⟩=W.cell? ⟨Bx,q,none⟩)∧(∀ q,W'.cell? ⟨Bf,q,none⟩=W.cell? ⟨Bf,q,none⟩)) (k:(∀ q,W2.cell? ⟨Bx,q,none⟩=W'.cell? ⟨Bx,q,none⟩)∧(∀ q,W2.cell? ⟨Bf,q,none⟩=W'.cell? ⟨Bf,q,none⟩)):
 (∀ q,W2.cell? ⟨Bx,q,none⟩=W.cell? ⟨Bx,q,none⟩)∧(∀ q,W2.cell? ⟨Bf,q,none⟩=W.cell? ⟨Bf,q,none⟩):=⟨fun q=>(k.1 q).trans (h.1 q),fun q=>(k.2 q).trans (h.2 q)⟩
theorem qY {W W':World} {B:Nat} (h:Below B W.drew W'):Below B W W':=⟨h.os,h.tape,h.output,h.size,h.block⟩
theorem Hr {r:M.Rules} {x:wY} {W:World} {g:Nat} {t:TypeId} (h:Held W g (bH r x) t):W.there g 25 18:=fun j hj=>by
 have h1:(bH r x).length=44:=rfl
 rw [h.cell (List.getElem?_eq_getElem (show 25+j<(bH r x).length by omega))]
 exact ⟨rfl,h.frozen _⟩
theorem N9 {r:M.Rules} {k:Nat} {e:Sh} {s t:M.State} {A A':Option Addr} {c c':Nat} {ru:Int} {W:World} {g:Nat} {ty:TypeId} (h:Held W g (bH r ⟨k,e,s,A,c,t,A',c',ru⟩) ty) (t2:M.State) (A2:Option Addr) (c2:Nat):
 Held (W.setCells g 25 (ah r t2 A2 c2)) g (bH r ⟨k,e,s,A,c,t2,A2,c2,ru⟩) ty:=
 Held.GX (ah r t2 A2 c2) (au e++ah r s A c) (ah r t A' c') [.int .i64 ru] W h rfl
theorem Gx (r:M.Rules) (k:Nat) (e:Sh) (s t:M.State) (A A':Option Addr) (c c':Nat) (ru:Int):∀ j v,(ah r t A' c')[j]? =some v→(bH r ⟨k,e,s,A,c,t,A',c',ru⟩)[25+j]? =some v:=by
 intro j v hj
 have hl:j<18:=(List.getElem?_eq_some_iff.1 hj).1
 unfold bH
 rw [List.getElem?_append_left (by simp [au,ah];omega),List.getElem?_append_right (by simp [au,ah])]
 rw [show 25+j - (au e++ah r s A c).length=j by simp [au,ah]]
 exact hj
theorem Ox {ops:Array Oper} {rest:List Oper} {op:Oper} {a:Act} {W:World} {Q:Exit→Act→World→Prop} {g n:Nat} {cs:List Value} {t:TypeId} {d:TypeDesc} {ro:Option Nat} (h:Held W g cs t) (hu:Tryz.prog.underlying t=some d) (hd:d.isRow=true) (hi:(Tryz.prog.info? t).map (·.size)=some cs.length) (hgd:op.guard=none) (x:Operand) (ho:op.op= .load t x) (hx:a.eval x= .pointer (some ⟨g,0,none⟩))
 (k:wpListIn (kW ro) n Tryz.prog ops Q rest (a.put op.dst (.agg cs.toArray)) W):wpListIn (kW ro) n Tryz.prog ops Q (op::rest) a W:=
 wpListIn_plain hgd fun _ hK=>C9 (fun c e=>by rw [ho] at e;cases e) (wp_load_mid t x ho g 0 hx cs d h.range hu hd hi (hK _ _ k))
theorem Held.lC {g b:Nat} (hne:b≠g):∀ (vs:List Value) (o:Nat) (W:World),(W.setCells g o vs).heap[b]? =W.heap[b]?
 | [],_,_=>rfl
 | v::r,o,W=>(Held.lC hne r (o+1) _).trans (Below.heap_setCell W ⟨g,o,none⟩ v b hne)
theorem l7 {X:Nat→Prop} {W:World} {g:Nat} (hX:X g) (vs:List Value) (o:Nat):Turn X W (W.setCells g o vs):=
 ⟨(below_setCells (B:=0) g (Nat.zero_le _) vs o W W (Below.refl _ _)).os,(below_setCells (B:=0) g (Nat.zero_le _) vs o W W (Below.refl _ _)).tape,(below_setCells (B:=0) g (Nat.zero_le _) vs o W W (Below.refl _ _)).output,by rw [setCells_size];exact Nat.le_refl _,fun b _ hn=>Held.lC (fun e=>hn (by rw [e];exact hX)) vs o W⟩
theorem CO {W:World} {Bx Bf Be:Nat} (vs:List Value) (o:Nat) (h1:Bx≠Be) (h2:Bf≠Be):(∀ q,(W.setCells Be o vs).cell? ⟨Bx,q,none⟩=W.cell? ⟨Bx,q,none⟩)∧(∀ q,(W.setCells Be o vs).cell? ⟨Bf,q,none⟩=W.cell? ⟨Bf,q,none⟩):=
 ⟨fun q=>kN vs o Bx q h1,fun q=>kN vs o Bf q h2⟩
theorem sN (r:M.Rules) (l:List Sh) (Al:Option Addr) (cl:Nat) (K:Nat→Prop) (Br Bl n:Nat) (w:World) (hn:1≤n) (hr:M.aH r=0) (hck:∀ e∈l,M.cZ e.x=0) (hlen:l.length≤1000)
 (Xy:∀ b,K b→b<w.heap.size) (hBr:Held w Br ([.string r.game,.int .i64 r.target,.int .i64 r.aY]) 23) (hKr:K Br) (hBl:Held w Bl [.slice Al l.length cl] 24) (Xx:K Bl) (hL:wG w K Al cl l):
 Gt (kW none) n Tryz.prog 110 #[ptr Br,ptr Bl] (zh r) K (Told r l) (fun xs=>xs.length=l.length) (fun _=>True) l.length w:=by
 intro l0 J Jx W hW hJ hJx hY h0
 refine uI ?_
 have Hy:=hBr.below hW
 have UU:=hBl.below hW
 have Xz:=hL.below hW
 have hKW:∀ b,K b→b<W.heap.size:=fun b hb=>Nat.lt_of_lt_of_le (Xy b hb) hW.size
 have HY:=hide hY
 clear hY hBr hBl hL
 have k0:=Hy.cell (j:=0) rfl
 have GL:=Hy.frozen 0
 have k1:=Hy.cell (j:=1) rfl
 have JE:=Hy.frozen 1
 have k2:=Hy.cell (j:=2) rfl
 have Pn:=Hy.frozen 2
 go_enter Tryz.func110,Tryz.ntmps110
 go_upto_region 0 with (fail)
 go_cut [4] (fun v4 wx=>∃ Bf A0 c0 X Y,v4=ptr Bf∧Inv r l K J W Bf 0 X Y [] A0 c0 wx)
 case first=>
  go_wp2_with (first | (go_at_call 64;refine (BJ r _).mono ?_;rintro e w1 ⟨A1,c1,rfl,hr1,hb1⟩;have hG1:=Held.new w1 aK 127) | (refine aO 127 (.tmp 4) (.tmp 9) rfl ?_;refine aF (hG1) (ah r (M.start r) A1 c1) rfl ak (aX _ _ _ _) rfl (.tmp 4) (.tmp 9) rfl rfl rfl ?_))
  go_meet
  have hs:lQ r l 0=M.start r:=by unfold lQ;simp [plain,M.final]
  have U7:Below W.heap.size W ((w1.alloc (.cells aK.toArray 127)).setCells w1.heap.size 0 (ah r (M.start r) A1 c1)):=below_setCells _ hb1.size _ _ _ _ (hb1.alloc hb1.size _)
  refine ⟨w1.heap.size,A1,c1,(fun b=>b=w1.heap.size),(fun b=>W.heap.size≤b∧b<w1.heap.size),rfl,⟨rfl,hJ _ _ _ _ _ _ _ h0 (Turn.of_below U7) (fun b h=>by subst h;exact .inr hb1.size) (fun b h=> .inr h.1),by rw [hs];exact hG1.whole _ rfl,?_,rfl,?_,fun b h e=>by subst e;exact absurd h.2 (Nat.lt_irrefl _),fun b hb=>U7.block b (hKW b hb),U7.size⟩⟩
  · rw [hs]
    exact bD.sets (fun h=>absurd h.2 (Nat.lt_irrefl _)) _ 0 _ ((hr1.more (fun b hb h=>⟨h,hb⟩)).alloc _)
  · rintro b (h | h)
    · subst h;exact ⟨hb1.size,by rw [setCells_size];simp⟩
    · exact ⟨h.1,by rw [setCells_size];simp;omega⟩
 case rest=>
  obtain ⟨Bf,A0,c0,X0,Y0,rfl,hI⟩:=hcut
  have Rz:Held wc Bl [.slice Al l.length cl] 24:=(hI.k Bl Xx).trans UU
  have s0:=Rz.cell (j:=0) rfl
  clear k0 GL k1 JE k2 Pn
  go_wp2
  go_loopw [12] (fun i wr=>∃ (k:Nat) (X Y:Nat→Prop) (pre:List wY) (A:Option Addr) (c:Nat),k≤l.length∧i= .int .i64 k∧Inv r l K J W Bf k X Y pre A c wr) (fun i _=>l.length - (intOf i).toNat)
  case atStart=>exact ⟨0,X0,Y0,[],A0,c0,Nat.zero_le _,rfl,hI⟩
  case round=>
   clear hI s0 Rz
   obtain ⟨k,X,Y,pre,A,c,hk,rfl,hI⟩:=hrel
   by_cases hlt:k<l.length
   · have hLr:wG wr K Al cl l:=Xz.keep hI.sz (fun b o hb _=>World.cell?_of_block (hI.k b hb))
     have XO:=hLr.bd
     obtain ⟨b,o,rfl,_,hbl,hc⟩:=hLr.at_ k hlt
     obtain ⟨z0,z1,z2,z3,z4,z5,z6⟩:=hc k hlt
     have xY:=hLr.aA k hlt
     have hce:=hck _ (List.getElem_mem hlt)
     have JD:=wU hr hck k (by omega)
     have hsc:=vF r l k hlt
     have hle:l[k]? =some l[k]:=List.getElem?_eq_getElem hlt
     obtain ⟨e,he⟩:∃ e,l[k]=e:=⟨_,rfl⟩
     rw [he] at z0 z1 z2 z3 z4 z5 z6 xY hce hsc hle
     have hF:=hI.f
     have hbb:=hI.b
     obtain ⟨s,hs⟩:∃ s,lQ r l k=s:=⟨_,rfl⟩
     rw [hs] at hF hbb JD hsc
     have HI:=hide hI
     have Xd:=hide hsc
     have HS:=hide hs
     have QH:=hide hle
     have HE:=hide he
     have hrg:wr.rangeAt b (o+k*7) (au e):=fun j v hj=>by
      match j,hj with
      | 0,hj=>injection hj with hj;subst hj;exact z0
      | 1,hj=>injection hj with hj;subst hj;exact z1
      | 2,hj=>injection hj with hj;subst hj;exact z2
      | 3,hj=>injection hj with hj;subst hj;exact z3
      | 4,hj=>injection hj with hj;subst hj;exact z4
      | 5,hj=>injection hj with hj;subst hj;exact z5
      | 6,hj=>injection hj with hj;subst hj;exact z6
     clear hI hc z0 z1 z2 z3 z4 z5 z6 hsc hs hle he hLr
     go_upto_region 3 with (fail)
     go_cut [5,6] from 14 to 16 (fun v5 v6 wx=>∃ Bx,v5= .int .i64 k∧v6=ptr Bx∧wr.heap.size≤Bx∧Held wx Bx (au e) 66∧Below wr.heap.size wr wx)
     case first=>
      have hX0:=Held.new wr EJ 66
      go_wp2_with (first | (refine aN 66 (.tmp 15) rfl ?_;refine jh hrg Tryz.underlying66 rfl aV rfl (.tmp 15) rfl rfl ?_) | (refine aO 66 (.tmp 6) (.tmp 16) rfl ?_;refine aF hX0 (au e) rfl aV (ND e) rfl (.tmp 6) (.tmp 16) rfl rfl rfl ?_))
      go_meet
      exact ⟨wr.heap.size,rfl,rfl,Nat.le_refl _,hX0.whole _ rfl,below_setCells _ (Nat.le_refl _) _ _ _ _ ((Below.refl _ _).alloc (Nat.le_refl _) _)⟩
     case rest=>
      rename World=>W1
      obtain ⟨Bx,rfl,rfl,hBx,hX,hb1⟩:=hcut
      have hFx:=hF.below hb1
      have hbx:=hbb.below hb1
      have hpx:=xY.below hb1
      obtain ⟨q3,q4,_⟩:=wL hce
      have hL4:=fun W h h'=>Ig (fun _=>True) r s e.x A e.a c e.c W h h' q3 (fun p hp=>(q4 p hp).1.1)
      obtain ⟨ru,Vh⟩:∃ q,M.legal r s e.x=q:=⟨_,rfl⟩
      rw [Vh] at hL4
      have TW:=hide hL4
      have UE:=hide Vh
      clear hL4 Vh q3 q4
      go_upto_region 4 with (fail)
      go_cut [7] from 17 to 23 (fun v7 wy=>∃ Be,v7=ptr Be∧W1.heap.size≤Be∧Held wy Be (bH r ⟨k,e,s,A,c,s,A,c,ru⟩) 133∧Below W1.heap.size W1 wy)
      case first=>
       have GK:∀ W:World,(fun w':World=>(∀ q,w'.cell? ⟨Bx,q,none⟩=W1.cell? ⟨Bx,q,none⟩)∧(∀ q,w'.cell? ⟨Bf,q,none⟩=W1.cell? ⟨Bf,q,none⟩)) W→W.rangeAt Bx 0 [.int .i64 e.x.aC,.string e.x.kind,.int .i64 e.x.aJ,.int .i64 e.x.aP,.int .i64 e.x.first,.bool e.x.dA,.slice e.a e.x.aA.length e.c]:=fun W h j v hj=>by rw [Nat.zero_add,h.1 j];exact hX.cell hj
       have Fz:∀ W:World,(fun w':World=>(∀ q,w'.cell? ⟨Bx,q,none⟩=W1.cell? ⟨Bx,q,none⟩)∧(∀ q,w'.cell? ⟨Bf,q,none⟩=W1.cell? ⟨Bf,q,none⟩)) W→W.rangeAt Bf 0 [.string r.game,.int .i64 r.target,.int .i64 r.aY,.int .i64 s.turn,.bool s.brk,.bool s.hand,.bool s.push,.bool s.pushed,.int .i64 s.group,.slice A s.ay.length c,.int .i64 s.s0,.int .i64 s.s1,.int .i64 s.f0,.int .i64 s.f1,.int .i64 s.run,.int .i64 s.aZ,.bool s.over,.int .i64 s.bC]:=fun W h j v hj=>by rw [Nat.zero_add,h.2 j];exact hFx.cell hj
       refine wp_region_held_drew (S:=(fun w':World=>(∀ q,w'.cell? ⟨Bx,q,none⟩=W1.cell? ⟨Bx,q,none⟩)∧(∀ q,w'.cell? ⟨Bf,q,none⟩=W1.cell? ⟨Bf,q,none⟩))) (by kernel_rfl) ?zV (fun hHeld=>?_)
       case zV=>exact ⟨fun q=>rfl,fun q=>rfl⟩
       refine wpAnyH_take (i:=0) (oi:=_) (v:=_) (ga rfl) (by kernel_rfl) (by kernel_rfl) (by kernel_rfl) (fun _ _ _ h=>h) (yieldsIf_load_mid (by rfl) _ _ (by rfl) _ _ (by rfl) _ _ GK Tryz.underlying66 rfl (by kernel_rfl)) (by assumption) ?_
       try simp only [Act.put,la,lz,ls]
       refine wpAnyH_take (i:=1) (oi:=_) (v:=_) (ga rfl) (by kernel_rfl) (by kernel_rfl) (by kernel_rfl) (fun _ _ _ h=>h) (yieldsIf_load_mid (by rfl) _ _ (by rfl) _ _ (by rfl) _ _ Fz Tryz.underlying127 rfl (by kernel_rfl)) (by assumption) ?_
       try simp only [Act.put,la,lz,ls]
       refine wpAnyH_take (i:=2) (oi:=_) (v:=_) (ga rfl) (by kernel_rfl) (by kernel_rfl) (by kernel_rfl) (fun _ _ _ h=>h) (yieldsIf_load_mid (by rfl) _ _ (by rfl) _ _ (by rfl) _ _ Fz Tryz.underlying127 rfl (by kernel_rfl)) (by assumption) ?_
       try simp only [Act.put,la,lz,ls]
       refine wpAnyH_take (i:=3) (oi:=_) (v:=_) (ga rfl) (by kernel_rfl) (by kernel_rfl) (by kernel_rfl) (fun _ _ _ h=>h) (yieldsIf_load_mid (by rfl) _ _ (by rfl) _ _ (by rfl) _ _ Fz Tryz.underlying127 rfl (by kernel_rfl)) (by assumption) ?_
       try simp only [Act.put,la,lz,ls]
       refine wpAnyH_take (i:=4) (oi:=_) (v:=_) (ga rfl) (by kernel_rfl) (by kernel_rfl) (by kernel_rfl) (fun _ _ _ h=>h) (yieldsIf_load_mid (by rfl) _ _ (by rfl) _ _ (by rfl) _ _ GK Tryz.underlying66 rfl (by kernel_rfl)) (by assumption) ?_
       try simp only [Act.put,la,lz,ls]
       refine wpAnyH_ready (rs:=[5,7]) (by kernel_rfl) (by simp) ?_
       refine AllReadyH.cons (o:=_) (ga rfl) (fun K hK=>?_) (AllReadyH.cons (o:=_) (ga rfl) (fun K hK=>?_) AllReadyH.nil)
       · go_simp
         (first | (go_at_call 96;refine (TW.out W1.drew (bD.more (show bD W1.drew _ _ _ _ from hbx) (fun _ _ _=>trivial)) (jl.more (show jl W1.drew _ _ _ _ from hpx) (fun _ _ _=>trivial))).mono ?_;rintro e4 w4 ⟨rfl,hb4⟩;have CB:=D6 hX.drew hFx.drew hb4) | (go_at_call 96;refine (TW.out (W1.drew.alloc _) (bD.more ((show bD W1.drew _ _ _ _ from hbx).alloc _) (fun _ _ _=>trivial)) (jl.more ((show jl W1.drew _ _ _ _ from hpx).alloc _) (fun _ _ _=>trivial))).mono ?_;rintro e4 w4 ⟨rfl,hb4⟩;have Fh:=D6 (hX.drew.alloc _) (hFx.drew.alloc _) hb4))
         refine hK.out _ _ ?MZ (fun hHeld=>?_)
         case MZ=>(first | exact CB | exact ny (sQ hX.drew hFx.drew _) Fh)
         clear hK K
         try simp only [Act.put,la,lz,ls]
         refine tk 6 ?_
         refine tr 7 fun K hK=>?_
         go_simp
         refine hK.out _ _ ?Nb (fun hHeld=>?_)
         case Nb=>(first | exact ny CB (sQ (hX.drew.below hb4) (hFx.drew.below hb4) _) | exact sQ hX.drew hFx.drew _)
         clear hK K
         try simp only [Act.put,la,lz,ls]
         refine tr 8 fun K hK=>?_
         first | (have hk5:=ny (ny CB (sQ (hX.drew.below hb4) (hFx.drew.below hb4) (.cells jk.toArray 133))) (CO (Be:=w4.heap.size) (bH r ⟨k,e,s,A,c,s,A,c,ru⟩) 0 (by have:=hX.lt;have:=hb4.size;simp at this;omega) (by have:=hFx.lt;have:=hb4.size;simp at this;omega));have hE0:=Held.new w4 jk 133;refine bF hE0 (bH r ⟨k,e,s,A,c,s,A,c,ru⟩) rfl mG (tX _ _) (.tmp 7) (.tmp 23) rfl rfl rfl ?_) | (have hk5:=ny (ny (sQ hX.drew hFx.drew (.cells jk.toArray 133)) Fh) (CO (Be:=W1.heap.size) (bH r ⟨k,e,s,A,c,s,A,c,ru⟩) 0 (by have:=hX.lt;omega) (by have:=hFx.lt;omega));have hE0:=(Held.new W1.drew jk 133).below hb4;refine bF hE0 (bH r ⟨k,e,s,A,c,s,A,c,ru⟩) rfl mG (tX _ _) (.tmp 7) (.tmp 23) rfl rfl rfl ?_)
         refine hK.out _ _ ?Nh (fun hHeld=>?_)
         case Nh=>(exact hk5)
         clear hK K
         try simp only [Act.put,la,lz,ls]
         refine wpAnyH_done (by kernel_rfl) ?_ _
         clear hk5 GK Fz
         first | clear CB | clear Fh
         go_wp2
         go_meet
         first | exact ⟨w4.heap.size,rfl,hb4.size,hE0.whole _ rfl,below_setCells _ hb4.size _ _ _ _ ((qY hb4).alloc hb4.size _)⟩ | exact ⟨W1.heap.size,rfl,Nat.le_refl _,hE0.whole _ rfl,below_setCells _ (Nat.le_refl _) _ _ _ _ (((qY (Below.refl _ W1.drew)).alloc (Nat.le_refl _) _).trans (hb4.mono (by simp)))⟩
       · go_simp
         refine hK.out _ _ ?Nc (fun hHeld=>?_)
         case Nc=>(first | exact ny CB (sQ (hX.drew.below hb4) (hFx.drew.below hb4) _) | exact sQ hX.drew hFx.drew _)
         clear hK K
         try simp only [Act.put,la,lz,ls]
         refine tr 5 fun K hK=>?_
         go_simp
         (first | (go_at_call 96;refine (TW.out W1.drew (bD.more (show bD W1.drew _ _ _ _ from hbx) (fun _ _ _=>trivial)) (jl.more (show jl W1.drew _ _ _ _ from hpx) (fun _ _ _=>trivial))).mono ?_;rintro e4 w4 ⟨rfl,hb4⟩;have CB:=D6 hX.drew hFx.drew hb4) | (go_at_call 96;refine (TW.out (W1.drew.alloc _) (bD.more ((show bD W1.drew _ _ _ _ from hbx).alloc _) (fun _ _ _=>trivial)) (jl.more ((show jl W1.drew _ _ _ _ from hpx).alloc _) (fun _ _ _=>trivial))).mono ?_;rintro e4 w4 ⟨rfl,hb4⟩;have Fh:=D6 (hX.drew.alloc _) (hFx.drew.alloc _) hb4))
         refine hK.out _ _ ?Na (fun hHeld=>?_)
         case Na=>(first | exact CB | exact ny (sQ hX.drew hFx.drew _) Fh)
         clear hK K
         try simp only [Act.put,la,lz,ls]
         refine tk 6 ?_
         refine tr 8 fun K hK=>?_
         first | (have hk5:=ny (ny CB (sQ (hX.drew.below hb4) (hFx.drew.below hb4) (.cells jk.toArray 133))) (CO (Be:=w4.heap.size) (bH r ⟨k,e,s,A,c,s,A,c,ru⟩) 0 (by have:=hX.lt;have:=hb4.size;simp at this;omega) (by have:=hFx.lt;have:=hb4.size;simp at this;omega));have hE0:=Held.new w4 jk 133;refine bF hE0 (bH r ⟨k,e,s,A,c,s,A,c,ru⟩) rfl mG (tX _ _) (.tmp 7) (.tmp 23) rfl rfl rfl ?_) | (have hk5:=ny (ny (sQ hX.drew hFx.drew (.cells jk.toArray 133)) Fh) (CO (Be:=W1.heap.size) (bH r ⟨k,e,s,A,c,s,A,c,ru⟩) 0 (by have:=hX.lt;omega) (by have:=hFx.lt;omega));have hE0:=(Held.new W1.drew jk 133).below hb4;refine bF hE0 (bH r ⟨k,e,s,A,c,s,A,c,ru⟩) rfl mG (tX _ _) (.tmp 7) (.tmp 23) rfl rfl rfl ?_)
         refine hK.out _ _ ?Nj (fun hHeld=>?_)
         case Nj=>(exact hk5)
         clear hK K
         try simp only [Act.put,la,lz,ls]
         refine wpAnyH_done (by kernel_rfl) ?_ _
         clear hk5 GK Fz
         first | clear CB | clear Fh
         go_wp2
         go_meet
         first | exact ⟨w4.heap.size,rfl,hb4.size,hE0.whole _ rfl,below_setCells _ hb4.size _ _ _ _ ((qY hb4).alloc hb4.size _)⟩ | exact ⟨W1.heap.size,rfl,Nat.le_refl _,hE0.whole _ rfl,below_setCells _ (Nat.le_refl _) _ _ _ _ (((qY (Below.refl _ W1.drew)).alloc (Nat.le_refl _) _).trans (hb4.mono (by simp)))⟩
      case rest=>
       obtain ⟨Be,rfl,Ry,hE,hb2⟩:=hcut
       have YV:=hE.cell (j:=43) rfl
       have V7:=hFx.below hb2
       have XI:=hX.below hb2
       have hbe:=hbx.below hb2
       have hpe:=hpx.below hb2
       have U4:=hb1.trans (hb2.mono hb1.size)
       go_upto_if 26 with (fail)
       go_cut [] from 24 to 30 (fun wz=>∃ A' c',Held wz Be (bH r ⟨k,e,s,A,c,M.step r s e.x,A',c',ru⟩) 133∧bD wz (fun b=>Y b∨Be<b) A' c' (M.step r s e.x).ay∧Below W1.heap.size W1 wz)
       case first=>
        rcases zr:(ru == 0) with _ | _
        · have hst:M.step r s e.x=s:=by
           unfold M.step
           rw [if_neg (by rw [UE.out];simpa using zr)]
          have HST:=hide hst
          clear hst
          go_wp2
          go_meet
          rw [HST.out]
          exact ⟨A,c,hE,hbe.more (fun b _ h=> .inl h),hb2⟩
        · have hl0:M.legal r s e.x=0:=by rw [UE.out];simpa using zr
          have hst:M.step r s e.x=M.next r s e.x:=by
           unfold M.step
           rw [if_pos hl0]
          have Ws:=fun W h h'=>next_any (fun _=>True) _ r s e.x A e.a c e.c W h h' hce hr JD (by omega) (M.lawful hl0)
          have HST:=hide hst
          have WW:=hide Ws
          clear hst Ws hl0
          go_wp2_with (first | (refine aN 127 (.tmp 4) rfl ?_;refine aG (V7) Tryz.underlying127 rfl ak rfl (.tmp 4) rfl rfl ?_) | (refine aN 66 (.tmp 6) rfl ?_;refine aG (XI) Tryz.underlying66 rfl aV rfl (.tmp 6) rfl rfl ?_) | (go_at_call 97;refine (WW.out _ (hbe.more (fun _ _ _=>trivial)) (hpe.more (fun _ _ _=>trivial))).mono ?_;rintro e5 w5 ⟨A5,c5,rfl,SC,hb5⟩;have Oc:=hE.below hb5) | (refine aO 127 (.tmp 30) (.tmp 29) rfl ?_;refine Az (o:=25) (vs:=ah r (M.next r s e.x) A5 c5) (Hr Oc) ak (aX _ _ _ _) rfl (.tmp 30) (.tmp 29) rfl rfl rfl ?_))
          go_meet
          rw [HST.out]
          exact ⟨A5,c5,N9 Oc _ _ _,bD.sets (fun h=>h.elim (fun hy=>by have:=HI.out.xs Be (.inr hy);have:=hb1.size;omega) (fun h=>Nat.lt_irrefl _ h)) _ _ _ (SC.more (fun b _ h=> .inr (Nat.lt_of_lt_of_le hE.lt h))),below_setCells _ Ry _ _ _ _ (hb2.trans (hb5.mono hb2.size))⟩
       case rest=>
        rename World=>W3
        obtain ⟨A',c',hE',hb',hb3⟩:=hcut
        have H6:=hb1.trans (hb3.mono hb1.size)
        have Xt:wr.heap.size≤Be:=Nat.le_trans hb1.size Ry
        have hxk:=HI.out
        obtain ⟨X',hX'⟩:∃ X':Nat→Prop,X'=fun b=>X b∨b=Be:=⟨_,rfl⟩
        obtain ⟨Y',QO⟩:∃ Y':Nat→Prop,Y'=fun b=>(Y b∨Be<b)∧b<W3.heap.size:=⟨_,rfl⟩
        have gX:xK wr X X':=fun b h=>by rw [hX'] at h;rcases h with h | h;exact .inl h;exact .inr (by omega)
        have gY:xK wr Y Y':=fun b h=>by rw [QO] at h;rcases h.1 with h | h;exact .inl h;exact .inr (by omega)
        have TU:X' Bf:=by rw [hX'];exact .inl hxk.xf
        have Yt:X' Be:=by rw [hX'];exact .inr rfl
        have xs':∀ b,X' b∨Y' b→W.heap.size≤b∧b<W3.heap.size:=fun b h=>by
         have s1:=hxk.sz
         have s2:=H6.size
         have s3:=hE'.lt
         rw [hX',QO] at h
         rcases h with (h | h) | ⟨h | h,h2⟩
         · have:=hxk.xs b (.inl h);omega
         · subst h;omega
         · have:=hxk.xs b (.inr h);omega
         · omega
        have VD:∀ b,Y' b→¬ X' b:=fun b h=>by
         rw [QO] at h
         rw [hX']
         rintro (hx | hx)
         · have hs:=hxk.xs b (.inl hx)
           rcases h.1 with h | h
           · exact hxk.xy b h hx
           · omega
         · rcases h.1 with h | h
           · have:=hxk.xs b (.inr h);omega
           · omega
        have Ku:bD W3 Y' A c s.ay:=(hbb.below H6).more (fun b hb h=>by rw [QO];exact ⟨.inl h,hb⟩)
        have Aw:bD W3 Y' A' c' (M.step r s e.x).ay:=hb'.more (fun b hb h=>by rw [QO];exact ⟨h,hb⟩)
        have hj3:=hJ _ _ _ _ X' Y' _ hxk.j (Turn.of_below H6) gX gY
        have hk3:∀ b,K b→W3.heap[b]? =W.heap[b]? :=fun b hb=>(H6.block b (Nat.lt_of_lt_of_le (hKW b hb) hxk.sz)).trans (hxk.k b hb)
        have hft:=V7
        have hf3:=hF.below H6
        have hT:Told r l X' Y' pre ⟨k,e,s,A,c,M.step r s e.x,A',c',ru⟩ W3:=⟨hxk.len.symm,by rw [hxk.len];exact hlt,by rw [hxk.len];exact QH.out,by rw [hxk.len];exact HS.out.symm,rfl,UE.out.symm,Ku,Aw,VD⟩
        obtain ⟨fn',WI,assign',body',hy,hR⟩:=HY.out X' Y' pre ⟨k,e,s,A,c,M.step r s e.x,A',c',ru⟩ W3 hj3 xs' (by rw [hxk.len];exact hlt) hT
        have XZ:=hxk.sz
        have SG:=hxk.len
        clear hX' QO gX gY hxk hft hT
        have hlen':(pre++[(⟨k,e,s,A,c,M.step r s e.x,A',c',ru⟩:wY)]).length=k+1:=by rw [List.length_append,SG];rfl
        have hs1:lQ r l (k+1)=M.step r s e.x:=Xd.out
        have HLEN:=hide hlen'
        have VT:=hide hs1
        clear hlen' hs1 SG
        obtain ⟨xx,hxx⟩:∃ q:wY,(⟨k,e,s,A,c,M.step r s e.x,A',c',ru⟩:wY)=q:=⟨_,rfl⟩
        rw [hxx] at hy hR HLEN hE'
        have hyx:zh r xx= #[.int .i64 (k:Int),.agg (bH r xx).toArray]:=by rw [← hxx];rfl
        rw [hyx] at hy
        have UW:W3.rangeAt Be 25 (ah r (M.step r s e.x) A' c'):=by
         rw [← hxx] at hE'
         exact fun j v hj=>hE'.cell (Gx r k e s (M.step r s e.x) A A' c c' ru j v hj)
        have YH:=hide hxx
        clear hyx hxx
        go_upto_region 7 with (fail)
        go_cut [35] from 31 to 35 (fun v wx=>(v= .bool false∧J X' Y' (pre++[xx]) wx∧lU K X' Y' W3 wx)∨(v= .bool true∧Jx X' Y' (pre++[xx]) wx))
        case first=>
         refine (wpIn_wide (n:=n)).1 ?_
         have XW:(kW none).round=none:=rfl
         have XQ:(kW none).depth=none:=rfl
         have XR:∀ f,(kW none).fn f=True:=fun _=>rfl
         refine wpIn_region_lit ?_
         gi_wp2_with (refine Ox hE' Tryz.underlying133 rfl mG rfl (.tmp 7) rfl rfl ?_)
         refine hR.mono ?_
         rintro e4 W4 (⟨rfl,UZ,hk4⟩ | ⟨rfl,Oe⟩)
         · gi_wp2
           go_meet
           exact .inl ⟨rfl,UZ,hk4⟩
         · gi_wp2
           go_meet
           exact .inr ⟨rfl,Oe⟩
        case rest=>
         clear hy hR
         rcases hcut with ⟨rfl,UZ,hk4⟩ | ⟨rfl,Oe⟩
         · have hf4:Held wc Bf (ah r s A c) 127:=(hk4.block Bf (.inl TU)).trans hf3
           have Xw:wc.rangeAt Be 25 (ah r (M.step r s e.x) A' c'):=fun j v hj=>(World.cell?_of_block (hk4.block Be (.inl Yt))).trans (UW j v hj)
           have hB4:bD wc Y' A' c' (M.step r s e.x).ay:=Aw.keep hk4.size (fun b o hy _=>World.cell?_of_block (hk4.block b (.inr hy)))
           clear hJx
           go_wp2_with (first | (refine aN 127 (.tmp 36) rfl ?_;refine jh Xw Tryz.underlying127 rfl ak rfl (.tmp 36) rfl rfl ?_) | (refine aO 127 (.tmp 4) (.tmp 37) rfl ?_;refine aF hf4 (ah r (M.step r s e.x) A' c') rfl ak (aX _ _ _ _) rfl (.tmp 4) (.tmp 37) rfl rfl rfl ?_))
           have htn:Turn X' wc (wc.setCells Bf 0 (ah r (M.step r s e.x) A' c')):=l7 TU _ 0
           go_roundw
           case rel=>
            refine ⟨k+1,X',Y',pre++[xx],A',c',by omega,by go_num,HLEN.out,hJ _ _ _ _ _ _ _ UZ htn (fun b h=> .inl h) (fun b h=> .inl h),?_,?_,TU,fun b h=>?_,VD,fun b h=>?_,?_⟩
            · rw [VT.out];exact hf4.whole _ rfl
            · rw [VT.out];exact bD.sets (fun h=>VD Bf h TU) _ 0 _ hB4
            · have h1:=xs' b h
              have h2:=hk4.size
              exact ⟨h1.1,by rw [setCells_size];omega⟩
            · have hne:b≠Bf:=fun e=>by
               have h1:=hKW b h
               have h2:=xs' Bf (.inl TU)
               omega
              exact (Held.lC hne _ 0 wc).trans ((hk4.keep b h).trans (hk3 b h))
            · rw [setCells_size];have:=hk4.size;have:=H6.size;omega
           case measure=>simp [intOf];omega
         · go_wp2
           refine bodyPost_ret (results_none rfl _ _ _) rfl ?_
           first | exact ⟨⟨_,rfl⟩,.inr ⟨X',Y',pre++[xx],trivial,Oe⟩⟩ | exact ⟨⟨_,rfl⟩,.inr ⟨X',Y',pre++[xx],Oe⟩⟩
   · obtain rfl:k=l.length:=by omega
     go_wp2
     go_end0
     exact ⟨⟨_,rfl⟩,.inl ⟨X,Y,pre,hI.len,hI.j⟩⟩
theorem vZ {F:Fence} {n:Nat} {P:Program} {fn:Func} {R:Ending→World→Prop} {a:Act} {w:World} {v:Value} (hr:(results fn a.tmps).run P w= .ok v w) (hd:a.defers=[]) (hR:R (.returned v) w):bodyPostM F n P fn R .ret a w:=by
 show LeavesInM F n P fn a.tmps R a.defers .returning w
 rw [hd]
 exact ⟨v,hr,hR⟩
theorem uf {F:Fence} {n:Nat} {P:Program} {fn:Func} {R:Ending→World→Prop} {a:Act} {w:World} {D:Nat} {v:Value} (hd:a.defers=[{target:= .collected D,args:= #[] }]) (hD:w.heap[D]? =some (.deferred (some [])))
 (hr:(results fn a.tmps).run P (w.putObj D (.deferred none))= .ok v (w.putObj D (.deferred none))) (hR:R (.returned v) (w.putObj D (.deferred none))):bodyPostM F n P fn R .ret a w:=by
 show LeavesInM F n P fn a.tmps R a.defers .returning w
 rw [hd]
 exact ⟨by simp,.inl ⟨D,_,rfl,run_takeDeferred hD,v,hr,hR⟩⟩
theorem iI {W:World} {g:Nat} {cs:List Value} {t:TypeId} {d:TypeDesc} {fn:Func} {p u u2:Tmp} (h:Held W g cs t) (hu:Tryz.prog.underlying t=some d) (hd:d.isRow=true) (hi:(Tryz.prog.info? t).map (·.size)=some cs.length) (hr:fn.results= #[.cell p t,.tmp u,.tmp u2]) (tmps:Array Value) (hp:tmps.getD p undef= .pointer (some ⟨g,0,none⟩)):
 (results fn tmps).run Tryz.prog W= .ok (.tuple #[.agg cs.toArray,tmps.getD u undef,tmps.getD u2 undef]) W:=by
 have h0:=run_loadVar_row W g t t cs.toArray (0,0) d h hu (by cases d <;> first | rfl | cases hd) (by rw [jD rfl rfl];exact hi)
 have e:(results fn tmps).run Tryz.prog W=((asAddr (tmps.getD p undef)).run Tryz.prog W).andThen fun a w₁=>((loadVar t a).run Tryz.prog w₁).andThen fun v w₂=> .ok (.tuple #[v,tmps.getD u undef,tmps.getD u2 undef]) w₂:=by
  simp only [results,hr]
  simp [Sem.run_bind,Result.andThen]
 rw [e,hp]
 simp only [asAddr,Sem.run_pure,Result.andThen_ok,h0]
theorem Held.putObj {W:World} {g l:Nat} {cs:List Value} {t:TypeId} {o:Obj} (h:Held W g cs t) (hl:W.heap[l]? =some o) (ho:o.isCells=false) (o':Obj):Held (W.putObj l o') g cs t:=by
 have hne:g≠l:=fun e=>by
  subst e
  rw [show W.heap[g]? =_ from h] at hl
  cases hl
  cases ho
 exact (World.putObj_heap_other hne).trans h
theorem Held.turn {X:Nat→Prop} {W W':World} {g:Nat} {cs:List Value} {t:TypeId} (h:Held W g cs t) (ht:Turn X W W') (hX:¬ X g):Held W' g cs t:=(ht.block g h.lt hX).trans h
theorem Reads.putObj {W:World} {S:Nat→Prop} {size:Nat} {A:Option Addr} {n c:Nat} {xs:List Value} {l:Nat} {o:Obj} (h:Reads W S size A n c xs) (hl:W.heap[l]? =some o) (ho:o.isCells=false) (hS:¬ S l) (o':Obj):Reads (W.putObj l o') S size A n c xs:=
 h.keep (by simp) fun b q hb _=>World.cell?_of_block (World.putObj_heap_other (fun e=>hS (e ▸ hb)))
theorem Reads.turn {X:Nat→Prop} {W W':World} {S:Nat→Prop} {size:Nat} {A:Option Addr} {n c:Nat} {xs:List Value} (h:Reads W S size A n c xs) (ht:Turn X W W') (hX:∀ b,S b→¬ X b):Reads W' S size A n c xs:=
 h.keep ht.size fun b q hb hlt=>World.cell?_of_block (ht.block b hlt (hX b hb))
theorem Held.blk {W W':World} {g:Nat} {cs:List Value} {t:TypeId} (h:Held W g cs t) (hb:W'.heap[g]? =W.heap[g]?):Held W' g cs t:=hb.trans h
theorem jY {B:Nat} {w W:World} (h:Below B w W) {l:Nat} (hl:B≤l) (o:Obj):Below B w (W.putObj l o):=h.trans (Di o hl)
structure iJ (W:World) (D:Nat) (X Y:Nat→Prop) (e:TypeId) (size:Nat) (v:Value) (n:Nat) (xs:List Value):Prop where
 own:W.ownsRow D e size v n xs
 far:∀ g,v.ownBlock=some g→¬ X g∧¬ Y g
theorem bT {W W':World} {D:Nat} {e:TypeId} {size:Nat} {v:Value} {n:Nat} {xs:List Value} (h:W.ownsRow D e size v n xs) (hb:∀ g,v.ownBlock=some g→W'.heap[g]? =W.heap[g]?):W'.ownsRow D e size v n xs:=by
 obtain ⟨h1,h2 | ⟨g,cap,cur,rfl,h3,h4,h5⟩⟩:=h
 · exact ⟨h1,.inl h2⟩
 · exact ⟨h1,.inr ⟨g,cap,cur,rfl,h3,(hb g rfl).trans h4,h5⟩⟩
theorem bg {W:World} {D:Nat} {e:TypeId} {size:Nat} {v:Value} {n:Nat} {xs:List Value} (h:W.ownsRow D e size v n xs) {g:Nat} (hg:v.ownBlock=some g):D≤g∧∃ o:Obj,W.heap[g]? =some o∧o.isCells=true:=by
 obtain ⟨h1,⟨rfl,_⟩ | ⟨g',cap,cur,rfl,h3,h4,h5⟩⟩:=h
 · cases hg
 · cases hg;exact ⟨h3,_,h4,rfl⟩
theorem iJ.putObj {W:World} {D:Nat} {X Y:Nat→Prop} {e:TypeId} {size:Nat} {v:Value} {n:Nat} {xs:List Value} {l:Nat} {o:Obj} (h:iJ W D X Y e size v n xs) (hl:W.heap[l]? =some o) (ho:o.isCells=false) (o':Obj):iJ (W.putObj l o') D X Y e size v n xs:=
 ⟨bT h.own (fun g hg=>World.putObj_heap_other (fun e=>by
  obtain ⟨_,o2,h2,h3⟩:=bg h.own hg
  rw [e,hl] at h2;cases h2;rw [ho] at h3;cases h3)),h.far⟩
theorem iJ.turn {W W':World} {D:Nat} {X Y X' Y':Nat→Prop} {e:TypeId} {size:Nat} {v:Value} {n:Nat} {xs:List Value} (h:iJ W D X Y e size v n xs) (ht:Turn X W W') (hX:xK W X X') (hY:xK W Y Y'):iJ W' D X' Y' e size v n xs:=by
 have hlt:∀ g,v.ownBlock=some g→g<W.heap.size:=fun g hg=>by
  obtain ⟨_,o,h2,_⟩:=bg h.own hg
  exact (Array.getElem?_eq_some_iff.1 h2).1
 refine ⟨bT h.own fun g hg=>ht.block g (hlt g hg) (h.far g hg).1,fun g hg=>⟨fun h'=>?_,fun h'=>?_⟩⟩
 · rcases hX g h' with h2 | h2
   · exact (h.far g hg).1 h2
   · have:=hlt g hg;omega
 · rcases hY g h' with h2 | h2
   · exact (h.far g hg).2 h2
   · have:=hlt g hg;omega
def KI (W:World) (X Q:Nat→Prop) (A:Option Addr) (c:Nat) (zs:List Int):Prop:=∃ Z:Nat→Prop,bD W Z A c zs∧∀ b,Z b→(∃ o:Obj,W.heap[b]? =some o∧o.isCells=true)∧¬ X b∧Q b
theorem cells_of_cell {W:World} {a:Addr} {v:Value} (h:W.cell? a=some v):∃ o:Obj,W.heap[a.block]? =some o∧o.isCells=true:=by
 unfold World.cell? at h
 split at h
 · rename_i e;exact ⟨_,e,rfl⟩
 · cases h
theorem KI.of {W:World} {S X Q:Nat→Prop} {A:Option Addr} {c:Nat} {zs:List Int} (h:bD W S A c zs) (hS:∀ b,S b→b<W.heap.size→¬ X b∧Q b):KI W X Q A c zs:=by
 refine ⟨fun b=>(∃ o:Obj,W.heap[b]? =some o∧o.isCells=true)∧¬ X b∧Q b,⟨h.1,h.2.1,h.2.2.1,h.2.2.2.1,fun hn=>?_⟩,fun b hb=>hb⟩
 obtain ⟨b,o,e,hs,hlt,hc⟩:=Reads.at_ h hn
 refine ⟨b,o,e,⟨?_,hS b hs hlt⟩,hlt,hc⟩
 have h0:=hc 0 (.int .i64 (zs[0])) (by rw [List.getElem?_map,List.getElem?_eq_getElem hn];rfl)
 exact cells_of_cell h0
theorem KI.lt {W:World} {b:Nat} (h:∃ o:Obj,W.heap[b]? =some o∧o.isCells=true):b<W.heap.size:=by
 obtain ⟨o,h,_⟩:=h
 exact (Array.getElem?_eq_some_iff.1 h).1
theorem KI.turn {W W':World} {X X' Q:Nat→Prop} {A:Option Addr} {c:Nat} {zs:List Int} (h:KI W X Q A c zs) (ht:Turn X W W') (hX:xK W X X'):KI W' X' Q A c zs:=by
 obtain ⟨Z,h1,h2⟩:=h
 refine KI.of (Reads.turn h1 ht fun b hb=>(h2 b hb).2.1) fun b hb _=>⟨fun hx=>?_,(h2 b hb).2.2⟩
 rcases hX b hx with h | h
 · exact (h2 b hb).2.1 h
 · have:=KI.lt (h2 b hb).1;omega
theorem KI.putObj {W:World} {X Q:Nat→Prop} {A:Option Addr} {c:Nat} {zs:List Int} {l:Nat} {o:Obj} (h:KI W X Q A c zs) (hl:W.heap[l]? =some o) (ho:o.isCells=false) (o':Obj):KI (W.putObj l o') X Q A c zs:=by
 obtain ⟨Z,h1,h2⟩:=h
 refine KI.of (Reads.putObj h1 hl ho (fun hz=>?_) o') fun b hb _=>(h2 b hb).2
 obtain ⟨o2,h3,h4⟩:=(h2 l hz).1
 rw [hl] at h3;cases h3;rw [ho] at h4;cases h4
theorem KI.out {W:World} {X Q:Nat→Prop} {A:Option Addr} {c:Nat} {zs:List Int} (h:KI W X Q A c zs):bD W Q A c zs:=by
 obtain ⟨Z,h1,h2⟩:=h
 exact h1.more fun b _ hb=>(h2 b hb).2.2
theorem KI.keep {W W':World} {X Q:Nat→Prop} {A:Option Addr} {c:Nat} {zs:List Int} (h:KI W X Q A c zs) (hs:W.heap.size≤W'.heap.size) (hk:∀ b,Q b→b<W.heap.size→W'.heap[b]? =W.heap[b]?):KI W' X Q A c zs:=by
 obtain ⟨Z,h1,h2⟩:=h
 exact KI.of (h1.keep hs fun b o hb hlt=>World.cell?_of_block (hk b (h2 b hb).2.2 hlt)) fun b hb _=>(h2 b hb).2
theorem kS {X:Nat→Prop} {B:Nat} {w W W':World} (h:Below B w W) (ht:Turn X W W') (hX:∀ b,X b→B≤b) (hB:B≤W.heap.size):Below B w W':=
 ⟨ht.os.trans h.os,ht.tape.trans h.tape,ht.output.trans h.output,Nat.le_trans h.size ht.size,fun b hb=>(ht.block b (Nat.lt_of_lt_of_le hb hB) (fun hx=>by have:=hX b hx;omega)).trans (h.block b hb)⟩
def NT (Q:Exit→Act→World→Prop):Exit→Act→World→Prop
 | .ret,a,w=>Q .ret a w
 | _,_,_=>False
theorem uY {P:Program} {c:Code} {Q:Exit→Act→World→Prop} {a:Act} {w:World} (h:c.wp P (NT Q) a w):c.wp P Q a w:=wp_mono h (fun e a w h=>by cases e <;> first | exact h | exact h.elim)
theorem aS {P:Program} {Q:Exit→Act→World→Prop} {n:Nat} {ro:Option Nat} {id:Nat} {l:List Oper} {a:Act} {w:World} (hnd:vw l.toArray=true) (hno:¬ LetsOut Q) (h:wpList P l.toArray Q l a w):(Code.region id l.toArray false).wpIn (kW ro) n P Q a w:=
 wX hnd hno (by rw [List.toList_toArray];exact h)
def jU (l:List M.uZ):List Value:=l.flatMap fun x=>[.int .i64 x.number,.int .i64 x.rule]
def wP (r:M.Rules) (l:List Sh):Int:=aU [M.aH r,M.je (plain l)]
def sW (r:M.Rules) (l:List Sh):M.State:=if wP r l=0 then M.final r (M.start r) (plain l) else M.zero
def xH (r:M.Rules) (l:List Sh):List M.uZ:=if wP r l=0 then M.jy r (M.start r) 1 (plain l) else []
theorem xB {r:M.Rules} {l:List Sh} (h:wP r l=0):M.aH r=0∧∀ e∈l,M.cZ e.x=0:=by
 have h1:aU [M.aH r,M.je (plain l)]=0:=h
 unfold aU at h1
 split at h1
 · rename_i h2;exact absurd h1 h2
 · rename_i h2
   refine ⟨by simpa using h2,?_⟩
   unfold aU at h1
   split at h1
   · rename_i h3;exact absurd h1 h3
   · rename_i h3
     have h4:M.je (plain l)=0:=by simpa using h3
     unfold M.je at h4
     split at h4
     · cases h4
     · intro e he
       obtain ⟨k,hk,rfl⟩:=List.getElem_of_mem he
       have go:∀ n,n≤l.length→M.lD ((plain l).drop n)=0:=by
        intro n
        induction n with
        | zero=>intro _;simpa using h4
        | succ n ih=>
          intro hn
          have:=ih (by omega)
          rw [tN (k:=n) (by omega)] at this
          split at this
          · rename_i h5;exact absurd this h5
          · exact this
       have h6:=go k (by omega)
       rw [tN hk] at h6
       split at h6
       · rename_i h5;exact absurd h6 h5
       · rename_i h5;simpa using h5
theorem xC {r:M.Rules} {l:List Sh} (h:wP r l=0):l.length≤1000:=by
 have h1:aU [M.aH r,M.je (plain l)]=0:=h
 unfold aU at h1
 split at h1
 · rename_i h2;exact absurd h1 h2
 · unfold aU at h1
   split at h1
   · rename_i h3;exact absurd h1 h3
   · rename_i h3
     have h4:M.je (plain l)=0:=by simpa using h3
     unfold M.je at h4
     split at h4
     · cases h4
     · rename_i h5;rw [eF] at h5;omega
theorem ug (r:M.Rules) (s:M.State) (x:M.aI):0≤M.legal r s x:=by
 unfold M.legal
 repeat' split
 all_goals decide
theorem Dl:(Tryz.prog.info? 51).map (fun i=>(i.zero,i.size,i.bytes))=some (some (.agg #[.int .i64 0,.int .i64 0]),2,16):=by kernel_rfl
theorem Turn.mono {X X':Nat→Prop} {W W':World} (h:Turn X W W') (hX:∀ b,X b→X' b):Turn X' W W':=⟨h.os,h.tape,h.output,h.size,fun b hb hn=>h.block b hb (fun hx=>hn (hX b hx))⟩
theorem yH (a b:List M.uZ):jU (a++b)=jU a++jU b:=by simp [jU]
theorem xG {W:World} {D:Nat} {e:TypeId} {size:Nat} {v:Value} {n:Nat} {xs:List Value} (h:W.ownsRow D e size v n xs):∃ A c,v= .slice A n c:=by
 obtain ⟨h1,⟨rfl,rfl⟩ | ⟨g',cap,cur,rfl,h3⟩⟩:=h
 · exact ⟨none,0,rfl⟩
 · exact ⟨_,cap,rfl⟩
def lK (r:M.Rules) (l:List Sh) (k:Nat):List M.uZ:=M.jy r (M.start r) 1 (plain (l.take k))
structure RJ (r:M.Rules) (l:List Sh) (w:World) (B8 B9 D:Nat) (X Y:Nat→Prop) (xs:List wY) (W:World):Prop where
 bw:Below w.heap.size w W
 sz:D≤W.heap.size
 sep:∀ b,X b∨Y b→D≤b
 z:Held W (w.heap.size+1) aj 33
 f:∃ A c,Held W B8 (ah r (lQ r l xs.length) A c) 127∧KI W X (fun b=>w.heap.size+2≤b∧b≠B8∧b≠B9) A c (lQ r l xs.length).ay
 a:∃ v,Held W B9 [v] 34∧iJ W D X Y 51 2 v (lK r l xs.length).length (jU (lK r l xs.length))
theorem RJ.abides (r:M.Rules) (l:List Sh) (w:World) (B8 B9 D:Nat) (hw:w.heap.size+1<B8) (h8:B8<B9) (h9:B9<D):tq (RJ r l w B8 B9 D):=by
 intro X Y pre W X' Y' W' h ht hX hY
 have hno:∀ b,b<D→¬ X b:=fun b hb hx=>by have:=h.sep b (.inl hx);omega
 obtain ⟨A,c,hf,hk⟩:=h.f
 obtain ⟨v,hv,ho⟩:=h.a
 refine ⟨kS h.bw ht (fun b hb=>by have:=h.sep b (.inl hb);omega) (by have:=h.sz;omega),Nat.le_trans h.sz ht.size,?_,h.z.turn ht (hno _ (by omega)),⟨A,c,hf.turn ht (hno _ (by omega)),hk.turn ht hX⟩,⟨v,hv.turn ht (hno _ h9),ho.turn ht hX hY⟩⟩
 rintro b (hb | hb)
 · rcases hX b hb with h2 | h2
   · exact h.sep b (.inl h2)
   · exact Nat.le_trans h.sz h2
 · rcases hY b hb with h2 | h2
   · exact h.sep b (.inr h2)
   · exact Nat.le_trans h.sz h2
theorem RJ.putObj {r:M.Rules} {l:List Sh} {w:World} {B8 B9 D:Nat} {X Y:Nat→Prop} {pre:List wY} {W:World} {lp:Nat} {o:Obj} (h:RJ r l w B8 B9 D X Y pre W) (hD:w.heap.size≤D) (hlp:D≤lp) (hl:W.heap[lp]? =some o) (ho:o.isCells=false) (o':Obj):RJ r l w B8 B9 D X Y pre (W.putObj lp o'):=by
 obtain ⟨A,c,hf,hk⟩:=h.f
 obtain ⟨v,hv,hw⟩:=h.a
 exact ⟨jY h.bw (by omega) _,by simpa using h.sz,h.sep,h.z.putObj hl ho _,⟨A,c,hf.putObj hl ho _,hk.putObj hl ho _⟩,⟨v,hv.putObj hl ho _,hw.putObj hl ho _⟩⟩
theorem Told.putObj {r:M.Rules} {l:List Sh} {X Y:Nat→Prop} {pre:List wY} {x:wY} {W:World} {lp:Nat} {o:Obj} (h:Told r l X Y pre x W) (hl:W.heap[lp]? =some o) (ho:o.isCells=false) (o':Obj):Told r l X Y pre x (W.putObj lp o'):=
 ⟨h.i,h.lt,h.e,h.s,h.t,h.rule,(KI.of (X:=fun _=>False) (Q:=Y) h.a (fun b hb _=>⟨fun h=>h,hb⟩) |>.putObj hl ho o').out,(KI.of (X:=fun _=>False) (Q:=Y) h.b (fun b hb _=>⟨fun h=>h,hb⟩) |>.putObj hl ho o').out,h.xy⟩
theorem zY (r:M.Rules) (l:List Sh) (k:Nat):(lK r l k).length≤k:=by
 have go:∀ (l2:List M.aI) (s:M.State) (n:Int),(M.jy r s n l2).length≤l2.length:=by
  intro l2
  induction l2 with
  | nil=>intro s n;exact Nat.le_refl _
  | cons y l2 ih=>
    intro s n
    have:=ih (M.step r s y) (n+1)
    rw [M.jy,List.length_append,List.length_cons]
    split <;> simp <;> omega
 have:=go (plain (l.take k)) (M.start r) 1
 unfold lK
 rw [eF,List.length_take] at this
 omega
theorem Ew (r:M.Rules) (l:List Sh) (k:Nat) (hk:k<l.length):lK r l (k+1)=lK r l k++(if M.legal r (lQ r l k) l[k].x≠0 then [⟨(k:Int)+1,M.legal r (lQ r l k) l[k].x⟩] else []):=by
 have go:∀ (l2:List M.aI) (s:M.State) (n:Int) (x:M.aI),M.jy r s n (l2++[x])=M.jy r s n l2++(if M.legal r (M.final r s l2) x≠0 then [⟨n+l2.length,M.legal r (M.final r s l2) x⟩] else []):=by
  intro l2
  induction l2 with
  | nil=>intro s n x;simp [M.jy,M.final]
  | cons y l2 ih=>
    intro s n x
    rw [List.cons_append,M.jy,M.jy,ih,List.append_assoc]
    simp only [M.final,List.foldl_cons,List.length_cons]
    rw [show n+1+(l2.length:Int)=n+((l2.length+1:Nat):Int) by push_cast;omega]
    rfl
 unfold lK lQ
 rw [List.take_succ_eq_append_getElem hk]
 unfold plain
 rw [List.map_append,List.map_cons,List.map_nil,go]
 congr 2
 simp only [List.length_map,List.length_take,Nat.min_eq_left (Nat.le_of_lt hk)]
 rw [Int.add_comm]
theorem Gj (S:Nat→Prop) (r:M.Rules) (l:List Sh) (A:Option Addr) (c:Nat) (w:World) (hp:wG w S A c l):
 Calls Tryz.prog 18 #[jM r,.slice A l.length c] w fun e w'=>∃ A' c' A2 c2,e= .returned (.tuple #[wF (sW r l) A' c',.slice A2 (xH r l).length c2,.int .i64 (wP r l)])∧bD w' (fun b=>w.heap.size≤b) A' c' (sW r l).ay∧Reads w' (fun b=>w.heap.size≤b) 2 A2 (xH r l).length c2 (jU (xH r l))∧Below w.heap.size w w':=by
 refine callsIn_wide.1 (callsIn_of_wp_marks (F:=Fence.wide) (n:=5) Tryz.func18 rfl trivial ?_ rfl)
 simp only [Tryz.ntmps18,List.size_toArray,List.length_cons,List.length_nil,Nat.reduceAdd,Nat.reduceSub,Array.replicate_succ,
  Array.replicate_zero,List.push_toArray,List.append_toArray,List.nil_append,List.cons_append]
 refine wpIn_wide.2 ?_
 generalize hQ':bodyPostM Fence.wide 5 Tryz.prog _ _=Q'
 have hck:=fun W h=>check_any S r l A c W h
 obtain ⟨E,hE⟩:∃ E,aU [M.aH r,M.je (plain l)]=E:=⟨_,rfl⟩
 rw [hE] at hck
 have hE':wP r l=E:=hE
 have wZ:=hide hck
 have HE:=hide hE'
 have HQ:=hide hQ'
 clear hck hE hE' hQ'
 go_upto_region 0 with (fail)
 go_cut [2,4] from 2 to 7 (fun v2 v4 wx=>v2=ptr w.heap.size∧v4=ptr (w.heap.size+1)∧bU w wx [([.string r.game,.int .i64 r.target,.int .i64 r.aY],23),(aj,33)])
 case first=>
  go_wp2
  go_meet
  exact ⟨rfl,rfl,(((bU.nil w).new (by simp) ([.string r.game,.int .i64 r.target,.int .i64 r.aY]) _).new (by simp) (aj) _)⟩
 case rest=>
  obtain ⟨rfl,rfl,hB⟩:=hcut
  have k0:=(hB.bf rfl).cell (j:=0) rfl
  have GL:=(hB.bf rfl).frozen 0
  have k1:=(hB.bf rfl).cell (j:=1) rfl
  have JE:=(hB.bf rfl).frozen 1
  have k2:=(hB.bf rfl).cell (j:=2) rfl
  have Pn:=(hB.bf rfl).frozen 2
  by_cases h0:E=0
  · have h0':(E != 0)=false:=by simp [h0]
    go_upto_region 4 with (first | (go_at_call 63;refine (wZ.out _ (hp.below hB.bw)).mono ?_;rintro e w1 ⟨rfl,hb1⟩;have hB1:=hB.call (by simp) hb1))
    obtain ⟨hr,hl⟩:=xB (HE.out.trans h0)
    have hrs:sW r l=M.final r (M.start r) (plain l)∧xH r l=M.jy r (M.start r) 1 (plain l):=by
     have:=HE.out
     exact ⟨by unfold sW;rw [if_pos (by rw [this];exact h0)],by unfold xH;rw [if_pos (by rw [this];exact h0)]⟩
    have yO:=hide hrs
    have HR:=hide hr
    have HL:=hide hl
    have JH:=hide (xC (HE.out.trans h0))
    clear h0' hrs hr hl k0 GL k1 JE k2 Pn
    have j0:=(hB1.bf rfl).cell (j:=0) rfl
    have Vm:=(hB1.bf rfl).frozen 0
    have j1:=(hB1.bf rfl).cell (j:=1) rfl
    have Vo:=(hB1.bf rfl).frozen 1
    have j2:=(hB1.bf rfl).cell (j:=2) rfl
    have Vp:=(hB1.bf rfl).frozen 2
    go_cut [8] from 19 to 21 (fun v8 wx=>∃ B8 A0 c0,v8=ptr B8∧bU w wx [([.string r.game,.int .i64 r.target,.int .i64 r.aY],23),(aj,33)]∧w.heap.size+2≤B8∧Held wx B8 (ah r (M.start r) A0 c0) 127∧bD wx (fun b=>w.heap.size+2≤b∧b<B8) A0 c0 (M.start r).ay)
    case first=>
     go_wp2_with (first | (go_at_call 64;refine (BJ r _).mono ?_;rintro e w2 ⟨A1,c1,rfl,hr1,hb2⟩;have hB2:=hB1.call (by simp) hb2;have hG2:=Held.new w2 aK 127) | (refine aO 127 (.tmp 8) (.tmp 20) rfl ?_;refine aF (hG2) (ah r (M.start r) A1 c1) rfl ak (aX _ _ _ _) rfl (.tmp 8) (.tmp 20) rfl rfl rfl ?_))
     go_meet
     have hs1:=hB1.size (by simp)
     have hs2:=hb2.size
     simp only [List.length_cons,List.length_nil] at hs1
     exact ⟨w2.heap.size,A1,c1,rfl,(hB2.alloc (by simp) _).PS (by simpa using Nat.le_trans hs1 hs2) _ _,by omega,hG2.whole _ rfl,bD.sets (fun h=>absurd h.2 (Nat.lt_irrefl _)) _ 0 _ ((hr1.more (fun b hb h=>⟨by omega,hb⟩)).alloc _)⟩
    case rest=>
     obtain ⟨B8,A0,c0,rfl,hB2,YU,hG,hrd⟩:=hcut
     clear j0 Vm j1 Vo j2 Vp
     have i0:=(hB2.bf rfl).cell (j:=0) rfl
     have Y3:=(hB2.bf rfl).frozen 0
     have i1:=(hB2.bf rfl).cell (j:=1) rfl
     have Y4:=(hB2.bf rfl).frozen 1
     have i2:=(hB2.bf rfl).cell (j:=2) rfl
     have Y5:=(hB2.bf rfl).frozen 2
     have xA:w.heap.size+2≤wc.heap.size:=by simpa using hB2.size (by simp)
     have hsz1:w.heap.size<wc.heap.size:=by omega
     go_wp2_with (go_at_call 65;refine (uJ r _ _ _ _).mono ?_;rintro e w3 ⟨rfl,hC⟩)
     rename_i KQ RI
     have hD3:wc.heap.size+3≤w3.heap.size:=by
      have:=hC.size (by simp)
      simp only [List.length_cons,List.length_nil,World.size_alloc] at this
      omega
     have hb3:=(hB2.bw.trans (((Below.refl _ _).alloc (Nat.le_refl _) _).mono (by omega))).trans (hC.bw.mono (by simp;omega))
     have Rx:=hG.lt
     have Kt:Held w3 (wc.heap.size+1) [.string r.game,.int .i64 r.target,.int .i64 r.aY] 23:=by simpa using hC.bf rfl
     have Ko:Held w3 (wc.heap.size+1+1) [.slice A l.length c] 24:=by simpa using hC.get 1 rfl
     have hK3:∀ b,(b=wc.heap.size+1∨b=wc.heap.size+2∨(S b∧b<w.heap.size))→b<w3.heap.size:=by rintro b (h | h | ⟨_,h⟩) <;> omega
     have RN:wG w3 (fun b=>b=wc.heap.size+1∨b=wc.heap.size+2∨(S b∧b<w.heap.size)) A c l:=(hp.more (S':=fun b=>b=wc.heap.size+1∨b=wc.heap.size+2∨(S b∧b<w.heap.size)) (fun b hb h=> .inr (.inr ⟨h,hb⟩))).below hb3
     have hZ3:Held w3 (w.heap.size+1) aj 33:=by have:=(hB2.get 1 rfl).alloc (.cells #[.slice none 0 0] 34);exact this.upto hC.bw (by simp;omega)
     have hG3:Held w3 B8 (ah r (M.start r) A0 c0) 127:=(hG.alloc (.cells #[.slice none 0 0] 34)).upto hC.bw (by simp;omega)
     have hA3:Held w3 wc.heap.size [.slice none 0 0] 34:=(Held.new wc [.slice none 0 0] 34).upto hC.bw (by simp)
     have Vg:bD w3 (fun b=>w.heap.size+2≤b∧b<B8) A0 c0 (M.start r).ay:=(hrd.alloc (.cells #[.slice none 0 0] 34)).below hC.bw
     refine (wpIn_wide (n:=5)).1 ?_
     refine kJ (F:=Fence.wide) rfl (by decide) rfl trivial (fun _ _=>rfl) (sN r l A c (fun b=>b=wc.heap.size+1∨b=wc.heap.size+2∨(S b∧b<w.heap.size)) _ _ 4 w3 (by decide) HR.out HL.out JH.out hK3 Kt (.inl rfl) Ko (.inr (.inl rfl)) RN) hK3 (Below.refl _ _) (fun _=>rfl) (RJ r l w B8 wc.heap.size w3.heap.size) (fun _ _ _ _=>False) (RJ.abides r l w B8 wc.heap.size w3.heap.size (by omega) Rx (by omega)) (fun _ _ _ _ _ _ _ h _ _ _=>h)
      (fun X Y pre W lp o o' h hlp hl ho=>h.putObj (by omega) hlp hl ho o') (fun _ _ _ _ _ _ _ h _ _ _=>h) (fun X Y pre x W lp o o' h hlp hl ho=>h.putObj hl ho o') ?h0 (fun x a W=>∃ Be v0 v1 v2 v3 v4 v5 v6 v7 v12 v13 v14 v15 v16 v17 v18 v19 v20 v21 v22 v23 v24 v25 v26 v27 v28 v29 v30 v31 v32 v33 v34 v35 v36 v37 v38 v39 v40 v41,a= {tmps:= #[v0,v1,v2,v3,v4,v5,v6,v7,ptr B8,ptr wc.heap.size,.int .i64 (x.i:Int),ptr Be,v12,v13,v14,v15,v16,v17,v18,v19,v20,v21,v22,v23,v24,v25,v26,v27,v28,v29,v30,v31,v32,v33,v34,v35,v36,v37,v38,v39,v40,v41],defers:=[] }∧w3.heap.size≤Be∧Held W Be (bH r x) 133) ?assign ?ap ?body ?done ?stop
     case h0=>
      intro W hW
      refine ⟨(hb3.trans (hW.mono (by omega))),hW.size,fun b h=>h.elim (fun h=>h.elim) (fun h=>h.elim),hZ3.below hW,⟨A0,c0,?_,?_⟩,⟨.slice none 0 0,hA3.below hW,World.ownsRow_nil _ _ _ _,fun g hg=>by cases hg⟩⟩
      · have:lQ r l ([]:List wY).length=M.start r:=by unfold lQ;simp [plain,M.final]
        rw [this];exact hG3.below hW
      · have:lQ r l ([]:List wY).length=M.start r:=by unfold lQ;simp [plain,M.final]
        rw [this];exact KI.of (Vg.below hW) (fun b hb _=>⟨fun h=>h,by omega⟩)
     case ap=>
      rintro x a' W lp o o' ⟨Be,v0,v1,v2,v3,v4,v5,v6,v7,v12,v13,v14,v15,v16,v17,v18,v19,v20,v21,v22,v23,v24,v25,v26,v27,v28,v29,v30,v31,v32,v33,v34,v35,v36,v37,v38,v39,v40,v41,e2,h1,h2⟩ hlp hl ho
      exact ⟨Be,v0,v1,v2,v3,v4,v5,v6,v7,v12,v13,v14,v15,v16,v17,v18,v19,v20,v21,v22,v23,v24,v25,v26,v27,v28,v29,v30,v31,v32,v33,v34,v35,v36,v37,v38,v39,v40,v41,e2,h1,h2.putObj hl ho _⟩
     case stop=>exact fun _ _ _ _ _ _ _ h _=>h.elim
     case assign=>
      intro lp X Y pre x W K' hi ht hk Au
      have hb:=((Below.refl W.heap.size W).alloc (Nat.le_refl _) (.cells jk.toArray 133))
      have hb':=below_setCells W.heap.size (Nat.le_refl _) (bH r x) 0 _ _ hb
      have hE0:=Held.new W jk 133
      have hsz:=hi.sz
      have fin:∀ v0 v1 v2 v3 v4 v5 v6 v7 v12 v13 v14 v15 v16 v17 v18 v19 v20 v21 v22 v23 v24 v25 v26 v27 v28 v29 v30 v31 v32 v33 v34 v35 v36 v37 v38 v39 v40 v41:Value,K' {tmps:= #[v0,v1,v2,v3,v4,v5,v6,v7,ptr B8,ptr wc.heap.size,.int .i64 (x.i:Int),ptr W.heap.size,v12,v13,v14,v15,v16,v17,v18,v19,v20,v21,v22,v23,v24,v25,v26,v27,v28,v29,v30,v31,v32,v33,v34,v35,v36,v37,v38,v39,v40,v41],defers:=[] } ((W.alloc (.cells jk.toArray 133)).setCells W.heap.size 0 (bH r x)):=fun _ _ _ _ _ _ _ _ _ _ _ _ _ _ _ _ _ _ _ _ _ _ _ _ _ _ _ _ _ _ _ _ _ _ _ _ _ _=>
       hk _ _ ⟨hb'.size,fun k o hk hl _=>(hb'.block k (Array.getElem?_eq_some_iff.1 hl).1).trans hl⟩
        ⟨hb'.size,fun b h=>hb'.block b (Au b h),fun b h=>hb'.block b (Nat.lt_of_lt_of_le (hK3 b h) hsz)⟩
        (RJ.abides r l w B8 wc.heap.size w3.heap.size (by omega) Rx (by omega) _ _ _ _ _ _ _ hi (Turn.of_below hb') (fun b h=> .inl h) (fun b h=> .inl h))
        ⟨ht.i,ht.lt,ht.e,ht.s,ht.t,ht.rule,ht.a.below hb',ht.b.below hb',ht.xy⟩
        ⟨W.heap.size,_,_,_,_,_,_,_,_,_,_,_,_,_,_,_,_,_,_,_,_,_,_,_,_,_,_,_,_,_,_,_,_,_,_,_,_,_,_,rfl,hsz,hE0.whole _ rfl⟩
      have FIN:=hide fin
      clear hk fin hb hb' hi ht Au hsz
      simp [zh]
      apply wpIn_seq_k
      intro K1 hK1
      refine aS (by kernel_rfl) (by rintro ⟨_,_,h⟩;exact h) ?_
      go_wp2
      refine aS (by kernel_rfl) (by rintro ⟨_,_,h⟩;exact h) ?_
      go_wp2_with (refine aO 133 (.tmp 11) (.tmp 25) rfl ?_;refine aF hE0 (bH r x) rfl mG (tX _ _) rfl (.tmp 11) (.tmp 25) rfl rfl rfl ?_)
      exact FIN.out _ _ _ _ _ _ _ _ _ _ _ _ _ _ _ _ _ _ _ _ _ _ _ _ _ _ _ _ _ _ _ _ _ _ _ _ _ _
     case body=>
      rintro lp X Y pre x a' W hi ht ⟨Be,v0,v1,v2,v3,v4,v5,v6,v7,v12,v13,v14,v15,v16,v17,v18,v19,v20,v21,v22,v23,v24,v25,v26,v27,v28,v29,v30,v31,v32,v33,v34,v35,v36,v37,v38,v39,v40,v41,rfl,Ry,hE⟩ hlt Au hWs
      obtain ⟨Aq,cq,hF,RH⟩:=hi.f
      obtain ⟨v,hV,iL⟩:=hi.a
      have V6:W.rangeAt Be 25 (ah r x.t x.A' x.c'):=fun j v hj=>hE.cell (Gx r x.i x.e x.s x.t x.A x.A' x.c x.c' x.rule j v hj)
      apply wpIn_block
      apply wpIn_seq_k
      intro K1 hK1
      refine aS (by kernel_rfl) (by rintro ⟨_,_,h⟩;exact h) ?_
      go_wp2_with (first | (refine aN 127 (.tmp 26) rfl ?_;refine jh (g:=Be) (o:=25) V6 Tryz.underlying127 rfl ak rfl (.tmp 26) rfl rfl ?_) | (refine aO 127 (.tmp 8) (.tmp 27) rfl ?_;refine aF hF (ah r x.t x.A' x.c') rfl ak (aX _ _ _ _) rfl (.tmp 8) (.tmp 27) rfl rfl rfl ?_))
      obtain ⟨W1,hW1⟩:∃ W1,W.setCells B8 0 (ah r x.t x.A' x.c')=W1:=⟨_,rfl⟩
      have hoth:∀ b,b≠B8→W1.heap[b]? =W.heap[b]? :=fun b hb=>by rw [← hW1];exact Held.lC hb _ _ _
      have hs1:W1.heap.size=W.heap.size:=by rw [← hW1];exact setCells_size _ _ _ _
      have hF1:Held W1 B8 (ah r x.t x.A' x.c') 127:=by rw [← hW1];exact hF.whole _ rfl
      have hE1:=hE.blk (hoth Be (by omega))
      have hV1:=hV.blk (hoth wc.heap.size (by omega))
      have hT1:Turn (fun b=>b=B8) W W1:=by rw [← hW1];exact l7 (X:=fun b=>b=B8) rfl _ _
      have hown1:=bT iL.own (fun g hg=>hoth g (by have:=(bg iL.own hg).1;omega))
      rw [hW1]
      clear hW1 V6 hF RH
      have hl0:0≤x.rule:=by rw [ht.rule];exact ug _ _ _
      have hle:l[pre.length]=x.e:=by have:=ht.e;rw [List.getElem?_eq_getElem hlt] at this;exact Option.some.inj this
      have hst:lQ r l (pre++[x]).length=x.t:=by
       rw [List.length_append,List.length_singleton,vF r l _ hlt,ht.t,ht.s,hle]
      have hrf:=Ew r l pre.length hlt
      rw [hle, ← ht.s, ← ht.rule] at hrf
      have hbW:=ht.b
      have hb1:bD W1 Y x.A' x.c' x.t.ay:=hbW.keep (by omega) fun b o hb _=>World.cell?_of_block (hoth b (by have:=(Au b (.inr hb)).1;omega))
      have hsz:=hi.sz
      have hsep:=hi.sep
      have hZ:=hi.z
      have hbw:=hi.bw
      have hti:=ht.i
      have hrl:=zY r l pre.length
      have VU:=hide ht.xy
      have HST:=hide hst
      have VR:=hide hrf
      have NR:=hide hsep
      have HX:=hide Au
      have HO:=hide hoth
      have Uz:=JH.out
      clear hst hrf hsep Au hoth hi ht hle hbW
      have e43:=hE1.cell (j:=43) rfl
      have c9:=hV1.cell (j:=0) rfl
      have f9:=hV1.frozen 0
      apply wpIn_seq_k
      intro K2 hK2
      refine aS (by kernel_rfl) (by rintro ⟨_,_,h⟩;exact h) ?_
      go_wp2
      refine wpIn_cond_split rfl (fun h=>?_) (fun h=>?_)
      · have h0:0<x.rule:=by simpa using h
        clear h
        obtain ⟨i0,hi0,hz0,hz1,hz2⟩:=info_parts Dl
        refine aS (by kernel_rfl) (by rintro ⟨_,_,h⟩;exact h) ?_
        go_wp2_with (at_builtin;refine wpList_append_lies _ rfl _ _ _ rfl (w3.heap.size) 51 i0 (.agg #[.int .i64 0,.int .i64 0]) 2 16 Tryz.underlying34 hi0 hz0 hz1 hz2 rfl (by omega) _ _ _ rfl (hown1.alloc _) ⟨W.heap.size,0,none⟩ 1 1 [.int .i64 ((pre.length:Int)+1),.int .i64 x.rule] rfl rfl (dK _ _ _ _ hs1) ?c1 (by omega) ?c2 ?c3 ?c4 (W.heap.size+1) (by simp [hs1]) ?_)
        case c1=>simp [Value.oneCell']
        case c2=>simp only [maxLen];omega
        case c3=>omega
        case c4=>simp;omega
        intro g1 cap w4 hown4 hgrow hat hlt4
        have Ve:wc.heap.size≠g1:=by
         rcases hat with h | h
         · have:=(bg hown1 h).1;omega
         · omega
        have Fp:∀ b,b<W.heap.size→b≠B8→v.ownBlock≠some b→w4.heap[b]? =W.heap[b]? :=fun b h1 h2 h3=>
         (hgrow.block b (by simp;omega) (fun e=>h3 e.symm)).trans ((Below.heap_alloc _ _ _ (by omega)).trans (HO.out b h2))
        have xu:Held w4 wc.heap.size [v] 34:=(hV1.alloc _).blk (hgrow.block _ (by simp;omega) (fun e=>by have:=(bg hown1 e.symm).1;omega))
        have f94:=xu.frozen 0
        have YL:=xu.cell (j:=0) rfl
        obtain ⟨nv,Qa⟩:∃ nv,Value.slice (some ⟨g1,0,none⟩) ((lK r l pre.length).length+1) cap=nv:=⟨_,rfl⟩
        have DV:Held (w4.setCell ⟨wc.heap.size,0,none⟩ nv) wc.heap.size [nv] 34:=xu.set 0 nv
        have Oh:Turn (fun b=>b=wc.heap.size∨v.ownBlock=some b) W1 (w4.setCell ⟨wc.heap.size,0,none⟩ nv):=
         ((Turn.of_below ((Below.refl W1.heap.size W1).alloc (Nat.le_refl _) (.cells #[.int .i64 ((pre.length:Int)+1),.int .i64 x.rule] 51))).mono (X:=fun _=>False) (fun b h=>h.elim)).trans ((show Turn (fun b=>b=wc.heap.size∨v.ownBlock=some b) _ w4 from ⟨hgrow.os,hgrow.tape,hgrow.output,hgrow.size,fun b hb hn=>hgrow.block b hb (fun e=>hn (.inr e.symm))⟩).trans (l7 (X:=fun b=>b=wc.heap.size∨v.ownBlock=some b) (W:=w4) (g:=wc.heap.size) (.inl rfl) [nv] 0) (fun b h=> .inl h)) (fun b h=> .inl h)
        have hown5:iJ (w4.setCell ⟨wc.heap.size,0,none⟩ nv) w3.heap.size X Y 51 2 nv (lK r l (pre++[x]).length).length (jU (lK r l (pre++[x]).length)):=by
         have e:lK r l (pre++[x]).length=lK r l pre.length++[⟨(pre.length:Int)+1,x.rule⟩]:=by
          rw [List.length_append,List.length_singleton,VR.out,if_pos (by omega)]
         rw [e,List.length_append,List.length_singleton,yH]
         refine ⟨?_,?_⟩
         · rw [← Qa]
           refine bT (W:=w4) hown4 (fun g hg=>?_)
           cases hg
           exact Below.heap_setCell w4 ⟨wc.heap.size,0,none⟩ _ g1 (fun e=>Ve e.symm)
         · intro g hg
           rw [← Qa] at hg
           cases hg
           rcases hat with h | h
           · exact iL.far _ h
           · exact ⟨fun hx=>by have:g1<W.heap.size:=(HX.out _ (.inl hx)).2;omega,fun hx=>by have:g1<W.heap.size:=(HX.out _ (.inr hx)).2;omega⟩
        have Hz:Turn (fun b=>b=B8∨b=wc.heap.size∨v.ownBlock=some b) W (w4.setCell ⟨wc.heap.size,0,none⟩ nv):=(hT1.mono (fun b h=> .inl h)).trans (Oh.mono (X':=fun b=>b=B8∨b=wc.heap.size∨v.ownBlock=some b) (fun b h=> .inr h)) (fun b h=> .inl h)
        have hob:∀ b,v.ownBlock=some b→w3.heap.size≤b:=fun b h=>(bg hown1 h).1
        have fin:rU (fun b=>b=wc.heap.size+1∨b=wc.heap.size+2∨S b∧b<w.heap.size) w3.heap.size X Y (RJ r l w B8 wc.heap.size w3.heap.size) (fun _ _ _ _=>False) (pre++[x]) W .normal {tmps:= #[],defers:=[] } (w4.setCell ⟨wc.heap.size,0,none⟩ nv):=by
         refine ⟨⟨Hz.size,fun k o hk hl hc=>(Hz.block k (Array.getElem?_eq_some_iff.1 hl).1 ?_).trans hl⟩,⟨Hz.size,fun b h=>Hz.block b (HX.out b h).2 ?_,fun b h=>Hz.block b (Nat.lt_of_lt_of_le (hK3 b h) hWs) ?_⟩,⟨kS hbw Hz ?_ (by omega),Nat.le_trans hWs Hz.size,NR.out,hZ.turn Hz ?_,⟨x.A',x.c',?_,?_⟩,⟨nv,DV,hown5⟩⟩⟩
         · rintro (h | h | h)
           · omega
           · omega
           · obtain ⟨o2,h2,h3⟩:=(bg iL.own h).2
             rw [hl] at h2;cases h2;rw [hc] at h3;cases h3
         · have h1:=(HX.out b h).1
           rintro (h2 | h2 | h2)
           · omega
           · omega
           · exact h.elim (iL.far b h2).1 (iL.far b h2).2
         · have h1:=hK3 b h
           rintro (h2 | h2 | h2)
           · rcases h with h | h | ⟨_,h⟩ <;> omega
           · rcases h with h | h | ⟨_,h⟩ <;> omega
           · have:=hob b h2;omega
         · rintro b (h2 | h2 | h2)
           · omega
           · omega
           · have:=hob b h2;omega
         · rintro (h2 | h2 | h2)
           · omega
           · omega
           · have:=hob _ h2;omega
         · rw [HST.out]
           exact hF1.turn Oh (by
            rintro (h2 | h2)
            · omega
            · have:=hob _ h2;omega)
         · rw [HST.out]
           exact KI.of (Reads.turn hb1 Oh (fun b hb=>by
            rintro (h2 | h2)
            · have:=(HX.out b (.inr hb)).1;omega
            · exact (iL.far b h2).2 hb)) (fun b hb _=>⟨VU.out b hb,by have:=(HX.out b (.inr hb)).1;omega⟩)
        have FIN:=hide fin
        clear fin Hz Oh hown5 DV hob hE1 hV1 hF1 hb1 hown1 e43 c9 f9 hgrow hown4 Fp
        subst Qa
        go_wp2
        exact FIN.out
      · have h0:x.rule=0:=by have:¬ 0<x.rule:=by simpa using h
                             omega
        clear h
        refine wpIn_skip ?_
        simp only [Exit.inBlock]
        refine ⟨⟨by omega,fun k o hk hl _=>(HO.out k (by omega)).trans hl⟩,⟨by omega,fun b h=>HO.out b (by have:=(HX.out b h).1;omega),fun b h=>HO.out b (by rcases h with h | h | ⟨_,h⟩ <;> omega)⟩,⟨kS hbw hT1 (fun b hb=>by omega) (by omega),by omega,NR.out,hZ.blk (HO.out _ (by omega)),⟨x.A',x.c',?_,?_⟩,⟨v,hV1,?_⟩⟩⟩
        · rw [HST.out];exact hF1
        · rw [HST.out];exact KI.of hb1 (fun b hb _=>⟨VU.out b hb,by have:=(HX.out b (.inr hb)).1;omega⟩)
        · rw [List.length_append,List.length_singleton,VR.out,if_neg (by simp [h0]),List.append_nil]
          exact ⟨hown1,iL.far⟩
     case done=>
      intro D X Y xs W hD hS hi hdef
      obtain ⟨A',c',hF,RH⟩:=hi.f
      obtain ⟨v,hV,iL⟩:=hi.a
      have hfin:lQ r l xs.length=sW r l:=by rw [hS,yO.out.1];unfold lQ;rw [List.take_length]
      have xZ:lK r l xs.length=xH r l:=by rw [hS,yO.out.2];unfold lK;rw [List.take_length]
      rw [hfin] at hF RH
      rw [xZ] at iL
      obtain ⟨A2,c2,rfl⟩:=xG iL.own
      have hZ:=hi.z
      have hbw:=hi.bw
      have hWs:=hi.sz
      have hlr:(xH r l).length≤1000:=by rw [← xZ];have:=zY r l xs.length;have:=JH.out;omega
      have hrg:∀ W':World,(fun w':World=>(∀ q,w'.cell? ⟨B8,q,none⟩=W.cell? ⟨B8,q,none⟩)∧(∀ q,w'.cell? ⟨wc.heap.size,q,none⟩=W.cell? ⟨wc.heap.size,q,none⟩)) W'→W'.rangeAt B8 3 (aW (sW r l) A' c'):=fun W' h j v hj=>by rw [h.1];exact hF.cell (Jz r _ A' c' j v hj)
      have c9:=hV.cell (j:=0) rfl
      have Dv:=hide hdef
      have Wn:=(hZ.drew).whole (aW (sW r l) A' c') rfl
      have Sr:∀ b,b≠w.heap.size+1→((W.drew).setCells (w.heap.size+1) 0 (aW (sW r l) A' c')).heap[b]? =W.heap[b]? :=fun b hb=>Held.lC hb (aW (sW r l) A' c') 0 W.drew
      have RZ:Below w.heap.size w ((W.drew).setCells (w.heap.size+1) 0 (aW (sW r l) A' c')):=below_setCells _ (by omega) _ _ _ _ (show Below w.heap.size w W.drew from ⟨hbw.os,hbw.tape,hbw.output,hbw.size,hbw.block⟩)
      have hs5:W.heap.size≤((W.drew).setCells (w.heap.size+1) 0 (aW (sW r l) A' c')).heap.size:=by rw [setCells_size];exact Nat.le_refl _
      have fin:∀ (a:Act),a.defers=[{target:= .collected D,args:= #[] }]→a.tmps.getD 4 undef=ptr (w.heap.size+1)→a.tmps.getD 5 undef= .slice A2 (xH r l).length c2→a.tmps.getD 6 undef= .int .i64 0→Q' .ret a ((W.drew).setCells (w.heap.size+1) 0 (aW (sW r l) A' c')):=by
       intro a e1 e4 e5 e6
       have hd5:=(Sr D (by omega)).trans Dv.out
       rw [← HQ.out]
       refine uf e1 hd5 (iI (p:=4) (Wn.putObj hd5 rfl _) Tryz.underlying33 rfl bW rfl _ e4) ⟨A',c',A2,c2,?_,?_,?_,jY RZ (by omega) _⟩
       · rw [e5,e6,HE.out,h0];rfl
       · exact (((RH.keep hs5 (fun b hq _=>Sr b (by omega))).putObj hd5 rfl _).out).more (fun b _ h=>by omega)
       · exact Reads.kG (bT iL.own (fun g hg=>by
          have h1:=bg iL.own hg
          have hne:g≠D:=fun e=>by
           obtain ⟨_,o2,h2,h3⟩:=h1
           rw [e,Dv.out] at h2;cases h2;cases h3
          exact (World.putObj_heap_other hne).trans (Sr g (by omega)))) (fun g hg=>by omega) (by omega)
      have FIN:=hide fin
      clear fin Wn RZ hs5 hi hdef iL RH hV
      refine RI _ _ ?_
      dsimp only
      refine uY ?_
      go_upto_region 12 with (fail)
      go_cut [5,6] from 39 to 41 (fun v5 v6 wx=>v5= .slice A2 (xH r l).length c2∧v6= .int .i64 0∧wx=((W.drew).setCells (w.heap.size+1) 0 (aW (sW r l) A' c')))
      case first=>
       refine wp_region_held_drew (S:=(fun w':World=>(∀ q,w'.cell? ⟨B8,q,none⟩=W.cell? ⟨B8,q,none⟩)∧(∀ q,w'.cell? ⟨wc.heap.size,q,none⟩=W.cell? ⟨wc.heap.size,q,none⟩))) (by kernel_rfl) ?jw (fun hHeld=>?_)
       case jw=>first | exact hk3 | exact ⟨fun q=>rfl,fun q=>rfl⟩
       refine tk 0 ?_
       refine wpAnyH_take (i:=1) (oi:=_) (v:=_) (ga rfl) (by kernel_rfl) (by kernel_rfl) (by kernel_rfl) (fun _ _ _ h=>h) (yieldsIf_load_mid (by rfl) _ _ (by rfl) _ _ (by rfl) _ _ hrg Tryz.underlying33 rfl (by kernel_rfl)) (by assumption) ?_
       try simp only [Act.put,la,lz,ls]
       refine tk 2 ?_
       refine tr 3 fun K hK=>?_
       have hk3:(∀ q,((W.drew).setCells (w.heap.size+1) 0 (aW (sW r l) A' c')).cell? ⟨B8,q,none⟩=W.cell? ⟨B8,q,none⟩)∧(∀ q,((W.drew).setCells (w.heap.size+1) 0 (aW (sW r l) A' c')).cell? ⟨wc.heap.size,q,none⟩=W.cell? ⟨wc.heap.size,q,none⟩):=⟨fun q=>World.cell?_of_block (Sr B8 (by omega)),fun q=>World.cell?_of_block (Sr wc.heap.size (by omega))⟩;refine bF (hZ.drew) (aW (sW r l) A' c') rfl bW (dL _ _ _) (.tmp 4) (.tmp 40) rfl rfl rfl ?_
       refine hK.out _ _ ?Tm (fun hHeld=>?_)
       case Tm=>(first | (first | exact hk3 | exact ⟨fun q=>rfl,fun q=>rfl⟩) | (dsimp only;first | exact hk3 | exact ⟨fun q=>rfl,fun q=>rfl⟩))
       clear hK K
       try simp only [Act.put,la,lz,ls]
       refine tk 4 ?_
       refine tk 5 ?_
       refine wpAnyH_done (by kernel_rfl) ?_ _
       go_wp2
       go_meet
       exact ⟨rfl,rfl,rfl⟩
      case rest=>
       obtain ⟨rfl,rfl,rfl⟩:=hcut
       go_wp2
       exact FIN.out _ rfl rfl rfl rfl
  · have h0':(E != 0)=true:=by simp [h0]
    have hrs:sW r l=M.zero∧xH r l=[]:=by
     have:=HE.out
     exact ⟨by unfold sW;rw [if_neg (by rw [this];exact h0)],by unfold xH;rw [if_neg (by rw [this];exact h0)]⟩
    have yO:=hide hrs
    clear h0 hrs
    go_wp2_with (first | (go_at_call 63;refine (wZ.out _ (hp.below hB.bw)).mono ?_;rintro e w1 ⟨rfl,hb1⟩;have hB1:=hB.call (by simp) hb1) | (refine aO 33 (.tmp 4) (.tmp 17) rfl ?_;refine aF (hB1.get 1 rfl) (aj) rfl bW (dL M.zero none 0) rfl (.tmp 4) (.tmp 17) rfl rfl rfl ?_))
    have hF:=hB1.put 1 rfl aj rfl
    rw [← HQ.out]
    refine vZ (iI (p:=4) (hF.get 1 rfl) Tryz.underlying33 rfl bW rfl _ rfl) rfl ⟨none,0,none,0,?_,?_,?_,hF.bw⟩
    · rw [yO.out.1,yO.out.2,HE.out];rfl
    · rw [yO.out.1];exact Reads.none_ _ _ _
    · rw [yO.out.2];exact Reads.none_ _ _ _
theorem yQ {W w4:World} {D B g1 k cap k' H:Nat} {X Y:Nat→Prop} {e ty:TypeId} {size n:Nat} {v:Value} {xs ys:List Value} {o:Obj} (hV:Held W B [v] ty) (hB:B<D) (iL:iJ W D X Y e size v n xs) (Wj:∀ b,X b∨Y b→b<W.heap.size) (kT:D≤W.heap.size)
 (hgrow:(W.alloc o).grownBy w4 v.ownBlock) (hown4:w4.ownsRow D e size (.slice (some ⟨g1,0,none⟩) k cap) k' ys) (hat:v.ownBlock=some g1∨g1=H) (hH:W.heap.size+1=H):
 Held w4 B [v] ty∧Turn (fun b=>b=B∨v.ownBlock=some b) W (w4.setCell ⟨B,0,none⟩ (.slice (some ⟨g1,0,none⟩) k cap))∧Held (w4.setCell ⟨B,0,none⟩ (.slice (some ⟨g1,0,none⟩) k cap)) B [.slice (some ⟨g1,0,none⟩) k cap] ty∧iJ (w4.setCell ⟨B,0,none⟩ (.slice (some ⟨g1,0,none⟩) k cap)) D X Y e size (.slice (some ⟨g1,0,none⟩) k cap) k' ys:=by
 have hne:B≠g1:=by
  rcases hat with h | h
  · have:=(bg iL.own h).1;omega
  · omega
 have xu:Held w4 B [v] ty:=(hV.alloc o).blk (hgrow.block _ (by simp;omega) (fun e=>by have:=(bg iL.own e.symm).1;omega))
 refine ⟨xu,?_,xu.set 0 _,bT (W:=w4) hown4 (fun g hg=>?_),fun g hg=>?_⟩
 · exact ((Turn.of_below ((Below.refl W.heap.size W).alloc (Nat.le_refl _) o)).mono (X:=fun _=>False) (fun b h=>h.elim)).trans ((show Turn (fun b=>b=B∨v.ownBlock=some b) _ w4 from ⟨hgrow.os,hgrow.tape,hgrow.output,hgrow.size,fun b hb hn=>hgrow.block b hb (fun e=>hn (.inr e.symm))⟩).trans (l7 (X:=fun b=>b=B∨v.ownBlock=some b) (W:=w4) (g:=B) (.inl rfl) [.slice (some ⟨g1,0,none⟩) k cap] 0) (fun b h=> .inl h)) (fun b h=> .inl h)
 · cases hg
   exact Below.heap_setCell w4 ⟨B,0,none⟩ _ g1 (fun e=>hne e.symm)
 · cases hg
   rcases hat with h | h
   · exact iL.far _ h
   · exact ⟨fun hx=>by have:g1<W.heap.size:=Wj _ (.inl hx);omega,fun hx=>by have:g1<W.heap.size:=Wj _ (.inr hx);omega⟩
structure JJ (e ty:TypeId) (size:Nat) (w:World) (B D:Nat) (len:Nat→Nat) (rows:Nat→List Value) (X Y:Nat→Prop) (xs:List wY) (W:World):Prop where
 bw:Below w.heap.size w W
 sz:D≤W.heap.size
 sep:∀ b,X b∨Y b→D≤b
 a:∃ v,Held W B [v] ty∧iJ W D X Y e size v (len xs.length) (rows xs.length)
section
variable {e ty:TypeId} {size:Nat} {w:World} {B D:Nat} {len:Nat→Nat} {rows:Nat→List Value}
theorem JJ.abides (hw:w.heap.size<B) (h9:B<D):tq (JJ e ty size w B D len rows):=by
 intro X Y pre W X' Y' W' h ht hX hY
 have hno:∀ b,b<D→¬ X b:=fun b hb hx=>by have:=h.sep b (.inl hx);omega
 obtain ⟨v,hv,ho⟩:=h.a
 refine ⟨kS h.bw ht (fun b hb=>by have:=h.sep b (.inl hb);omega) (by have:=h.sz;omega),Nat.le_trans h.sz ht.size,?_,⟨v,hv.turn ht (hno _ h9),ho.turn ht hX hY⟩⟩
 rintro b (hb | hb)
 · rcases hX b hb with h2 | h2
   · exact h.sep b (.inl h2)
   · exact Nat.le_trans h.sz h2
 · rcases hY b hb with h2 | h2
   · exact h.sep b (.inr h2)
   · exact Nat.le_trans h.sz h2
theorem JJ.putObj {X Y:Nat→Prop} {pre:List wY} {W:World} {lp:Nat} {o:Obj} (h:JJ e ty size w B D len rows X Y pre W) (hD:w.heap.size≤D) (hlp:D≤lp) (hl:W.heap[lp]? =some o) (ho:o.isCells=false) (o':Obj):JJ e ty size w B D len rows X Y pre (W.putObj lp o'):=by
 obtain ⟨v,hv,hw⟩:=h.a
 exact ⟨jY h.bw (by omega) _,by simpa using h.sz,h.sep,⟨v,hv.putObj hl ho _,hw.putObj hl ho _⟩⟩
theorem Js {X Y K:Nat→Prop} {W W6:World} {v:Value} {n:Nat} {xs:List Value} (hWs:D≤W.heap.size) (hX:∀ b,X b∨Y b→D≤b∧b<W.heap.size) (hB:B<D) (hK:∀ b,K b→b<D∧b≠B) (iL:iJ W D X Y e size v n xs)
 (hT:Turn (fun b=>b=B∨v.ownBlock=some b) W W6):KeepsFrom D W W6∧lU K X Y W W6:=by
 refine ⟨⟨hT.size,fun k o hk hl hc=>(hT.block k (Array.getElem?_eq_some_iff.1 hl).1 ?_).trans hl⟩,⟨hT.size,fun b h=>hT.block b (hX b h).2 ?_,fun b h=>hT.block b (Nat.lt_of_lt_of_le (hK b h).1 hWs) ?_⟩⟩
 · rintro (h | h)
   · omega
   · obtain ⟨o2,h2,h3⟩:=(bg iL.own h).2
     rw [hl] at h2;cases h2;rw [hc] at h3;cases h3
 · have h1:=(hX b h).1
   rintro (h2 | h2)
   · omega
   · exact h.elim (iL.far b h2).1 (iL.far b h2).2
 · rintro (h2 | h2)
   · exact (hK b h).2 h2
   · have:=(bg iL.own h2).1;have:=(hK b h).1;omega
theorem JJ.fin {X Y K:Nat→Prop} {Ix:(Nat→Prop)→(Nat→Prop)→List wY→World→Prop} {x:wY} {pre:List wY} {W W6:World} {v nv:Value} {n:Nat} {xs:List Value} {a:Act} (hw:w.heap.size≤B) (hB:B<D) (hWs:D≤W.heap.size) (hbw:Below w.heap.size w W) (hsep:∀ b,X b∨Y b→D≤b)
 (hX:∀ b,X b∨Y b→D≤b∧b<W.heap.size) (hK:∀ b,K b→b<D∧b≠B) (iL:iJ W D X Y e size v n xs) (hT:Turn (fun b=>b=B∨v.ownBlock=some b) W W6) (hV:Held W6 B [nv] ty)
 (hO:iJ W6 D X Y e size nv (len (pre.length+1)) (rows (pre.length+1))):rU K D X Y (JJ e ty size w B D len rows) Ix (pre++[x]) W .normal a W6:=by
 obtain ⟨h1,h2⟩:=Js hWs hX hB hK iL hT
 refine ⟨h1,h2,⟨kS hbw hT ?_ (by omega),Nat.le_trans hWs hT.size,hsep,⟨nv,hV,?_⟩⟩⟩
 · rintro b (h | h)
   · omega
   · have:=(bg iL.own h).1;omega
 · rw [List.length_append,List.length_singleton];exact hO
end
def noteCells (l:List M.Note):List Value:=l.flatMap fun x=>[.int .i64 x.number,.int .i64 x.aC,.int .i64 x.rule,.int .i64 x.iW,.int .i64 x.points,.bool x.turn]
theorem xE (a b:List M.Note):noteCells (a++b)=noteCells a++noteCells b:=by simp [noteCells]
theorem Gw (r:M.Rules) (k:Nat) (e:Sh) (s t:M.State) (A A':Option Addr) (c c':Nat) (ru:Int):∀ j v,(ah r s A c)[j]? =some v→(bH r ⟨k,e,s,A,c,t,A',c',ru⟩)[7+j]? =some v:=by
 intro j v hj
 have hl:j<18:=(List.getElem?_eq_some_iff.1 hj).1
 unfold bH
 rw [List.getElem?_append_left (by simp [au,ah];omega),List.getElem?_append_left (by simp [au,ah];omega),List.getElem?_append_right (by simp [au]),show 7+j - (au e).length=j by simp [au]]
 exact hj
theorem zi (r:M.Rules) (k:Nat) (e:Sh) (s t:M.State) (A A':Option Addr) (c c':Nat) (ru:Int):∀ j v,(au e)[j]? =some v→(bH r ⟨k,e,s,A,c,t,A',c',ru⟩)[0+j]? =some v:=by
 intro j v hj
 have hl:j<7:=(List.getElem?_eq_some_iff.1 hj).1
 unfold bH
 rw [Nat.zero_add,List.getElem?_append_left (by simp [au,ah];omega),List.getElem?_append_left (by simp [au,ah];omega),List.getElem?_append_left (by simp [au];omega)]
 exact hj
def NI:List Value:=[.int .i64 0,.int .i64 0,.int .i64 0,.int .i64 0,.int .i64 0,.bool false]
@[reducible] def vK (k:Nat) (p ru f n:Int) (tu:Bool):List Value:=[.int .i64 ((k:Int)+1),.int .i64 p,.int .i64 ru,.int .i64 f,.int .i64 n,.bool tu]
theorem Ej (k:Nat) (p ru f n:Int) (tu:Bool):∀ v∈vK k p ru f n tu,v.oneCell'=true:=by simp [vK,Value.oneCell']
theorem BD:(Tryz.prog.info? 54).map (·.size)=some 6:=by kernel_rfl
def lH (r:M.Rules) (l:List Sh):List M.Note:=if wP r l=0 then M.notes r (M.start r) 1 (plain l) else []
theorem Il:(Tryz.prog.info? 54).map (fun i=>(i.zero,i.size,i.bytes))=some (some (.agg #[.int .i64 0,.int .i64 0,.int .i64 0,.int .i64 0,.int .i64 0,.bool false]),6,48):=by kernel_rfl
def ji (r:M.Rules) (l:List Sh) (k:Nat):List M.Note:=M.notes r (M.start r) 1 (plain (l.take k))
theorem yh (r:M.Rules) (l:List Sh) (k:Nat) (hk:k≤l.length):(ji r l k).length=k:=by
 have go:∀ (l2:List M.aI) (s:M.State) (n:Int),(M.notes r s n l2).length=l2.length:=by
  intro l2
  induction l2 with
  | nil=>intro s n;rfl
  | cons y l2 ih=>intro s n;rw [M.notes,List.length_cons,ih,List.length_cons]
 unfold ji
 rw [go,eF,List.length_take]
 omega
theorem CZ (r:M.Rules) (l:List Sh) (k:Nat) (hk:k<l.length):ji r l (k+1)=ji r l k++[M.note r (lQ r l k) ((k:Int)+1) l[k].x]:=by
 have go:∀ (l2:List M.aI) (s:M.State) (n:Int) (x:M.aI),M.notes r s n (l2++[x])=M.notes r s n l2++[M.note r (M.final r s l2) (n+l2.length) x]:=by
  intro l2
  induction l2 with
  | nil=>intro s n x;simp [M.notes,M.final]
  | cons y l2 ih=>
    intro s n x
    rw [List.cons_append,M.notes,M.notes,ih,List.cons_append]
    simp only [M.final,List.foldl_cons,List.length_cons]
    rw [show n+1+(l2.length:Int)=n+((l2.length+1:Nat):Int) by push_cast;omega]
 unfold ji lQ
 rw [List.take_succ_eq_append_getElem hk]
 unfold plain
 rw [List.map_append,List.map_cons,List.map_nil,go]
 congr 3
 simp only [List.length_map,List.length_take,Nat.min_eq_left (Nat.le_of_lt hk)]
 rw [Int.add_comm]
theorem Io (S:Nat→Prop) (r:M.Rules) (l:List Sh) (A:Option Addr) (c:Nat) (w:World) (hp:wG w S A c l):
 Calls Tryz.prog 19 #[jM r,.slice A l.length c] w fun e w'=>∃ A2 c2,e= .returned (.tuple #[.slice A2 (lH r l).length c2,.int .i64 (wP r l)])∧Reads w' (fun b=>w.heap.size≤b) 6 A2 (lH r l).length c2 (noteCells (lH r l))∧Below w.heap.size w w':=by
 refine callsIn_wide.1 (callsIn_of_wp_marks (F:=Fence.wide) (n:=5) Tryz.func19 rfl trivial ?_ rfl)
 simp only [Tryz.ntmps19,List.size_toArray,List.length_cons,List.length_nil,Nat.reduceAdd,Nat.reduceSub,Array.replicate_succ,
  Array.replicate_zero,List.push_toArray,List.append_toArray,List.nil_append,List.cons_append]
 refine wpIn_wide.2 ?_
 generalize hQ':bodyPostM Fence.wide 5 Tryz.prog _ _=Q'
 have hck:=fun W h=>check_any S r l A c W h
 obtain ⟨E,hE⟩:∃ E,aU [M.aH r,M.je (plain l)]=E:=⟨_,rfl⟩
 rw [hE] at hck
 have hE':wP r l=E:=hE
 have wZ:=hide hck
 have HE:=hide hE'
 have HQ:=hide hQ'
 clear hck hE hE' hQ'
 go_upto_region 0 with (fail)
 go_cut [2] from 2 to 5 (fun v2 wx=>v2=ptr w.heap.size∧bU w wx [([.string r.game,.int .i64 r.target,.int .i64 r.aY],23)])
 case first=>
  go_wp2
  go_meet
  exact ⟨rfl,((bU.nil w).new (by simp) ([.string r.game,.int .i64 r.target,.int .i64 r.aY]) _)⟩
 case rest=>
  obtain ⟨rfl,hB⟩:=hcut
  have k0:=(hB.bf rfl).cell (j:=0) rfl
  have GL:=(hB.bf rfl).frozen 0
  have k1:=(hB.bf rfl).cell (j:=1) rfl
  have JE:=(hB.bf rfl).frozen 1
  have k2:=(hB.bf rfl).cell (j:=2) rfl
  have Pn:=(hB.bf rfl).frozen 2
  by_cases h0:E=0
  · have h0':(E != 0)=false:=by simp [h0]
    obtain ⟨hr,hl⟩:=xB (HE.out.trans h0)
    have hrs:lH r l=M.notes r (M.start r) 1 (plain l):=by
     have:=HE.out
     unfold lH;rw [if_pos (by rw [this];exact h0)]
    have yO:=hide hrs
    have HR:=hide hr
    have HL:=hide hl
    have JH:=hide (xC (HE.out.trans h0))
    go_upto_region 4 with (first | (go_at_call 63;refine (wZ.out _ (hp.below hB.bw)).mono ?_;rintro e w1 ⟨rfl,hb1⟩;have hB1:=hB.call (by simp) hb1))
    clear h0' hrs hr hl k0 GL k1 JE k2 Pn
    have j0:=(hB1.bf rfl).cell (j:=0) rfl
    have Vm:=(hB1.bf rfl).frozen 0
    have j1:=(hB1.bf rfl).cell (j:=1) rfl
    have Vo:=(hB1.bf rfl).frozen 1
    have j2:=(hB1.bf rfl).cell (j:=2) rfl
    have Vp:=(hB1.bf rfl).frozen 2
    have hsz0:w.heap.size+1≤w1.heap.size:=by simpa using hB1.size (by simp)
    have hsz1:w.heap.size<w1.heap.size:=by omega
    go_wp2_with (go_at_call 65;refine (uJ r _ _ _ _).mono ?_;rintro e w3 ⟨rfl,hC⟩)
    rename_i KQ RI
    have hD3:w1.heap.size+3≤w3.heap.size:=by
     have:=hC.size (by simp)
     simp only [List.length_cons,List.length_nil,World.size_alloc] at this
     omega
    have hb3:=(hB1.bw.trans (((Below.refl _ _).alloc (Nat.le_refl _) _).mono (by omega))).trans (hC.bw.mono (by simp;omega))
    have Kt:Held w3 (w1.heap.size+1) [.string r.game,.int .i64 r.target,.int .i64 r.aY] 23:=by simpa using hC.bf rfl
    have Ko:Held w3 (w1.heap.size+1+1) [.slice A l.length c] 24:=by simpa using hC.get 1 rfl
    have hK3:∀ b,(b=w1.heap.size+1∨b=w1.heap.size+2∨(S b∧b<w.heap.size))→b<w3.heap.size:=by rintro b (h | h | ⟨_,h⟩) <;> omega
    have RN:wG w3 (fun b=>b=w1.heap.size+1∨b=w1.heap.size+2∨(S b∧b<w.heap.size)) A c l:=(hp.more (S':=(fun b=>b=w1.heap.size+1∨b=w1.heap.size+2∨(S b∧b<w.heap.size))) (fun b hb h=> .inr (.inr ⟨h,hb⟩))).below hb3
    have hA3:Held w3 w1.heap.size [.slice none 0 0] 38:=(Held.new w1 [.slice none 0 0] 38).upto hC.bw (by simp)
    refine (wpIn_wide (n:=5)).1 ?_
    refine kJ (F:=Fence.wide) rfl (by decide) rfl trivial (fun _ _=>rfl) (sN r l A c (fun b=>b=w1.heap.size+1∨b=w1.heap.size+2∨(S b∧b<w.heap.size)) _ _ 4 w3 (by decide) HR.out HL.out JH.out hK3 Kt (.inl rfl) Ko (.inr (.inl rfl)) RN) hK3 (Below.refl _ _) (fun _=>rfl) (JJ 54 38 6 w w1.heap.size w3.heap.size (fun k=>(ji r l k).length) (fun k=>noteCells (ji r l k))) (fun _ _ _ _=>False) (JJ.abides (by omega) (by omega)) (fun _ _ _ _ _ _ _ h _ _ _=>h)
     (fun X Y pre W lp o o' h hlp hl ho=>h.putObj (by omega) hlp hl ho o') (fun _ _ _ _ _ _ _ h _ _ _=>h) (fun X Y pre x W lp o o' h hlp hl ho=>h.putObj hl ho o') ?h0 (fun x a W=>∃ Be v0 v1 v2 v3 v4 v5 v6 v10 v11 v12 v13 v14 v15 v16 v17 v18 v19 v20 v21 v22 v23 v24 v25 v26 v27 v28 v29 v30 v31 v32 v33 v34 v35 v36 v37 v38 v39 v40 v41 v42 v43 v44 v45 v46 v47 v48 v49 v50 v51 v52 v53 v54 v55 v56 v57 v58 v59 v60 v61 v62 v63 v64 v65 v66 v67 v68 v69,a= {tmps:= #[v0,v1,v2,v3,v4,v5,v6,ptr w1.heap.size,.int .i64 (x.i:Int),ptr Be,v10,v11,v12,v13,v14,v15,v16,v17,v18,v19,v20,v21,v22,v23,v24,v25,v26,v27,v28,v29,v30,v31,v32,v33,v34,v35,v36,v37,v38,v39,v40,v41,v42,v43,v44,v45,v46,v47,v48,v49,v50,v51,v52,v53,v54,v55,v56,v57,v58,v59,v60,v61,v62,v63,v64,v65,v66,v67,v68,v69],defers:=[] }∧w3.heap.size≤Be∧Held W Be (bH r x) 133) ?assign ?ap ?body ?done ?stop
    case h0=>
     intro W hW
     exact ⟨(hb3.trans (hW.mono (by omega))),hW.size,fun b h=>h.elim (fun h=>h.elim) (fun h=>h.elim),⟨.slice none 0 0,hA3.below hW,World.ownsRow_nil _ _ _ _,fun g hg=>by cases hg⟩⟩
    case ap=>
     rintro x a' W lp o o' ⟨Be,v0,v1,v2,v3,v4,v5,v6,v10,v11,v12,v13,v14,v15,v16,v17,v18,v19,v20,v21,v22,v23,v24,v25,v26,v27,v28,v29,v30,v31,v32,v33,v34,v35,v36,v37,v38,v39,v40,v41,v42,v43,v44,v45,v46,v47,v48,v49,v50,v51,v52,v53,v54,v55,v56,v57,v58,v59,v60,v61,v62,v63,v64,v65,v66,v67,v68,v69,e2,h1,h2⟩ hlp hl ho
     exact ⟨Be,v0,v1,v2,v3,v4,v5,v6,v10,v11,v12,v13,v14,v15,v16,v17,v18,v19,v20,v21,v22,v23,v24,v25,v26,v27,v28,v29,v30,v31,v32,v33,v34,v35,v36,v37,v38,v39,v40,v41,v42,v43,v44,v45,v46,v47,v48,v49,v50,v51,v52,v53,v54,v55,v56,v57,v58,v59,v60,v61,v62,v63,v64,v65,v66,v67,v68,v69,e2,h1,h2.putObj hl ho _⟩
    case stop=>exact fun _ _ _ _ _ _ _ h _=>h.elim
    case assign=>
     intro lp X Y pre x W K' hi ht hk Au
     have hb:=((Below.refl W.heap.size W).alloc (Nat.le_refl _) (.cells jk.toArray 133))
     have hb':=below_setCells W.heap.size (Nat.le_refl _) (bH r x) 0 _ _ hb
     have hE0:=Held.new W jk 133
     have hsz:=hi.sz
     have fin:∀ v0 v1 v2 v3 v4 v5 v6 v10 v11 v12 v13 v14 v15 v16 v17 v18 v19 v20 v21 v22 v23 v24 v25 v26 v27 v28 v29 v30 v31 v32 v33 v34 v35 v36 v37 v38 v39 v40 v41 v42 v43 v44 v45 v46 v47 v48 v49 v50 v51 v52 v53 v54 v55 v56 v57 v58 v59 v60 v61 v62 v63 v64 v65 v66 v67 v68 v69:Value,K' {tmps:= #[v0,v1,v2,v3,v4,v5,v6,ptr w1.heap.size,.int .i64 (x.i:Int),ptr W.heap.size,v10,v11,v12,v13,v14,v15,v16,v17,v18,v19,v20,v21,v22,v23,v24,v25,v26,v27,v28,v29,v30,v31,v32,v33,v34,v35,v36,v37,v38,v39,v40,v41,v42,v43,v44,v45,v46,v47,v48,v49,v50,v51,v52,v53,v54,v55,v56,v57,v58,v59,v60,v61,v62,v63,v64,v65,v66,v67,v68,v69],defers:=[] } ((W.alloc (.cells jk.toArray 133)).setCells W.heap.size 0 (bH r x)):=fun _ _ _ _ _ _ _ _ _ _ _ _ _ _ _ _ _ _ _ _ _ _ _ _ _ _ _ _ _ _ _ _ _ _ _ _ _ _ _ _ _ _ _ _ _ _ _ _ _ _ _ _ _ _ _ _ _ _ _ _ _ _ _ _ _ _ _=>
      hk _ _ ⟨hb'.size,fun k o hk hl _=>(hb'.block k (Array.getElem?_eq_some_iff.1 hl).1).trans hl⟩
       ⟨hb'.size,fun b h=>hb'.block b (Au b h),fun b h=>hb'.block b (Nat.lt_of_lt_of_le (hK3 b h) hsz)⟩
       (JJ.abides (by omega) (by omega) _ _ _ _ _ _ _ hi (Turn.of_below hb') (fun b h=> .inl h) (fun b h=> .inl h))
       ⟨ht.i,ht.lt,ht.e,ht.s,ht.t,ht.rule,ht.a.below hb',ht.b.below hb',ht.xy⟩
       ⟨W.heap.size,_,_,_,_,_,_,_,_,_,_,_,_,_,_,_,_,_,_,_,_,_,_,_,_,_,_,_,_,_,_,_,_,_,_,_,_,_,_,_,_,_,_,_,_,_,_,_,_,_,_,_,_,_,_,_,_,_,_,_,_,_,_,_,_,_,_,_,rfl,hsz,hE0.whole _ rfl⟩
     have FIN:=hide fin
     clear hk fin hb hb' hi ht Au hsz
     simp [zh]
     apply wpIn_seq_k
     intro K1 hK1
     refine aS (by kernel_rfl) (by rintro ⟨_,_,h⟩;exact h) ?_
     go_wp2
     refine aS (by kernel_rfl) (by rintro ⟨_,_,h⟩;exact h) ?_
     go_wp2_with (refine aO 133 (.tmp 9) (.tmp 21) rfl ?_;refine aF hE0 (bH r x) rfl mG (tX _ _) rfl (.tmp 9) (.tmp 21) rfl rfl rfl ?_)
     exact FIN.out _ _ _ _ _ _ _ _ _ _ _ _ _ _ _ _ _ _ _ _ _ _ _ _ _ _ _ _ _ _ _ _ _ _ _ _ _ _ _ _ _ _ _ _ _ _ _ _ _ _ _ _ _ _ _ _ _ _ _ _ _ _ _ _ _ _ _
    case body=>
     rintro lp X Y pre x a' W hi ht ⟨Be,v0,v1,v2,v3,v4,v5,v6,v10,v11,v12,v13,v14,v15,v16,v17,v18,v19,v20,v21,v22,v23,v24,v25,v26,v27,v28,v29,v30,v31,v32,v33,v34,v35,v36,v37,v38,v39,v40,v41,v42,v43,v44,v45,v46,v47,v48,v49,v50,v51,v52,v53,v54,v55,v56,v57,v58,v59,v60,v61,v62,v63,v64,v65,v66,v67,v68,v69,rfl,Ry,hE⟩ hlt Au hWs
     obtain ⟨v,hV,iL⟩:=hi.a
     have hl0:0≤x.rule:=by rw [ht.rule];exact ug _ _ _
     have hle:l[pre.length]=x.e:=by have:=ht.e;rw [List.getElem?_eq_getElem hlt] at this;exact Option.some.inj this
     have hsz:=hi.sz
     have hbw:=hi.bw
     have hti:=ht.i
     have HT:=hide ht
     have NR:=hide hi.sep
     have HX:=hide Au
     have QH:=hide hle
     have Uz:=JH.out
     have NQ:=hide iL
     clear Au hi ht hle iL
     have e0:=hE.cell (j:=0) rfl
     have e43:=hE.cell (j:=43) rfl
     have hBlt:=hE.lt
     have hN0:=Held.new W NI 54
     apply wpIn_block
     apply wpIn_seq_k
     intro K1 hK1
     refine aS (by kernel_rfl) (by rintro ⟨_,_,h⟩;exact h) ?_
     go_wp2_with (refine aO 54 (.tmp 10) (.tmp 29) rfl ?_;refine aF hN0 (vK pre.length x.e.x.aC x.rule 0 0 false) rfl BD (Ej _ _ _ _ _ _) rfl (.tmp 10) (.tmp 29) rfl rfl rfl ?_)
     apply wpIn_seq_k
     intro K3 hK3
     have go:∀ (W5:World) (p ru f n:Int) (tu:Bool) (z0 z1 z2 z3 z4 z5 z6 z8 z9 z11 z12 z13 kD kK kF z17 kL jQ z20 z21 z22 z23 z24 z25 z26 z27 z28 z29 z30 z31 z32 z33 z34 z35 z36 z37 z38 z39 z40 z41 z42 z43 z44 z45 z46 z47 z48 z49 z50 z51 z52 z53 z54 z55 z56 z57 z58 z59 z60 z61 z62 z63 z64 z65 z66 z67 z68 z69:Value),Held W5 W.heap.size (vK pre.length p ru f n tu) 54→Held W5 w1.heap.size [v] 38→iJ W5 w3.heap.size X Y 54 6 v (ji r l pre.length).length (noteCells (ji r l pre.length))→Turn (fun _=>False) W W5→M.note r x.s ((pre.length:Int)+1) x.e.x=⟨(pre.length:Int)+1,p,ru,f,n,tu⟩→K3 {tmps:= #[z0,z1,z2,z3,z4,z5,z6,ptr w1.heap.size,z8,z9,ptr W.heap.size,z11,z12,z13,kD,kK,kF,z17,kL,jQ,z20,z21,z22,z23,z24,z25,z26,z27,z28,z29,z30,z31,z32,z33,z34,z35,z36,z37,z38,z39,z40,z41,z42,z43,z44,z45,z46,z47,z48,z49,z50,z51,z52,z53,z54,z55,z56,z57,z58,z59,z60,z61,z62,z63,z64,z65,z66,z67,z68,z69],defers:=[] } W5:=by
      intro W5 p ru f n tu _ _ _ _ _ _ _ _ _ _ _ _ _ _ _ _ _ _ _ _ _ _ _ _ _ _ _ _ _ _ _ _ _ _ _ _ _ _ _ _ _ _ _ _ _ _ _ _ _ _ _ _ _ _ _ _ _ _ _ _ _ _ _ _ _ _ _ _ hN DV Kr hT hM
      obtain ⟨i0,hi0,hz0,hz1,hz2⟩:=info_parts Il
      have hlen:=yh r l pre.length (Nat.le_of_lt hlt)
      have c5:=DV.cell (j:=0) rfl
      have HM:=hide hM
      have OZ:=hide hT
      clear hM hT e0 e43
      refine hK3 _ _ ?_
      refine aS (by kernel_rfl) (by rintro ⟨_,_,h⟩;exact h) ?_
      go_wp2_with (first | (refine aN 54 (.tmp 10) rfl ?_;refine aG hN Tryz.underlying54 rfl BD rfl (.tmp 10) rfl rfl ?_) | (at_builtin;refine wpList_append_lies _ rfl _ _ _ rfl (w3.heap.size) 54 i0 (.agg #[.int .i64 0,.int .i64 0,.int .i64 0,.int .i64 0,.int .i64 0,.bool false]) 6 48 Tryz.underlying38 hi0 hz0 hz1 hz2 rfl (by omega) _ _ _ rfl (Kr.own.alloc _) ⟨W5.heap.size,0,none⟩ 1 1 (vK pre.length p ru f n tu) rfl rfl (dK _ _ _ _ (by simp)) ?c1 (by omega) ?c2 ?c3 ?c4 (W5.heap.size+1) (by simp) ?_))
      case c1=>exact Ej _ _ _ _ _ _
      case c2=>simp only [maxLen];omega
      case c3=>omega
      case c4=>simp;have:=OZ.out.size;omega
      intro g1 cap w4 hown4 hgrow hat hlt4
      obtain ⟨xu,PY,P7,PX⟩:=yQ DV (by omega) Kr (fun b h=>Nat.lt_of_lt_of_le (HX.out b h).2 OZ.out.size) (Nat.le_trans hWs OZ.out.size) hgrow hown4 hat rfl
      have c4:=xu.cell (j:=0) rfl
      have f4:=xu.frozen 0
      have eN:ji r l (pre.length+1)=ji r l pre.length++[⟨(pre.length:Int)+1,p,ru,f,n,tu⟩]:=by
       rw [CZ r l pre.length hlt,QH.out, ← HT.out.s,HM.out]
      have hfin:=JJ.fin (K:=fun b=>b=w1.heap.size+1∨b=w1.heap.size+2∨(S b∧b<w.heap.size)) (Ix:=fun _ _ _ _=>False) (x:=x) (a:={tmps:= #[],defers:=[] }) (len:=fun k=>(ji r l k).length) (rows:=fun k=>noteCells (ji r l k)) (w:=w) (by omega) (by omega) hWs hbw NR.out HX.out (by rintro b (h | h | ⟨_,h⟩) <;> constructor <;> omega) NQ.out ((OZ.out.mono (X':=fun b=>b=w1.heap.size∨v.ownBlock=some b) (fun b h=>h.elim)).trans PY (fun b h=> .inl h)) P7 (by
       show iJ _ _ _ _ _ _ _ (ji r l (pre.length+1)).length (noteCells (ji r l (pre.length+1)))
       rw [eN,List.length_append,List.length_singleton,xE,hlen]
       exact PX)
      have FIN:=hide hfin
      clear PY P7 PX hgrow hown4 c5 hfin eN Kr DV hN
      go_wp2
      exact FIN.out
     have GO:=hide go
     clear go e0 e43 hK3
     have JD:=wU HR.out HL.out pre.length (Nat.le_of_lt hlt)
     rw [← HT.out.s] at JD
     have hck:=HL.out _ (List.getElem_mem hlt)
     rw [QH.out] at hck
     obtain ⟨W2,hW2⟩:∃ W2,(W.alloc (.cells #[.int .i64 0,.int .i64 0,.int .i64 0,.int .i64 0,.int .i64 0,.bool false] 54)).setCells W.heap.size 0 (vK pre.length x.e.x.aC x.rule 0 0 false)=W2:=⟨_,rfl⟩
     have hb2:Below W.heap.size W W2:=by rw [← hW2];exact below_setCells _ (Nat.le_refl _) _ _ _ _ ((Below.refl _ _).alloc (Nat.le_refl _) _)
     have QM:Held W2 W.heap.size (vK pre.length x.e.x.aC x.rule 0 0 false) 54:=by rw [← hW2];exact hN0.whole _ rfl
     rw [hW2]
     have hE2:=hE.below hb2
     have hT2:Turn (fun _=>False) W W2:=Turn.of_below hb2
     have hV2:=hV.below hb2
     have Kq:=NQ.out.turn (hT2.mono (fun b h=>h.elim)) (fun b h=> .inl h) (fun b h=> .inl h)
     have e43:=hE2.cell (j:=43) rfl
     clear hW2 hN0
     apply wpIn_seq_k
     intro K2 hK2
     refine aS (by kernel_rfl) (by rintro ⟨_,_,h⟩;exact h) ?_
     go_wp2
     refine wpIn_cond_split rfl (fun h=>?_) (fun h=>?_)
     · have h0:x.rule=0:=by simpa using h
       clear h
       have h7:W2.rangeAt Be 7 (ah r x.s x.A x.c):=fun j v hj=>hE2.cell (Gw r x.i x.e x.s x.t x.A x.A' x.c x.c' x.rule j v hj)
       have h00:W2.rangeAt Be 0 (au x.e):=fun j v hj=>hE2.cell (zi r x.i x.e x.s x.t x.A x.A' x.c x.c' x.rule j v hj)
       obtain ⟨q3,q4,_⟩:=wL hck
       have hfo:=wO (fun _=>True) r x.s x.e.x x.A x.e.a x.c x.e.c W2 (Reads.more (HT.out.a.below hb2) (fun _ _ _=>trivial)) (Reads.more (Reads.below (hp.2 _ (by rw [← QH.out];exact List.getElem_mem hlt)) (hbw.trans (hb2.mono (by omega)))) (fun _ _ _=>trivial)) q3 (fun p hp=>(q4 p hp).1.1) HR.out JD.group
       have WS:=hide hfo
       have hst:M.step r x.s x.e.x=M.next r x.s x.e.x:=by unfold M.step;rw [if_pos (by rw [← HT.out.rule];exact h0)]
       have htn:x.t=M.next r x.s x.e.x:=HT.out.t.trans hst
       have Og:=wU HR.out HL.out (pre.length+1) hlt
       rw [vF r l pre.length hlt, ← HT.out.s,QH.out, ← HT.out.t] at Og
       have hs0:=JD.s0
       have hs1:=JD.s1
       have ht0:=Og.s0
       have ht1:=Og.s1
       have hpl:=(M.uw hck).aC
       have O9:M.note r x.s ((pre.length:Int)+1) x.e.x=⟨(pre.length:Int)+1,x.e.x.aC,0,M.iW r x.s x.e.x,x.t.score x.e.x.aC - x.s.score x.e.x.aC,x.t.turn≠x.s.turn⟩:=by
        rw [M.KC (by rw [← HT.out.rule];exact h0),htn]
       have VO:=hide O9
       have HT2:=hide hT2
       have YG:=hide hV2
       have YF:=hide Kq
       have HE2:=hide hE2
       clear hst htn Og JD hck q3 q4 hfo O9 hT2 hV2 Kq hE2 e43
       apply wpIn_seq_k
       intro K5 hK5
       refine aS (by kernel_rfl) (by rintro ⟨_,_,h⟩;exact h) ?_
       go_wp2_with (first | (refine aN 127 (.tmp 33) rfl ?_;refine jh (g:=Be) (o:=7) h7 Tryz.underlying127 rfl ak rfl (.tmp 33) rfl rfl ?_) | (refine aN 66 (.tmp 35) rfl ?_;refine jh (g:=Be) (o:=0) h00 Tryz.underlying66 rfl aV rfl (.tmp 35) rfl rfl ?_) | (go_at_call 66;refine WS.out.mono ?_;rintro e w5 ⟨rfl,hb5⟩;have Ue:=QM.below hb5;have q3:=Ue.cell (j:=3) rfl;have Yl:=Ue.frozen 3))
       obtain ⟨W6,Uf⟩:∃ W6,w5.setCell ⟨W.heap.size,3,none⟩ (.int .i64 (M.iW r x.s x.e.x))=W6:=⟨_,rfl⟩
       have hb6:Below W.heap.size W W6:=by rw [← Uf];exact (hb2.trans (hb5.mono hb2.size)).setCell (p:=⟨W.heap.size,3,none⟩) (Nat.le_refl _) _
       have NP:Held W6 W.heap.size (vK pre.length x.e.x.aC x.rule (M.iW r x.s x.e.x) 0 false) 54:=by rw [← Uf];exact Ue.set 3 _
       rw [Uf]
       clear Uf Ue q3 Yl hb5 QM h7 h00 hb2
       have QL:=hE.below hb6
       apply wpIn_seq_k
       intro K6 hK6
       rcases hpl with hpl | hpl
       · have n1:W6.cell? ⟨W.heap.size,1,none⟩=some (.int .i64 0):=(NP.cell (j:=1) rfl).trans (by rw [hpl])
         have n4:=NP.cell (j:=4) rfl
         have Vu:=NP.frozen 4
         have ea:=QL.cell (j:=17) rfl
         have eb:=QL.cell (j:=35) rfl
         have Ov:∀ v,(fun w':World=>(∀ q,w'.cell? ⟨Be,q,none⟩=W6.cell? ⟨Be,q,none⟩)∧w'.cell? ⟨W.heap.size,1,none⟩=some (.int .i64 0)) ((W6.drew).setCell ⟨W.heap.size,4,none⟩ v):=fun v=>⟨fun q=>World.cell?_setCell_other _ _ ⟨Be,q,none⟩ v (fun e=>by cases e;omega),(World.cell?_setCell_other _ _ ⟨W.heap.size,1,none⟩ v (fun e=>by cases e)).trans n1⟩
         refine iV (S:=(fun w':World=>(∀ q,w'.cell? ⟨Be,q,none⟩=W6.cell? ⟨Be,q,none⟩)∧w'.cell? ⟨W.heap.size,1,none⟩=some (.int .i64 0))) (by kernel_rfl) (by rintro ⟨_,_,h⟩;exact h) (by kernel_rfl) ?lJ (fun hHeld=>?_)
         case lJ=>first | exact ⟨fun q=>rfl,n1⟩ | exact Ov _
         refine tk 0 ?_
         refine tk 1 ?_
         refine tk 2 ?_
         refine tk 3 ?_
         refine tk 4 ?_
         refine tk 5 ?_
         refine tk 6 ?_
         refine tk 7 ?_
         refine tk 8 ?_
         refine tk 9 ?_
         refine tk 10 ?_
         refine tk 11 ?_
         refine tk 12 ?_
         refine tk 13 ?_
         refine tk 14 ?_
         refine tk 15 ?_
         refine tr 16 fun K hK=>?_
         go_simp
         refine hK.out _ _ ?Qs (fun hHeld=>?_)
         case Qs=>(first | (first | exact ⟨fun q=>rfl,n1⟩ | exact Ov _) | (dsimp only;first | exact ⟨fun q=>rfl,n1⟩ | exact Ov _))
         clear hK K
         try simp only [Act.put,la,lz,ls]
         refine wpAnyH_done (by kernel_rfl) ?_ _
         refine hK6 _ _ ?_
         rw [show IntKind.i64.wrap (x.t.s0 - x.s.s0)=x.t.s0 - x.s.s0 from IntWalk.i64_in _ (by omega)]
         obtain ⟨W7,Oi⟩:∃ W7,(W6.setCell ⟨W.heap.size,4,none⟩ (.int .i64 (x.t.s0 - x.s.s0))).drew=W7:=⟨_,rfl⟩
         have hb7:Below W.heap.size W W7:=by rw [← Oi];exact (hb6.setCell (p:=⟨W.heap.size,4,none⟩) (Nat.le_refl _) _).drew
         have PW:Held W7 W.heap.size (vK pre.length x.e.x.aC x.rule (M.iW r x.s x.e.x) (x.t.s0 - x.s.s0) false) 54:=by rw [← Oi];exact NP.set 4 _
         rw [Oi]
         clear Oi NP hb6 QL Ov n1 n4 Vu ea eb
         have RD:=hE.below hb7
         have et:=RD.cell (j:=28) rfl
         have es:=RD.cell (j:=10) rfl
         have n5:=PW.cell (j:=5) rfl
         have Yh:=PW.frozen 5
         refine aS (by kernel_rfl) (by rintro ⟨_,_,h⟩;exact h) ?_
         go_wp2
         have hb8:Below W.heap.size W (W7.setCell ⟨W.heap.size,5,none⟩ (.bool (x.t.turn != x.s.turn))):=hb7.setCell (p:=⟨W.heap.size,5,none⟩) (Nat.le_refl _) _
         have PZ:Turn (fun _=>False) W _:=Turn.of_below hb8
         exact GO.out _ _ _ _ _ _ _ _ _ _ _ _ _ _ _ _ _ _ _ _ _ _ _ _ _ _ _ _ _ _ _ _ _ _ _ _ _ _ _ _ _ _ _ _ _ _ _ _ _ _ _ _ _ _ _ _ _ _ _ _ _ _ _ _ _ _ _ _ _ _ _ _ _ _ (PW.set 5 (.bool (x.t.turn != x.s.turn))) (hV.below hb8) (NQ.out.turn (PZ.mono (fun b h=>h.elim)) (fun b h=> .inl h) (fun b h=> .inl h)) PZ (by
          rw [VO.out,h0]
          congr 1
          · unfold M.State.score M.sel;rw [hpl];rfl
          · rw [Bool.eq_iff_iff];simp)
       · have n1:W6.cell? ⟨W.heap.size,1,none⟩=some (.int .i64 1):=(NP.cell (j:=1) rfl).trans (by rw [hpl])
         have n4:=NP.cell (j:=4) rfl
         have Vu:=NP.frozen 4
         have ea:=QL.cell (j:=18) rfl
         have eb:=QL.cell (j:=36) rfl
         have Ov:∀ v,(fun w':World=>(∀ q,w'.cell? ⟨Be,q,none⟩=W6.cell? ⟨Be,q,none⟩)∧w'.cell? ⟨W.heap.size,1,none⟩=some (.int .i64 1)) ((W6.drew).setCell ⟨W.heap.size,4,none⟩ v):=fun v=>⟨fun q=>World.cell?_setCell_other _ _ ⟨Be,q,none⟩ v (fun e=>by cases e;omega),(World.cell?_setCell_other _ _ ⟨W.heap.size,1,none⟩ v (fun e=>by cases e)).trans n1⟩
         refine iV (S:=(fun w':World=>(∀ q,w'.cell? ⟨Be,q,none⟩=W6.cell? ⟨Be,q,none⟩)∧w'.cell? ⟨W.heap.size,1,none⟩=some (.int .i64 1))) (by kernel_rfl) (by rintro ⟨_,_,h⟩;exact h) (by kernel_rfl) ?rQ (fun hHeld=>?_)
         case rQ=>first | exact ⟨fun q=>rfl,n1⟩ | exact Ov _
         refine tk 0 ?_
         refine tk 1 ?_
         refine tk 2 ?_
         refine tk 3 ?_
         refine tk 4 ?_
         refine tk 5 ?_
         refine tk 6 ?_
         refine tk 7 ?_
         refine tk 8 ?_
         refine tk 9 ?_
         refine tk 10 ?_
         refine tk 11 ?_
         refine tk 12 ?_
         refine tk 13 ?_
         refine tk 14 ?_
         refine tk 15 ?_
         refine tr 16 fun K hK=>?_
         go_simp
         refine hK.out _ _ ?Qy (fun hHeld=>?_)
         case Qy=>(first | (first | exact ⟨fun q=>rfl,n1⟩ | exact Ov _) | (dsimp only;first | exact ⟨fun q=>rfl,n1⟩ | exact Ov _))
         clear hK K
         try simp only [Act.put,la,lz,ls]
         refine wpAnyH_done (by kernel_rfl) ?_ _
         refine hK6 _ _ ?_
         rw [show IntKind.i64.wrap (x.t.s1 - x.s.s1)=x.t.s1 - x.s.s1 from IntWalk.i64_in _ (by omega)]
         obtain ⟨W7,Oi⟩:∃ W7,(W6.setCell ⟨W.heap.size,4,none⟩ (.int .i64 (x.t.s1 - x.s.s1))).drew=W7:=⟨_,rfl⟩
         have hb7:Below W.heap.size W W7:=by rw [← Oi];exact (hb6.setCell (p:=⟨W.heap.size,4,none⟩) (Nat.le_refl _) _).drew
         have PW:Held W7 W.heap.size (vK pre.length x.e.x.aC x.rule (M.iW r x.s x.e.x) (x.t.s1 - x.s.s1) false) 54:=by rw [← Oi];exact NP.set 4 _
         rw [Oi]
         clear Oi NP hb6 QL Ov n1 n4 Vu ea eb
         have RD:=hE.below hb7
         have et:=RD.cell (j:=28) rfl
         have es:=RD.cell (j:=10) rfl
         have n5:=PW.cell (j:=5) rfl
         have Yh:=PW.frozen 5
         refine aS (by kernel_rfl) (by rintro ⟨_,_,h⟩;exact h) ?_
         go_wp2
         have hb8:Below W.heap.size W (W7.setCell ⟨W.heap.size,5,none⟩ (.bool (x.t.turn != x.s.turn))):=hb7.setCell (p:=⟨W.heap.size,5,none⟩) (Nat.le_refl _) _
         have PZ:Turn (fun _=>False) W _:=Turn.of_below hb8
         exact GO.out _ _ _ _ _ _ _ _ _ _ _ _ _ _ _ _ _ _ _ _ _ _ _ _ _ _ _ _ _ _ _ _ _ _ _ _ _ _ _ _ _ _ _ _ _ _ _ _ _ _ _ _ _ _ _ _ _ _ _ _ _ _ _ _ _ _ _ _ _ _ _ _ _ _ (PW.set 5 (.bool (x.t.turn != x.s.turn))) (hV.below hb8) (NQ.out.turn (PZ.mono (fun b h=>h.elim)) (fun b h=> .inl h) (fun b h=> .inl h)) PZ (by
          rw [VO.out,h0]
          congr 1
          · unfold M.State.score M.sel;rw [hpl];simp
          · rw [Bool.eq_iff_iff];simp)
     · have h0:x.rule≠0:=by simpa using h
       refine wpIn_skip ?_
       exact GO.out W2 _ _ _ _ _ _ _ _ _ _ _ _ _ _ _ _ _ _ _ _ _ _ _ _ _ _ _ _ _ _ _ _ _ _ _ _ _ _ _ _ _ _ _ _ _ _ _ _ _ _ _ _ _ _ _ _ _ _ _ _ _ _ _ _ _ _ _ _ _ _ _ _ _ QM hV2 Kq hT2 (by
        unfold M.note
        rw [if_pos (by rw [← HT.out.rule];exact h0),HT.out.rule])
    case done=>
     intro D X Y xs W hD hS hi hdef
     obtain ⟨v,hV,iL⟩:=hi.a
     have xZ:ji r l xs.length=lH r l:=by rw [hS,yO.out];unfold ji;rw [List.take_length]
     have zu:iJ W w3.heap.size X Y 54 6 v (lH r l).length (noteCells (lH r l)):=by rw [← xZ];exact iL
     have hlr:(lH r l).length≤1000:=by rw [← xZ];have:=yh r l xs.length (by omega);have:=JH.out;omega
     obtain ⟨A2,c2,rfl⟩:=xG zu.own
     have hbw:=hi.bw
     have hWs:=hi.sz
     have c9:=hV.cell (j:=0) rfl
     have Dv:=hide hdef
     have fin:∀ (a:Act),a.defers=[{target:= .collected D,args:= #[] }]→a.tmps.getD 4 undef= .slice A2 (lH r l).length c2→a.tmps.getD 5 undef= .int .i64 0→Q' .ret a W:=by
      intro a e1 e4 e5
      rw [← HQ.out]
      refine uf e1 Dv.out (results_tmp2 rfl _ _ _) ⟨A2,c2,?_,?_,jY hbw (by omega) _⟩
      · rw [e4,e5,HE.out,h0]
      · exact Reads.kG (zu.putObj Dv.out rfl _).own (fun g hg=>by omega) (by omega)
     have FIN:=hide fin
     clear fin hi hdef iL zu hV
     refine RI _ _ ?_
     dsimp only
     refine uY ?_
     go_wp2
     exact FIN.out _ rfl rfl rfl
  · have h0':(E != 0)=true:=by simp [h0]
    have hrs:lH r l=[]:=by
     have:=HE.out
     unfold lH;rw [if_neg (by rw [this];exact h0)]
    have yO:=hide hrs
    clear h0 hrs
    go_wp2_with (first | (go_at_call 63;refine (wZ.out _ (hp.below hB.bw)).mono ?_;rintro e w1 ⟨rfl,hb1⟩;have hB1:=hB.call (by simp) hb1))
    rw [← HQ.out]
    refine vZ (results_tmp2 rfl _ _ _) rfl ⟨none,0,?_,?_,hB1.bw⟩
    · rw [yO.out,HE.out];rfl
    · rw [yO.out];exact Reads.none_ _ _ _
structure Gs (e ty tb:TypeId) (size:Nat) (w:World) (B D:Nat) (len:Nat→Nat) (rows:Nat→List Value) (op:Nat→Bool) (X Y:Nat→Prop) (xs:List wY) (W:World):Prop where
 bw:Below w.heap.size w W
 sz:D≤W.heap.size
 sep:∀ b,X b∨Y b→D≤b
 a:∃ v,Held W B [v] ty∧iJ W D X Y e size v (len xs.length) (rows xs.length)
 b:Held W (B+1) [.bool (op xs.length)] tb
section
variable {e ty tb:TypeId} {size:Nat} {w:World} {B D:Nat} {len:Nat→Nat} {rows:Nat→List Value} {op:Nat→Bool}
theorem Gs.abides (hw:w.heap.size<B) (h9:B+1<D):tq (Gs e ty tb size w B D len rows op):=by
 intro X Y pre W X' Y' W' h ht hX hY
 have hno:∀ b,b<D→¬ X b:=fun b hb hx=>by have:=h.sep b (.inl hx);omega
 obtain ⟨v,hv,ho⟩:=h.a
 refine ⟨kS h.bw ht (fun b hb=>by have:=h.sep b (.inl hb);omega) (by have:=h.sz;omega),Nat.le_trans h.sz ht.size,?_,⟨v,hv.turn ht (hno _ (by omega)),ho.turn ht hX hY⟩,h.b.turn ht (hno _ h9)⟩
 rintro b (hb | hb)
 · rcases hX b hb with h2 | h2
   · exact h.sep b (.inl h2)
   · exact Nat.le_trans h.sz h2
 · rcases hY b hb with h2 | h2
   · exact h.sep b (.inr h2)
   · exact Nat.le_trans h.sz h2
theorem Gs.putObj {X Y:Nat→Prop} {pre:List wY} {W:World} {lp:Nat} {o:Obj} (h:Gs e ty tb size w B D len rows op X Y pre W) (hD:w.heap.size≤D) (hlp:D≤lp) (hl:W.heap[lp]? =some o) (ho:o.isCells=false) (o':Obj):Gs e ty tb size w B D len rows op X Y pre (W.putObj lp o'):=by
 obtain ⟨v,hv,hw⟩:=h.a
 exact ⟨jY h.bw (by omega) _,by simpa using h.sz,h.sep,⟨v,hv.putObj hl ho _,hw.putObj hl ho _⟩,h.b.putObj hl ho _⟩
theorem Gl {X Y K:Nat→Prop} {W W6:World} {v:Value} {n:Nat} {xs:List Value} (hWs:D≤W.heap.size) (hX:∀ b,X b∨Y b→D≤b∧b<W.heap.size) (hB:B+1<D) (hK:∀ b,K b→b<D∧b≠B∧b≠B+1) (iL:iJ W D X Y e size v n xs)
 (hT:Turn (fun b=>(b=B∨b=B+1)∨v.ownBlock=some b) W W6):KeepsFrom D W W6∧lU K X Y W W6:=by
 refine ⟨⟨hT.size,fun k o hk hl hc=>(hT.block k (Array.getElem?_eq_some_iff.1 hl).1 ?_).trans hl⟩,⟨hT.size,fun b h=>hT.block b (hX b h).2 ?_,fun b h=>hT.block b (Nat.lt_of_lt_of_le (hK b h).1 hWs) ?_⟩⟩
 · rintro (h | h)
   · omega
   · obtain ⟨o2,h2,h3⟩:=(bg iL.own h).2
     rw [hl] at h2;cases h2;rw [hc] at h3;cases h3
 · have h1:=(hX b h).1
   rintro (h2 | h2)
   · omega
   · exact h.elim (iL.far b h2).1 (iL.far b h2).2
 · rintro (h2 | h2)
   · have:=hK b h;omega
   · have:=(bg iL.own h2).1;have:=(hK b h).1;omega
theorem Gs.fin {X Y K:Nat→Prop} {Ix:(Nat→Prop)→(Nat→Prop)→List wY→World→Prop} {x:wY} {pre:List wY} {W W6:World} {v nv:Value} {n:Nat} {xs:List Value} {a:Act} (hw:w.heap.size≤B) (hB:B+1<D) (hWs:D≤W.heap.size) (hbw:Below w.heap.size w W) (hsep:∀ b,X b∨Y b→D≤b)
 (hX:∀ b,X b∨Y b→D≤b∧b<W.heap.size) (hK:∀ b,K b→b<D∧b≠B∧b≠B+1) (iL:iJ W D X Y e size v n xs) (hT:Turn (fun b=>(b=B∨b=B+1)∨v.ownBlock=some b) W W6) (hV:Held W6 B [nv] ty) (hV2:Held W6 (B+1) [.bool (op (pre.length+1))] tb)
 (hO:iJ W6 D X Y e size nv (len (pre.length+1)) (rows (pre.length+1))):rU K D X Y (Gs e ty tb size w B D len rows op) Ix (pre++[x]) W .normal a W6:=by
 obtain ⟨h1,h2⟩:=Gl hWs hX hB hK iL hT
 refine ⟨h1,h2,⟨kS hbw hT ?_ (by omega),Nat.le_trans hWs hT.size,hsep,⟨nv,hV,?_⟩,?_⟩⟩
 · rintro b (h | h)
   · omega
   · have:=(bg iL.own h).1;omega
 · rw [List.length_append,List.length_singleton];exact hO
 · rw [List.length_append,List.length_singleton];exact hV2
end
def yI (r:M.Rules) (s:M.State) (x:M.aI) (q:Bool × List M.Run):Bool × List M.Run:=
 if M.legal r s x≠0 then q else if M.good r s x=false then (false,q.2) else if q.1=true then (true,M.bump (M.objects x).length q.2) else (true,q.2++[⟨x.aC,(M.objects x).length⟩])
def yB (r:M.Rules) (s:M.State) (q:Bool × List M.Run):List M.aI→Bool × List M.Run
 | []=>q
 | x::l=>yB r (M.step r s x) (yI r s x q) l
theorem Aa (r:M.Rules):∀ (l:List M.aI) (s:M.State) (q:Bool × List M.Run) (x:M.aI),yB r s q (l++[x])=yI r (M.final r s l) x (yB r s q l)
 | [],_,_,_=>rfl
 | y::l,s,q,x=>by
   rw [List.cons_append,yB,yB,Aa r l]
   rfl
theorem zZ (r:M.Rules):∀ (l:List M.aI) (s:M.State) (q:Bool × List M.Run),(yB r s q l).2=M.Ac r s q.1 q.2 l
 | [],_,_=>rfl
 | x::l,s,q=>by
   rw [yB,zZ r l,M.Ac]
   unfold yI
   split
   · rfl
   split
   · rfl
   split <;> simp_all
def JK (k:Nat) (q:Bool × List M.Run):Prop:=(q.1=true→q.2≠[])∧q.2.length≤k∧∀ a∈q.2,0≤a.points∧a.points≤20*(k:Int)
theorem wJ (n:Int):∀ l:List M.Run,(M.bump n l).length=l.length
 | []=>rfl
 | [_]=>rfl
 | _::b::l=>by rw [M.bump,List.length_cons,wJ n (b::l)];rfl
theorem AZ (n:Int) (l:List M.Run) (h:l≠[]):M.bump n l=l.dropLast++[⟨(l.getLast h).aC,(l.getLast h).points+n⟩]:=by
 conv=>lhs;rw [← List.dropLast_concat_getLast h]
 rw [M.Ba]
theorem OJ {r:M.Rules} {s:M.State} {x:M.aI} {k:Nat} {q:Bool × List M.Run} (h:JK k q) (hx:(M.objects x).length≤20):JK (k+1) (yI r s x q):=by
 obtain ⟨h1,h2,h3⟩:=h
 have h3':∀ a∈q.2,0≤a.points∧a.points≤20*((k+1:Nat):Int):=fun a ha=>by have:=h3 a ha;omega
 unfold yI
 split
 · exact ⟨h1,by omega,h3'⟩
 split
 · exact ⟨fun e=>(by cases e),by show q.2.length≤k+1;omega,h3'⟩
 split
 · next hq=>
   have hne:=h1 hq
   refine ⟨fun _ e=>?_,by show (M.bump _ _).length≤_;rw [wJ];omega,fun a ha=>?_⟩
   · have:=wJ (M.objects x).length q.2
     have e:M.bump (M.objects x).length q.2=[]:=e
     rw [e] at this
     exact hne (List.eq_nil_of_length_eq_zero (by simpa using this.symm))
   · rw [AZ _ _ hne] at ha
     rcases List.mem_append.1 ha with ha | ha
     · exact h3' a (List.dropLast_subset _ ha)
     · obtain rfl:=List.mem_singleton.1 ha
       have:=h3 _ (List.getLast_mem hne)
       simp only
       omega
 · refine ⟨fun _ e=>(by simp at e),by simp;omega,fun a ha=>?_⟩
   rcases List.mem_append.1 ha with ha | ha
   · exact h3' a ha
   · obtain rfl:=List.mem_singleton.1 ha
     simp only
     omega
theorem yj {x:M.aI} (h:M.cZ x=0):(M.objects x).length≤20:=by
 have h1:=(M.uw h).few
 have:(M.objects x).length≤x.aA.length:=by unfold M.objects;exact zJ _
 omega
def nH (r:M.Rules) (l:List Sh) (k:Nat):Bool × List M.Run:=yB r (M.start r) (false,[]) (plain (l.take k))
theorem BI (r:M.Rules) (l:List Sh) (k:Nat) (hk:k<l.length):nH r l (k+1)=yI r (lQ r l k) l[k].x (nH r l k):=by
 unfold nH lQ
 rw [List.take_succ_eq_append_getElem hk]
 unfold plain
 rw [List.map_append,List.map_cons,List.map_nil,Aa]
theorem Nv (r:M.Rules) (l:List Sh):(nH r l l.length).2=M.runs r (plain l):=by
 unfold nH
 rw [List.take_length,zZ]
 rfl
theorem Dn (r:M.Rules) (l:List Sh) (hl:∀ e∈l,M.cZ e.x=0):∀ k,k≤l.length→JK k (nH r l k)
 | 0,_=>⟨fun e=>(by cases e),Nat.le_refl _,fun a ha=>by cases ha⟩
 | k+1,h=>by
   rw [BI r l k (by omega)]
   exact OJ (Dn r l hl k (by omega)) (yj (hl _ (List.getElem_mem (by omega))))
def dN (l:List M.Run):List Value:=l.flatMap fun a=>[.int .i64 a.aC,.int .i64 a.points]
theorem kR (a b:List M.Run):dN (a++b)=dN a++dN b:=by simp [dN]
theorem kC:∀ l:List M.Run,(dN l).length=2*l.length
 | []=>rfl
 | a::l=>by
   have:=kC l
   unfold dN at this ⊢
   rw [List.flatMap_cons,List.length_append,this]
   simp
   omega
theorem AU (l:List M.Run) (h:l≠[]):(dN l)[2*(l.length - 1)+1]? =some (.int .i64 (l.getLast h).points):=by
 conv=>lhs;arg 1;rw [← List.dropLast_concat_getLast h]
 rw [kR,List.getElem?_append_right (by rw [kC,List.length_dropLast];omega),kC,List.length_dropLast]
 rw [show 2*(l.length - 1)+1 - 2*(l.length - 1)=1 by omega]
 rfl
theorem AQ (l:List M.Run) (h:l≠[]) (n:Int):(dN l).set (2*(l.length - 1)+1) (.int .i64 ((l.getLast h).points+n))=dN (M.bump n l):=by
 rw [AZ n l h]
 conv=>lhs;arg 1;rw [← List.dropLast_concat_getLast h]
 rw [kR,kR,List.set_append_right _ _ (by rw [kC,List.length_dropLast];omega),kC,List.length_dropLast]
 rw [show 2*(l.length - 1)+1 - 2*(l.length - 1)=1 by omega]
 rfl
theorem Nw:(Tryz.prog.info? 63).map (fun i=>(i.zero,i.size,i.bytes))=some (some (.agg #[.int .i64 0,.int .i64 0]),2,16):=by kernel_rfl
def lM (r:M.Rules) (l:List Sh):List M.Run:=if wP r l=0 then M.runs r (plain l) else []
theorem Ny (S:Nat→Prop) (r:M.Rules) (l:List Sh) (A:Option Addr) (c:Nat) (w:World) (hp:wG w S A c l):
 Calls Tryz.prog 24 #[jM r,.slice A l.length c] w fun e w'=>∃ A2 c2,e= .returned (.tuple #[.slice A2 (lM r l).length c2,.int .i64 (wP r l)])∧Reads w' (fun b=>w.heap.size≤b) 2 A2 (lM r l).length c2 (dN (lM r l))∧Below w.heap.size w w':=by
 refine callsIn_wide.1 (callsIn_of_wp_marks (F:=Fence.wide) (n:=5) Tryz.func24 rfl trivial ?_ rfl)
 simp only [Tryz.ntmps24,List.size_toArray,List.length_cons,List.length_nil,Nat.reduceAdd,Nat.reduceSub,Array.replicate_succ,
  Array.replicate_zero,List.push_toArray,List.append_toArray,List.nil_append,List.cons_append]
 refine wpIn_wide.2 ?_
 generalize hQ':bodyPostM Fence.wide 5 Tryz.prog _ _=Q'
 have hck:=fun W h=>check_any S r l A c W h
 obtain ⟨E,hE⟩:∃ E,aU [M.aH r,M.je (plain l)]=E:=⟨_,rfl⟩
 rw [hE] at hck
 have hE':wP r l=E:=hE
 have wZ:=hide hck
 have HE:=hide hE'
 have HQ:=hide hQ'
 clear hck hE hE' hQ'
 go_upto_region 0 with (fail)
 go_cut [2] from 2 to 5 (fun v2 wx=>v2=ptr w.heap.size∧bU w wx [([.string r.game,.int .i64 r.target,.int .i64 r.aY],23)])
 case first=>
  go_wp2
  go_meet
  exact ⟨rfl,((bU.nil w).new (by simp) ([.string r.game,.int .i64 r.target,.int .i64 r.aY]) _)⟩
 case rest=>
  obtain ⟨rfl,hB⟩:=hcut
  have k0:=(hB.bf rfl).cell (j:=0) rfl
  have GL:=(hB.bf rfl).frozen 0
  have k1:=(hB.bf rfl).cell (j:=1) rfl
  have JE:=(hB.bf rfl).frozen 1
  have k2:=(hB.bf rfl).cell (j:=2) rfl
  have Pn:=(hB.bf rfl).frozen 2
  by_cases h0:E=0
  · have h0':(E != 0)=false:=by simp [h0]
    obtain ⟨hr,hl⟩:=xB (HE.out.trans h0)
    have hrs:lM r l=M.runs r (plain l):=by
     have:=HE.out
     unfold lM;rw [if_pos (by rw [this];exact h0)]
    have yO:=hide hrs
    have HR:=hide hr
    have HL:=hide hl
    have JH:=hide (xC (HE.out.trans h0))
    go_upto_region 4 with (first | (go_at_call 63;refine (wZ.out _ (hp.below hB.bw)).mono ?_;rintro e w1 ⟨rfl,hb1⟩;have hB1:=hB.call (by simp) hb1))
    clear h0' hrs hr hl k0 GL k1 JE k2 Pn
    have j0:=(hB1.bf rfl).cell (j:=0) rfl
    have Vm:=(hB1.bf rfl).frozen 0
    have j1:=(hB1.bf rfl).cell (j:=1) rfl
    have Vo:=(hB1.bf rfl).frozen 1
    have j2:=(hB1.bf rfl).cell (j:=2) rfl
    have Vp:=(hB1.bf rfl).frozen 2
    have hsz0:w.heap.size+1≤w1.heap.size:=by simpa using hB1.size (by simp)
    have hsz1:w.heap.size<w1.heap.size:=by omega
    go_wp2_with (go_at_call 65;refine (uJ r _ _ _ _).mono ?_;rintro e w3 ⟨rfl,hC⟩)
    rename_i KQ RI
    have hb2:=(((Below.refl w1.heap.size w1).alloc (Nat.le_refl _) (.cells #[.slice none 0 0] 56)).alloc (by simp) (.cells #[.bool false] 4))
    have hA2:=(Held.new w1 [.slice none 0 0] 56).alloc (.cells #[.bool false] 4)
    have hO2:=Held.newAt (w1.alloc (.cells #[.slice none 0 0] 56)) [.bool false] 4 (g:=w1.heap.size+1) (by simp)
    have hz2:((w1.alloc (.cells #[.slice none 0 0] 56)).alloc (.cells #[.bool false] 4)).heap.size=w1.heap.size+2:=by simp
    have hD3:w1.heap.size+4≤w3.heap.size:=by
     have:=hC.size (by simp)
     simp only [List.length_cons,List.length_nil] at this
     omega
    have hb3:=(hB1.bw.trans (hb2.mono (by omega))).trans (hC.bw.mono (by omega))
    have Kt:Held w3 (w1.heap.size+2) [.string r.game,.int .i64 r.target,.int .i64 r.aY] 23:=by have:=hC.bf rfl;rwa [hz2] at this
    have Ko:Held w3 (w1.heap.size+3) [.slice A l.length c] 24:=by have:=hC.get 1 rfl;rwa [hz2] at this
    have hK3:∀ b,(fun b=>b=w1.heap.size+2∨b=w1.heap.size+3∨(S b∧b<w.heap.size)) b→b<w3.heap.size:=by rintro b (h | h | ⟨_,h⟩) <;> omega
    have RN:wG w3 (fun b=>b=w1.heap.size+2∨b=w1.heap.size+3∨(S b∧b<w.heap.size)) A c l:=(hp.more (S':=(fun b=>b=w1.heap.size+2∨b=w1.heap.size+3∨(S b∧b<w.heap.size))) (fun b hb h=> .inr (.inr ⟨h,hb⟩))).below hb3
    have hA3:=hA2.upto hC.bw (by omega)
    have hO3:=hO2.upto hC.bw (by omega)
    clear hC hA2 hO2 hb2 hz2 hb1 hB1
    refine (wpIn_wide (n:=5)).1 ?_
    refine kJ (F:=Fence.wide) rfl (by decide) rfl trivial (fun _ _=>rfl) (sN r l A c (fun b=>b=w1.heap.size+2∨b=w1.heap.size+3∨(S b∧b<w.heap.size)) _ _ 4 w3 (by decide) HR.out HL.out JH.out hK3 Kt (.inl rfl) Ko (.inr (.inl rfl)) RN) hK3 (Below.refl _ _) (fun _=>rfl) (Gs 63 56 4 2 w w1.heap.size w3.heap.size (fun k=>(nH r l k).2.length) (fun k=>dN (nH r l k).2) (fun k=>(nH r l k).1)) (fun _ _ _ _=>False) (Gs.abides (by omega) (by omega)) (fun _ _ _ _ _ _ _ h _ _ _=>h)
     (fun X Y pre W lp o o' h hlp hl ho=>h.putObj (by omega) hlp hl ho o') (fun _ _ _ _ _ _ _ h _ _ _=>h) (fun X Y pre x W lp o o' h hlp hl ho=>h.putObj hl ho o') ?h0 (fun x a W=>∃ Be v0 v1 v2 v3 v4 v5 v6 v9 v11 v12 v13 v14 v15 v16 v17 v18 v19 v20 v21 v22 v23 v24 v25 v26 v27 v28 v29 v30 v31 v32 v33 v34 v35 v36 v37 v38 v39 v40 v41 v42 v43 v44 v45 v46 v47 v48 v49 v50 v51 v52 v53 v54 v55 v56 v57 v58 v59 v60,a= {tmps:= #[v0,v1,v2,v3,v4,v5,v6,ptr w1.heap.size,ptr (w1.heap.size+1),v9,ptr Be,v11,v12,v13,v14,v15,v16,v17,v18,v19,v20,v21,v22,v23,v24,v25,v26,v27,v28,v29,v30,v31,v32,v33,v34,v35,v36,v37,v38,v39,v40,v41,v42,v43,v44,v45,v46,v47,v48,v49,v50,v51,v52,v53,v54,v55,v56,v57,v58,v59,v60],defers:=[] }∧w3.heap.size≤Be∧Held W Be (bH r x) 133) ?assign ?ap ?body ?done ?stop
    case h0=>
     intro W hW
     exact ⟨(hb3.trans (hW.mono (by omega))),hW.size,fun b h=>h.elim (fun h=>h.elim) (fun h=>h.elim),⟨.slice none 0 0,hA3.below hW,World.ownsRow_nil _ _ _ _,fun g hg=>by cases hg⟩,hO3.below hW⟩
    case ap=>
     rintro x a' W lp o o' ⟨Be,v0,v1,v2,v3,v4,v5,v6,v9,v11,v12,v13,v14,v15,v16,v17,v18,v19,v20,v21,v22,v23,v24,v25,v26,v27,v28,v29,v30,v31,v32,v33,v34,v35,v36,v37,v38,v39,v40,v41,v42,v43,v44,v45,v46,v47,v48,v49,v50,v51,v52,v53,v54,v55,v56,v57,v58,v59,v60,e2,h1,h2⟩ hlp hl ho
     exact ⟨Be,v0,v1,v2,v3,v4,v5,v6,v9,v11,v12,v13,v14,v15,v16,v17,v18,v19,v20,v21,v22,v23,v24,v25,v26,v27,v28,v29,v30,v31,v32,v33,v34,v35,v36,v37,v38,v39,v40,v41,v42,v43,v44,v45,v46,v47,v48,v49,v50,v51,v52,v53,v54,v55,v56,v57,v58,v59,v60,e2,h1,h2.putObj hl ho _⟩
    case stop=>exact fun _ _ _ _ _ _ _ h _=>h.elim
    case assign=>
     intro lp X Y pre x W K' hi ht hk Au
     have hb:=((Below.refl W.heap.size W).alloc (Nat.le_refl _) (.cells jk.toArray 133))
     have hb':=below_setCells W.heap.size (Nat.le_refl _) (bH r x) 0 _ _ hb
     have hE0:=Held.new W jk 133
     have hsz:=hi.sz
     have fin:∀ v0 v1 v2 v3 v4 v5 v6 v9 v11 v12 v13 v14 v15 v16 v17 v18 v19 v20 v21 v22 v23 v24 v25 v26 v27 v28 v29 v30 v31 v32 v33 v34 v35 v36 v37 v38 v39 v40 v41 v42 v43 v44 v45 v46 v47 v48 v49 v50 v51 v52 v53 v54 v55 v56 v57 v58 v59 v60:Value,K' {tmps:= #[v0,v1,v2,v3,v4,v5,v6,ptr w1.heap.size,ptr (w1.heap.size+1),v9,ptr W.heap.size,v11,v12,v13,v14,v15,v16,v17,v18,v19,v20,v21,v22,v23,v24,v25,v26,v27,v28,v29,v30,v31,v32,v33,v34,v35,v36,v37,v38,v39,v40,v41,v42,v43,v44,v45,v46,v47,v48,v49,v50,v51,v52,v53,v54,v55,v56,v57,v58,v59,v60],defers:=[] } ((W.alloc (.cells jk.toArray 133)).setCells W.heap.size 0 (bH r x)):=fun _ _ _ _ _ _ _ _ _ _ _ _ _ _ _ _ _ _ _ _ _ _ _ _ _ _ _ _ _ _ _ _ _ _ _ _ _ _ _ _ _ _ _ _ _ _ _ _ _ _ _ _ _ _ _ _ _ _=>
      hk _ _ ⟨hb'.size,fun k o hk hl _=>(hb'.block k (Array.getElem?_eq_some_iff.1 hl).1).trans hl⟩
       ⟨hb'.size,fun b h=>hb'.block b (Au b h),fun b h=>hb'.block b (Nat.lt_of_lt_of_le (hK3 b h) hsz)⟩
       (Gs.abides (by omega) (by omega) _ _ _ _ _ _ _ hi (Turn.of_below hb') (fun b h=> .inl h) (fun b h=> .inl h))
       ⟨ht.i,ht.lt,ht.e,ht.s,ht.t,ht.rule,ht.a.below hb',ht.b.below hb',ht.xy⟩
       ⟨W.heap.size,_,_,_,_,_,_,_,_,_,_,_,_,_,_,_,_,_,_,_,_,_,_,_,_,_,_,_,_,_,_,_,_,_,_,_,_,_,_,_,_,_,_,_,_,_,_,_,_,_,_,_,_,_,_,_,_,_,_,rfl,hsz,hE0.whole _ rfl⟩
     have FIN:=hide fin
     clear hk fin hb hb' hi ht Au hsz
     simp [zh]
     refine aS (by kernel_rfl) (by rintro ⟨_,_,h⟩;exact h) ?_
     go_wp2_with (refine aO 133 (.tmp 10) (.tmp 21) rfl ?_;refine aF hE0 (bH r x) rfl mG (tX _ _) rfl (.tmp 10) (.tmp 21) rfl rfl rfl ?_)
     exact FIN.out _ _ _ _ _ _ _ _ _ _ _ _ _ _ _ _ _ _ _ _ _ _ _ _ _ _ _ _ _ _ _ _ _ _ _ _ _ _ _ _ _ _ _ _ _ _ _ _ _ _ _ _ _ _ _ _ _ _
    case body=>
     rintro lp X Y pre x a' W hi ht ⟨Be,v0,v1,v2,v3,v4,v5,v6,v9,v11,v12,v13,v14,v15,v16,v17,v18,v19,v20,v21,v22,v23,v24,v25,v26,v27,v28,v29,v30,v31,v32,v33,v34,v35,v36,v37,v38,v39,v40,v41,v42,v43,v44,v45,v46,v47,v48,v49,v50,v51,v52,v53,v54,v55,v56,v57,v58,v59,v60,rfl,Ry,hE⟩ hlt Au hWs
     obtain ⟨v,hV,iL⟩:=hi.a
     have hO:=hi.b
     have hl0:0≤x.rule:=by rw [ht.rule];exact ug _ _ _
     have hle:l[pre.length]=x.e:=by have:=ht.e;rw [List.getElem?_eq_getElem hlt] at this;exact Option.some.inj this
     have hbw:=hi.bw
     have RQ:nH r l (pre.length+1)=yI r x.s x.e.x (nH r l pre.length):=by rw [BI r l pre.length hlt,hle, ← ht.s]
     have hbd:=Dn r l HL.out pre.length (Nat.le_of_lt hlt)
     have hll:=JH.out
     obtain ⟨op,acc,hq⟩:∃ o a,nH r l pre.length=(o,a):=⟨_,_,rfl⟩
     rw [hq] at RQ hbd
     replace hO:Held W (w1.heap.size+1) [.bool (nH r l pre.length).1] 4:=hO
     replace iL:iJ W w3.heap.size X Y 63 2 v (nH r l pre.length).2.length (dN (nH r l pre.length).2):=iL
     rw [hq] at iL hO
     obtain ⟨d1,d2,d3⟩:=hbd
     dsimp only at iL hO d1 d2 d3
     have hBlt:=hE.lt
     have e43:=hE.cell (j:=43) rfl
     have JD:=wU HR.out HL.out pre.length (Nat.le_of_lt hlt)
     rw [← ht.s] at JD
     have hck:=HL.out _ (List.getElem_mem hlt)
     rw [hle] at hck
     have fin:∀ (W6:World) (nv:Value) (o':Bool) (acc':List M.Run) (a:Act),Turn (fun b=>(b=w1.heap.size∨b=w1.heap.size+1)∨v.ownBlock=some b) W W6→Held W6 w1.heap.size [nv] 56→Held W6 (w1.heap.size+1) [.bool o'] 4→iJ W6 w3.heap.size X Y 63 2 nv acc'.length (dN acc')→yI r x.s x.e.x (op,acc)=(o',acc')→
      rU (fun b=>b=w1.heap.size+2∨b=w1.heap.size+3∨(S b∧b<w.heap.size)) w3.heap.size X Y (Gs 63 56 4 2 w w1.heap.size w3.heap.size (fun k=>(nH r l k).2.length) (fun k=>dN (nH r l k).2) (fun k=>(nH r l k).1)) (fun _ _ _ _=>False) (pre++[x]) W .normal a W6:=fun W6 nv o' acc' a hT P7 PX RS e6=>by
      rw [e6] at RQ
      exact Gs.fin (by omega) (by omega) hWs hbw hi.sep Au (by rintro b (h | h | ⟨_,h⟩) <;> omega) iL hT P7 (by rw [RQ];exact PX) (by rw [RQ];exact RS)
     have FIN:=hide fin
     have Pj:=hide ht.rule
     have hmem:x.e∈l:=by rw [← hle];exact List.getElem_mem hlt
     have hpp:=Reads.more (Reads.below (hp.2 _ hmem) hbw) (S':=fun _=>True) (fun _ _ _=>trivial)
     have hpb:=Reads.more ht.a (S':=fun _=>True) (fun _ _ _=>trivial)
     obtain ⟨q3,q4,_⟩:=wL hck
     have Vz:∀ p∈x.e.x.aA,0≤p.aJ:=fun p hp=>(q4 p hp).1.1
     have hgo:=fun W5 (hb:Below W.heap.size W W5)=>zo (fun _=>True) r x.s x.e.x x.A x.e.a x.c x.e.c W5 (Reads.below hpb hb) (Reads.below hpp hb) q3 Vz HR.out JD.group
     have hob:=fun W5 (hb:Below W.heap.size W W5)=>jC (fun _=>True) x.e.x x.e.a x.e.c W5 (Reads.below hpp hb) Vz
     have Y2:=yj hck
     have WT:=hide hgo
     have TY:=hide hob
     have HOWN:=hide iL
     have HX:=hide Au
     clear fin hi ht Au RQ hq hck hle hpp hpb q3 q4 Vz hgo hob JD iL
     apply wpIn_block
     apply wpIn_block
     apply wpIn_seq_k
     intro K1 hK1
     refine aS (by kernel_rfl) (by rintro ⟨_,_,h⟩;exact h) ?_
     go_wp2
     refine wpIn_cond_split rfl (fun h=>?_) (fun h=>?_)
     · have h0:x.rule≠0:=by have:0<x.rule:=by simpa using h
                            omega
       refine wpIn_skip ?_
       exact FIN.out W v op acc ⟨#[],[]⟩ ⟨rfl,rfl,rfl,Nat.le_refl _,fun _ _ _=>rfl⟩ hV hO HOWN.out (by unfold yI;rw [if_pos (by rw [← Pj.out];exact h0)])
     · have h0:x.rule=0:=by have:¬ 0<x.rule:=by simpa using h
                            omega
       clear h
       have Vb:¬ M.legal r x.s x.e.x≠0:=by rw [← Pj.out];simp [h0]
       have h7:W.rangeAt Be 7 (ah r x.s x.A x.c):=fun j v hj=>hE.cell (Gw r x.i x.e x.s x.t x.A x.A' x.c x.c' x.rule j v hj)
       have h00:W.rangeAt Be 0 (au x.e):=fun j v hj=>hE.cell (zi r x.i x.e x.s x.t x.A x.A' x.c x.c' x.rule j v hj)
       apply wpIn_seq_k
       intro K2 hK2
       refine aS (by kernel_rfl) (by rintro ⟨_,_,h⟩;exact h) ?_
       go_wp2_with (first | (refine aN 127 (.tmp 38) rfl ?_;refine jh (g:=Be) (o:=7) h7 Tryz.underlying127 rfl ak rfl (.tmp 38) rfl rfl ?_) | (refine aN 66 (.tmp 40) rfl ?_;refine jh (g:=Be) (o:=0) h00 Tryz.underlying66 rfl aV rfl (.tmp 40) rfl rfl ?_) | (go_at_call 69;refine (WT.out _ (Below.refl _ _)).mono ?_;rintro e W5 ⟨rfl,hb5⟩))
       have DV:=hV.below hb5
       have RP:=hO.below hb5
       have Oc:=hE.below hb5
       have Hz:Turn (fun _=>False) W W5:=Turn.of_below hb5
       have V9:=HOWN.out.turn (Hz.mono (fun b h=>h.elim)) (fun b h=> .inl h) (fun b h=> .inl h)
       have h00:W5.rangeAt Be 0 (au x.e):=fun j v hj=>Oc.cell (zi r x.i x.e x.s x.t x.A x.A' x.c x.c' x.rule j v hj)
       have o5:=RP.cell (j:=0) rfl
       have f5:=RP.frozen 0
       clear h7 e43 hE hV hO
       have G6:=hide V9
       have OZ:=hide Hz
       clear V9 Hz
       refine wpIn_cond_split rfl (fun h=>?_) (fun h=>?_)
       · have hg:M.good r x.s x.e.x=false:=by simpa using h
         clear h
         refine aS (by kernel_rfl) (by rintro ⟨_,_,h⟩;exact h) ?_
         go_wp2
         refine FIN.out _ v false acc ⟨#[],[]⟩ ((OZ.out.mono (fun b h=>h.elim)).trans (l7 (X:=fun b=>(b=w1.heap.size∨b=w1.heap.size+1)∨v.ownBlock=some b) (W:=W5) (g:=w1.heap.size+1) (.inl (.inr rfl)) [.bool false] 0) (fun b h=> .inl h)) (DV.other (by omega) 0 _) (RP.set 0 _) ⟨bT G6.out.own (fun g hg=>Below.heap_setCell W5 _ _ g (fun e=>by have:=(bg G6.out.own hg).1;have e:g=w1.heap.size+1:=e;omega)),G6.out.far⟩ (by unfold yI;rw [if_neg Vb,if_pos hg])
       · have hg:¬ M.good r x.s x.e.x=false:=by intro e;rw [e] at h;cases h
         clear h
         apply wpIn_seq_k
         intro K3 hK3
         refine aS (by kernel_rfl) (by rintro ⟨_,_,h⟩;exact h) ?_
         go_wp2
         refine wpIn_cond_split rfl (fun h=>?_) (fun h=>?_)
         · have hop:op=true:=by simpa using h
           clear h
           have hne:=d1 hop
           subst hop
           obtain ⟨g,cap,rfl,YZ,Wp⟩:=G6.out.own.form (List.length_pos_iff.2 hne)
           obtain ⟨m,hm⟩:∃ m,acc.length - 1=m:=⟨_,rfl⟩
           have hpos:=List.length_pos_iff.2 hne
           obtain ⟨pl,hpl⟩:∃ q,(acc.getLast hne).points=q:=⟨_,rfl⟩
           have hpb:=d3 _ (List.getLast_mem hne)
           rw [hpl] at hpb
           have hlast:=AU acc hne
           rw [hpl,hm,Nat.mul_comm] at hlast
           have Xr:Be≠g:=by
            intro e
            rcases G6.out.own.2 with ⟨h',_⟩ | ⟨g',cap',cur,h',_,hh,_⟩
            · cases h'
            · cases h'
              have h3:=Oc
              unfold Held at h3
              rw [e,hh] at h3
              cases h3
           have hcl:=kC acc
           have k6:W5.cell? ⟨g,m*2+1,none⟩=some (.int .i64 pl):=(G6.out.own.cellAt _ (by omega)).trans hlast
           have c5:=DV.cell (j:=0) rfl
           have hw1:IntKind.i64.wrap ((acc.length:Int) - 1)=(m:Int):=by rw [show (acc.length:Int) - 1=(m:Int) by omega];exact IntWalk.i64_in _ (by omega)
           have hw2:IntKind.i64.wrap (pl+((M.objects x.e.x).length:Int))=pl+((M.objects x.e.x).length:Int):=IntWalk.i64_in _ (by omega)
           have i1:(0:Int)≤(m:Int):=by omega
           have i2:(m:Int)<(acc.length:Int):=by omega
           have hz:∀ w6,Below W5.drew.heap.size W5.drew w6→w6.cell? ⟨g,m*2+1,none⟩=some (.int .i64 pl)∧w6.frozen? ⟨g,m*2+1,none⟩=false∧(fun w':World=>(∀ q,w'.cell? ⟨Be,q,none⟩=W5.cell? ⟨Be,q,none⟩)∧(∀ q,w'.cell? ⟨w1.heap.size,q,none⟩=W5.cell? ⟨w1.heap.size,q,none⟩)) w6:=fun w6 hb6=>
            ⟨(hb6.cell (p:=⟨g,m*2+1,none⟩) Wp).trans k6,(bT (W:=W5) G6.out.own (fun g' hg'=>by cases hg';exact hb6.block g Wp)).frozenAt _,fun q=>hb6.cell (p:=⟨Be,q,none⟩) Oc.lt,fun q=>hb6.cell (p:=⟨w1.heap.size,q,none⟩) DV.lt⟩
           have hks:∀ w6,(fun w':World=>(∀ q,w'.cell? ⟨Be,q,none⟩=W5.cell? ⟨Be,q,none⟩)∧(∀ q,w'.cell? ⟨w1.heap.size,q,none⟩=W5.cell? ⟨w1.heap.size,q,none⟩)) w6→∀ u,(fun w':World=>(∀ q,w'.cell? ⟨Be,q,none⟩=W5.cell? ⟨Be,q,none⟩)∧(∀ q,w'.cell? ⟨w1.heap.size,q,none⟩=W5.cell? ⟨w1.heap.size,q,none⟩)) (w6.setCell ⟨g,m*2+1,none⟩ u):=fun w6 h u=>
            ⟨fun q=>(World.cell?_setCell_other _ _ ⟨Be,q,none⟩ u (fun e=>Xr (by cases e;rfl))).trans (h.1 q),fun q=>(World.cell?_setCell_other _ _ ⟨w1.heap.size,q,none⟩ u (fun e=>by cases e;omega)).trans (h.2 q)⟩
           have f14:∀ w6,Below W5.drew.heap.size W5.drew w6→rU (fun b=>b=w1.heap.size+2∨b=w1.heap.size+3∨(S b∧b<w.heap.size)) w3.heap.size X Y (Gs 63 56 4 2 w w1.heap.size w3.heap.size (fun k=>(nH r l k).2.length) (fun k=>dN (nH r l k).2) (fun k=>(nH r l k).1)) (fun _ _ _ _=>False) (pre++[x]) W .normal ⟨#[],[]⟩ (w6.setCell ⟨g,m*2+1,none⟩ (.int .i64 (pl+((M.objects x.e.x).length:Int)))):=fun w6 hb6=>by
            have Fa:Below W5.heap.size W5 w6:=((Below.refl _ W5).drew).trans hb6
            have PY:Turn (fun _=>False) W5 w6:=Turn.of_below Fa
            have RS:=G6.out.turn (PY.mono (fun b h=>h.elim)) (fun b h=> .inl h) (fun b h=> .inl h)
            have hst:=(RS.own.stored (m*2+1) (.int .i64 (pl+((M.objects x.e.x).length:Int)))).1
            have hbp:=AQ acc hne (M.objects x.e.x).length
            rw [hpl,hm,Nat.mul_comm] at hbp
            rw [hbp] at hst
            refine FIN.out _ (.slice (some ⟨g,0,none⟩) acc.length cap) true (M.bump (M.objects x.e.x).length acc) ⟨#[],[]⟩ ((OZ.out.mono (fun b h=>h.elim)).trans ((PY.mono (X':=fun b=>(b=w1.heap.size∨b=w1.heap.size+1)∨(Value.slice (some ⟨g,0,none⟩) acc.length cap).ownBlock=some b) (fun b h=>h.elim)).trans (l7 (X:=fun b=>(b=w1.heap.size∨b=w1.heap.size+1)∨(Value.slice (some ⟨g,0,none⟩) acc.length cap).ownBlock=some b) (W:=w6) (g:=g) (.inr rfl) [.int .i64 (pl+((M.objects x.e.x).length:Int))] (m*2+1)) (fun b h=> .inl h)) (fun b h=> .inl h)) ((DV.below Fa).other (by omega) _ _) ((RP.below Fa).other (by omega) _ _) ⟨by rw [wJ];exact hst,G6.out.far⟩ (by unfold yI;rw [if_neg Vb,if_neg hg,if_pos rfl])
           have HZ:=hide hz
           have sH:=hide hks
           have VG:=hide f14
           clear hz hks f14 hlast hpb d3
           refine iV (S:=(fun w':World=>(∀ q,w'.cell? ⟨Be,q,none⟩=W5.cell? ⟨Be,q,none⟩)∧(∀ q,w'.cell? ⟨w1.heap.size,q,none⟩=W5.cell? ⟨w1.heap.size,q,none⟩))) (by kernel_rfl) (by rintro ⟨_,_,h⟩;exact h) (by kernel_rfl) ?lJ (fun hHeld=>?_)
           case lJ=>first | exact ⟨fun q=>rfl,fun q=>rfl⟩ | assumption | exact sH.out _ (by assumption) _
           refine tk 0 ?_
           refine tk 1 ?_
           refine tk 2 ?_
           refine tk 3 ?_
           refine tk 4 ?_
           refine tk 5 ?_
           refine tk 7 ?_
           refine wpAnyH_take (i:=8) (oi:=_) (v:=_) (ga rfl) (by kernel_rfl) (by kernel_rfl) (by kernel_rfl) (fun _ _ _ h=>h) (yieldsIf_load_mid (by rfl) _ _ (by rfl) _ _ (by rfl) _ _ (fun W (hS:(fun w':World=>(∀ q,w'.cell? ⟨Be,q,none⟩=W5.cell? ⟨Be,q,none⟩)∧(∀ q,w'.cell? ⟨w1.heap.size,q,none⟩=W5.cell? ⟨w1.heap.size,q,none⟩)) W)=>(show W.rangeAt Be 0 (au x.e) from fun j v hj=>(hS.1 _).trans (h00 j v hj))) Tryz.underlying66 rfl (by kernel_rfl)) (by assumption) ?_
           try simp only [Act.put,la,lz,ls]
           refine wpAnyH_ready (rs:=[6,9]) (by kernel_rfl) (by simp) ?_
           refine AllReadyH.cons (o:=_) (ga rfl) (fun K hK=>?_) (AllReadyH.cons (o:=_) (ga rfl) (fun K hK=>?_) AllReadyH.nil)
           · go_simp
             refine hK.out _ _ ?MC (fun hHeld=>?_)
             case MC=>(first | (first | exact ⟨fun q=>rfl,fun q=>rfl⟩ | assumption | exact sH.out _ (by assumption) _) | (dsimp only;first | exact ⟨fun q=>rfl,fun q=>rfl⟩ | assumption | exact sH.out _ (by assumption) _))
             clear hK K
             try simp only [Act.put,la,lz,ls]
             refine tr 9 fun K hK=>?_
             go_simp
             (go_at_call 70;refine (TY.out _ hb5.drew).mono ?_;rintro e w6 ⟨A6,c6,rfl,_,hb6⟩;obtain ⟨k7,f7,s7⟩:=HZ.out _ hb6)
             refine hK.out _ _ ?MJ (fun hHeld=>?_)
             case MJ=>(first | (first | exact ⟨fun q=>rfl,fun q=>rfl⟩ | assumption | exact sH.out _ (by assumption) _) | (dsimp only;first | exact ⟨fun q=>rfl,fun q=>rfl⟩ | assumption | exact sH.out _ (by assumption) _))
             clear hK K
             try simp only [Act.put,la,lz,ls]
             refine tk 10 ?_
             refine tk 11 ?_
             refine tk 12 ?_
             refine tk 13 ?_
             refine tr 14 fun K hK=>?_
             go_simp
             refine hK.out _ _ ?Jd (fun hHeld=>?_)
             case Jd=>(first | (first | exact ⟨fun q=>rfl,fun q=>rfl⟩ | assumption | exact sH.out _ (by assumption) _) | (dsimp only;first | exact ⟨fun q=>rfl,fun q=>rfl⟩ | assumption | exact sH.out _ (by assumption) _))
             clear hK K
             try simp only [Act.put,la,lz,ls]
             refine wpAnyH_done (by kernel_rfl) ?_ _
             exact VG.out _ (by assumption)
           · go_simp
             (go_at_call 70;refine (TY.out _ hb5.drew).mono ?_;rintro e w6 ⟨A6,c6,rfl,_,hb6⟩;obtain ⟨k7,f7,s7⟩:=HZ.out _ hb6)
             refine hK.out _ _ ?zU (fun hHeld=>?_)
             case zU=>(first | (first | exact ⟨fun q=>rfl,fun q=>rfl⟩ | assumption | exact sH.out _ (by assumption) _) | (dsimp only;first | exact ⟨fun q=>rfl,fun q=>rfl⟩ | assumption | exact sH.out _ (by assumption) _))
             clear hK K
             try simp only [Act.put,la,lz,ls]
             refine tk 10 ?_
             refine tr 6 fun K hK=>?_
             go_simp
             refine hK.out _ _ ?MF (fun hHeld=>?_)
             case MF=>(first | (first | exact ⟨fun q=>rfl,fun q=>rfl⟩ | assumption | exact sH.out _ (by assumption) _) | (dsimp only;first | exact ⟨fun q=>rfl,fun q=>rfl⟩ | assumption | exact sH.out _ (by assumption) _))
             clear hK K
             try simp only [Act.put,la,lz,ls]
             refine tk 11 ?_
             refine tk 12 ?_
             refine tk 13 ?_
             refine tr 14 fun K hK=>?_
             go_simp
             refine hK.out _ _ ?Je (fun hHeld=>?_)
             case Je=>(first | (first | exact ⟨fun q=>rfl,fun q=>rfl⟩ | assumption | exact sH.out _ (by assumption) _) | (dsimp only;first | exact ⟨fun q=>rfl,fun q=>rfl⟩ | assumption | exact sH.out _ (by assumption) _))
             clear hK K
             try simp only [Act.put,la,lz,ls]
             refine wpAnyH_done (by kernel_rfl) ?_ _
             exact VG.out _ (by assumption)
         · have hop:op=false:=by simpa using h
           clear h
           subst hop
           obtain ⟨i0,hi0,hz0,hz1,hz2⟩:=info_parts Nw
           have hv5:=DV.cell (j:=0) rfl
           have k0:=Oc.cell (j:=0) rfl
           have Xq:Be≠w1.heap.size:=by omega
           have PV:Be<W5.heap.size:=Oc.lt
           have hz:∀ w6,Below W5.drew.heap.size W5.drew w6→w6.cell? ⟨w1.heap.size,0,none⟩=some v∧w6.frozen? ⟨w1.heap.size,0,none⟩=false∧(fun w':World=>∀ q,w'.cell? ⟨Be,q,none⟩=W5.cell? ⟨Be,q,none⟩) w6:=fun w6 hb6=>
            ⟨(hb6.cell (p:=⟨w1.heap.size,0,none⟩) DV.lt).trans hv5,(DV.below (((Below.refl _ W5).drew).trans hb6)).frozen 0,fun q=>hb6.cell (p:=⟨Be,q,none⟩) PV⟩
           have hks:∀ w6,(fun w':World=>∀ q,w'.cell? ⟨Be,q,none⟩=W5.cell? ⟨Be,q,none⟩) w6→∀ u,(fun w':World=>∀ q,w'.cell? ⟨Be,q,none⟩=W5.cell? ⟨Be,q,none⟩) (w6.setCell ⟨w1.heap.size,0,none⟩ u):=fun w6 h u q=>(World.cell?_setCell_other _ _ ⟨Be,q,none⟩ u (fun e=>Xq (by cases e;rfl))).trans (h q)
           have hrw:∀ w6,Below W5.drew.heap.size W5.drew w6→iJ w6 w3.heap.size X Y 63 2 v acc.length (dN acc):=fun w6 hb6=>
            G6.out.turn ((Turn.of_below (((Below.refl _ W5).drew).trans hb6)).mono (X:=fun _=>False) (fun b h=>h.elim)) (fun b h=> .inl h) (fun b h=> .inl h)
           have Qd:∀ w6,Below W5.drew.heap.size W5.drew w6→w3.heap.size≤w6.heap.size:=fun w6 hb6=>by
            have h1:=hb6.size
            have h2:=hb5.size
            have h1:W5.heap.size≤w6.heap.size:=h1
            omega
           have hka:∀ w6,Below W5.drew.heap.size W5.drew w6→∀ o,(fun w':World=>∀ q,w'.cell? ⟨Be,q,none⟩=W5.cell? ⟨Be,q,none⟩) (w6.alloc o):=fun w6 hb6 o q=>(World.cell?_alloc_lt _ _ ⟨Be,q,none⟩ (Nat.lt_of_lt_of_le PV hb6.size)).trans (hb6.cell (p:=⟨Be,q,none⟩) PV)
           have hBg:∀ g,v.ownBlock=some g→Be≠g:=fun g hg e=>by
            rcases G6.out.own.2 with ⟨h',_⟩ | ⟨g',cap',cur,h',_,hh,_⟩
            · rw [h'] at hg;cases hg
            · rw [h'] at hg
              cases hg
              have h3:=Oc
              unfold Held at h3
              rw [e,hh] at h3
              cases h3
           have hap:∀ w6,Below W5.drew.heap.size W5.drew w6→∀ o w7,(w6.alloc o).grownBy w7 v.ownBlock→w7.cell? ⟨w1.heap.size,0,none⟩=some v∧w7.frozen? ⟨w1.heap.size,0,none⟩=false∧(fun w':World=>∀ q,w'.cell? ⟨Be,q,none⟩=W5.cell? ⟨Be,q,none⟩) w7:=fun w6 hb6 o w7 hgr=>by
            have P7:=DV.below (((Below.refl _ W5).drew).trans hb6)
            have iQ:=P7.lt
            have U5:W5.heap.size≤w6.heap.size:=hb6.size
            have U2:=(hgr.block w1.heap.size (by simp;omega) (fun e=>by have:=(bg G6.out.own e.symm).1;omega)).trans (P7.alloc o)
            exact ⟨Held.cell (t:=56) (cs:=[v]) U2 rfl,Held.frozen (t:=56) (cs:=[v]) U2 0,fun q=>(hgr.cell_far ⟨Be,q,none⟩ (by simp;omega) (fun e=>hBg _ e.symm rfl)).trans (hka w6 hb6 o q)⟩
           have f8:∀ w6,Below W5.drew.heap.size W5.drew w6→∀ o w7 g1 cap,(w6.alloc o).grownBy w7 v.ownBlock→w7.ownsRow w3.heap.size 63 2 (.slice (some ⟨g1,0,none⟩) (acc.length+1) cap) (acc.length+1) (dN acc++[.int .i64 x.e.x.aC,.int .i64 ((M.objects x.e.x).length:Int)])→(v.ownBlock=some g1∨g1=w6.heap.size+1)→
            Held (w7.setCell ⟨w1.heap.size,0,none⟩ (.slice (some ⟨g1,0,none⟩) (acc.length+1) cap)) (w1.heap.size+1) [.bool false] 4∧rU (fun b=>b=w1.heap.size+2∨b=w1.heap.size+3∨(S b∧b<w.heap.size)) w3.heap.size X Y (Gs 63 56 4 2 w w1.heap.size w3.heap.size (fun k=>(nH r l k).2.length) (fun k=>dN (nH r l k).2) (fun k=>(nH r l k).1)) (fun _ _ _ _=>False) (pre++[x]) W .normal ⟨#[],[]⟩ ((w7.setCell ⟨w1.heap.size,0,none⟩ (.slice (some ⟨g1,0,none⟩) (acc.length+1) cap)).setCell ⟨w1.heap.size+1,0,none⟩ (.bool true)):=fun w6 hb6 o w7 g1 cap hgr lF hat=>by
            have Fa:Below W5.heap.size W5 w6:=((Below.refl _ W5).drew).trans hb6
            have U5:W5.heap.size≤w6.heap.size:=hb6.size
            have XK:=hb5.size
            have PY:Turn (fun _=>False) W5 w6:=Turn.of_below Fa
            have RS:=hrw w6 hb6
            have PX:=RP.below Fa
            have iQ:=PX.lt
            obtain ⟨U2,PZ,XE,U0⟩:=yQ (DV.below Fa) (by omega) RS (fun b h=>by have:=(HX.out b h).2;omega) (Qd w6 hb6) hgr lF hat rfl
            have XA:Held w7 (w1.heap.size+1) [.bool false] 4:=(hgr.block _ (by simp;omega) (fun e=>by have:=(bg G6.out.own e.symm).1;omega)).trans (PX.alloc o)
            have V8:=XA.other (g':=w1.heap.size) (by omega) 0 (.slice (some ⟨g1,0,none⟩) (acc.length+1) cap)
            refine ⟨V8,?_⟩
            have XH:∀ b,(b=w1.heap.size∨v.ownBlock=some b)→((b=w1.heap.size∨b=w1.heap.size+1)∨v.ownBlock=some b):=fun b h=>h.elim (fun h=> .inl (.inl h)) .inr
            refine FIN.out _ (.slice (some ⟨g1,0,none⟩) (acc.length+1) cap) true (acc++[⟨x.e.x.aC,(M.objects x.e.x).length⟩]) ⟨#[],[]⟩ ((OZ.out.mono (fun b h=>h.elim)).trans ((PY.mono (X':=fun b=>(b=w1.heap.size∨b=w1.heap.size+1)∨v.ownBlock=some b) (fun b h=>h.elim)).trans ((PZ.mono XH).trans (l7 (X:=fun b=>(b=w1.heap.size∨b=w1.heap.size+1)∨v.ownBlock=some b) (g:=w1.heap.size+1) (.inl (.inr rfl)) [.bool true] 0) (fun b h=> .inl h)) (fun b h=> .inl h)) (fun b h=> .inl h)) (XE.other (by omega) _ _) (V8.set 0 _) ⟨?_,U0.far⟩ (by unfold yI;rw [if_neg Vb,if_neg hg,if_neg (by simp)])
            rw [List.length_append,kR]
            exact bT U0.own (fun g hg=>Below.heap_setCell _ _ _ g (fun e=>by have:=(bg U0.own hg).1;have e:g=w1.heap.size+1:=e;omega))
           have HZ:=hide hz
           have sH:=hide hks
           have wH:=hide hka
           have VH:=hide (fun w6 (hb6:Below W5.drew.heap.size W5.drew w6)=>((DV.below (((Below.refl _ W5).drew).trans hb6)).alloc (.cells #[.int .i64 x.e.x.aC,.int .i64 ((M.objects x.e.x).length:Int)] 63)).cell (j:=0) rfl)
           have HRW:=hide hrw
           have UF:=hide Qd
           have Uu:=hide (fun w6 (hb6:Below W5.drew.heap.size W5.drew w6) w7 hg=>hap w6 hb6 (.cells #[.int .i64 x.e.x.aC,.int .i64 ((M.objects x.e.x).length:Int)] 63) w7 hg)
           have F8:=hide f8
           clear hz hks hka hrw Qd hap f8 hBg o5 f5
           apply wpIn_seq_k
           intro K4 hK4
           refine iV (S:=(fun w':World=>∀ q,w'.cell? ⟨Be,q,none⟩=W5.cell? ⟨Be,q,none⟩)) (by kernel_rfl) (by rintro ⟨_,_,h⟩;exact h) (by kernel_rfl) ?rQ (fun hHeld=>?_)
           case rQ=>first | exact fun q=>rfl | assumption | exact wH.out _ (by assumption) _ | exact sH.out _ (by assumption) _
           refine tk 1 ?_
           refine tk 2 ?_
           refine tk 3 ?_
           refine tk 4 ?_
           refine wpAnyH_take (i:=5) (oi:=_) (v:=_) (ga rfl) (by kernel_rfl) (by kernel_rfl) (by kernel_rfl) (fun _ _ _ h=>h) (yieldsIf_load_mid (by rfl) _ _ (by rfl) _ _ (by rfl) _ _ (fun W (hS:(fun w':World=>∀ q,w'.cell? ⟨Be,q,none⟩=W5.cell? ⟨Be,q,none⟩) W)=>(show W.rangeAt Be 0 (au x.e) from fun j v hj=>(hS _).trans (h00 j v hj))) Tryz.underlying66 rfl (by kernel_rfl)) (by assumption) ?_
           try simp only [Act.put,la,lz,ls]
           refine wpAnyH_ready (rs:=[0,6]) (by kernel_rfl) (by simp) ?_
           refine AllReadyH.cons (o:=_) (ga rfl) (fun K hK=>?_) (AllReadyH.cons (o:=_) (ga rfl) (fun K hK=>?_) AllReadyH.nil)
           · go_simp
             refine hK.out _ _ ?MN (fun hHeld=>?_)
             case MN=>(first | (first | exact fun q=>rfl | assumption | exact wH.out _ (by assumption) _ | exact sH.out _ (by assumption) _) | (dsimp only;first | exact fun q=>rfl | assumption | exact wH.out _ (by assumption) _ | exact sH.out _ (by assumption) _))
             clear hK K
             try simp only [Act.put,la,lz,ls]
             refine tr 6 fun K hK=>?_
             go_simp
             (go_at_call 70;refine (TY.out _ hb5.drew).mono ?_;rintro e w6 ⟨A6,c6,rfl,_,hb6⟩;obtain ⟨c7,f7,s7⟩:=HZ.out _ hb6;have c9:=VH.out _ hb6)
             refine hK.out _ _ ?MQ (fun hHeld=>?_)
             case MQ=>(first | (first | exact fun q=>rfl | assumption | exact wH.out _ (by assumption) _ | exact sH.out _ (by assumption) _) | (dsimp only;first | exact fun q=>rfl | assumption | exact wH.out _ (by assumption) _ | exact sH.out _ (by assumption) _))
             clear hK K
             try simp only [Act.put,la,lz,ls]
             refine tk 7 ?_
             refine tk 8 ?_
             refine tr 9 fun K hK=>?_
             go_simp
             refine hK.out _ _ ?MS (fun hHeld=>?_)
             case MS=>(first | (first | exact fun q=>rfl | assumption | exact wH.out _ (by assumption) _ | exact sH.out _ (by assumption) _) | (dsimp only;first | exact fun q=>rfl | assumption | exact wH.out _ (by assumption) _ | exact sH.out _ (by assumption) _))
             clear hK K
             try simp only [Act.put,la,lz,ls]
             refine tr 10 fun K hK=>?_
             refine step_append_lies _ (by rfl) _ _ _ (by rfl) w3.heap.size 63 i0 (.agg #[.int .i64 0,.int .i64 0]) 2 16 Tryz.underlying56 hi0 hz0 hz1 hz2 rfl (by omega) _ _ _ (by rfl) ((HRW.out _ hb6).own.alloc _) ⟨w6.heap.size,0,none⟩ 1 1 [.int .i64 x.e.x.aC,.int .i64 ((M.objects x.e.x).length:Int)] (by rfl) (by rfl) (dK _ _ _ _ rfl) (by simp [Value.oneCell']) (by omega) (by simp only [maxLen];omega) (by omega) (by have:=UF.out _ hb6;simp;omega) (w6.heap.size+1) (by simp) ?_;intro g1 cap w7 lF bG uK H9;obtain ⟨c8,f8,s8⟩:=Uu.out _ hb6 _ bG
             refine hK.out _ _ ?Jk (fun hHeld=>?_)
             case Jk=>(first | (first | exact fun q=>rfl | assumption | exact wH.out _ (by assumption) _ | exact sH.out _ (by assumption) _) | (dsimp only;first | exact fun q=>rfl | assumption | exact wH.out _ (by assumption) _ | exact sH.out _ (by assumption) _))
             clear hK K
             try simp only [Act.put,la,lz,ls]
             refine tr 11 fun K hK=>?_
             go_simp
             refine hK.out _ _ ?Jo (fun hHeld=>?_)
             case Jo=>(first | (first | exact fun q=>rfl | assumption | exact wH.out _ (by assumption) _ | exact sH.out _ (by assumption) _) | (dsimp only;first | exact fun q=>rfl | assumption | exact wH.out _ (by assumption) _ | exact sH.out _ (by assumption) _))
             clear hK K
             try simp only [Act.put,la,lz,ls]
             refine wpAnyH_done (by kernel_rfl) ?_ _
             obtain ⟨O7,O6⟩:=F8.out _ hb6 _ _ _ _ bG lF uK
             have o9:=O7.cell (j:=0) rfl
             have f9:=O7.frozen 0
             refine hK4 _ _ ?_
             refine aS (by kernel_rfl) (by rintro ⟨_,_,h⟩;exact h) ?_
             have Q8:=hide O6
             clear O6
             go_wp2
             exact Q8.out
           · go_simp
             (go_at_call 70;refine (TY.out _ hb5.drew).mono ?_;rintro e w6 ⟨A6,c6,rfl,_,hb6⟩;obtain ⟨c7,f7,s7⟩:=HZ.out _ hb6;have c9:=VH.out _ hb6)
             refine hK.out _ _ ?MR (fun hHeld=>?_)
             case MR=>(first | (first | exact fun q=>rfl | assumption | exact wH.out _ (by assumption) _ | exact sH.out _ (by assumption) _) | (dsimp only;first | exact fun q=>rfl | assumption | exact wH.out _ (by assumption) _ | exact sH.out _ (by assumption) _))
             clear hK K
             try simp only [Act.put,la,lz,ls]
             refine tk 7 ?_
             refine tk 8 ?_
             refine wpAnyH_ready (rs:=[0,9]) (by kernel_rfl) (by simp) ?_
             refine AllReadyH.cons (o:=_) (ga rfl) (fun K hK=>?_) (AllReadyH.cons (o:=_) (ga rfl) (fun K hK=>?_) AllReadyH.nil)
             · go_simp
               refine hK.out _ _ ?MO (fun hHeld=>?_)
               case MO=>(first | (first | exact fun q=>rfl | assumption | exact wH.out _ (by assumption) _ | exact sH.out _ (by assumption) _) | (dsimp only;first | exact fun q=>rfl | assumption | exact wH.out _ (by assumption) _ | exact sH.out _ (by assumption) _))
               clear hK K
               try simp only [Act.put,la,lz,ls]
               refine tr 9 fun K hK=>?_
               go_simp
               refine hK.out _ _ ?MV (fun hHeld=>?_)
               case MV=>(first | (first | exact fun q=>rfl | assumption | exact wH.out _ (by assumption) _ | exact sH.out _ (by assumption) _) | (dsimp only;first | exact fun q=>rfl | assumption | exact wH.out _ (by assumption) _ | exact sH.out _ (by assumption) _))
               clear hK K
               try simp only [Act.put,la,lz,ls]
               refine tr 10 fun K hK=>?_
               refine step_append_lies _ (by rfl) _ _ _ (by rfl) w3.heap.size 63 i0 (.agg #[.int .i64 0,.int .i64 0]) 2 16 Tryz.underlying56 hi0 hz0 hz1 hz2 rfl (by omega) _ _ _ (by rfl) ((HRW.out _ hb6).own.alloc _) ⟨w6.heap.size,0,none⟩ 1 1 [.int .i64 x.e.x.aC,.int .i64 ((M.objects x.e.x).length:Int)] (by rfl) (by rfl) (dK _ _ _ _ rfl) (by simp [Value.oneCell']) (by omega) (by simp only [maxLen];omega) (by omega) (by have:=UF.out _ hb6;simp;omega) (w6.heap.size+1) (by simp) ?_;intro g1 cap w7 lF bG uK H9;obtain ⟨c8,f8,s8⟩:=Uu.out _ hb6 _ bG
               refine hK.out _ _ ?Jl (fun hHeld=>?_)
               case Jl=>(first | (first | exact fun q=>rfl | assumption | exact wH.out _ (by assumption) _ | exact sH.out _ (by assumption) _) | (dsimp only;first | exact fun q=>rfl | assumption | exact wH.out _ (by assumption) _ | exact sH.out _ (by assumption) _))
               clear hK K
               try simp only [Act.put,la,lz,ls]
               refine tr 11 fun K hK=>?_
               go_simp
               refine hK.out _ _ ?Jp (fun hHeld=>?_)
               case Jp=>(first | (first | exact fun q=>rfl | assumption | exact wH.out _ (by assumption) _ | exact sH.out _ (by assumption) _) | (dsimp only;first | exact fun q=>rfl | assumption | exact wH.out _ (by assumption) _ | exact sH.out _ (by assumption) _))
               clear hK K
               try simp only [Act.put,la,lz,ls]
               refine wpAnyH_done (by kernel_rfl) ?_ _
               obtain ⟨O7,O6⟩:=F8.out _ hb6 _ _ _ _ bG lF uK
               have o9:=O7.cell (j:=0) rfl
               have f9:=O7.frozen 0
               refine hK4 _ _ ?_
               refine aS (by kernel_rfl) (by rintro ⟨_,_,h⟩;exact h) ?_
               have Q8:=hide O6
               clear O6
               go_wp2
               exact Q8.out
             · go_simp
               refine hK.out _ _ ?MW (fun hHeld=>?_)
               case MW=>(first | (first | exact fun q=>rfl | assumption | exact wH.out _ (by assumption) _ | exact sH.out _ (by assumption) _) | (dsimp only;first | exact fun q=>rfl | assumption | exact wH.out _ (by assumption) _ | exact sH.out _ (by assumption) _))
               clear hK K
               try simp only [Act.put,la,lz,ls]
               refine tr 0 fun K hK=>?_
               go_simp
               refine hK.out _ _ ?MP (fun hHeld=>?_)
               case MP=>(first | (first | exact fun q=>rfl | assumption | exact wH.out _ (by assumption) _ | exact sH.out _ (by assumption) _) | (dsimp only;first | exact fun q=>rfl | assumption | exact wH.out _ (by assumption) _ | exact sH.out _ (by assumption) _))
               clear hK K
               try simp only [Act.put,la,lz,ls]
               refine tr 10 fun K hK=>?_
               refine step_append_lies _ (by rfl) _ _ _ (by rfl) w3.heap.size 63 i0 (.agg #[.int .i64 0,.int .i64 0]) 2 16 Tryz.underlying56 hi0 hz0 hz1 hz2 rfl (by omega) _ _ _ (by rfl) ((HRW.out _ hb6).own.alloc _) ⟨w6.heap.size,0,none⟩ 1 1 [.int .i64 x.e.x.aC,.int .i64 ((M.objects x.e.x).length:Int)] (by rfl) (by rfl) (dK _ _ _ _ rfl) (by simp [Value.oneCell']) (by omega) (by simp only [maxLen];omega) (by omega) (by have:=UF.out _ hb6;simp;omega) (w6.heap.size+1) (by simp) ?_;intro g1 cap w7 lF bG uK H9;obtain ⟨c8,f8,s8⟩:=Uu.out _ hb6 _ bG
               refine hK.out _ _ ?Jm (fun hHeld=>?_)
               case Jm=>(first | (first | exact fun q=>rfl | assumption | exact wH.out _ (by assumption) _ | exact sH.out _ (by assumption) _) | (dsimp only;first | exact fun q=>rfl | assumption | exact wH.out _ (by assumption) _ | exact sH.out _ (by assumption) _))
               clear hK K
               try simp only [Act.put,la,lz,ls]
               refine tr 11 fun K hK=>?_
               go_simp
               refine hK.out _ _ ?Jq (fun hHeld=>?_)
               case Jq=>(first | (first | exact fun q=>rfl | assumption | exact wH.out _ (by assumption) _ | exact sH.out _ (by assumption) _) | (dsimp only;first | exact fun q=>rfl | assumption | exact wH.out _ (by assumption) _ | exact sH.out _ (by assumption) _))
               clear hK K
               try simp only [Act.put,la,lz,ls]
               refine wpAnyH_done (by kernel_rfl) ?_ _
               obtain ⟨O7,O6⟩:=F8.out _ hb6 _ _ _ _ bG lF uK
               have o9:=O7.cell (j:=0) rfl
               have f9:=O7.frozen 0
               refine hK4 _ _ ?_
               refine aS (by kernel_rfl) (by rintro ⟨_,_,h⟩;exact h) ?_
               have Q8:=hide O6
               clear O6
               go_wp2
               exact Q8.out
    case done=>
     intro D X Y xs W hD hS hi hdef
     obtain ⟨v,hV,iL⟩:=hi.a
     have xZ:(nH r l xs.length).2=lM r l:=by rw [hS,yO.out];exact Nv r l
     have zu:iJ W w3.heap.size X Y 63 2 v (lM r l).length (dN (lM r l)):=by rw [← xZ];exact iL
     have hlr:(lM r l).length≤1000:=by rw [← xZ];have:=(Dn r l HL.out xs.length (by omega)).2.1;have:=JH.out;omega
     obtain ⟨A2,c2,rfl⟩:=xG zu.own
     have hbw:=hi.bw
     have hWs:=hi.sz
     have c9:=hV.cell (j:=0) rfl
     have Dv:=hide hdef
     have fin:∀ (a:Act),a.defers=[{target:= .collected D,args:= #[] }]→a.tmps.getD 4 undef= .slice A2 (lM r l).length c2→a.tmps.getD 5 undef= .int .i64 0→Q' .ret a W:=by
      intro a e1 e4 e5
      rw [← HQ.out]
      refine uf e1 Dv.out (results_tmp2 rfl _ _ _) ⟨A2,c2,?_,?_,jY hbw (by omega) _⟩
      · rw [e4,e5,HE.out,h0]
      · exact Reads.kG (zu.putObj Dv.out rfl _).own (fun g hg=>by omega) (by omega)
     have FIN:=hide fin
     clear fin hi hdef iL zu hV
     refine RI _ _ ?_
     dsimp only
     refine uY ?_
     go_wp2
     exact FIN.out _ rfl rfl rfl
  · have h0':(E != 0)=true:=by simp [h0]
    have hrs:lM r l=[]:=by
     have:=HE.out
     unfold lM;rw [if_neg (by rw [this];exact h0)]
    have yO:=hide hrs
    clear h0 hrs
    go_wp2_with (first | (go_at_call 63;refine (wZ.out _ (hp.below hB.bw)).mono ?_;rintro e w1 ⟨rfl,hb1⟩;have hB1:=hB.call (by simp) hb1))
    rw [← HQ.out]
    refine vZ (results_tmp2 rfl _ _ _) rfl ⟨none,0,?_,?_,hB1.bw⟩
    · rw [yO.out,HE.out];rfl
    · rw [yO.out];exact Reads.none_ _ _ _
end Go.Proofs.YtelpepbpdojikaaGreatDoor
