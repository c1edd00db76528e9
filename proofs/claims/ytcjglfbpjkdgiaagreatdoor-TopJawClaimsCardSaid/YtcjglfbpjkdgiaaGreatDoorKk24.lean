/- Parts of a proof. -/
import Derived.Test.YtcjglfbpjkdgiaaGreatDoorKk19
import Derived.Test.YtcjglfbpjkdgiaaGreatDoorKk41
set_option maxHeartbeats 4000000
set_option maxRecDepth 100000
set_option linter.unusedVariables false
set_option linter.unusedSimpArgs false
namespace Go.Proofs.YtcjglfbpjkdgiaaGreatDoor
open Go.RowKit
def jF (r:M.Rules) (l:List Sh) (k:Nat):M.State:=M.final r (M.start r) (plain (l.take k))
theorem qm (r:M.Rules) (l:List Sh) (k:Nat) (hk:k<l.length):jF r l (k+1)=M.step r (jF r l k) l[k].x:=by
 unfold jF M.final plain
 rw [List.take_succ_eq_append_getElem hk,List.map_append,List.foldl_append]
 rfl
theorem yh {r:M.Rules} {l:List Sh} (hr:M.aQ r=0) (hl:∀ e∈l,M.bT e.x=0):∀ k,k≤l.length→M.Ok r (1+16*(k:Int)) (jF r l k)
 | 0,_=>by
   have:jF r l 0=M.start r:=by unfold jF;simp [plain,M.final]
   rw [this];exact (M.WS r).more (by omega)
 | k+1,hk=>by
   rw [qm r l k (by omega)];exact (M.step_ok hr (yh hr hl k (by omega)) (M.lV (hl _ (List.getElem_mem _))) (by omega)).more (by omega)
structure wY where
 i:Nat
 e:Sh
 s:M.State
 A:Option Addr
 c:Nat
 t:M.State
 A':Option Addr
 c':Nat
 rule:Int
def bY (r:M.Rules) (x:wY):List Value:=aA x.e++aj r x.s x.A x.c++aj r x.t x.A' x.c'++[.int .i64 x.rule]
def yS (r:M.Rules) (x:wY):Array Value:= #[.int .i64 (x.i:Int),.agg (bY r x).toArray]
def Le:List Value:=[.int .i64 0,.string ⟨#[]⟩,.int .i64 0,.int .i64 0,.int .i64 0,.bool false,.slice none 0 0]
def gW:List Value:=Le++aY++aY++[.int .i64 0]
theorem lF:(Tryz.prog.info? 106).map (·.size)=some 44:=by kernel_rfl
theorem qZ (r:M.Rules) (x:wY):∀ v∈bY r x,v.oneCell'=true:=by
 intro v hv
 unfold bY at hv
 rw [List.mem_append,List.mem_append,List.mem_append] at hv
 rcases hv with ((h | h) | h) | h
 · revert v;simp [aA,Value.oneCell']
 · exact bM _ _ _ _ v h
 · exact bM _ _ _ _ v h
 · rw [List.mem_singleton] at h;subst h;rfl
theorem KC (e:Sh):∀ v∈aA e,v.oneCell'=true:=by simp [aA,Value.oneCell']
theorem Held.G9 {g:Nat} {t:TypeId}:∀ (vs pre mid post:List Value) (W:World),Held W g (pre++mid++post) t→mid.length=vs.length→Held (W.setCells g pre.length vs) g (pre++vs++post) t
 | [],pre,mid,post,W,h,hl=>by
   obtain rfl:=List.eq_nil_of_length_eq_zero (by simpa using hl);exact h
 | v::r,pre,[],post,W,h,hl=>by cases hl
 | v::r,pre,u::mid,post,W,h,hl=>by
   have h1:=h.set pre.length v;rw [show (pre++u::mid++post).set pre.length v=(pre++[v])++mid++post by simp] at h1;have h2:=Held.G9 r (pre++[v]) mid post _ h1 (by simpa using hl);rw [List.length_append] at h2
   simpa [World.setCells] using h2
structure Told (r:M.Rules) (l:List Sh) (X Y:Nat→Prop) (pre:List wY) (x:wY) (W:World):Prop where
 i:x.i=pre.length
 lt:pre.length<l.length
 e:l[pre.length]? =some x.e
 s:x.s=jF r l pre.length
 t:x.t=M.step r x.s x.e.x
 rule:x.rule=M.legal r x.s x.e.x
 a:bQ W Y x.A x.c x.s.au
 b:bQ W Y x.A' x.c' x.t.au
 xy:∀ b,Y b→¬ X b
structure Inv (r:M.Rules) (l:List Sh) (K:Nat→Prop) (J:(Nat→Prop)→(Nat→Prop)→List wY→World→Prop) (W:World) (Bf k:Nat) (X Y:Nat→Prop) (pre:List wY) (A:Option Addr) (c:Nat) (wr:World):Prop where
 len:pre.length=k
 j:J X Y pre wr
 f:Held wr Bf (aj r (jF r l k) A c) 99
 b:bQ wr Y A c (jF r l k).au
 xf:X Bf
 xs:∀ b,X b∨Y b→W.heap.size≤b∧b<wr.heap.size
 xy:∀ b,Y b→¬ X b
 k:∀ b,K b→wr.heap[b]? =W.heap[b]?
 sz:W.heap.size≤wr.heap.size
theorem bQ.own {W:World} {S:Nat→Prop} {A:Option Addr} {c:Nat} {zs:List Int} (h:bQ W S A c zs):bQ W (fun b=>S b∧b<W.heap.size∧∃ o,A=some ⟨b,o,none⟩) A c zs:=
 ⟨h.1,h.2.1,h.2.2.1,h.2.2.2.1,fun hn=>by
  obtain ⟨b,o,e,hS,hb,hc⟩:=Reads.at_ h hn
  exact ⟨b,o,e,⟨hS,hb,o,e⟩,hb,hc⟩⟩
theorem dH {ops:Array Oper} {rest:List Oper} {op:Oper} {a:Act} {W:World} {Q:Exit→Act→World→Prop} {g o:Nat} {cs:List Value} {t:TypeId} {d:TypeDesc} (h:W.rangeAt g o cs) (hu:Tryz.prog.underlying t=some d) (hd:d.isRow=true) (hi:(Tryz.prog.info? t).map (·.size)=some cs.length) (hgd:op.guard=none) (x:Operand) (ho:op.op= .load t x) (hx:a.eval x= .pointer (some ⟨g,o,none⟩))
 (k:wpList Tryz.prog ops Q rest (a.put op.dst (.agg cs.toArray)) W):sO Tryz.prog ops Q op rest a W:=
 wpList_load_mid hgd t x ho g o hx cs d h hu hd hi k
theorem vO {ops:Array Oper} {rest:List Oper} {op:Oper} {a:Act} {W:World} {Q:Exit→Act→World→Prop} {g o:Nat} {vs:List Value} {t:TypeId} (h:W.there g o vs.length) (hi:(Tryz.prog.info? t).map (·.size)=some vs.length) (h1:∀ v∈vs,v.oneCell'=true) (hgd:op.guard=none) (x y:Operand) (ho:op.op= .store t x y)
 (hx:a.eval x= .pointer (some ⟨g,o,none⟩)) (hy:a.eval y= .agg vs.toArray)
 (k:wpList Tryz.prog ops Q rest (a.put op.dst undef) (W.setCells g o vs)):sO Tryz.prog ops Q op rest a W:=
 wpList_store_mid hgd t x y ho g o vs.toArray hx hy (by rw [gU rfl rfl];exact h) (by rw [gU rfl rfl];exact hi) (all_oneCell_toArray h1) (by rw [List.toList_toArray];exact k)
theorem rC (r:M.Rules) (n c:Nat) (A:Option Addr) (w:World):
 Calls Tryz.prog 38 #[iJ r,.slice A n c] w fun e w'=>e= .returned (.func (.func 72) #[] #[ptr w.heap.size,ptr (w.heap.size+1)])∧aX w w' [([.string r.game,.int .i64 r.target,.int .i64 r.bD],23),([.slice A n c],24)]:=by
 go_enter Tryz.func38,Tryz.ntmps38
 go_wp2;go_ret;exact ⟨rfl,(((aX.nil w).new (by simp) ([.string r.game,.int .i64 r.target,.int .i64 r.bD]) _).new (by simp) ([.slice A n c]) _)⟩
theorem IQ {W W':World} {Bx Bf:Nat} {cx cf:List Value} {tx tf:TypeId} (hX:Held W Bx cx tx) (hF:Held W Bf cf tf) (hb:Below W.heap.size W W'):(∀ q,W'.cell? ⟨Bx,q,none⟩=W.cell? ⟨Bx,q,none⟩)∧(∀ q,W'.cell? ⟨Bf,q,none⟩=W.cell? ⟨Bf,q,none⟩):=
 ⟨fun q=>hb.cell (p:=⟨Bx,q,none⟩) hX.lt,fun q=>hb.cell (p:=⟨Bf,q,none⟩) hF.lt⟩
theorem rV {W:World} {Bx Bf:Nat} {cx cf:List Value} {tx tf:TypeId} (hX:Held W Bx cx tx) (hF:Held W Bf cf tf) (o:Obj):(∀ q,(W.alloc o).cell? ⟨Bx,q,none⟩=W.cell? ⟨Bx,q,none⟩)∧(∀ q,(W.alloc o).cell? ⟨Bf,q,none⟩=W.cell? ⟨Bf,q,none⟩):=
 IQ hX hF ((Below.refl _ _).alloc (Nat.le_refl _) o)
theorem pG {W W' W2:World} {Bx Bf:Nat} (h:(∀ q,W'.cell? ⟨Bx,q,none⟩=W.cell? ⟨Bx,q,none⟩)∧(∀ q,W'.cell? ⟨Bf,q,none⟩=W.cell? ⟨Bf,q,none⟩)) (k:(∀ q,W2.cell? ⟨Bx,q,none⟩=W'.cell? ⟨Bx,q,none⟩)∧(∀ q,W2.cell? ⟨Bf,q,none⟩=W'.cell? ⟨Bf,q,none⟩)):
 (∀ q,W2.cell? ⟨Bx,q,none⟩=W.cell? ⟨Bx,q,none⟩)∧(∀ q,W2.cell? ⟨Bf,q,none⟩=W.cell? ⟨Bf,q,none⟩):=⟨fun q=>(k.1 q).trans (h.1 q),fun q=>(k.2 q).trans (h.2 q)⟩
theorem iC {W W':World} {B:Nat} (h:Below B W.drew W'):Below B W W':=⟨h.os,h.tape,h.output,h.size,h.block⟩
theorem PL {r:M.Rules} {x:wY} {W:World} {g:Nat} {t:TypeId} (h:Held W g (bY r x) t):W.there g 25 18:=fun j hj=>by
 have h1:(bY r x).length=44:=rfl;rw [h.cell (List.getElem?_eq_getElem (show 25+j<(bY r x).length by omega))];exact ⟨rfl,h.frozen _⟩
theorem XG {r:M.Rules} {k:Nat} {e:Sh} {s t:M.State} {A A':Option Addr} {c c':Nat} {ru:Int} {W:World} {g:Nat} {ty:TypeId} (h:Held W g (bY r ⟨k,e,s,A,c,t,A',c',ru⟩) ty) (t2:M.State) (A2:Option Addr) (c2:Nat):
 Held (W.setCells g 25 (aj r t2 A2 c2)) g (bY r ⟨k,e,s,A,c,t2,A2,c2,ru⟩) ty:=
 Held.G9 (aj r t2 A2 c2) (aA e++aj r s A c) (aj r t A' c') [.int .i64 ru] W h rfl
theorem Bd (r:M.Rules) (k:Nat) (e:Sh) (s t:M.State) (A A':Option Addr) (c c':Nat) (ru:Int):∀ j v,(aj r t A' c')[j]? =some v→(bY r ⟨k,e,s,A,c,t,A',c',ru⟩)[25+j]? =some v:=by
 intro j v hj;have hl:j<18:=(List.getElem?_eq_some_iff.1 hj).1
 unfold bY
 rw [List.getElem?_append_left (by simp [aA,aj];omega),List.getElem?_append_right (by simp [aA,aj])];rw [show 25+j - (aA e++aj r s A c).length=j by simp [aA,aj]];exact hj
theorem OI {ops:Array Oper} {rest:List Oper} {op:Oper} {a:Act} {W:World} {Q:Exit→Act→World→Prop} {g n:Nat} {cs:List Value} {t:TypeId} {d:TypeDesc} {ro:Option Nat} (h:Held W g cs t) (hu:Tryz.prog.underlying t=some d) (hd:d.isRow=true) (hi:(Tryz.prog.info? t).map (·.size)=some cs.length) (hgd:op.guard=none) (x:Operand) (ho:op.op= .load t x) (hx:a.eval x= .pointer (some ⟨g,0,none⟩))
 (k:wpListIn (iL ro) n Tryz.prog ops Q rest (a.put op.dst (.agg cs.toArray)) W):wpListIn (iL ro) n Tryz.prog ops Q (op::rest) a W:=
 wpListIn_plain hgd fun _ hK=>GI (fun c e=>by rw [ho] at e;cases e) (wp_load_mid t x ho g 0 hx cs d h.range hu hd hi (hK _ _ k))
theorem Held.lu {g b:Nat} (hne:b≠g):∀ (vs:List Value) (o:Nat) (W:World),(W.setCells g o vs).heap[b]? =W.heap[b]?
 | [],_,_=>rfl
 | v::r,o,W=>(Held.lu hne r (o+1) _).trans (Below.heap_setCell W ⟨g,o,none⟩ v b hne)
theorem kH {X:Nat→Prop} {W:World} {g:Nat} (hX:X g) (vs:List Value) (o:Nat):Turn X W (W.setCells g o vs):=
 ⟨(below_setCells (B:=0) g (Nat.zero_le _) vs o W W (Below.refl _ _)).os,(below_setCells (B:=0) g (Nat.zero_le _) vs o W W (Below.refl _ _)).tape,(below_setCells (B:=0) g (Nat.zero_le _) vs o W W (Below.refl _ _)).output,by rw [setCells_size];exact Nat.le_refl _,fun b _ hn=>Held.lu (fun e=>hn (by rw [e];exact hX)) vs o W⟩
theorem Gp {W:World} {Bx Bf Be:Nat} (vs:List Value) (o:Nat) (h1:Bx≠Be) (h2:Bf≠Be):(∀ q,(W.setCells Be o vs).cell? ⟨Bx,q,none⟩=W.cell? ⟨Bx,q,none⟩)∧(∀ q,(W.setCells Be o vs).cell? ⟨Bf,q,none⟩=W.cell? ⟨Bf,q,none⟩):=
 ⟨fun q=>jI vs o Bx q h1,fun q=>jI vs o Bf q h2⟩
theorem oP (r:M.Rules) (l:List Sh) (Al:Option Addr) (cl:Nat) (K:Nat→Prop) (Br Bl n:Nat) (w:World) (hn:1≤n) (hr:M.aQ r=0) (hck:∀ e∈l,M.bT e.x=0) (hlen:l.length≤1000)
 (hKw:∀ b,K b→b<w.heap.size) (hBr:Held w Br ([.string r.game,.int .i64 r.target,.int .i64 r.bD]) 23) (hKr:K Br) (hBl:Held w Bl [.slice Al l.length cl] 24) (hKl:K Bl) (hL:jQ w K Al cl l):
 AZ (iL none) n Tryz.prog 72 #[ptr Br,ptr Bl] (yS r) K (Told r l) (fun xs=>xs.length=l.length) (fun _=>True) l.length w:=by
 intro l0 J Jx W hW hJ hJx hY h0;refine ji ?_;have PW:=hBr.below hW;have arx:=hBl.below hW;have hLW:=hL.below hW;have hKW:∀ b,K b→b<W.heap.size:=fun b hb=>Nat.lt_of_lt_of_le (hKw b hb) hW.size;have HY:=hide hY;clear hY hBr hBl hL;have k0:=PW.cell (j:=0) rfl;have EK:=PW.frozen 0;have k1:=PW.cell (j:=1) rfl;have Lm:=PW.frozen 1;have k2:=PW.cell (j:=2) rfl;have Um:=PW.frozen 2
 go_enter Tryz.func72,Tryz.ntmps72
 go_upto_region 0 with (fail)
 go_cut [4] (fun v4 wx=>∃ Bf A0 c0 X Y,v4=ptr Bf∧Inv r l K J W Bf 0 X Y [] A0 c0 wx)
 case first=>
  go_wp2_with (first | (go_at_call 36;refine (fF r _).mono ?_;rintro e w1 ⟨A1,c1,rfl,hr1,hb1⟩;have hG1:=Held.new w1 aY 99) | (refine aO 99 (.tmp 4) (.tmp 9) rfl ?_;refine aF (hG1) (aj r (M.start r) A1 c1) rfl ay (bM _ _ _ _) rfl (.tmp 4) (.tmp 9) rfl rfl rfl ?_))
  go_meet
  have hs:jF r l 0=M.start r:=by unfold jF;simp [plain,M.final]
  have hbT:Below W.heap.size W ((w1.alloc (.cells aY.toArray 99)).setCells w1.heap.size 0 (aj r (M.start r) A1 c1)):=below_setCells _ hb1.size _ _ _ _ (hb1.alloc hb1.size _);refine ⟨w1.heap.size,A1,c1,(fun b=>b=w1.heap.size),(fun b=>W.heap.size≤b∧b<w1.heap.size),rfl,⟨rfl,hJ _ _ _ _ _ _ _ h0 (Turn.of_below hbT) (fun b h=>by subst h;exact .inr hb1.size) (fun b h=> .inr h.1),by rw [hs];exact hG1.whole _ rfl,?_,rfl,?_,fun b h e=>by subst e;exact absurd h.2 (Nat.lt_irrefl _),fun b hb=>hbT.block b (hKW b hb),hbT.size⟩⟩
  · rw [hs]
    exact bQ.sets (fun h=>absurd h.2 (Nat.lt_irrefl _)) _ 0 _ ((hr1.more (fun b hb h=>⟨h,hb⟩)).alloc _)
  · rintro b (h | h)
    · subst h;exact ⟨hb1.size,by rw [setCells_size];simp⟩
    · exact ⟨h.1,by rw [setCells_size];simp;omega⟩
 case rest=>
  obtain ⟨Bf,A0,c0,X0,Y0,rfl,hI⟩:=hcut;have ain:Held wc Bl [.slice Al l.length cl] 24:=(hI.k Bl hKl).trans arx;have s0:=ain.cell (j:=0) rfl;clear k0 EK k1 Lm k2 Um;go_wp2
  go_loopw [12] (fun i wr=>∃ (k:Nat) (X Y:Nat→Prop) (pre:List wY) (A:Option Addr) (c:Nat),k≤l.length∧i= .int .i64 k∧Inv r l K J W Bf k X Y pre A c wr) (fun i _=>l.length - (intOf i).toNat)
  case atStart=>exact ⟨0,X0,Y0,[],A0,c0,Nat.zero_le _,rfl,hI⟩
  case round=>
   clear hI s0 ain;obtain ⟨k,X,Y,pre,A,c,hk,rfl,hI⟩:=hrel
   by_cases hlt:k<l.length
   · have hLr:jQ wr K Al cl l:=hLW.keep hI.sz (fun b o hb _=>World.cell?_of_block (hI.k b hb))
     have aDt:=hLr.bd;obtain ⟨b,o,rfl,_,hbl,hc⟩:=hLr.at_ k hlt;obtain ⟨z0,z1,z2,z3,z4,z5,z6⟩:=hc k hlt;have sD:=hLr.aC k hlt;have hce:=hck _ (List.getElem_mem hlt);have Za:=yh hr hck k (by omega);have hsc:=qm r l k hlt;have hle:l[k]? =some l[k]:=List.getElem?_eq_getElem hlt;obtain ⟨e,he⟩:∃ e,l[k]=e:=⟨_,rfl⟩;rw [he] at z0 z1 z2 z3 z4 z5 z6 sD hce hsc hle;have hF:=hI.f;have hbb:=hI.b;obtain ⟨s,hs⟩:∃ s,jF r l k=s:=⟨_,rfl⟩;rw [hs] at hF hbb Za hsc;have HI:=hide hI;have HSC:=hide hsc;have HS:=hide hs;have HLE:=hide hle;have HE:=hide he
     have hrg:wr.rangeAt b (o+k*7) (aA e):=fun j v hj=>by
      match j,hj with
      | 0,hj=>injection hj with hj;subst hj;exact z0
      | 1,hj=>injection hj with hj;subst hj;exact z1
      | 2,hj=>injection hj with hj;subst hj;exact z2
      | 3,hj=>injection hj with hj;subst hj;exact z3
      | 4,hj=>injection hj with hj;subst hj;exact z4
      | 5,hj=>injection hj with hj;subst hj;exact z5
      | 6,hj=>injection hj with hj;subst hj;exact z6
     clear hI hc z0 z1 z2 z3 z4 z5 z6 hsc hs hle he hLr
     go_upto_region 3 with (fail)
     go_cut [5,6] from 14 to 16 (fun v5 v6 wx=>∃ Bx,v5= .int .i64 k∧v6=ptr Bx∧wr.heap.size≤Bx∧Held wx Bx (aA e) 27∧Below wr.heap.size wr wx)
     case first=>
      have hX0:=Held.new wr Le 27
      go_wp2_with (first | (refine aB 27 (.tmp 15) rfl ?_;refine dH hrg Tryz.underlying27 rfl bG rfl (.tmp 15) rfl rfl ?_) | (refine aO 27 (.tmp 6) (.tmp 16) rfl ?_;refine aF hX0 (aA e) rfl bG (KC e) rfl (.tmp 6) (.tmp 16) rfl rfl rfl ?_))
      go_meet;exact ⟨wr.heap.size,rfl,rfl,Nat.le_refl _,hX0.whole _ rfl,below_setCells _ (Nat.le_refl _) _ _ _ _ ((Below.refl _ _).alloc (Nat.le_refl _) _)⟩
     case rest=>
      rename World=>W1
      obtain ⟨Bx,rfl,rfl,hBx,hX,hb1⟩:=hcut;have hFx:=hF.below hb1;have hbx:=hbb.below hb1;have hpx:=sD.below hb1;obtain ⟨q3,q4,_⟩:=xq hce;have hL4:=fun W h h'=>EN (fun _=>True) r s e.x A e.a c e.c W h h' q3 (fun p hp=>(q4 p hp).1.1);obtain ⟨ru,RH⟩:∃ q,M.legal r s e.x=q:=⟨_,rfl⟩;rw [RH] at hL4;have HL4:=hide hL4;have HRU:=hide RH;clear hL4 RH q3 q4
      go_upto_region 4 with (fail)
      go_cut [7] from 17 to 23 (fun v7 wy=>∃ Be,v7=ptr Be∧W1.heap.size≤Be∧Held wy Be (bY r ⟨k,e,s,A,c,s,A,c,ru⟩) 106∧Below W1.heap.size W1 wy)
      case first=>
       have Ll:∀ W:World,(fun w':World=>(∀ q,w'.cell? ⟨Bx,q,none⟩=W1.cell? ⟨Bx,q,none⟩)∧(∀ q,w'.cell? ⟨Bf,q,none⟩=W1.cell? ⟨Bf,q,none⟩)) W→W.rangeAt Bx 0 [.int .i64 e.x.aG,.string e.x.kind,.int .i64 e.x.aT,.int .i64 e.x.aP,.int .i64 e.x.first,.bool e.x.cO,.slice e.a e.x.aC.length e.c]:=fun W h j v hj=>by rw [Nat.zero_add,h.1 j];exact hX.cell hj
       have ML:∀ W:World,(fun w':World=>(∀ q,w'.cell? ⟨Bx,q,none⟩=W1.cell? ⟨Bx,q,none⟩)∧(∀ q,w'.cell? ⟨Bf,q,none⟩=W1.cell? ⟨Bf,q,none⟩)) W→W.rangeAt Bf 0 [.string r.game,.int .i64 r.target,.int .i64 r.bD,.int .i64 s.turn,.bool s.brk,.bool s.hand,.bool s.push,.bool s.pushed,.int .i64 s.group,.slice A s.au.length c,.int .i64 s.s0,.int .i64 s.s1,.int .i64 s.f0,.int .i64 s.f1,.int .i64 s.run,.int .i64 s.bI,.bool s.over,.int .i64 s.bP]:=fun W h j v hj=>by rw [Nat.zero_add,h.2 j];exact hFx.cell hj
       refine wp_region_held_drew (S:=(fun w':World=>(∀ q,w'.cell? ⟨Bx,q,none⟩=W1.cell? ⟨Bx,q,none⟩)∧(∀ q,w'.cell? ⟨Bf,q,none⟩=W1.cell? ⟨Bf,q,none⟩))) (by kernel_rfl) ?lQ (fun hHeld=>?_)
       case lQ=>exact ⟨fun q=>rfl,fun q=>rfl⟩
       refine wpAnyH_take (i:=0) (oi:=_) (v:=_) (ga rfl) (by kernel_rfl) (by kernel_rfl) (by kernel_rfl) (fun _ _ _ h=>h) (yieldsIf_load_mid (by rfl) _ _ (by rfl) _ _ (by rfl) _ _ Ll Tryz.underlying27 rfl (by kernel_rfl)) (by assumption) ?_
       try simp only [Act.put,la,lz,ls]
       refine wpAnyH_take (i:=1) (oi:=_) (v:=_) (ga rfl) (by kernel_rfl) (by kernel_rfl) (by kernel_rfl) (fun _ _ _ h=>h) (yieldsIf_load_mid (by rfl) _ _ (by rfl) _ _ (by rfl) _ _ ML Tryz.underlying99 rfl (by kernel_rfl)) (by assumption) ?_
       try simp only [Act.put,la,lz,ls]
       refine wpAnyH_take (i:=2) (oi:=_) (v:=_) (ga rfl) (by kernel_rfl) (by kernel_rfl) (by kernel_rfl) (fun _ _ _ h=>h) (yieldsIf_load_mid (by rfl) _ _ (by rfl) _ _ (by rfl) _ _ ML Tryz.underlying99 rfl (by kernel_rfl)) (by assumption) ?_
       try simp only [Act.put,la,lz,ls]
       refine wpAnyH_take (i:=3) (oi:=_) (v:=_) (ga rfl) (by kernel_rfl) (by kernel_rfl) (by kernel_rfl) (fun _ _ _ h=>h) (yieldsIf_load_mid (by rfl) _ _ (by rfl) _ _ (by rfl) _ _ ML Tryz.underlying99 rfl (by kernel_rfl)) (by assumption) ?_
       try simp only [Act.put,la,lz,ls]
       refine wpAnyH_take (i:=4) (oi:=_) (v:=_) (ga rfl) (by kernel_rfl) (by kernel_rfl) (by kernel_rfl) (fun _ _ _ h=>h) (yieldsIf_load_mid (by rfl) _ _ (by rfl) _ _ (by rfl) _ _ Ll Tryz.underlying27 rfl (by kernel_rfl)) (by assumption) ?_
       try simp only [Act.put,la,lz,ls]
       refine wpAnyH_ready (rs:=[5,7]) (by kernel_rfl) (by simp) ?_;refine AllReadyH.cons (o:=_) (ga rfl) (fun K hK=>?_) (AllReadyH.cons (o:=_) (ga rfl) (fun K hK=>?_) AllReadyH.nil)
       · go_simp
         (first | (go_at_call 48;refine (HL4.out W1.drew (bQ.more (show bQ W1.drew _ _ _ _ from hbx) (fun _ _ _=>trivial)) (fP.more (show fP W1.drew _ _ _ _ from hpx) (fun _ _ _=>trivial))).mono ?_;rintro e4 w4 ⟨rfl,hb4⟩;have Gf:=IQ hX.drew hFx.drew hb4) | (go_at_call 48;refine (HL4.out (W1.drew.alloc _) (bQ.more ((show bQ W1.drew _ _ _ _ from hbx).alloc _) (fun _ _ _=>trivial)) (fP.more ((show fP W1.drew _ _ _ _ from hpx).alloc _) (fun _ _ _=>trivial))).mono ?_;rintro e4 w4 ⟨rfl,hb4⟩;have MJ:=IQ (hX.drew.alloc _) (hFx.drew.alloc _) hb4))
         refine hK.out _ _ ?VB (fun hHeld=>?_)
         case VB=>(first | exact Gf | exact pG (rV hX.drew hFx.drew _) MJ)
         clear hK K
         try simp only [Act.put,la,lz,ls]
         refine tk 6 ?_;refine tr 7 fun K hK=>?_;go_simp;refine hK.out _ _ ?VE (fun hHeld=>?_)
         case VE=>(first | exact pG Gf (rV (hX.drew.below hb4) (hFx.drew.below hb4) _) | exact rV hX.drew hFx.drew _)
         clear hK K
         try simp only [Act.put,la,lz,ls]
         refine tr 8 fun K hK=>?_
         first | (have hk5:=pG (pG Gf (rV (hX.drew.below hb4) (hFx.drew.below hb4) (.cells gW.toArray 106))) (Gp (Be:=w4.heap.size) (bY r ⟨k,e,s,A,c,s,A,c,ru⟩) 0 (by have:=hX.lt;have:=hb4.size;simp at this;omega) (by have:=hFx.lt;have:=hb4.size;simp at this;omega));have hE0:=Held.new w4 gW 106;refine jB hE0 (bY r ⟨k,e,s,A,c,s,A,c,ru⟩) rfl lF (qZ _ _) (.tmp 7) (.tmp 23) rfl rfl rfl ?_) | (have hk5:=pG (pG (rV hX.drew hFx.drew (.cells gW.toArray 106)) MJ) (Gp (Be:=W1.heap.size) (bY r ⟨k,e,s,A,c,s,A,c,ru⟩) 0 (by have:=hX.lt;omega) (by have:=hFx.lt;omega));have hE0:=(Held.new W1.drew gW 106).below hb4;refine jB hE0 (bY r ⟨k,e,s,A,c,s,A,c,ru⟩) rfl lF (qZ _ _) (.tmp 7) (.tmp 23) rfl rfl rfl ?_)
         refine hK.out _ _ ?VG (fun hHeld=>?_)
         case VG=>(exact hk5)
         clear hK K
         try simp only [Act.put,la,lz,ls]
         refine wpAnyH_done (by kernel_rfl) ?_ _;clear hk5 Ll ML
         first | clear Gf | clear MJ
         go_wp2;go_meet
         first | exact ⟨w4.heap.size,rfl,hb4.size,hE0.whole _ rfl,below_setCells _ hb4.size _ _ _ _ ((iC hb4).alloc hb4.size _)⟩ | exact ⟨W1.heap.size,rfl,Nat.le_refl _,hE0.whole _ rfl,below_setCells _ (Nat.le_refl _) _ _ _ _ (((iC (Below.refl _ W1.drew)).alloc (Nat.le_refl _) _).trans (hb4.mono (by simp)))⟩
       · go_simp
         refine hK.out _ _ ?VF (fun hHeld=>?_)
         case VF=>(first | exact pG Gf (rV (hX.drew.below hb4) (hFx.drew.below hb4) _) | exact rV hX.drew hFx.drew _)
         clear hK K
         try simp only [Act.put,la,lz,ls]
         refine tr 5 fun K hK=>?_;go_simp
         (first | (go_at_call 48;refine (HL4.out W1.drew (bQ.more (show bQ W1.drew _ _ _ _ from hbx) (fun _ _ _=>trivial)) (fP.more (show fP W1.drew _ _ _ _ from hpx) (fun _ _ _=>trivial))).mono ?_;rintro e4 w4 ⟨rfl,hb4⟩;have Gf:=IQ hX.drew hFx.drew hb4) | (go_at_call 48;refine (HL4.out (W1.drew.alloc _) (bQ.more ((show bQ W1.drew _ _ _ _ from hbx).alloc _) (fun _ _ _=>trivial)) (fP.more ((show fP W1.drew _ _ _ _ from hpx).alloc _) (fun _ _ _=>trivial))).mono ?_;rintro e4 w4 ⟨rfl,hb4⟩;have MJ:=IQ (hX.drew.alloc _) (hFx.drew.alloc _) hb4))
         refine hK.out _ _ ?VD (fun hHeld=>?_)
         case VD=>(first | exact Gf | exact pG (rV hX.drew hFx.drew _) MJ)
         clear hK K
         try simp only [Act.put,la,lz,ls]
         refine tk 6 ?_;refine tr 8 fun K hK=>?_
         first | (have hk5:=pG (pG Gf (rV (hX.drew.below hb4) (hFx.drew.below hb4) (.cells gW.toArray 106))) (Gp (Be:=w4.heap.size) (bY r ⟨k,e,s,A,c,s,A,c,ru⟩) 0 (by have:=hX.lt;have:=hb4.size;simp at this;omega) (by have:=hFx.lt;have:=hb4.size;simp at this;omega));have hE0:=Held.new w4 gW 106;refine jB hE0 (bY r ⟨k,e,s,A,c,s,A,c,ru⟩) rfl lF (qZ _ _) (.tmp 7) (.tmp 23) rfl rfl rfl ?_) | (have hk5:=pG (pG (rV hX.drew hFx.drew (.cells gW.toArray 106)) MJ) (Gp (Be:=W1.heap.size) (bY r ⟨k,e,s,A,c,s,A,c,ru⟩) 0 (by have:=hX.lt;omega) (by have:=hFx.lt;omega));have hE0:=(Held.new W1.drew gW 106).below hb4;refine jB hE0 (bY r ⟨k,e,s,A,c,s,A,c,ru⟩) rfl lF (qZ _ _) (.tmp 7) (.tmp 23) rfl rfl rfl ?_)
         refine hK.out _ _ ?VH (fun hHeld=>?_)
         case VH=>(exact hk5)
         clear hK K
         try simp only [Act.put,la,lz,ls]
         refine wpAnyH_done (by kernel_rfl) ?_ _;clear hk5 Ll ML
         first | clear Gf | clear MJ
         go_wp2;go_meet
         first | exact ⟨w4.heap.size,rfl,hb4.size,hE0.whole _ rfl,below_setCells _ hb4.size _ _ _ _ ((iC hb4).alloc hb4.size _)⟩ | exact ⟨W1.heap.size,rfl,Nat.le_refl _,hE0.whole _ rfl,below_setCells _ (Nat.le_refl _) _ _ _ _ (((iC (Below.refl _ W1.drew)).alloc (Nat.le_refl _) _).trans (hb4.mono (by simp)))⟩
      case rest=>
       obtain ⟨Be,rfl,ZU,hE,hb2⟩:=hcut;have hEF:=hE.cell (j:=43) rfl;have hFe:=hFx.below hb2;have hXe:=hX.below hb2;have hbe:=hbx.below hb2;have hpe:=hpx.below hb2;have oh:=hb1.trans (hb2.mono hb1.size)
       go_upto_if 26 with (fail)
       go_cut [] from 24 to 30 (fun wz=>∃ A' c',Held wz Be (bY r ⟨k,e,s,A,c,M.step r s e.x,A',c',ru⟩) 106∧bQ wz (fun b=>Y b∨Be<b) A' c' (M.step r s e.x).au∧Below W1.heap.size W1 wz)
       case first=>
        rcases zr:(ru == 0) with _ | _
        · have hst:M.step r s e.x=s:=by
           unfold M.step
           rw [if_neg (by rw [HRU.out];simpa using zr)]
          have HST:=hide hst;clear hst;go_wp2;go_meet;rw [HST.out];exact ⟨A,c,hE,hbe.more (fun b _ h=> .inl h),hb2⟩
        · have hl0:M.legal r s e.x=0:=by rw [HRU.out];simpa using zr
          have hst:M.step r s e.x=M.next r s e.x:=by
           unfold M.step
           rw [if_pos hl0]
          have hn5:=fun W h h'=>next_any (fun _=>True) _ r s e.x A e.a c e.c W h h' hce hr Za (by omega) (M.lawful hl0);have HST:=hide hst;have HN5:=hide hn5;clear hst hn5 hl0
          go_wp2_with (first | (refine aB 99 (.tmp 4) rfl ?_;refine ak (hFe) Tryz.underlying99 rfl ay rfl (.tmp 4) rfl rfl ?_) | (refine aB 27 (.tmp 6) rfl ?_;refine ak (hXe) Tryz.underlying27 rfl bG rfl (.tmp 6) rfl rfl ?_) | (go_at_call 49;refine (HN5.out _ (hbe.more (fun _ _ _=>trivial)) (hpe.more (fun _ _ _=>trivial))).mono ?_;rintro e5 w5 ⟨A5,c5,rfl,hr5,hb5⟩;have hE5:=hE.below hb5) | (refine aO 99 (.tmp 30) (.tmp 29) rfl ?_;refine vO (o:=25) (vs:=aj r (M.next r s e.x) A5 c5) (PL hE5) ay (bM _ _ _ _) rfl (.tmp 30) (.tmp 29) rfl rfl rfl ?_))
          go_meet;rw [HST.out];exact ⟨A5,c5,XG hE5 _ _ _,bQ.sets (fun h=>h.elim (fun hy=>by have:=HI.out.xs Be (.inr hy);have:=hb1.size;omega) (fun h=>Nat.lt_irrefl _ h)) _ _ _ (hr5.more (fun b _ h=> .inr (Nat.lt_of_lt_of_le hE.lt h))),below_setCells _ ZU _ _ _ _ (hb2.trans (hb5.mono hb2.size))⟩
       case rest=>
        rename World=>W3
        obtain ⟨A',c',hE',hb',hb3⟩:=hcut;have jP:=hb1.trans (hb3.mono hb1.size);have aDf:wr.heap.size≤Be:=Nat.le_trans hb1.size ZU;have hxk:=HI.out;obtain ⟨X',hX'⟩:∃ X':Nat→Prop,X'=fun b=>X b∨b=Be:=⟨_,rfl⟩;obtain ⟨Y',hY'⟩:∃ Y':Nat→Prop,Y'=fun b=>(Y b∨Be<b)∧b<W3.heap.size:=⟨_,rfl⟩
        have gX:vI wr X X':=fun b h=>by rw [hX'] at h;rcases h with h | h;exact .inl h;exact .inr (by omega)
        have gY:vI wr Y Y':=fun b h=>by rw [hY'] at h;rcases h.1 with h | h;exact .inl h;exact .inr (by omega)
        have xf':X' Bf:=by rw [hX'];exact .inl hxk.xf
        have xe':X' Be:=by rw [hX'];exact .inr rfl
        have xs':∀ b,X' b∨Y' b→W.heap.size≤b∧b<W3.heap.size:=fun b h=>by
         have s1:=hxk.sz;have s2:=jP.size;have s3:=hE'.lt;rw [hX',hY'] at h
         rcases h with (h | h) | ⟨h | h,h2⟩
         · have:=hxk.xs b (.inl h);omega
         · subst h;omega
         · have:=hxk.xs b (.inr h);omega
         · omega
        have xy':∀ b,Y' b→¬ X' b:=fun b h=>by
         rw [hY'] at h;rw [hX']
         rintro (hx | hx)
         · have hs:=hxk.xs b (.inl hx)
           rcases h.1 with h | h
           · exact hxk.xy b h hx
           · omega
         · rcases h.1 with h | h
           · have:=hxk.xs b (.inr h);omega
           · omega
        have TS:bQ W3 Y' A c s.au:=(hbb.below jP).more (fun b hb h=>by rw [hY'];exact ⟨.inl h,hb⟩);have Ea:bQ W3 Y' A' c' (M.step r s e.x).au:=hb'.more (fun b hb h=>by rw [hY'];exact ⟨h,hb⟩);have hj3:=hJ _ _ _ _ X' Y' _ hxk.j (Turn.of_below jP) gX gY;have hk3:∀ b,K b→W3.heap[b]? =W.heap[b]? :=fun b hb=>(jP.block b (Nat.lt_of_lt_of_le (hKW b hb) hxk.sz)).trans (hxk.k b hb);have hft:=hFe;have hf3:=hF.below jP;have hT:Told r l X' Y' pre ⟨k,e,s,A,c,M.step r s e.x,A',c',ru⟩ W3:=⟨hxk.len.symm,by rw [hxk.len];exact hlt,by rw [hxk.len];exact HLE.out,by rw [hxk.len];exact HS.out.symm,rfl,HRU.out.symm,TS,Ea,xy'⟩;obtain ⟨fn',Zq,assign',body',hy,hR⟩:=HY.out X' Y' pre ⟨k,e,s,A,c,M.step r s e.x,A',c',ru⟩ W3 hj3 xs' (by rw [hxk.len];exact hlt) hT;have aEu:=hxk.sz;have akl:=hxk.len;clear hX' hY' gX gY hxk hft hT
        have hlen':(pre++[(⟨k,e,s,A,c,M.step r s e.x,A',c',ru⟩:wY)]).length=k+1:=by rw [List.length_append,akl];rfl
        have hs1:jF r l (k+1)=M.step r s e.x:=HSC.out;have HLEN:=hide hlen';have Sz:=hide hs1;clear hlen' hs1 akl;obtain ⟨xx,hxx⟩:∃ q:wY,(⟨k,e,s,A,c,M.step r s e.x,A',c',ru⟩:wY)=q:=⟨_,rfl⟩;rw [hxx] at hy hR HLEN hE'
        have hyx:yS r xx= #[.int .i64 (k:Int),.agg (bY r xx).toArray]:=by rw [← hxx];rfl
        rw [hyx] at hy
        have arF:W3.rangeAt Be 25 (aj r (M.step r s e.x) A' c'):=by
         rw [← hxx] at hE';exact fun j v hj=>hE'.cell (Bd r k e s (M.step r s e.x) A A' c c' ru j v hj)
        have HXX:=hide hxx;clear hyx hxx
        go_upto_region 7 with (fail)
        go_cut [35] from 31 to 35 (fun v wx=>(v= .bool false∧J X' Y' (pre++[xx]) wx∧qp K X' Y' W3 wx)∨(v= .bool true∧Jx X' Y' (pre++[xx]) wx))
        case first=>
         refine (wpIn_wide (n:=n)).1 ?_;have ake:(iL none).round=none:=rfl;have ajo:(iL none).depth=none:=rfl;have ajC:∀ f,(iL none).fn f=True:=fun _=>rfl;refine wpIn_region_lit ?_
         gi_wp2_with (refine OI hE' Tryz.underlying106 rfl lF rfl (.tmp 7) rfl rfl ?_)
         refine hR.mono ?_
         rintro e4 W4 (⟨rfl,TM,hk4⟩ | ⟨rfl,xE⟩)
         · gi_wp2
           go_meet;exact .inl ⟨rfl,TM,hk4⟩
         · gi_wp2
           go_meet;exact .inr ⟨rfl,xE⟩
        case rest=>
         clear hy hR
         rcases hcut with ⟨rfl,TM,hk4⟩ | ⟨rfl,xE⟩
         · have hf4:Held wc Bf (aj r s A c) 99:=(hk4.block Bf (.inl xf')).trans hf3
           have Lj:wc.rangeAt Be 25 (aj r (M.step r s e.x) A' c'):=fun j v hj=>(World.cell?_of_block (hk4.block Be (.inl xe'))).trans (arF j v hj);have hB4:bQ wc Y' A' c' (M.step r s e.x).au:=Ea.keep hk4.size (fun b o hy _=>World.cell?_of_block (hk4.block b (.inr hy)));clear hJx
           go_wp2_with (first | (refine aB 99 (.tmp 36) rfl ?_;refine dH Lj Tryz.underlying99 rfl ay rfl (.tmp 36) rfl rfl ?_) | (refine aO 99 (.tmp 4) (.tmp 37) rfl ?_;refine aF hf4 (aj r (M.step r s e.x) A' c') rfl ay (bM _ _ _ _) rfl (.tmp 4) (.tmp 37) rfl rfl rfl ?_))
           have htn:Turn X' wc (wc.setCells Bf 0 (aj r (M.step r s e.x) A' c')):=kH xf' _ 0
           go_roundw
           case rel=>
            refine ⟨k+1,X',Y',pre++[xx],A',c',by omega,by go_num,HLEN.out,hJ _ _ _ _ _ _ _ TM htn (fun b h=> .inl h) (fun b h=> .inl h),?_,?_,xf',fun b h=>?_,xy',fun b h=>?_,?_⟩
            · rw [Sz.out];exact hf4.whole _ rfl
            · rw [Sz.out];exact bQ.sets (fun h=>xy' Bf h xf') _ 0 _ hB4
            · have h1:=xs' b h
              have h2:=hk4.size;exact ⟨h1.1,by rw [setCells_size];omega⟩
            · have hne:b≠Bf:=fun e=>by
               have h1:=hKW b h;have h2:=xs' Bf (.inl xf')
               omega
              exact (Held.lu hne _ 0 wc).trans ((hk4.keep b h).trans (hk3 b h))
            · rw [setCells_size];have:=hk4.size;have:=jP.size;omega
           case measure=>simp [intOf];omega
         · go_wp2
           refine bodyPost_ret (results_none rfl _ _ _) rfl ?_
           first | exact ⟨⟨_,rfl⟩,.inr ⟨X',Y',pre++[xx],trivial,xE⟩⟩ | exact ⟨⟨_,rfl⟩,.inr ⟨X',Y',pre++[xx],xE⟩⟩
   · obtain rfl:k=l.length:=by omega
     go_wp2
     go_end0
     exact ⟨⟨_,rfl⟩,.inl ⟨X,Y,pre,hI.len,hI.j⟩⟩
theorem wJ {F:Fence} {n:Nat} {P:Program} {fn:Func} {R:Ending→World→Prop} {a:Act} {w:World} {v:Value} (hr:(results fn a.tmps).run P w= .ok v w) (hd:a.defers=[]) (hR:R (.returned v) w):bodyPostM F n P fn R .ret a w:=by
 show LeavesInM F n P fn a.tmps R a.defers .returning w
 rw [hd];exact ⟨v,hr,hR⟩
theorem jA {F:Fence} {n:Nat} {P:Program} {fn:Func} {R:Ending→World→Prop} {a:Act} {w:World} {D:Nat} {v:Value} (hd:a.defers=[{target:= .collected D,args:= #[] }]) (hD:w.heap[D]? =some (.deferred (some [])))
 (hr:(results fn a.tmps).run P (w.putObj D (.deferred none))= .ok v (w.putObj D (.deferred none))) (hR:R (.returned v) (w.putObj D (.deferred none))):bodyPostM F n P fn R .ret a w:=by
 show LeavesInM F n P fn a.tmps R a.defers .returning w
 rw [hd];exact ⟨by simp,.inl ⟨D,_,rfl,run_takeDeferred hD,v,hr,hR⟩⟩
theorem gV {W:World} {g:Nat} {cs:List Value} {t:TypeId} {d:TypeDesc} {fn:Func} {p u u2:Tmp} (h:Held W g cs t) (hu:Tryz.prog.underlying t=some d) (hd:d.isRow=true) (hi:(Tryz.prog.info? t).map (·.size)=some cs.length) (hr:fn.results= #[.cell p t,.tmp u,.tmp u2]) (tmps:Array Value) (hp:tmps.getD p undef= .pointer (some ⟨g,0,none⟩)):
 (results fn tmps).run Tryz.prog W= .ok (.tuple #[.agg cs.toArray,tmps.getD u undef,tmps.getD u2 undef]) W:=by
 have h0:=run_loadVar_row W g t t cs.toArray (0,0) d h hu (by cases d <;> first | rfl | cases hd) (by rw [gU rfl rfl];exact hi)
 have e:(results fn tmps).run Tryz.prog W=((asAddr (tmps.getD p undef)).run Tryz.prog W).andThen fun a w₁=>((loadVar t a).run Tryz.prog w₁).andThen fun v w₂=> .ok (.tuple #[v,tmps.getD u undef,tmps.getD u2 undef]) w₂:=by
  simp only [results,hr]
  simp [Sem.run_bind,Result.andThen]
 rw [e,hp]
 simp only [asAddr,Sem.run_pure,Result.andThen_ok,h0]
theorem Held.putObj {W:World} {g l:Nat} {cs:List Value} {t:TypeId} {o:Obj} (h:Held W g cs t) (hl:W.heap[l]? =some o) (ho:o.isCells=false) (o':Obj):Held (W.putObj l o') g cs t:=by
 have hne:g≠l:=fun e=>by
  subst e;rw [show W.heap[g]? =_ from h] at hl
  cases hl
  cases ho
 exact (World.putObj_heap_other hne).trans h
theorem Held.turn {X:Nat→Prop} {W W':World} {g:Nat} {cs:List Value} {t:TypeId} (h:Held W g cs t) (ht:Turn X W W') (hX:¬ X g):Held W' g cs t:=(ht.block g h.lt hX).trans h
theorem Reads.putObj {W:World} {S:Nat→Prop} {size:Nat} {A:Option Addr} {n c:Nat} {xs:List Value} {l:Nat} {o:Obj} (h:Reads W S size A n c xs) (hl:W.heap[l]? =some o) (ho:o.isCells=false) (hS:¬ S l) (o':Obj):Reads (W.putObj l o') S size A n c xs:=
 h.keep (by simp) fun b q hb _=>World.cell?_of_block (World.putObj_heap_other (fun e=>hS (e ▸ hb)))
theorem Reads.turn {X:Nat→Prop} {W W':World} {S:Nat→Prop} {size:Nat} {A:Option Addr} {n c:Nat} {xs:List Value} (h:Reads W S size A n c xs) (ht:Turn X W W') (hX:∀ b,S b→¬ X b):Reads W' S size A n c xs:=
 h.keep ht.size fun b q hb hlt=>World.cell?_of_block (ht.block b hlt (hX b hb))
theorem Held.blk {W W':World} {g:Nat} {cs:List Value} {t:TypeId} (h:Held W g cs t) (hb:W'.heap[g]? =W.heap[g]?):Held W' g cs t:=hb.trans h
theorem fJ {B:Nat} {w W:World} (h:Below B w W) {l:Nat} (hl:B≤l) (o:Obj):Below B w (W.putObj l o):=h.trans (GX o hl)
structure jh (W:World) (D:Nat) (X Y:Nat→Prop) (e:TypeId) (size:Nat) (v:Value) (n:Nat) (xs:List Value):Prop where
 own:W.ownsRow D e size v n xs
 far:∀ g,v.ownBlock=some g→¬ X g∧¬ Y g
theorem dV {W W':World} {D:Nat} {e:TypeId} {size:Nat} {v:Value} {n:Nat} {xs:List Value} (h:W.ownsRow D e size v n xs) (hb:∀ g,v.ownBlock=some g→W'.heap[g]? =W.heap[g]?):W'.ownsRow D e size v n xs:=by
 obtain ⟨h1,h2 | ⟨g,cap,cur,rfl,h3,h4,h5⟩⟩:=h
 · exact ⟨h1,.inl h2⟩
 · exact ⟨h1,.inr ⟨g,cap,cur,rfl,h3,(hb g rfl).trans h4,h5⟩⟩
theorem dh {W:World} {D:Nat} {e:TypeId} {size:Nat} {v:Value} {n:Nat} {xs:List Value} (h:W.ownsRow D e size v n xs) {g:Nat} (hg:v.ownBlock=some g):D≤g∧∃ o:Obj,W.heap[g]? =some o∧o.isCells=true:=by
 obtain ⟨h1,⟨rfl,_⟩ | ⟨g',cap,cur,rfl,h3,h4,h5⟩⟩:=h
 · cases hg
 · cases hg;exact ⟨h3,_,h4,rfl⟩
theorem jh.putObj {W:World} {D:Nat} {X Y:Nat→Prop} {e:TypeId} {size:Nat} {v:Value} {n:Nat} {xs:List Value} {l:Nat} {o:Obj} (h:jh W D X Y e size v n xs) (hl:W.heap[l]? =some o) (ho:o.isCells=false) (o':Obj):jh (W.putObj l o') D X Y e size v n xs:=
 ⟨dV h.own (fun g hg=>World.putObj_heap_other (fun e=>by
  obtain ⟨_,o2,h2,h3⟩:=dh h.own hg
  rw [e,hl] at h2;cases h2;rw [ho] at h3;cases h3)),h.far⟩
theorem jh.turn {W W':World} {D:Nat} {X Y X' Y':Nat→Prop} {e:TypeId} {size:Nat} {v:Value} {n:Nat} {xs:List Value} (h:jh W D X Y e size v n xs) (ht:Turn X W W') (hX:vI W X X') (hY:vI W Y Y'):jh W' D X' Y' e size v n xs:=by
 have hlt:∀ g,v.ownBlock=some g→g<W.heap.size:=fun g hg=>by
  obtain ⟨_,o,h2,_⟩:=dh h.own hg;exact (Array.getElem?_eq_some_iff.1 h2).1
 refine ⟨dV h.own fun g hg=>ht.block g (hlt g hg) (h.far g hg).1,fun g hg=>⟨fun h'=>?_,fun h'=>?_⟩⟩
 · rcases hX g h' with h2 | h2
   · exact (h.far g hg).1 h2
   · have:=hlt g hg;omega
 · rcases hY g h' with h2 | h2
   · exact (h.far g hg).2 h2
   · have:=hlt g hg;omega
def KI (W:World) (X Q:Nat→Prop) (A:Option Addr) (c:Nat) (zs:List Int):Prop:=∃ Z:Nat→Prop,bQ W Z A c zs∧∀ b,Z b→(∃ o:Obj,W.heap[b]? =some o∧o.isCells=true)∧¬ X b∧Q b
theorem cells_of_cell {W:World} {a:Addr} {v:Value} (h:W.cell? a=some v):∃ o:Obj,W.heap[a.block]? =some o∧o.isCells=true:=by
 unfold World.cell? at h
 split at h
 · rename_i e;exact ⟨_,e,rfl⟩
 · cases h
theorem KI.of {W:World} {S X Q:Nat→Prop} {A:Option Addr} {c:Nat} {zs:List Int} (h:bQ W S A c zs) (hS:∀ b,S b→b<W.heap.size→¬ X b∧Q b):KI W X Q A c zs:=by
 refine ⟨fun b=>(∃ o:Obj,W.heap[b]? =some o∧o.isCells=true)∧¬ X b∧Q b,⟨h.1,h.2.1,h.2.2.1,h.2.2.2.1,fun hn=>?_⟩,fun b hb=>hb⟩;obtain ⟨b,o,e,hs,hlt,hc⟩:=Reads.at_ h hn;refine ⟨b,o,e,⟨?_,hS b hs hlt⟩,hlt,hc⟩;have h0:=hc 0 (.int .i64 (zs[0])) (by rw [List.getElem?_map,List.getElem?_eq_getElem hn];rfl);exact cells_of_cell h0
theorem KI.lt {W:World} {b:Nat} (h:∃ o:Obj,W.heap[b]? =some o∧o.isCells=true):b<W.heap.size:=by
 obtain ⟨o,h,_⟩:=h;exact (Array.getElem?_eq_some_iff.1 h).1
theorem KI.turn {W W':World} {X X' Q:Nat→Prop} {A:Option Addr} {c:Nat} {zs:List Int} (h:KI W X Q A c zs) (ht:Turn X W W') (hX:vI W X X'):KI W' X' Q A c zs:=by
 obtain ⟨Z,h1,h2⟩:=h;refine KI.of (Reads.turn h1 ht fun b hb=>(h2 b hb).2.1) fun b hb _=>⟨fun hx=>?_,(h2 b hb).2.2⟩
 rcases hX b hx with h | h
 · exact (h2 b hb).2.1 h
 · have:=KI.lt (h2 b hb).1;omega
theorem KI.putObj {W:World} {X Q:Nat→Prop} {A:Option Addr} {c:Nat} {zs:List Int} {l:Nat} {o:Obj} (h:KI W X Q A c zs) (hl:W.heap[l]? =some o) (ho:o.isCells=false) (o':Obj):KI (W.putObj l o') X Q A c zs:=by
 obtain ⟨Z,h1,h2⟩:=h;refine KI.of (Reads.putObj h1 hl ho (fun hz=>?_) o') fun b hb _=>(h2 b hb).2;obtain ⟨o2,h3,h4⟩:=(h2 l hz).1;rw [hl] at h3;cases h3;rw [ho] at h4;cases h4
theorem KI.out {W:World} {X Q:Nat→Prop} {A:Option Addr} {c:Nat} {zs:List Int} (h:KI W X Q A c zs):bQ W Q A c zs:=by
 obtain ⟨Z,h1,h2⟩:=h;exact h1.more fun b _ hb=>(h2 b hb).2.2
theorem KI.keep {W W':World} {X Q:Nat→Prop} {A:Option Addr} {c:Nat} {zs:List Int} (h:KI W X Q A c zs) (hs:W.heap.size≤W'.heap.size) (hk:∀ b,Q b→b<W.heap.size→W'.heap[b]? =W.heap[b]?):KI W' X Q A c zs:=by
 obtain ⟨Z,h1,h2⟩:=h;exact KI.of (h1.keep hs fun b o hb hlt=>World.cell?_of_block (hk b (h2 b hb).2.2 hlt)) fun b hb _=>(h2 b hb).2
theorem gB {X:Nat→Prop} {B:Nat} {w W W':World} (h:Below B w W) (ht:Turn X W W') (hX:∀ b,X b→B≤b) (hB:B≤W.heap.size):Below B w W':=
 ⟨ht.os.trans h.os,ht.tape.trans h.tape,ht.output.trans h.output,Nat.le_trans h.size ht.size,fun b hb=>(ht.block b (Nat.lt_of_lt_of_le hb hB) (fun hx=>by have:=hX b hx;omega)).trans (h.block b hb)⟩
def Ot (Q:Exit→Act→World→Prop):Exit→Act→World→Prop
 | .ret,a,w=>Q .ret a w
 | _,_,_=>False
theorem kY {P:Program} {c:Code} {Q:Exit→Act→World→Prop} {a:Act} {w:World} (h:c.wp P (Ot Q) a w):c.wp P Q a w:=wp_mono h (fun e a w h=>by cases e <;> first | exact h | exact h.elim)
theorem bH {P:Program} {Q:Exit→Act→World→Prop} {n:Nat} {ro:Option Nat} {id:Nat} {l:List Oper} {a:Act} {w:World} (hnd:vk l.toArray=true) (hno:¬ LetsOut Q) (h:wpList P l.toArray Q l a w):(Code.region id l.toArray false).wpIn (iL ro) n P Q a w:=
 yA hnd hno (by rw [List.toList_toArray];exact h)
def qI (l:List M.wZ):List Value:=l.flatMap fun x=>[.int .i64 x.number,.int .i64 x.rule]
def wK (r:M.Rules) (l:List Sh):Int:=aS [M.aQ r,M.dO (plain l)]
def qV (r:M.Rules) (l:List Sh):M.State:=if wK r l=0 then M.final r (M.start r) (plain l) else M.zero
def zl (r:M.Rules) (l:List Sh):List M.wZ:=if wK r l=0 then M.gQ r (M.start r) 1 (plain l) else []
theorem EO {r:M.Rules} {l:List Sh} (h:wK r l=0):M.aQ r=0∧∀ e∈l,M.bT e.x=0:=by
 have h1:aS [M.aQ r,M.dO (plain l)]=0:=h
 unfold aS at h1
 split at h1
 · rename_i h2;exact absurd h1 h2
 · rename_i h2
   refine ⟨by simpa using h2,?_⟩
   unfold aS at h1
   split at h1
   · rename_i h3;exact absurd h1 h3
   · rename_i h3
     have h4:M.dO (plain l)=0:=by simpa using h3
     unfold M.dO at h4
     split at h4
     · cases h4
     · intro e he
       obtain ⟨k,hk,rfl⟩:=List.getElem_of_mem he
       have go:∀ n,n≤l.length→M.iD ((plain l).drop n)=0:=by
        intro n
        induction n with
        | zero=>intro _;simpa using h4
        | succ n ih=>
          intro hn
          have:=ih (by omega)
          rw [pW (k:=n) (by omega)] at this
          split at this
          · rename_i h5;exact absurd this h5
          · exact this
       have h6:=go k (by omega);rw [pW hk] at h6
       split at h6
       · rename_i h5;exact absurd h6 h5
       · rename_i h5;simpa using h5
theorem EP {r:M.Rules} {l:List Sh} (h:wK r l=0):l.length≤1000:=by
 have h1:aS [M.aQ r,M.dO (plain l)]=0:=h
 unfold aS at h1
 split at h1
 · rename_i h2;exact absurd h1 h2
 · unfold aS at h1
   split at h1
   · rename_i h3;exact absurd h1 h3
   · rename_i h3
     have h4:M.dO (plain l)=0:=by simpa using h3
     unfold M.dO at h4
     split at h4
     · cases h4
     · rename_i h5;rw [aW] at h5;omega
theorem xP (r:M.Rules) (s:M.State) (x:M.aV):0≤M.legal r s x:=by
 unfold M.legal
 repeat' split
 all_goals decide
theorem G6:(Tryz.prog.info? 110).map (fun i=>(i.zero,i.size,i.bytes))=some (some (.agg #[.int .i64 0,.int .i64 0]),2,16):=by kernel_rfl
theorem Turn.mono {X X':Nat→Prop} {W W':World} (h:Turn X W W') (hX:∀ b,X b→X' b):Turn X' W W':=⟨h.os,h.tape,h.output,h.size,fun b hb hn=>h.block b hb (fun hx=>hn (hX b hx))⟩
theorem AO (a b:List M.wZ):qI (a++b)=qI a++qI b:=by simp [qI]
theorem EW {W:World} {D:Nat} {e:TypeId} {size:Nat} {v:Value} {n:Nat} {xs:List Value} (h:W.ownsRow D e size v n xs):∃ A c,v= .slice A n c:=by
 obtain ⟨h1,⟨rfl,rfl⟩ | ⟨g',cap,cur,rfl,h3⟩⟩:=h
 · exact ⟨none,0,rfl⟩
 · exact ⟨_,cap,rfl⟩
def lT (r:M.Rules) (l:List Sh) (k:Nat):List M.wZ:=M.gQ r (M.start r) 1 (plain (l.take k))
structure RJ (r:M.Rules) (l:List Sh) (w:World) (B8 B9 D:Nat) (X Y:Nat→Prop) (xs:List wY) (W:World):Prop where
 bw:Below w.heap.size w W
 sz:D≤W.heap.size
 sep:∀ b,X b∨Y b→D≤b
 z:Held W (w.heap.size+1) aZ 53
 f:∃ A c,Held W B8 (aj r (jF r l xs.length) A c) 99∧KI W X (fun b=>w.heap.size+2≤b∧b≠B8∧b≠B9) A c (jF r l xs.length).au
 a:∃ v,Held W B9 [v] 54∧jh W D X Y 110 2 v (lT r l xs.length).length (qI (lT r l xs.length))
theorem RJ.abides (r:M.Rules) (l:List Sh) (w:World) (B8 B9 D:Nat) (hw:w.heap.size+1<B8) (h8:B8<B9) (h9:B9<D):kZ (RJ r l w B8 B9 D):=by
 intro X Y pre W X' Y' W' h ht hX hY
 have hno:∀ b,b<D→¬ X b:=fun b hb hx=>by have:=h.sep b (.inl hx);omega
 obtain ⟨A,c,hf,hk⟩:=h.f;obtain ⟨v,hv,ho⟩:=h.a;refine ⟨gB h.bw ht (fun b hb=>by have:=h.sep b (.inl hb);omega) (by have:=h.sz;omega),Nat.le_trans h.sz ht.size,?_,h.z.turn ht (hno _ (by omega)),⟨A,c,hf.turn ht (hno _ (by omega)),hk.turn ht hX⟩,⟨v,hv.turn ht (hno _ h9),ho.turn ht hX hY⟩⟩
 rintro b (hb | hb)
 · rcases hX b hb with h2 | h2
   · exact h.sep b (.inl h2)
   · exact Nat.le_trans h.sz h2
 · rcases hY b hb with h2 | h2
   · exact h.sep b (.inr h2)
   · exact Nat.le_trans h.sz h2
theorem RJ.putObj {r:M.Rules} {l:List Sh} {w:World} {B8 B9 D:Nat} {X Y:Nat→Prop} {pre:List wY} {W:World} {lp:Nat} {o:Obj} (h:RJ r l w B8 B9 D X Y pre W) (hD:w.heap.size≤D) (hlp:D≤lp) (hl:W.heap[lp]? =some o) (ho:o.isCells=false) (o':Obj):RJ r l w B8 B9 D X Y pre (W.putObj lp o'):=by
 obtain ⟨A,c,hf,hk⟩:=h.f;obtain ⟨v,hv,hw⟩:=h.a;exact ⟨fJ h.bw (by omega) _,by simpa using h.sz,h.sep,h.z.putObj hl ho _,⟨A,c,hf.putObj hl ho _,hk.putObj hl ho _⟩,⟨v,hv.putObj hl ho _,hw.putObj hl ho _⟩⟩
theorem Told.putObj {r:M.Rules} {l:List Sh} {X Y:Nat→Prop} {pre:List wY} {x:wY} {W:World} {lp:Nat} {o:Obj} (h:Told r l X Y pre x W) (hl:W.heap[lp]? =some o) (ho:o.isCells=false) (o':Obj):Told r l X Y pre x (W.putObj lp o'):=
 ⟨h.i,h.lt,h.e,h.s,h.t,h.rule,(KI.of (X:=fun _=>False) (Q:=Y) h.a (fun b hb _=>⟨fun h=>h,hb⟩) |>.putObj hl ho o').out,(KI.of (X:=fun _=>False) (Q:=Y) h.b (fun b hb _=>⟨fun h=>h,hb⟩) |>.putObj hl ho o').out,h.xy⟩
theorem Dz (r:M.Rules) (l:List Sh) (k:Nat):(lT r l k).length≤k:=by
 have go:∀ (l2:List M.aV) (s:M.State) (n:Int),(M.gQ r s n l2).length≤l2.length:=by
  intro l2
  induction l2 with
  | nil=>intro s n;exact Nat.le_refl _
  | cons y l2 ih=>
    intro s n
    have:=ih (M.step r s y) (n+1)
    rw [M.gQ,List.length_append,List.length_cons]
    split <;> simp <;> omega
 have:=go (plain (l.take k)) (M.start r) 1
 unfold lT
 rw [aW,List.length_take] at this
 omega
theorem Kt (r:M.Rules) (l:List Sh) (k:Nat) (hk:k<l.length):lT r l (k+1)=lT r l k++(if M.legal r (jF r l k) l[k].x≠0 then [⟨(k:Int)+1,M.legal r (jF r l k) l[k].x⟩] else []):=by
 have go:∀ (l2:List M.aV) (s:M.State) (n:Int) (x:M.aV),M.gQ r s n (l2++[x])=M.gQ r s n l2++(if M.legal r (M.final r s l2) x≠0 then [⟨n+l2.length,M.legal r (M.final r s l2) x⟩] else []):=by
  intro l2
  induction l2 with
  | nil=>intro s n x;simp [M.gQ,M.final]
  | cons y l2 ih=>
    intro s n x;rw [List.cons_append,M.gQ,M.gQ,ih,List.append_assoc]
    simp only [M.final,List.foldl_cons,List.length_cons]
    rw [show n+1+(l2.length:Int)=n+((l2.length+1:Nat):Int) by push_cast;omega]
    rfl
 unfold lT jF
 rw [List.take_succ_eq_append_getElem hk]
 unfold plain
 rw [List.map_append,List.map_cons,List.map_nil,go]
 congr 2
 simp only [List.length_map,List.length_take,Nat.min_eq_left (Nat.le_of_lt hk)]
 rw [Int.add_comm]
theorem DC (S:Nat→Prop) (r:M.Rules) (l:List Sh) (A:Option Addr) (c:Nat) (w:World) (hp:jQ w S A c l):
 Calls Tryz.prog 14 #[iJ r,.slice A l.length c] w fun e w'=>∃ A' c' A2 c2,e= .returned (.tuple #[oK (qV r l) A' c',.slice A2 (zl r l).length c2,.int .i64 (wK r l)])∧bQ w' (fun b=>w.heap.size≤b) A' c' (qV r l).au∧Reads w' (fun b=>w.heap.size≤b) 2 A2 (zl r l).length c2 (qI (zl r l))∧Below w.heap.size w w':=by
 refine callsIn_wide.1 (callsIn_of_wp_marks (F:=Fence.wide) (n:=5) Tryz.func14 rfl trivial ?_ rfl)
 simp only [Tryz.ntmps14,List.size_toArray,List.length_cons,List.length_nil,Nat.reduceAdd,Nat.reduceSub,Array.replicate_succ,
  Array.replicate_zero,List.push_toArray,List.append_toArray,List.nil_append,List.cons_append]
 refine wpIn_wide.2 ?_
 generalize hQ':bodyPostM Fence.wide 5 Tryz.prog _ _=Q'
 have hck:=fun W h=>check_any S r l A c W h;obtain ⟨E,hE⟩:∃ E,aS [M.aQ r,M.dO (plain l)]=E:=⟨_,rfl⟩;rw [hE] at hck;have hE':wK r l=E:=hE;have vV:=hide hck;have HE:=hide hE';have HQ:=hide hQ';clear hck hE hE' hQ'
 go_upto_region 0 with (fail)
 go_cut [2,4] from 2 to 7 (fun v2 v4 wx=>v2=ptr w.heap.size∧v4=ptr (w.heap.size+1)∧aX w wx [([.string r.game,.int .i64 r.target,.int .i64 r.bD],23),(aZ,53)])
 case first=>
  go_wp2;go_meet;exact ⟨rfl,rfl,(((aX.nil w).new (by simp) ([.string r.game,.int .i64 r.target,.int .i64 r.bD]) _).new (by simp) (aZ) _)⟩
 case rest=>
  obtain ⟨rfl,rfl,hB⟩:=hcut;have k0:=(hB.ah rfl).cell (j:=0) rfl;have EK:=(hB.ah rfl).frozen 0;have k1:=(hB.ah rfl).cell (j:=1) rfl;have Lm:=(hB.ah rfl).frozen 1;have k2:=(hB.ah rfl).cell (j:=2) rfl;have Um:=(hB.ah rfl).frozen 2
  by_cases h0:E=0
  · have h0':(E != 0)=false:=by simp [h0]
    go_upto_region 4 with (first | (go_at_call 34;refine (vV.out _ (hp.below hB.bw)).mono ?_;rintro e w1 ⟨rfl,hb1⟩;have hB1:=hB.call (by simp) hb1))
    obtain ⟨hr,hl⟩:=EO (HE.out.trans h0)
    have hrs:qV r l=M.final r (M.start r) (plain l)∧zl r l=M.gQ r (M.start r) 1 (plain l):=by
     have:=HE.out
     exact ⟨by unfold qV;rw [if_pos (by rw [this];exact h0)],by unfold zl;rw [if_pos (by rw [this];exact h0)]⟩
    have yL:=hide hrs;have HR:=hide hr;have HL:=hide hl;have Ph:=hide (EP (HE.out.trans h0));clear h0' hrs hr hl k0 EK k1 Lm k2 Um;have j0:=(hB1.ah rfl).cell (j:=0) rfl;have jf0:=(hB1.ah rfl).frozen 0;have j1:=(hB1.ah rfl).cell (j:=1) rfl;have jf1:=(hB1.ah rfl).frozen 1;have j2:=(hB1.ah rfl).cell (j:=2) rfl;have jf2:=(hB1.ah rfl).frozen 2
    go_cut [8] from 19 to 21 (fun v8 wx=>∃ B8 A0 c0,v8=ptr B8∧aX w wx [([.string r.game,.int .i64 r.target,.int .i64 r.bD],23),(aZ,53)]∧w.heap.size+2≤B8∧Held wx B8 (aj r (M.start r) A0 c0) 99∧bQ wx (fun b=>w.heap.size+2≤b∧b<B8) A0 c0 (M.start r).au)
    case first=>
     go_wp2_with (first | (go_at_call 36;refine (fF r _).mono ?_;rintro e w2 ⟨A1,c1,rfl,hr1,hb2⟩;have hB2:=hB1.call (by simp) hb2;have hG2:=Held.new w2 aY 99) | (refine aO 99 (.tmp 8) (.tmp 20) rfl ?_;refine aF (hG2) (aj r (M.start r) A1 c1) rfl ay (bM _ _ _ _) rfl (.tmp 8) (.tmp 20) rfl rfl rfl ?_))
     go_meet;have hs1:=hB1.size (by simp);have hs2:=hb2.size
     simp only [List.length_cons,List.length_nil] at hs1
     exact ⟨w2.heap.size,A1,c1,rfl,(hB2.alloc (by simp) _).Ig (by simpa using Nat.le_trans hs1 hs2) _ _,by omega,hG2.whole _ rfl,bQ.sets (fun h=>absurd h.2 (Nat.lt_irrefl _)) _ 0 _ ((hr1.more (fun b hb h=>⟨by omega,hb⟩)).alloc _)⟩
    case rest=>
     obtain ⟨B8,A0,c0,rfl,hB2,hB8,hG,hrd⟩:=hcut;clear j0 jf0 j1 jf1 j2 jf2;have i0:=(hB2.ah rfl).cell (j:=0) rfl;have if0:=(hB2.ah rfl).frozen 0;have i1:=(hB2.ah rfl).cell (j:=1) rfl;have if1:=(hB2.ah rfl).frozen 1;have i2:=(hB2.ah rfl).cell (j:=2) rfl;have if2:=(hB2.ah rfl).frozen 2
     have qB:w.heap.size+2≤wc.heap.size:=by simpa using hB2.size (by simp)
     have hsz1:w.heap.size<wc.heap.size:=by omega
     go_wp2_with (go_at_call 38;refine (rC r _ _ _ _).mono ?_;rintro e w3 ⟨rfl,hC⟩)
     rename_i KQ TN
     have hD3:wc.heap.size+3≤w3.heap.size:=by
      have:=hC.size (by simp)
      simp only [List.length_cons,List.length_nil,World.size_alloc] at this
      omega
     have hb3:=(hB2.bw.trans (((Below.refl _ _).alloc (Nat.le_refl _) _).mono (by omega))).trans (hC.bw.mono (by simp;omega));have aic:=hG.lt
     have MF:Held w3 (wc.heap.size+1) [.string r.game,.int .i64 r.target,.int .i64 r.bD] 23:=by simpa using hC.ah rfl
     have MC:Held w3 (wc.heap.size+1+1) [.slice A l.length c] 24:=by simpa using hC.get 1 rfl
     have hK3:∀ b,(b=wc.heap.size+1∨b=wc.heap.size+2∨(S b∧b<w.heap.size))→b<w3.heap.size:=by rintro b (h | h | ⟨_,h⟩) <;> omega
     have ZW:jQ w3 (fun b=>b=wc.heap.size+1∨b=wc.heap.size+2∨(S b∧b<w.heap.size)) A c l:=(hp.more (S':=fun b=>b=wc.heap.size+1∨b=wc.heap.size+2∨(S b∧b<w.heap.size)) (fun b hb h=> .inr (.inr ⟨h,hb⟩))).below hb3
     have hZ3:Held w3 (w.heap.size+1) aZ 53:=by have:=(hB2.get 1 rfl).alloc (.cells #[.slice none 0 0] 54);exact this.upto hC.bw (by simp;omega)
     have hG3:Held w3 B8 (aj r (M.start r) A0 c0) 99:=(hG.alloc (.cells #[.slice none 0 0] 54)).upto hC.bw (by simp;omega);have hA3:Held w3 wc.heap.size [.slice none 0 0] 54:=(Held.new wc [.slice none 0 0] 54).upto hC.bw (by simp);have atp:bQ w3 (fun b=>w.heap.size+2≤b∧b<B8) A0 c0 (M.start r).au:=(hrd.alloc (.cells #[.slice none 0 0] 54)).below hC.bw;refine (wpIn_wide (n:=5)).1 ?_
     refine fV (F:=Fence.wide) rfl (by decide) rfl trivial (fun _ _=>rfl) (oP r l A c (fun b=>b=wc.heap.size+1∨b=wc.heap.size+2∨(S b∧b<w.heap.size)) _ _ 4 w3 (by decide) HR.out HL.out Ph.out hK3 MF (.inl rfl) MC (.inr (.inl rfl)) ZW) hK3 (Below.refl _ _) (fun _=>rfl) (RJ r l w B8 wc.heap.size w3.heap.size) (fun _ _ _ _=>False) (RJ.abides r l w B8 wc.heap.size w3.heap.size (by omega) aic (by omega)) (fun _ _ _ _ _ _ _ h _ _ _=>h)
      (fun X Y pre W lp o o' h hlp hl ho=>h.putObj (by omega) hlp hl ho o') (fun _ _ _ _ _ _ _ h _ _ _=>h) (fun X Y pre x W lp o o' h hlp hl ho=>h.putObj hl ho o') ?h0 (fun x a W=>∃ Be v0 v1 v2 v3 v4 v5 v6 v7 v12 v13 v14 v15 v16 v17 v18 v19 v20 v21 v22 v23 v24 v25 v26 v27 v28 v29 v30 v31 v32 v33 v34 v35 v36 v37 v38 v39 v40 v41,a= {tmps:= #[v0,v1,v2,v3,v4,v5,v6,v7,ptr B8,ptr wc.heap.size,.int .i64 (x.i:Int),ptr Be,v12,v13,v14,v15,v16,v17,v18,v19,v20,v21,v22,v23,v24,v25,v26,v27,v28,v29,v30,v31,v32,v33,v34,v35,v36,v37,v38,v39,v40,v41],defers:=[] }∧w3.heap.size≤Be∧Held W Be (bY r x) 106) ?assign ?ap ?body ?done ?stop
     case h0=>
      intro W hW;refine ⟨(hb3.trans (hW.mono (by omega))),hW.size,fun b h=>h.elim (fun h=>h.elim) (fun h=>h.elim),hZ3.below hW,⟨A0,c0,?_,?_⟩,⟨.slice none 0 0,hA3.below hW,World.ownsRow_nil _ _ _ _,fun g hg=>by cases hg⟩⟩
      · have:jF r l ([]:List wY).length=M.start r:=by unfold jF;simp [plain,M.final]
        rw [this];exact hG3.below hW
      · have:jF r l ([]:List wY).length=M.start r:=by unfold jF;simp [plain,M.final]
        rw [this];exact KI.of (atp.below hW) (fun b hb _=>⟨fun h=>h,by omega⟩)
     case ap=>
      rintro x a' W lp o o' ⟨Be,v0,v1,v2,v3,v4,v5,v6,v7,v12,v13,v14,v15,v16,v17,v18,v19,v20,v21,v22,v23,v24,v25,v26,v27,v28,v29,v30,v31,v32,v33,v34,v35,v36,v37,v38,v39,v40,v41,e2,h1,h2⟩ hlp hl ho
      exact ⟨Be,v0,v1,v2,v3,v4,v5,v6,v7,v12,v13,v14,v15,v16,v17,v18,v19,v20,v21,v22,v23,v24,v25,v26,v27,v28,v29,v30,v31,v32,v33,v34,v35,v36,v37,v38,v39,v40,v41,e2,h1,h2.putObj hl ho _⟩
     case stop=>exact fun _ _ _ _ _ _ _ h _=>h.elim
     case assign=>
      intro lp X Y pre x W K' hi ht hk uy;have hb:=((Below.refl W.heap.size W).alloc (Nat.le_refl _) (.cells gW.toArray 106));have hb':=below_setCells W.heap.size (Nat.le_refl _) (bY r x) 0 _ _ hb;have hE0:=Held.new W gW 106;have hsz:=hi.sz
      have fin:∀ v0 v1 v2 v3 v4 v5 v6 v7 v12 v13 v14 v15 v16 v17 v18 v19 v20 v21 v22 v23 v24 v25 v26 v27 v28 v29 v30 v31 v32 v33 v34 v35 v36 v37 v38 v39 v40 v41:Value,K' {tmps:= #[v0,v1,v2,v3,v4,v5,v6,v7,ptr B8,ptr wc.heap.size,.int .i64 (x.i:Int),ptr W.heap.size,v12,v13,v14,v15,v16,v17,v18,v19,v20,v21,v22,v23,v24,v25,v26,v27,v28,v29,v30,v31,v32,v33,v34,v35,v36,v37,v38,v39,v40,v41],defers:=[] } ((W.alloc (.cells gW.toArray 106)).setCells W.heap.size 0 (bY r x)):=fun _ _ _ _ _ _ _ _ _ _ _ _ _ _ _ _ _ _ _ _ _ _ _ _ _ _ _ _ _ _ _ _ _ _ _ _ _ _=>
       hk _ _ ⟨hb'.size,fun k o hk hl _=>(hb'.block k (Array.getElem?_eq_some_iff.1 hl).1).trans hl⟩
        ⟨hb'.size,fun b h=>hb'.block b (uy b h),fun b h=>hb'.block b (Nat.lt_of_lt_of_le (hK3 b h) hsz)⟩
        (RJ.abides r l w B8 wc.heap.size w3.heap.size (by omega) aic (by omega) _ _ _ _ _ _ _ hi (Turn.of_below hb') (fun b h=> .inl h) (fun b h=> .inl h))
        ⟨ht.i,ht.lt,ht.e,ht.s,ht.t,ht.rule,ht.a.below hb',ht.b.below hb',ht.xy⟩
        ⟨W.heap.size,_,_,_,_,_,_,_,_,_,_,_,_,_,_,_,_,_,_,_,_,_,_,_,_,_,_,_,_,_,_,_,_,_,_,_,_,_,_,rfl,hsz,hE0.whole _ rfl⟩
      have FIN:=hide fin;clear hk fin hb hb' hi ht uy hsz
      simp [yS]
      apply wpIn_seq_k;intro K1 hK1;refine bH (by kernel_rfl) (by rintro ⟨_,_,h⟩;exact h) ?_;go_wp2;refine bH (by kernel_rfl) (by rintro ⟨_,_,h⟩;exact h) ?_
      go_wp2_with (refine aO 106 (.tmp 11) (.tmp 25) rfl ?_;refine aF hE0 (bY r x) rfl lF (qZ _ _) rfl (.tmp 11) (.tmp 25) rfl rfl rfl ?_)
      exact FIN.out _ _ _ _ _ _ _ _ _ _ _ _ _ _ _ _ _ _ _ _ _ _ _ _ _ _ _ _ _ _ _ _ _ _ _ _ _ _
     case body=>
      rintro lp X Y pre x a' W hi ht ⟨Be,v0,v1,v2,v3,v4,v5,v6,v7,v12,v13,v14,v15,v16,v17,v18,v19,v20,v21,v22,v23,v24,v25,v26,v27,v28,v29,v30,v31,v32,v33,v34,v35,v36,v37,v38,v39,v40,v41,rfl,ZU,hE⟩ hlt uy hWs
      obtain ⟨Aq,cq,hF,hKI⟩:=hi.f;obtain ⟨v,hV,iV⟩:=hi.a;have h25:W.rangeAt Be 25 (aj r x.t x.A' x.c'):=fun j v hj=>hE.cell (Bd r x.i x.e x.s x.t x.A x.A' x.c x.c' x.rule j v hj);apply wpIn_block;apply wpIn_seq_k;intro K1 hK1;refine bH (by kernel_rfl) (by rintro ⟨_,_,h⟩;exact h) ?_
      go_wp2_with (first | (refine aB 99 (.tmp 26) rfl ?_;refine dH (g:=Be) (o:=25) h25 Tryz.underlying99 rfl ay rfl (.tmp 26) rfl rfl ?_) | (refine aO 99 (.tmp 8) (.tmp 27) rfl ?_;refine aF hF (aj r x.t x.A' x.c') rfl ay (bM _ _ _ _) rfl (.tmp 8) (.tmp 27) rfl rfl rfl ?_))
      obtain ⟨W1,hW1⟩:∃ W1,W.setCells B8 0 (aj r x.t x.A' x.c')=W1:=⟨_,rfl⟩
      have hoth:∀ b,b≠B8→W1.heap[b]? =W.heap[b]? :=fun b hb=>by rw [← hW1];exact Held.lu hb _ _ _
      have hs1:W1.heap.size=W.heap.size:=by rw [← hW1];exact setCells_size _ _ _ _
      have hF1:Held W1 B8 (aj r x.t x.A' x.c') 99:=by rw [← hW1];exact hF.whole _ rfl
      have hE1:=hE.blk (hoth Be (by omega));have hV1:=hV.blk (hoth wc.heap.size (by omega))
      have hT1:Turn (fun b=>b=B8) W W1:=by rw [← hW1];exact kH (X:=fun b=>b=B8) rfl _ _
      have hown1:=dV iV.own (fun g hg=>hoth g (by have:=(dh iV.own hg).1;omega));rw [hW1];clear hW1 h25 hF hKI
      have hl0:0≤x.rule:=by rw [ht.rule];exact xP _ _ _
      have hle:l[pre.length]=x.e:=by have:=ht.e;rw [List.getElem?_eq_getElem hlt] at this;exact Option.some.inj this
      have hst:jF r l (pre++[x]).length=x.t:=by
       rw [List.length_append,List.length_singleton,qm r l _ hlt,ht.t,ht.s,hle]
      have hrf:=Kt r l pre.length hlt;rw [hle, ← ht.s, ← ht.rule] at hrf;have hbW:=ht.b;have hb1:bQ W1 Y x.A' x.c' x.t.au:=hbW.keep (by omega) fun b o hb _=>World.cell?_of_block (hoth b (by have:=(uy b (.inr hb)).1;omega));have hsz:=hi.sz;have hsep:=hi.sep;have hZ:=hi.z;have hbw:=hi.bw;have hti:=ht.i;have hrl:=Dz r l pre.length;have HXY:=hide ht.xy;have HST:=hide hst;have HRF:=hide hrf;have Xm:=hide hsep;have HX:=hide uy;have HO:=hide hoth;have aqE:=Ph.out;clear hst hrf hsep uy hoth hi ht hle hbW;have e43:=hE1.cell (j:=43) rfl;have c9:=hV1.cell (j:=0) rfl;have f9:=hV1.frozen 0;apply wpIn_seq_k;intro K2 hK2;refine bH (by kernel_rfl) (by rintro ⟨_,_,h⟩;exact h) ?_;go_wp2;refine wpIn_cond_split rfl (fun h=>?_) (fun h=>?_)
      · have h0:0<x.rule:=by simpa using h
        clear h;obtain ⟨i0,hi0,hz0,hz1,hz2⟩:=info_parts G6;refine bH (by kernel_rfl) (by rintro ⟨_,_,h⟩;exact h) ?_
        go_wp2_with (at_builtin;refine wpList_append_lies _ rfl _ _ _ rfl (w3.heap.size) 110 i0 (.agg #[.int .i64 0,.int .i64 0]) 2 16 Tryz.underlying54 hi0 hz0 hz1 hz2 rfl (by omega) _ _ _ rfl (hown1.alloc _) ⟨W.heap.size,0,none⟩ 1 1 [.int .i64 ((pre.length:Int)+1),.int .i64 x.rule] rfl rfl (dJ _ _ _ _ hs1) ?c1 (by omega) ?c2 ?c3 ?c4 (W.heap.size+1) (by simp [hs1]) ?_)
        case c1=>simp [Value.oneCell']
        case c2=>simp only [maxLen];omega
        case c3=>omega
        case c4=>simp;omega
        intro g1 cap w4 hown4 hgrow hat hlt4
        have as3:wc.heap.size≠g1:=by
         rcases hat with h | h
         · have:=(dh hown1 h).1;omega
         · omega
        have ho4:∀ b,b<W.heap.size→b≠B8→v.ownBlock≠some b→w4.heap[b]? =W.heap[b]? :=fun b h1 h2 h3=>
         (hgrow.block b (by simp;omega) (fun e=>h3 e.symm)).trans ((Below.heap_alloc _ _ _ (by omega)).trans (HO.out b h2))
        have uw:Held w4 wc.heap.size [v] 54:=(hV1.alloc _).blk (hgrow.block _ (by simp;omega) (fun e=>by have:=(dh hown1 e.symm).1;omega));have f94:=uw.frozen 0;have c94:=uw.cell (j:=0) rfl;obtain ⟨nv,hnv⟩:∃ nv,Value.slice (some ⟨g1,0,none⟩) ((lT r l pre.length).length+1) cap=nv:=⟨_,rfl⟩;have XY:Held (w4.setCell ⟨wc.heap.size,0,none⟩ nv) wc.heap.size [nv] 54:=uw.set 0 nv
        have XV:Turn (fun b=>b=wc.heap.size∨v.ownBlock=some b) W1 (w4.setCell ⟨wc.heap.size,0,none⟩ nv):=
         ((Turn.of_below ((Below.refl W1.heap.size W1).alloc (Nat.le_refl _) (.cells #[.int .i64 ((pre.length:Int)+1),.int .i64 x.rule] 110))).mono (X:=fun _=>False) (fun b h=>h.elim)).trans ((show Turn (fun b=>b=wc.heap.size∨v.ownBlock=some b) _ w4 from ⟨hgrow.os,hgrow.tape,hgrow.output,hgrow.size,fun b hb hn=>hgrow.block b hb (fun e=>hn (.inr e.symm))⟩).trans (kH (X:=fun b=>b=wc.heap.size∨v.ownBlock=some b) (W:=w4) (g:=wc.heap.size) (.inl rfl) [nv] 0) (fun b h=> .inl h)) (fun b h=> .inl h)
        have hown5:jh (w4.setCell ⟨wc.heap.size,0,none⟩ nv) w3.heap.size X Y 110 2 nv (lT r l (pre++[x]).length).length (qI (lT r l (pre++[x]).length)):=by
         have e:lT r l (pre++[x]).length=lT r l pre.length++[⟨(pre.length:Int)+1,x.rule⟩]:=by
          rw [List.length_append,List.length_singleton,HRF.out,if_pos (by omega)]
         rw [e,List.length_append,List.length_singleton,AO];refine ⟨?_,?_⟩
         · rw [← hnv]
           refine dV (W:=w4) hown4 (fun g hg=>?_)
           cases hg
           exact Below.heap_setCell w4 ⟨wc.heap.size,0,none⟩ _ g1 (fun e=>as3 e.symm)
         · intro g hg
           rw [← hnv] at hg
           cases hg
           rcases hat with h | h
           · exact iV.far _ h
           · exact ⟨fun hx=>by have:g1<W.heap.size:=(HX.out _ (.inl hx)).2;omega,fun hx=>by have:g1<W.heap.size:=(HX.out _ (.inr hx)).2;omega⟩
        have XW:Turn (fun b=>b=B8∨b=wc.heap.size∨v.ownBlock=some b) W (w4.setCell ⟨wc.heap.size,0,none⟩ nv):=(hT1.mono (fun b h=> .inl h)).trans (XV.mono (X':=fun b=>b=B8∨b=wc.heap.size∨v.ownBlock=some b) (fun b h=> .inr h)) (fun b h=> .inl h);have hob:∀ b,v.ownBlock=some b→w3.heap.size≤b:=fun b h=>(dh hown1 h).1
        have fin:o8 (fun b=>b=wc.heap.size+1∨b=wc.heap.size+2∨S b∧b<w.heap.size) w3.heap.size X Y (RJ r l w B8 wc.heap.size w3.heap.size) (fun _ _ _ _=>False) (pre++[x]) W .normal {tmps:= #[],defers:=[] } (w4.setCell ⟨wc.heap.size,0,none⟩ nv):=by
         refine ⟨⟨XW.size,fun k o hk hl hc=>(XW.block k (Array.getElem?_eq_some_iff.1 hl).1 ?_).trans hl⟩,⟨XW.size,fun b h=>XW.block b (HX.out b h).2 ?_,fun b h=>XW.block b (Nat.lt_of_lt_of_le (hK3 b h) hWs) ?_⟩,⟨gB hbw XW ?_ (by omega),Nat.le_trans hWs XW.size,Xm.out,hZ.turn XW ?_,⟨x.A',x.c',?_,?_⟩,⟨nv,XY,hown5⟩⟩⟩
         · rintro (h | h | h)
           · omega
           · omega
           · obtain ⟨o2,h2,h3⟩:=(dh iV.own h).2
             rw [hl] at h2;cases h2;rw [hc] at h3;cases h3
         · have h1:=(HX.out b h).1
           rintro (h2 | h2 | h2)
           · omega
           · omega
           · exact h.elim (iV.far b h2).1 (iV.far b h2).2
         · have h1:=hK3 b h
           rintro (h2 | h2 | h2)
           · rcases h with h | h | ⟨_,h⟩ <;> omega
           · rcases h with h | h | ⟨_,h⟩ <;> omega
           · have:=hob b h2;omega
         · rintro b (h2 | h2 | h2)
           · omega
           · omega
           · have:=hob b h2;omega
         · rintro (h2 | h2 | h2)
           · omega
           · omega
           · have:=hob _ h2;omega
         · rw [HST.out]
           exact hF1.turn XV (by
            rintro (h2 | h2)
            · omega
            · have:=hob _ h2;omega)
         · rw [HST.out]
           exact KI.of (Reads.turn hb1 XV (fun b hb=>by
            rintro (h2 | h2)
            · have:=(HX.out b (.inr hb)).1;omega
            · exact (iV.far b h2).2 hb)) (fun b hb _=>⟨HXY.out b hb,by have:=(HX.out b (.inr hb)).1;omega⟩)
        have FIN:=hide fin;clear fin XW XV hown5 XY hob hE1 hV1 hF1 hb1 hown1 e43 c9 f9 hgrow hown4 ho4;subst hnv;go_wp2;exact FIN.out
      · have h0:x.rule=0:=by have:¬ 0<x.rule:=by simpa using h
                             omega
        clear h;refine wpIn_skip ?_
        simp only [Exit.inBlock]
        refine ⟨⟨by omega,fun k o hk hl _=>(HO.out k (by omega)).trans hl⟩,⟨by omega,fun b h=>HO.out b (by have:=(HX.out b h).1;omega),fun b h=>HO.out b (by rcases h with h | h | ⟨_,h⟩ <;> omega)⟩,⟨gB hbw hT1 (fun b hb=>by omega) (by omega),by omega,Xm.out,hZ.blk (HO.out _ (by omega)),⟨x.A',x.c',?_,?_⟩,⟨v,hV1,?_⟩⟩⟩
        · rw [HST.out];exact hF1
        · rw [HST.out];exact KI.of hb1 (fun b hb _=>⟨HXY.out b hb,by have:=(HX.out b (.inr hb)).1;omega⟩)
        · rw [List.length_append,List.length_singleton,HRF.out,if_neg (by simp [h0]),List.append_nil]
          exact ⟨hown1,iV.far⟩
     case done=>
      intro D X Y xs W hD hS hi hdef;obtain ⟨A',c',hF,hKI⟩:=hi.f;obtain ⟨v,hV,iV⟩:=hi.a
      have hfin:jF r l xs.length=qV r l:=by rw [hS,yL.out.1];unfold jF;rw [List.take_length]
      have Iz:lT r l xs.length=zl r l:=by rw [hS,yL.out.2];unfold lT;rw [List.take_length]
      rw [hfin] at hF hKI;rw [Iz] at iV;obtain ⟨A2,c2,rfl⟩:=EW iV.own;have hZ:=hi.z;have hbw:=hi.bw;have hWs:=hi.sz
      have hlr:(zl r l).length≤1000:=by rw [← Iz];have:=Dz r l xs.length;have:=Ph.out;omega
      have hrg:∀ W':World,(fun w':World=>(∀ q,w'.cell? ⟨B8,q,none⟩=W.cell? ⟨B8,q,none⟩)∧(∀ q,w'.cell? ⟨wc.heap.size,q,none⟩=W.cell? ⟨wc.heap.size,q,none⟩)) W'→W'.rangeAt B8 3 (aJ (qV r l) A' c'):=fun W' h j v hj=>by rw [h.1];exact hF.cell (vF r _ A' c' j v hj)
      have c9:=hV.cell (j:=0) rfl;have yN:=hide hdef;have hZ5:=(hZ.drew).whole (aJ (qV r l) A' c') rfl;have ho5:∀ b,b≠w.heap.size+1→((W.drew).setCells (w.heap.size+1) 0 (aJ (qV r l) A' c')).heap[b]? =W.heap[b]? :=fun b hb=>Held.lu hb (aJ (qV r l) A' c') 0 W.drew;have ai3:Below w.heap.size w ((W.drew).setCells (w.heap.size+1) 0 (aJ (qV r l) A' c')):=below_setCells _ (by omega) _ _ _ _ (show Below w.heap.size w W.drew from ⟨hbw.os,hbw.tape,hbw.output,hbw.size,hbw.block⟩)
      have hs5:W.heap.size≤((W.drew).setCells (w.heap.size+1) 0 (aJ (qV r l) A' c')).heap.size:=by rw [setCells_size];exact Nat.le_refl _
      have fin:∀ (a:Act),a.defers=[{target:= .collected D,args:= #[] }]→a.tmps.getD 4 undef=ptr (w.heap.size+1)→a.tmps.getD 5 undef= .slice A2 (zl r l).length c2→a.tmps.getD 6 undef= .int .i64 0→Q' .ret a ((W.drew).setCells (w.heap.size+1) 0 (aJ (qV r l) A' c')):=by
       intro a e1 e4 e5 e6;have hd5:=(ho5 D (by omega)).trans yN.out;rw [← HQ.out];refine jA e1 hd5 (gV (p:=4) (hZ5.putObj hd5 rfl _) Tryz.underlying53 rfl bg rfl _ e4) ⟨A',c',A2,c2,?_,?_,?_,fJ ai3 (by omega) _⟩
       · rw [e5,e6,HE.out,h0];rfl
       · exact (((hKI.keep hs5 (fun b hq _=>ho5 b (by omega))).putObj hd5 rfl _).out).more (fun b _ h=>by omega)
       · exact Reads.je (dV iV.own (fun g hg=>by
          have h1:=dh iV.own hg
          have hne:g≠D:=fun e=>by
           obtain ⟨_,o2,h2,h3⟩:=h1;rw [e,yN.out] at h2;cases h2;cases h3
          exact (World.putObj_heap_other hne).trans (ho5 g (by omega)))) (fun g hg=>by omega) (by omega)
      have FIN:=hide fin;clear fin hZ5 ai3 hs5 hi hdef iV hKI hV;refine TN _ _ ?_
      dsimp only
      refine kY ?_
      go_upto_region 12 with (fail)
      go_cut [5,6] from 39 to 41 (fun v5 v6 wx=>v5= .slice A2 (zl r l).length c2∧v6= .int .i64 0∧wx=((W.drew).setCells (w.heap.size+1) 0 (aJ (qV r l) A' c')))
      case first=>
       refine wp_region_held_drew (S:=(fun w':World=>(∀ q,w'.cell? ⟨B8,q,none⟩=W.cell? ⟨B8,q,none⟩)∧(∀ q,w'.cell? ⟨wc.heap.size,q,none⟩=W.cell? ⟨wc.heap.size,q,none⟩))) (by kernel_rfl) ?dY (fun hHeld=>?_)
       case dY=>first | exact hk3 | exact ⟨fun q=>rfl,fun q=>rfl⟩
       refine tk 0 ?_;refine wpAnyH_take (i:=1) (oi:=_) (v:=_) (ga rfl) (by kernel_rfl) (by kernel_rfl) (by kernel_rfl) (fun _ _ _ h=>h) (yieldsIf_load_mid (by rfl) _ _ (by rfl) _ _ (by rfl) _ _ hrg Tryz.underlying53 rfl (by kernel_rfl)) (by assumption) ?_
       try simp only [Act.put,la,lz,ls]
       refine tk 2 ?_;refine tr 3 fun K hK=>?_;have hk3:(∀ q,((W.drew).setCells (w.heap.size+1) 0 (aJ (qV r l) A' c')).cell? ⟨B8,q,none⟩=W.cell? ⟨B8,q,none⟩)∧(∀ q,((W.drew).setCells (w.heap.size+1) 0 (aJ (qV r l) A' c')).cell? ⟨wc.heap.size,q,none⟩=W.cell? ⟨wc.heap.size,q,none⟩):=⟨fun q=>World.cell?_of_block (ho5 B8 (by omega)),fun q=>World.cell?_of_block (ho5 wc.heap.size (by omega))⟩;refine jB (hZ.drew) (aJ (qV r l) A' c') rfl bg (fG _ _ _) (.tmp 4) (.tmp 40) rfl rfl rfl ?_;refine hK.out _ _ ?amV (fun hHeld=>?_)
       case amV=>(first | (first | exact hk3 | exact ⟨fun q=>rfl,fun q=>rfl⟩) | (dsimp only;first | exact hk3 | exact ⟨fun q=>rfl,fun q=>rfl⟩))
       clear hK K
       try simp only [Act.put,la,lz,ls]
       refine tk 4 ?_;refine tk 5 ?_;refine wpAnyH_done (by kernel_rfl) ?_ _;go_wp2;go_meet;exact ⟨rfl,rfl,rfl⟩
      case rest=>
       obtain ⟨rfl,rfl,rfl⟩:=hcut;go_wp2;exact FIN.out _ rfl rfl rfl rfl
  · have h0':(E != 0)=true:=by simp [h0]
    have hrs:qV r l=M.zero∧zl r l=[]:=by
     have:=HE.out
     exact ⟨by unfold qV;rw [if_neg (by rw [this];exact h0)],by unfold zl;rw [if_neg (by rw [this];exact h0)]⟩
    have yL:=hide hrs;clear h0 hrs
    go_wp2_with (first | (go_at_call 34;refine (vV.out _ (hp.below hB.bw)).mono ?_;rintro e w1 ⟨rfl,hb1⟩;have hB1:=hB.call (by simp) hb1) | (refine aO 53 (.tmp 4) (.tmp 17) rfl ?_;refine aF (hB1.get 1 rfl) (aZ) rfl bg (fG M.zero none 0) rfl (.tmp 4) (.tmp 17) rfl rfl rfl ?_))
    have hF:=hB1.put 1 rfl aZ rfl;rw [← HQ.out];refine wJ (gV (p:=4) (hF.get 1 rfl) Tryz.underlying53 rfl bg rfl _ rfl) rfl ⟨none,0,none,0,?_,?_,?_,hF.bw⟩
    · rw [yL.out.1,yL.out.2,HE.out];rfl
    · rw [yL.out.1];exact Reads.none_ _ _ _
    · rw [yL.out.2];exact Reads.none_ _ _ _
theorem BA {W w4:World} {D B g1 k cap k' H:Nat} {X Y:Nat→Prop} {e ty:TypeId} {size n:Nat} {v:Value} {xs ys:List Value} {o:Obj} (hV:Held W B [v] ty) (hB:B<D) (iV:jh W D X Y e size v n xs) (hXW:∀ b,X b∨Y b→b<W.heap.size) (hDW:D≤W.heap.size)
 (hgrow:(W.alloc o).grownBy w4 v.ownBlock) (hown4:w4.ownsRow D e size (.slice (some ⟨g1,0,none⟩) k cap) k' ys) (hat:v.ownBlock=some g1∨g1=H) (hH:W.heap.size+1=H):
 Held w4 B [v] ty∧Turn (fun b=>b=B∨v.ownBlock=some b) W (w4.setCell ⟨B,0,none⟩ (.slice (some ⟨g1,0,none⟩) k cap))∧Held (w4.setCell ⟨B,0,none⟩ (.slice (some ⟨g1,0,none⟩) k cap)) B [.slice (some ⟨g1,0,none⟩) k cap] ty∧jh (w4.setCell ⟨B,0,none⟩ (.slice (some ⟨g1,0,none⟩) k cap)) D X Y e size (.slice (some ⟨g1,0,none⟩) k cap) k' ys:=by
 have hne:B≠g1:=by
  rcases hat with h | h
  · have:=(dh iV.own h).1;omega
  · omega
 have uw:Held w4 B [v] ty:=(hV.alloc o).blk (hgrow.block _ (by simp;omega) (fun e=>by have:=(dh iV.own e.symm).1;omega));refine ⟨uw,?_,uw.set 0 _,dV (W:=w4) hown4 (fun g hg=>?_),fun g hg=>?_⟩
 · exact ((Turn.of_below ((Below.refl W.heap.size W).alloc (Nat.le_refl _) o)).mono (X:=fun _=>False) (fun b h=>h.elim)).trans ((show Turn (fun b=>b=B∨v.ownBlock=some b) _ w4 from ⟨hgrow.os,hgrow.tape,hgrow.output,hgrow.size,fun b hb hn=>hgrow.block b hb (fun e=>hn (.inr e.symm))⟩).trans (kH (X:=fun b=>b=B∨v.ownBlock=some b) (W:=w4) (g:=B) (.inl rfl) [.slice (some ⟨g1,0,none⟩) k cap] 0) (fun b h=> .inl h)) (fun b h=> .inl h)
 · cases hg
   exact Below.heap_setCell w4 ⟨B,0,none⟩ _ g1 (fun e=>hne e.symm)
 · cases hg
   rcases hat with h | h
   · exact iV.far _ h
   · exact ⟨fun hx=>by have:g1<W.heap.size:=hXW _ (.inl hx);omega,fun hx=>by have:g1<W.heap.size:=hXW _ (.inr hx);omega⟩
structure SC (e ty:TypeId) (size:Nat) (w:World) (B D:Nat) (len:Nat→Nat) (rows:Nat→List Value) (X Y:Nat→Prop) (xs:List wY) (W:World):Prop where
 bw:Below w.heap.size w W
 sz:D≤W.heap.size
 sep:∀ b,X b∨Y b→D≤b
 a:∃ v,Held W B [v] ty∧jh W D X Y e size v (len xs.length) (rows xs.length)
section
variable {e ty:TypeId} {size:Nat} {w:World} {B D:Nat} {len:Nat→Nat} {rows:Nat→List Value}
theorem SC.abides (hw:w.heap.size<B) (h9:B<D):kZ (SC e ty size w B D len rows):=by
 intro X Y pre W X' Y' W' h ht hX hY
 have hno:∀ b,b<D→¬ X b:=fun b hb hx=>by have:=h.sep b (.inl hx);omega
 obtain ⟨v,hv,ho⟩:=h.a;refine ⟨gB h.bw ht (fun b hb=>by have:=h.sep b (.inl hb);omega) (by have:=h.sz;omega),Nat.le_trans h.sz ht.size,?_,⟨v,hv.turn ht (hno _ h9),ho.turn ht hX hY⟩⟩
 rintro b (hb | hb)
 · rcases hX b hb with h2 | h2
   · exact h.sep b (.inl h2)
   · exact Nat.le_trans h.sz h2
 · rcases hY b hb with h2 | h2
   · exact h.sep b (.inr h2)
   · exact Nat.le_trans h.sz h2
theorem SC.putObj {X Y:Nat→Prop} {pre:List wY} {W:World} {lp:Nat} {o:Obj} (h:SC e ty size w B D len rows X Y pre W) (hD:w.heap.size≤D) (hlp:D≤lp) (hl:W.heap[lp]? =some o) (ho:o.isCells=false) (o':Obj):SC e ty size w B D len rows X Y pre (W.putObj lp o'):=by
 obtain ⟨v,hv,hw⟩:=h.a;exact ⟨fJ h.bw (by omega) _,by simpa using h.sz,h.sep,⟨v,hv.putObj hl ho _,hw.putObj hl ho _⟩⟩
theorem Fe {X Y K:Nat→Prop} {W W6:World} {v:Value} {n:Nat} {xs:List Value} (hWs:D≤W.heap.size) (hX:∀ b,X b∨Y b→D≤b∧b<W.heap.size) (hB:B<D) (hK:∀ b,K b→b<D∧b≠B) (iV:jh W D X Y e size v n xs)
 (hT:Turn (fun b=>b=B∨v.ownBlock=some b) W W6):KeepsFrom D W W6∧qp K X Y W W6:=by
 refine ⟨⟨hT.size,fun k o hk hl hc=>(hT.block k (Array.getElem?_eq_some_iff.1 hl).1 ?_).trans hl⟩,⟨hT.size,fun b h=>hT.block b (hX b h).2 ?_,fun b h=>hT.block b (Nat.lt_of_lt_of_le (hK b h).1 hWs) ?_⟩⟩
 · rintro (h | h)
   · omega
   · obtain ⟨o2,h2,h3⟩:=(dh iV.own h).2
     rw [hl] at h2;cases h2;rw [hc] at h3;cases h3
 · have h1:=(hX b h).1
   rintro (h2 | h2)
   · omega
   · exact h.elim (iV.far b h2).1 (iV.far b h2).2
 · rintro (h2 | h2)
   · exact (hK b h).2 h2
   · have:=(dh iV.own h2).1;have:=(hK b h).1;omega
theorem SC.fin {X Y K:Nat→Prop} {Ix:(Nat→Prop)→(Nat→Prop)→List wY→World→Prop} {x:wY} {pre:List wY} {W W6:World} {v nv:Value} {n:Nat} {xs:List Value} {a:Act} (hw:w.heap.size≤B) (hB:B<D) (hWs:D≤W.heap.size) (hbw:Below w.heap.size w W) (hsep:∀ b,X b∨Y b→D≤b)
 (hX:∀ b,X b∨Y b→D≤b∧b<W.heap.size) (hK:∀ b,K b→b<D∧b≠B) (iV:jh W D X Y e size v n xs) (hT:Turn (fun b=>b=B∨v.ownBlock=some b) W W6) (hV:Held W6 B [nv] ty)
 (hO:jh W6 D X Y e size nv (len (pre.length+1)) (rows (pre.length+1))):o8 K D X Y (SC e ty size w B D len rows) Ix (pre++[x]) W .normal a W6:=by
 obtain ⟨h1,h2⟩:=Fe hWs hX hB hK iV hT;refine ⟨h1,h2,⟨gB hbw hT ?_ (by omega),Nat.le_trans hWs hT.size,hsep,⟨nv,hV,?_⟩⟩⟩
 · rintro b (h | h)
   · omega
   · have:=(dh iV.own h).1;omega
 · rw [List.length_append,List.length_singleton];exact hO
end
def noteCells (l:List M.Note):List Value:=l.flatMap fun x=>[.int .i64 x.number,.int .i64 x.aG,.int .i64 x.rule,.int .i64 x.iw,.int .i64 x.points,.bool x.turn]
theorem yZ (a b:List M.Note):noteCells (a++b)=noteCells a++noteCells b:=by simp [noteCells]
theorem XF (r:M.Rules) (k:Nat) (e:Sh) (s t:M.State) (A A':Option Addr) (c c':Nat) (ru:Int):∀ j v,(aj r s A c)[j]? =some v→(bY r ⟨k,e,s,A,c,t,A',c',ru⟩)[7+j]? =some v:=by
 intro j v hj;have hl:j<18:=(List.getElem?_eq_some_iff.1 hj).1
 unfold bY
 rw [List.getElem?_append_left (by simp [aA,aj];omega),List.getElem?_append_left (by simp [aA,aj];omega),List.getElem?_append_right (by simp [aA]),show 7+j - (aA e).length=j by simp [aA]];exact hj
theorem Tz (r:M.Rules) (k:Nat) (e:Sh) (s t:M.State) (A A':Option Addr) (c c':Nat) (ru:Int):∀ j v,(aA e)[j]? =some v→(bY r ⟨k,e,s,A,c,t,A',c',ru⟩)[0+j]? =some v:=by
 intro j v hj;have hl:j<7:=(List.getElem?_eq_some_iff.1 hj).1
 unfold bY
 rw [Nat.zero_add,List.getElem?_append_left (by simp [aA,aj];omega),List.getElem?_append_left (by simp [aA,aj];omega),List.getElem?_append_left (by simp [aA];omega)];exact hj
def WZ:List Value:=[.int .i64 0,.int .i64 0,.int .i64 0,.int .i64 0,.int .i64 0,.bool false]
@[reducible] def vP (k:Nat) (p ru f n:Int) (tu:Bool):List Value:=[.int .i64 ((k:Int)+1),.int .i64 p,.int .i64 ru,.int .i64 f,.int .i64 n,.bool tu]
theorem Jg (k:Nat) (p ru f n:Int) (tu:Bool):∀ v∈vP k p ru f n tu,v.oneCell'=true:=by simp [vP,Value.oneCell']
theorem ET:(Tryz.prog.info? 49).map (·.size)=some 6:=by kernel_rfl
def lN (r:M.Rules) (l:List Sh):List M.Note:=if wK r l=0 then M.notes r (M.start r) 1 (plain l) else []
theorem Qk:(Tryz.prog.info? 49).map (fun i=>(i.zero,i.size,i.bytes))=some (some (.agg #[.int .i64 0,.int .i64 0,.int .i64 0,.int .i64 0,.int .i64 0,.bool false]),6,48):=by kernel_rfl
def iZ (r:M.Rules) (l:List Sh) (k:Nat):List M.Note:=M.notes r (M.start r) 1 (plain (l.take k))
theorem zS (r:M.Rules) (l:List Sh) (k:Nat) (hk:k≤l.length):(iZ r l k).length=k:=by
 have go:∀ (l2:List M.aV) (s:M.State) (n:Int),(M.notes r s n l2).length=l2.length:=by
  intro l2
  induction l2 with
  | nil=>intro s n;rfl
  | cons y l2 ih=>intro s n;rw [M.notes,List.length_cons,ih,List.length_cons]
 unfold iZ
 rw [go,aW,List.length_take]
 omega
theorem GH (r:M.Rules) (l:List Sh) (k:Nat) (hk:k<l.length):iZ r l (k+1)=iZ r l k++[M.note r (jF r l k) ((k:Int)+1) l[k].x]:=by
 have go:∀ (l2:List M.aV) (s:M.State) (n:Int) (x:M.aV),M.notes r s n (l2++[x])=M.notes r s n l2++[M.note r (M.final r s l2) (n+l2.length) x]:=by
  intro l2
  induction l2 with
  | nil=>intro s n x;simp [M.notes,M.final]
  | cons y l2 ih=>
    intro s n x;rw [List.cons_append,M.notes,M.notes,ih,List.cons_append]
    simp only [M.final,List.foldl_cons,List.length_cons]
    rw [show n+1+(l2.length:Int)=n+((l2.length+1:Nat):Int) by push_cast;omega]
 unfold iZ jF
 rw [List.take_succ_eq_append_getElem hk]
 unfold plain
 rw [List.map_append,List.map_cons,List.map_nil,go]
 congr 3
 simp only [List.length_map,List.length_take,Nat.min_eq_left (Nat.le_of_lt hk)]
 rw [Int.add_comm]
theorem Ql (S:Nat→Prop) (r:M.Rules) (l:List Sh) (A:Option Addr) (c:Nat) (w:World) (hp:jQ w S A c l):
 Calls Tryz.prog 12 #[iJ r,.slice A l.length c] w fun e w'=>∃ A2 c2,e= .returned (.tuple #[.slice A2 (lN r l).length c2,.int .i64 (wK r l)])∧Reads w' (fun b=>w.heap.size≤b) 6 A2 (lN r l).length c2 (noteCells (lN r l))∧Below w.heap.size w w':=by
 refine callsIn_wide.1 (callsIn_of_wp_marks (F:=Fence.wide) (n:=5) Tryz.func12 rfl trivial ?_ rfl)
 simp only [Tryz.ntmps12,List.size_toArray,List.length_cons,List.length_nil,Nat.reduceAdd,Nat.reduceSub,Array.replicate_succ,
  Array.replicate_zero,List.push_toArray,List.append_toArray,List.nil_append,List.cons_append]
 refine wpIn_wide.2 ?_
 generalize hQ':bodyPostM Fence.wide 5 Tryz.prog _ _=Q'
 have hck:=fun W h=>check_any S r l A c W h;obtain ⟨E,hE⟩:∃ E,aS [M.aQ r,M.dO (plain l)]=E:=⟨_,rfl⟩;rw [hE] at hck;have hE':wK r l=E:=hE;have vV:=hide hck;have HE:=hide hE';have HQ:=hide hQ';clear hck hE hE' hQ'
 go_upto_region 0 with (fail)
 go_cut [2] from 2 to 5 (fun v2 wx=>v2=ptr w.heap.size∧aX w wx [([.string r.game,.int .i64 r.target,.int .i64 r.bD],23)])
 case first=>
  go_wp2;go_meet;exact ⟨rfl,((aX.nil w).new (by simp) ([.string r.game,.int .i64 r.target,.int .i64 r.bD]) _)⟩
 case rest=>
  obtain ⟨rfl,hB⟩:=hcut;have k0:=(hB.ah rfl).cell (j:=0) rfl;have EK:=(hB.ah rfl).frozen 0;have k1:=(hB.ah rfl).cell (j:=1) rfl;have Lm:=(hB.ah rfl).frozen 1;have k2:=(hB.ah rfl).cell (j:=2) rfl;have Um:=(hB.ah rfl).frozen 2
  by_cases h0:E=0
  · have h0':(E != 0)=false:=by simp [h0]
    obtain ⟨hr,hl⟩:=EO (HE.out.trans h0)
    have hrs:lN r l=M.notes r (M.start r) 1 (plain l):=by
     have:=HE.out
     unfold lN;rw [if_pos (by rw [this];exact h0)]
    have yL:=hide hrs;have HR:=hide hr;have HL:=hide hl;have Ph:=hide (EP (HE.out.trans h0))
    go_upto_region 4 with (first | (go_at_call 34;refine (vV.out _ (hp.below hB.bw)).mono ?_;rintro e w1 ⟨rfl,hb1⟩;have hB1:=hB.call (by simp) hb1))
    clear h0' hrs hr hl k0 EK k1 Lm k2 Um;have j0:=(hB1.ah rfl).cell (j:=0) rfl;have jf0:=(hB1.ah rfl).frozen 0;have j1:=(hB1.ah rfl).cell (j:=1) rfl;have jf1:=(hB1.ah rfl).frozen 1;have j2:=(hB1.ah rfl).cell (j:=2) rfl;have jf2:=(hB1.ah rfl).frozen 2
    have hsz0:w.heap.size+1≤w1.heap.size:=by simpa using hB1.size (by simp)
    have hsz1:w.heap.size<w1.heap.size:=by omega
    go_wp2_with (go_at_call 38;refine (rC r _ _ _ _).mono ?_;rintro e w3 ⟨rfl,hC⟩)
    rename_i KQ TN
    have hD3:w1.heap.size+3≤w3.heap.size:=by
     have:=hC.size (by simp)
     simp only [List.length_cons,List.length_nil,World.size_alloc] at this
     omega
    have hb3:=(hB1.bw.trans (((Below.refl _ _).alloc (Nat.le_refl _) _).mono (by omega))).trans (hC.bw.mono (by simp;omega))
    have MF:Held w3 (w1.heap.size+1) [.string r.game,.int .i64 r.target,.int .i64 r.bD] 23:=by simpa using hC.ah rfl
    have MC:Held w3 (w1.heap.size+1+1) [.slice A l.length c] 24:=by simpa using hC.get 1 rfl
    have hK3:∀ b,(b=w1.heap.size+1∨b=w1.heap.size+2∨(S b∧b<w.heap.size))→b<w3.heap.size:=by rintro b (h | h | ⟨_,h⟩) <;> omega
    have ZW:jQ w3 (fun b=>b=w1.heap.size+1∨b=w1.heap.size+2∨(S b∧b<w.heap.size)) A c l:=(hp.more (S':=(fun b=>b=w1.heap.size+1∨b=w1.heap.size+2∨(S b∧b<w.heap.size))) (fun b hb h=> .inr (.inr ⟨h,hb⟩))).below hb3;have hA3:Held w3 w1.heap.size [.slice none 0 0] 44:=(Held.new w1 [.slice none 0 0] 44).upto hC.bw (by simp);refine (wpIn_wide (n:=5)).1 ?_
    refine fV (F:=Fence.wide) rfl (by decide) rfl trivial (fun _ _=>rfl) (oP r l A c (fun b=>b=w1.heap.size+1∨b=w1.heap.size+2∨(S b∧b<w.heap.size)) _ _ 4 w3 (by decide) HR.out HL.out Ph.out hK3 MF (.inl rfl) MC (.inr (.inl rfl)) ZW) hK3 (Below.refl _ _) (fun _=>rfl) (SC 49 44 6 w w1.heap.size w3.heap.size (fun k=>(iZ r l k).length) (fun k=>noteCells (iZ r l k))) (fun _ _ _ _=>False) (SC.abides (by omega) (by omega)) (fun _ _ _ _ _ _ _ h _ _ _=>h)
     (fun X Y pre W lp o o' h hlp hl ho=>h.putObj (by omega) hlp hl ho o') (fun _ _ _ _ _ _ _ h _ _ _=>h) (fun X Y pre x W lp o o' h hlp hl ho=>h.putObj hl ho o') ?h0 (fun x a W=>∃ Be v0 v1 v2 v3 v4 v5 v6 v10 v11 v12 v13 v14 v15 v16 v17 v18 v19 v20 v21 v22 v23 v24 v25 v26 v27 v28 v29 v30 v31 v32 v33 v34 v35 v36 v37 v38 v39 v40 v41 v42 v43 v44 v45 v46 v47 v48 v49 v50 v51 v52 v53 v54 v55 v56 v57 v58 v59 v60 v61 v62 v63 v64 v65 v66 v67 v68 v69,a= {tmps:= #[v0,v1,v2,v3,v4,v5,v6,ptr w1.heap.size,.int .i64 (x.i:Int),ptr Be,v10,v11,v12,v13,v14,v15,v16,v17,v18,v19,v20,v21,v22,v23,v24,v25,v26,v27,v28,v29,v30,v31,v32,v33,v34,v35,v36,v37,v38,v39,v40,v41,v42,v43,v44,v45,v46,v47,v48,v49,v50,v51,v52,v53,v54,v55,v56,v57,v58,v59,v60,v61,v62,v63,v64,v65,v66,v67,v68,v69],defers:=[] }∧w3.heap.size≤Be∧Held W Be (bY r x) 106) ?assign ?ap ?body ?done ?stop
    case h0=>
     intro W hW;exact ⟨(hb3.trans (hW.mono (by omega))),hW.size,fun b h=>h.elim (fun h=>h.elim) (fun h=>h.elim),⟨.slice none 0 0,hA3.below hW,World.ownsRow_nil _ _ _ _,fun g hg=>by cases hg⟩⟩
    case ap=>
     rintro x a' W lp o o' ⟨Be,v0,v1,v2,v3,v4,v5,v6,v10,v11,v12,v13,v14,v15,v16,v17,v18,v19,v20,v21,v22,v23,v24,v25,v26,v27,v28,v29,v30,v31,v32,v33,v34,v35,v36,v37,v38,v39,v40,v41,v42,v43,v44,v45,v46,v47,v48,v49,v50,v51,v52,v53,v54,v55,v56,v57,v58,v59,v60,v61,v62,v63,v64,v65,v66,v67,v68,v69,e2,h1,h2⟩ hlp hl ho
     exact ⟨Be,v0,v1,v2,v3,v4,v5,v6,v10,v11,v12,v13,v14,v15,v16,v17,v18,v19,v20,v21,v22,v23,v24,v25,v26,v27,v28,v29,v30,v31,v32,v33,v34,v35,v36,v37,v38,v39,v40,v41,v42,v43,v44,v45,v46,v47,v48,v49,v50,v51,v52,v53,v54,v55,v56,v57,v58,v59,v60,v61,v62,v63,v64,v65,v66,v67,v68,v69,e2,h1,h2.putObj hl ho _⟩
    case stop=>exact fun _ _ _ _ _ _ _ h _=>h.elim
    case assign=>
     intro lp X Y pre x W K' hi ht hk uy;have hb:=((Below.refl W.heap.size W).alloc (Nat.le_refl _) (.cells gW.toArray 106));have hb':=below_setCells W.heap.size (Nat.le_refl _) (bY r x) 0 _ _ hb;have hE0:=Held.new W gW 106;have hsz:=hi.sz
     have fin:∀ v0 v1 v2 v3 v4 v5 v6 v10 v11 v12 v13 v14 v15 v16 v17 v18 v19 v20 v21 v22 v23 v24 v25 v26 v27 v28 v29 v30 v31 v32 v33 v34 v35 v36 v37 v38 v39 v40 v41 v42 v43 v44 v45 v46 v47 v48 v49 v50 v51 v52 v53 v54 v55 v56 v57 v58 v59 v60 v61 v62 v63 v64 v65 v66 v67 v68 v69:Value,K' {tmps:= #[v0,v1,v2,v3,v4,v5,v6,ptr w1.heap.size,.int .i64 (x.i:Int),ptr W.heap.size,v10,v11,v12,v13,v14,v15,v16,v17,v18,v19,v20,v21,v22,v23,v24,v25,v26,v27,v28,v29,v30,v31,v32,v33,v34,v35,v36,v37,v38,v39,v40,v41,v42,v43,v44,v45,v46,v47,v48,v49,v50,v51,v52,v53,v54,v55,v56,v57,v58,v59,v60,v61,v62,v63,v64,v65,v66,v67,v68,v69],defers:=[] } ((W.alloc (.cells gW.toArray 106)).setCells W.heap.size 0 (bY r x)):=fun _ _ _ _ _ _ _ _ _ _ _ _ _ _ _ _ _ _ _ _ _ _ _ _ _ _ _ _ _ _ _ _ _ _ _ _ _ _ _ _ _ _ _ _ _ _ _ _ _ _ _ _ _ _ _ _ _ _ _ _ _ _ _ _ _ _ _=>
      hk _ _ ⟨hb'.size,fun k o hk hl _=>(hb'.block k (Array.getElem?_eq_some_iff.1 hl).1).trans hl⟩
       ⟨hb'.size,fun b h=>hb'.block b (uy b h),fun b h=>hb'.block b (Nat.lt_of_lt_of_le (hK3 b h) hsz)⟩
       (SC.abides (by omega) (by omega) _ _ _ _ _ _ _ hi (Turn.of_below hb') (fun b h=> .inl h) (fun b h=> .inl h))
       ⟨ht.i,ht.lt,ht.e,ht.s,ht.t,ht.rule,ht.a.below hb',ht.b.below hb',ht.xy⟩
       ⟨W.heap.size,_,_,_,_,_,_,_,_,_,_,_,_,_,_,_,_,_,_,_,_,_,_,_,_,_,_,_,_,_,_,_,_,_,_,_,_,_,_,_,_,_,_,_,_,_,_,_,_,_,_,_,_,_,_,_,_,_,_,_,_,_,_,_,_,_,_,_,rfl,hsz,hE0.whole _ rfl⟩
     have FIN:=hide fin;clear hk fin hb hb' hi ht uy hsz
     simp [yS]
     apply wpIn_seq_k;intro K1 hK1;refine bH (by kernel_rfl) (by rintro ⟨_,_,h⟩;exact h) ?_;go_wp2;refine bH (by kernel_rfl) (by rintro ⟨_,_,h⟩;exact h) ?_
     go_wp2_with (refine aO 106 (.tmp 9) (.tmp 21) rfl ?_;refine aF hE0 (bY r x) rfl lF (qZ _ _) rfl (.tmp 9) (.tmp 21) rfl rfl rfl ?_)
     exact FIN.out _ _ _ _ _ _ _ _ _ _ _ _ _ _ _ _ _ _ _ _ _ _ _ _ _ _ _ _ _ _ _ _ _ _ _ _ _ _ _ _ _ _ _ _ _ _ _ _ _ _ _ _ _ _ _ _ _ _ _ _ _ _ _ _ _ _ _
    case body=>
     rintro lp X Y pre x a' W hi ht ⟨Be,v0,v1,v2,v3,v4,v5,v6,v10,v11,v12,v13,v14,v15,v16,v17,v18,v19,v20,v21,v22,v23,v24,v25,v26,v27,v28,v29,v30,v31,v32,v33,v34,v35,v36,v37,v38,v39,v40,v41,v42,v43,v44,v45,v46,v47,v48,v49,v50,v51,v52,v53,v54,v55,v56,v57,v58,v59,v60,v61,v62,v63,v64,v65,v66,v67,v68,v69,rfl,ZU,hE⟩ hlt uy hWs
     obtain ⟨v,hV,iV⟩:=hi.a
     have hl0:0≤x.rule:=by rw [ht.rule];exact xP _ _ _
     have hle:l[pre.length]=x.e:=by have:=ht.e;rw [List.getElem?_eq_getElem hlt] at this;exact Option.some.inj this
     have hsz:=hi.sz;have hbw:=hi.bw;have hti:=ht.i;have HT:=hide ht;have Xm:=hide hi.sep;have HX:=hide uy;have HLE:=hide hle;have aqE:=Ph.out;have Pj:=hide iV;clear uy hi ht hle iV;have e0:=hE.cell (j:=0) rfl;have e43:=hE.cell (j:=43) rfl;have hBlt:=hE.lt;have hN0:=Held.new W WZ 49;apply wpIn_block;apply wpIn_seq_k;intro K1 hK1;refine bH (by kernel_rfl) (by rintro ⟨_,_,h⟩;exact h) ?_
     go_wp2_with (refine aO 49 (.tmp 10) (.tmp 29) rfl ?_;refine aF hN0 (vP pre.length x.e.x.aG x.rule 0 0 false) rfl ET (Jg _ _ _ _ _ _) rfl (.tmp 10) (.tmp 29) rfl rfl rfl ?_)
     apply wpIn_seq_k;intro K3 hK3
     have go:∀ (W5:World) (p ru f n:Int) (tu:Bool) (z0 z1 z2 z3 z4 z5 z6 z8 z9 z11 z12 z13 qM qN qO z17 qP oV z20 z21 z22 z23 z24 z25 z26 z27 z28 z29 z30 z31 z32 z33 z34 z35 z36 z37 z38 z39 z40 z41 z42 z43 z44 z45 z46 z47 z48 z49 z50 z51 z52 z53 z54 z55 z56 z57 z58 z59 z60 z61 z62 z63 z64 z65 z66 z67 z68 z69:Value),Held W5 W.heap.size (vP pre.length p ru f n tu) 49→Held W5 w1.heap.size [v] 44→jh W5 w3.heap.size X Y 49 6 v (iZ r l pre.length).length (noteCells (iZ r l pre.length))→Turn (fun _=>False) W W5→M.note r x.s ((pre.length:Int)+1) x.e.x=⟨(pre.length:Int)+1,p,ru,f,n,tu⟩→K3 {tmps:= #[z0,z1,z2,z3,z4,z5,z6,ptr w1.heap.size,z8,z9,ptr W.heap.size,z11,z12,z13,qM,qN,qO,z17,qP,oV,z20,z21,z22,z23,z24,z25,z26,z27,z28,z29,z30,z31,z32,z33,z34,z35,z36,z37,z38,z39,z40,z41,z42,z43,z44,z45,z46,z47,z48,z49,z50,z51,z52,z53,z54,z55,z56,z57,z58,z59,z60,z61,z62,z63,z64,z65,z66,z67,z68,z69],defers:=[] } W5:=by
      intro W5 p ru f n tu _ _ _ _ _ _ _ _ _ _ _ _ _ _ _ _ _ _ _ _ _ _ _ _ _ _ _ _ _ _ _ _ _ _ _ _ _ _ _ _ _ _ _ _ _ _ _ _ _ _ _ _ _ _ _ _ _ _ _ _ _ _ _ _ _ _ _ _ hN XY TR hT hM;obtain ⟨i0,hi0,hz0,hz1,hz2⟩:=info_parts Qk;have hlen:=zS r l pre.length (Nat.le_of_lt hlt);have c5:=XY.cell (j:=0) rfl;have HM:=hide hM;have HT5:=hide hT;clear hM hT e0 e43;refine hK3 _ _ ?_;refine bH (by kernel_rfl) (by rintro ⟨_,_,h⟩;exact h) ?_
      go_wp2_with (first | (refine aB 49 (.tmp 10) rfl ?_;refine ak hN Tryz.underlying49 rfl ET rfl (.tmp 10) rfl rfl ?_) | (at_builtin;refine wpList_append_lies _ rfl _ _ _ rfl (w3.heap.size) 49 i0 (.agg #[.int .i64 0,.int .i64 0,.int .i64 0,.int .i64 0,.int .i64 0,.bool false]) 6 48 Tryz.underlying44 hi0 hz0 hz1 hz2 rfl (by omega) _ _ _ rfl (TR.own.alloc _) ⟨W5.heap.size,0,none⟩ 1 1 (vP pre.length p ru f n tu) rfl rfl (dJ _ _ _ _ (by simp)) ?c1 (by omega) ?c2 ?c3 ?c4 (W5.heap.size+1) (by simp) ?_))
      case c1=>exact Jg _ _ _ _ _ _
      case c2=>simp only [maxLen];omega
      case c3=>omega
      case c4=>simp;have:=HT5.out.size;omega
      intro g1 cap w4 hown4 hgrow hat hlt4;obtain ⟨uw,hT6,hV6,CG⟩:=BA XY (by omega) TR (fun b h=>Nat.lt_of_lt_of_le (HX.out b h).2 HT5.out.size) (Nat.le_trans hWs HT5.out.size) hgrow hown4 hat rfl;have c4:=uw.cell (j:=0) rfl;have f4:=uw.frozen 0
      have eN:iZ r l (pre.length+1)=iZ r l pre.length++[⟨(pre.length:Int)+1,p,ru,f,n,tu⟩]:=by
       rw [GH r l pre.length hlt,HLE.out, ← HT.out.s,HM.out]
      have hfin:=SC.fin (K:=fun b=>b=w1.heap.size+1∨b=w1.heap.size+2∨(S b∧b<w.heap.size)) (Ix:=fun _ _ _ _=>False) (x:=x) (a:={tmps:= #[],defers:=[] }) (len:=fun k=>(iZ r l k).length) (rows:=fun k=>noteCells (iZ r l k)) (w:=w) (by omega) (by omega) hWs hbw Xm.out HX.out (by rintro b (h | h | ⟨_,h⟩) <;> constructor <;> omega) Pj.out ((HT5.out.mono (X':=fun b=>b=w1.heap.size∨v.ownBlock=some b) (fun b h=>h.elim)).trans hT6 (fun b h=> .inl h)) hV6 (by
       show jh _ _ _ _ _ _ _ (iZ r l (pre.length+1)).length (noteCells (iZ r l (pre.length+1)))
       rw [eN,List.length_append,List.length_singleton,yZ,hlen]
       exact CG)
      have FIN:=hide hfin;clear hT6 hV6 CG hgrow hown4 c5 hfin eN TR XY hN;go_wp2;exact FIN.out
     have GO:=hide go;clear go e0 e43 hK3;have Za:=yh HR.out HL.out pre.length (Nat.le_of_lt hlt);rw [← HT.out.s] at Za;have hck:=HL.out _ (List.getElem_mem hlt);rw [HLE.out] at hck;obtain ⟨W2,hW2⟩:∃ W2,(W.alloc (.cells #[.int .i64 0,.int .i64 0,.int .i64 0,.int .i64 0,.int .i64 0,.bool false] 49)).setCells W.heap.size 0 (vP pre.length x.e.x.aG x.rule 0 0 false)=W2:=⟨_,rfl⟩
     have hb2:Below W.heap.size W W2:=by rw [← hW2];exact below_setCells _ (Nat.le_refl _) _ _ _ _ ((Below.refl _ _).alloc (Nat.le_refl _) _)
     have hN2:Held W2 W.heap.size (vP pre.length x.e.x.aG x.rule 0 0 false) 49:=by rw [← hW2];exact hN0.whole _ rfl
     rw [hW2];have hE2:=hE.below hb2;have hT2:Turn (fun _=>False) W W2:=Turn.of_below hb2;have hV2:=hV.below hb2;have TQ:=Pj.out.turn (hT2.mono (fun b h=>h.elim)) (fun b h=> .inl h) (fun b h=> .inl h);have e43:=hE2.cell (j:=43) rfl;clear hW2 hN0;apply wpIn_seq_k;intro K2 hK2;refine bH (by kernel_rfl) (by rintro ⟨_,_,h⟩;exact h) ?_;go_wp2;refine wpIn_cond_split rfl (fun h=>?_) (fun h=>?_)
     · have h0:x.rule=0:=by simpa using h
       clear h;have h7:W2.rangeAt Be 7 (aj r x.s x.A x.c):=fun j v hj=>hE2.cell (XF r x.i x.e x.s x.t x.A x.A' x.c x.c' x.rule j v hj);have h00:W2.rangeAt Be 0 (aA x.e):=fun j v hj=>hE2.cell (Tz r x.i x.e x.s x.t x.A x.A' x.c x.c' x.rule j v hj);obtain ⟨q3,q4,_⟩:=xq hck;have hfo:=xC (fun _=>True) r x.s x.e.x x.A x.e.a x.c x.e.c W2 (Reads.more (HT.out.a.below hb2) (fun _ _ _=>trivial)) (Reads.more (Reads.below (hp.2 _ (by rw [← HLE.out];exact List.getElem_mem hlt)) (hbw.trans (hb2.mono (by omega)))) (fun _ _ _=>trivial)) q3 (fun p hp=>(q4 p hp).1.1) HR.out Za.group;have HFO:=hide hfo
       have hst:M.step r x.s x.e.x=M.next r x.s x.e.x:=by unfold M.step;rw [if_pos (by rw [← HT.out.rule];exact h0)]
       have htn:x.t=M.next r x.s x.e.x:=HT.out.t.trans hst
       have XU:=yh HR.out HL.out (pre.length+1) hlt;rw [qm r l pre.length hlt, ← HT.out.s,HLE.out, ← HT.out.t] at XU;have hs0:=Za.s0;have hs1:=Za.s1;have ht0:=XU.s0;have ht1:=XU.s1;have hpl:=(M.lV hck).aG
       have Zd:M.note r x.s ((pre.length:Int)+1) x.e.x=⟨(pre.length:Int)+1,x.e.x.aG,0,M.iw r x.s x.e.x,x.t.score x.e.x.aG - x.s.score x.e.x.aG,x.t.turn≠x.s.turn⟩:=by
        rw [M.Ji (by rw [← HT.out.rule];exact h0),htn]
       have HNT:=hide Zd;have HT2:=hide hT2;have HV2:=hide hV2;have HO2:=hide TQ;have HE2:=hide hE2;clear hst htn XU Za hck q3 q4 hfo Zd hT2 hV2 TQ hE2 e43;apply wpIn_seq_k;intro K5 hK5;refine bH (by kernel_rfl) (by rintro ⟨_,_,h⟩;exact h) ?_
       go_wp2_with (first | (refine aB 99 (.tmp 33) rfl ?_;refine dH (g:=Be) (o:=7) h7 Tryz.underlying99 rfl ay rfl (.tmp 33) rfl rfl ?_) | (refine aB 27 (.tmp 35) rfl ?_;refine dH (g:=Be) (o:=0) h00 Tryz.underlying27 rfl bG rfl (.tmp 35) rfl rfl ?_) | (go_at_call 39;refine HFO.out.mono ?_;rintro e w5 ⟨rfl,hb5⟩;have hN5:=hN2.below hb5;have q3:=hN5.cell (j:=3) rfl;have qf3:=hN5.frozen 3))
       obtain ⟨W6,XZ⟩:∃ W6,w5.setCell ⟨W.heap.size,3,none⟩ (.int .i64 (M.iw r x.s x.e.x))=W6:=⟨_,rfl⟩
       have hb6:Below W.heap.size W W6:=by rw [← XZ];exact (hb2.trans (hb5.mono hb2.size)).setCell (p:=⟨W.heap.size,3,none⟩) (Nat.le_refl _) _
       have Xc:Held W6 W.heap.size (vP pre.length x.e.x.aG x.rule (M.iw r x.s x.e.x) 0 false) 49:=by rw [← XZ];exact hN5.set 3 _
       rw [XZ];clear XZ hN5 q3 qf3 hb5 hN2 h7 h00 hb2;have hE6:=hE.below hb6;apply wpIn_seq_k;intro K6 hK6
       rcases hpl with hpl | hpl
       · have n1:W6.cell? ⟨W.heap.size,1,none⟩=some (.int .i64 0):=(Xc.cell (j:=1) rfl).trans (by rw [hpl])
         have n4:=Xc.cell (j:=4) rfl;have nf4:=Xc.frozen 4;have ea:=hE6.cell (j:=17) rfl;have eb:=hE6.cell (j:=35) rfl;have Yc:∀ v,(fun w':World=>(∀ q,w'.cell? ⟨Be,q,none⟩=W6.cell? ⟨Be,q,none⟩)∧w'.cell? ⟨W.heap.size,1,none⟩=some (.int .i64 0)) ((W6.drew).setCell ⟨W.heap.size,4,none⟩ v):=fun v=>⟨fun q=>World.cell?_setCell_other _ _ ⟨Be,q,none⟩ v (fun e=>by cases e;omega),(World.cell?_setCell_other _ _ ⟨W.heap.size,1,none⟩ v (fun e=>by cases e)).trans n1⟩;refine gy (S:=(fun w':World=>(∀ q,w'.cell? ⟨Be,q,none⟩=W6.cell? ⟨Be,q,none⟩)∧w'.cell? ⟨W.heap.size,1,none⟩=some (.int .i64 0))) (by kernel_rfl) (by rintro ⟨_,_,h⟩;exact h) (by kernel_rfl) ?jm (fun hHeld=>?_)
         case jm=>first | exact ⟨fun q=>rfl,n1⟩ | exact Yc _
         refine tk 0 ?_;refine tk 1 ?_;refine tk 2 ?_;refine tk 3 ?_;refine tk 4 ?_;refine tk 5 ?_;refine tk 6 ?_;refine tk 7 ?_;refine tk 8 ?_;refine tk 9 ?_;refine tk 10 ?_;refine tk 11 ?_;refine tk 12 ?_;refine tk 13 ?_;refine tk 14 ?_;refine tk 15 ?_;refine tr 16 fun K hK=>?_;go_simp;refine hK.out _ _ ?aev (fun hHeld=>?_)
         case aev=>(first | (first | exact ⟨fun q=>rfl,n1⟩ | exact Yc _) | (dsimp only;first | exact ⟨fun q=>rfl,n1⟩ | exact Yc _))
         clear hK K
         try simp only [Act.put,la,lz,ls]
         refine wpAnyH_done (by kernel_rfl) ?_ _;refine hK6 _ _ ?_;rw [show IntKind.i64.wrap (x.t.s0 - x.s.s0)=x.t.s0 - x.s.s0 from IntWalk.i64_in _ (by omega)];obtain ⟨W7,X3⟩:∃ W7,(W6.setCell ⟨W.heap.size,4,none⟩ (.int .i64 (x.t.s0 - x.s.s0))).drew=W7:=⟨_,rfl⟩
         have hb7:Below W.heap.size W W7:=by rw [← X3];exact (hb6.setCell (p:=⟨W.heap.size,4,none⟩) (Nat.le_refl _) _).drew
         have ZX:Held W7 W.heap.size (vP pre.length x.e.x.aG x.rule (M.iw r x.s x.e.x) (x.t.s0 - x.s.s0) false) 49:=by rw [← X3];exact Xc.set 4 _
         rw [X3];clear X3 Xc hb6 hE6 Yc n1 n4 nf4 ea eb;have hE7:=hE.below hb7;have et:=hE7.cell (j:=28) rfl;have es:=hE7.cell (j:=10) rfl;have n5:=ZX.cell (j:=5) rfl;have nf5:=ZX.frozen 5;refine bH (by kernel_rfl) (by rintro ⟨_,_,h⟩;exact h) ?_;go_wp2;have hb8:Below W.heap.size W (W7.setCell ⟨W.heap.size,5,none⟩ (.bool (x.t.turn != x.s.turn))):=hb7.setCell (p:=⟨W.heap.size,5,none⟩) (Nat.le_refl _) _;have hT8:Turn (fun _=>False) W _:=Turn.of_below hb8
         exact GO.out _ _ _ _ _ _ _ _ _ _ _ _ _ _ _ _ _ _ _ _ _ _ _ _ _ _ _ _ _ _ _ _ _ _ _ _ _ _ _ _ _ _ _ _ _ _ _ _ _ _ _ _ _ _ _ _ _ _ _ _ _ _ _ _ _ _ _ _ _ _ _ _ _ _ (ZX.set 5 (.bool (x.t.turn != x.s.turn))) (hV.below hb8) (Pj.out.turn (hT8.mono (fun b h=>h.elim)) (fun b h=> .inl h) (fun b h=> .inl h)) hT8 (by
          rw [HNT.out,h0]
          congr 1
          · unfold M.State.score M.sel;rw [hpl];rfl
          · rw [Bool.eq_iff_iff];simp)
       · have n1:W6.cell? ⟨W.heap.size,1,none⟩=some (.int .i64 1):=(Xc.cell (j:=1) rfl).trans (by rw [hpl])
         have n4:=Xc.cell (j:=4) rfl;have nf4:=Xc.frozen 4;have ea:=hE6.cell (j:=18) rfl;have eb:=hE6.cell (j:=36) rfl;have Yc:∀ v,(fun w':World=>(∀ q,w'.cell? ⟨Be,q,none⟩=W6.cell? ⟨Be,q,none⟩)∧w'.cell? ⟨W.heap.size,1,none⟩=some (.int .i64 1)) ((W6.drew).setCell ⟨W.heap.size,4,none⟩ v):=fun v=>⟨fun q=>World.cell?_setCell_other _ _ ⟨Be,q,none⟩ v (fun e=>by cases e;omega),(World.cell?_setCell_other _ _ ⟨W.heap.size,1,none⟩ v (fun e=>by cases e)).trans n1⟩;refine gy (S:=(fun w':World=>(∀ q,w'.cell? ⟨Be,q,none⟩=W6.cell? ⟨Be,q,none⟩)∧w'.cell? ⟨W.heap.size,1,none⟩=some (.int .i64 1))) (by kernel_rfl) (by rintro ⟨_,_,h⟩;exact h) (by kernel_rfl) ?jo (fun hHeld=>?_)
         case jo=>first | exact ⟨fun q=>rfl,n1⟩ | exact Yc _
         refine tk 0 ?_;refine tk 1 ?_;refine tk 2 ?_;refine tk 3 ?_;refine tk 4 ?_;refine tk 5 ?_;refine tk 6 ?_;refine tk 7 ?_;refine tk 8 ?_;refine tk 9 ?_;refine tk 10 ?_;refine tk 11 ?_;refine tk 12 ?_;refine tk 13 ?_;refine tk 14 ?_;refine tk 15 ?_;refine tr 16 fun K hK=>?_;go_simp;refine hK.out _ _ ?NW (fun hHeld=>?_)
         case NW=>(first | (first | exact ⟨fun q=>rfl,n1⟩ | exact Yc _) | (dsimp only;first | exact ⟨fun q=>rfl,n1⟩ | exact Yc _))
         clear hK K
         try simp only [Act.put,la,lz,ls]
         refine wpAnyH_done (by kernel_rfl) ?_ _;refine hK6 _ _ ?_;rw [show IntKind.i64.wrap (x.t.s1 - x.s.s1)=x.t.s1 - x.s.s1 from IntWalk.i64_in _ (by omega)];obtain ⟨W7,X3⟩:∃ W7,(W6.setCell ⟨W.heap.size,4,none⟩ (.int .i64 (x.t.s1 - x.s.s1))).drew=W7:=⟨_,rfl⟩
         have hb7:Below W.heap.size W W7:=by rw [← X3];exact (hb6.setCell (p:=⟨W.heap.size,4,none⟩) (Nat.le_refl _) _).drew
         have ZX:Held W7 W.heap.size (vP pre.length x.e.x.aG x.rule (M.iw r x.s x.e.x) (x.t.s1 - x.s.s1) false) 49:=by rw [← X3];exact Xc.set 4 _
         rw [X3];clear X3 Xc hb6 hE6 Yc n1 n4 nf4 ea eb;have hE7:=hE.below hb7;have et:=hE7.cell (j:=28) rfl;have es:=hE7.cell (j:=10) rfl;have n5:=ZX.cell (j:=5) rfl;have nf5:=ZX.frozen 5;refine bH (by kernel_rfl) (by rintro ⟨_,_,h⟩;exact h) ?_;go_wp2;have hb8:Below W.heap.size W (W7.setCell ⟨W.heap.size,5,none⟩ (.bool (x.t.turn != x.s.turn))):=hb7.setCell (p:=⟨W.heap.size,5,none⟩) (Nat.le_refl _) _;have hT8:Turn (fun _=>False) W _:=Turn.of_below hb8
         exact GO.out _ _ _ _ _ _ _ _ _ _ _ _ _ _ _ _ _ _ _ _ _ _ _ _ _ _ _ _ _ _ _ _ _ _ _ _ _ _ _ _ _ _ _ _ _ _ _ _ _ _ _ _ _ _ _ _ _ _ _ _ _ _ _ _ _ _ _ _ _ _ _ _ _ _ (ZX.set 5 (.bool (x.t.turn != x.s.turn))) (hV.below hb8) (Pj.out.turn (hT8.mono (fun b h=>h.elim)) (fun b h=> .inl h) (fun b h=> .inl h)) hT8 (by
          rw [HNT.out,h0]
          congr 1
          · unfold M.State.score M.sel;rw [hpl];simp
          · rw [Bool.eq_iff_iff];simp)
     · have h0:x.rule≠0:=by simpa using h
       refine wpIn_skip ?_
       exact GO.out W2 _ _ _ _ _ _ _ _ _ _ _ _ _ _ _ _ _ _ _ _ _ _ _ _ _ _ _ _ _ _ _ _ _ _ _ _ _ _ _ _ _ _ _ _ _ _ _ _ _ _ _ _ _ _ _ _ _ _ _ _ _ _ _ _ _ _ _ _ _ _ _ _ _ hN2 hV2 TQ hT2 (by
        unfold M.note
        rw [if_pos (by rw [← HT.out.rule];exact h0),HT.out.rule])
    case done=>
     intro D X Y xs W hD hS hi hdef;obtain ⟨v,hV,iV⟩:=hi.a
     have Iz:iZ r l xs.length=lN r l:=by rw [hS,yL.out];unfold iZ;rw [List.take_length]
     have TP:jh W w3.heap.size X Y 49 6 v (lN r l).length (noteCells (lN r l)):=by rw [← Iz];exact iV
     have hlr:(lN r l).length≤1000:=by rw [← Iz];have:=zS r l xs.length (by omega);have:=Ph.out;omega
     obtain ⟨A2,c2,rfl⟩:=EW TP.own;have hbw:=hi.bw;have hWs:=hi.sz;have c9:=hV.cell (j:=0) rfl;have yN:=hide hdef
     have fin:∀ (a:Act),a.defers=[{target:= .collected D,args:= #[] }]→a.tmps.getD 4 undef= .slice A2 (lN r l).length c2→a.tmps.getD 5 undef= .int .i64 0→Q' .ret a W:=by
      intro a e1 e4 e5;rw [← HQ.out];refine jA e1 yN.out (results_tmp2 rfl _ _ _) ⟨A2,c2,?_,?_,fJ hbw (by omega) _⟩
      · rw [e4,e5,HE.out,h0]
      · exact Reads.je (TP.putObj yN.out rfl _).own (fun g hg=>by omega) (by omega)
     have FIN:=hide fin;clear fin hi hdef iV TP hV;refine TN _ _ ?_
     dsimp only
     refine kY ?_;go_wp2;exact FIN.out _ rfl rfl rfl
  · have h0':(E != 0)=true:=by simp [h0]
    have hrs:lN r l=[]:=by
     have:=HE.out
     unfold lN;rw [if_neg (by rw [this];exact h0)]
    have yL:=hide hrs;clear h0 hrs
    go_wp2_with (first | (go_at_call 34;refine (vV.out _ (hp.below hB.bw)).mono ?_;rintro e w1 ⟨rfl,hb1⟩;have hB1:=hB.call (by simp) hb1))
    rw [← HQ.out];refine wJ (results_tmp2 rfl _ _ _) rfl ⟨none,0,?_,?_,hB1.bw⟩
    · rw [yL.out,HE.out];rfl
    · rw [yL.out];exact Reads.none_ _ _ _
end Go.Proofs.YtcjglfbpjkdgiaaGreatDoor
