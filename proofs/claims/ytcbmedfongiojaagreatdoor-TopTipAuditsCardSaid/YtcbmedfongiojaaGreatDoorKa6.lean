/- Parts of a proof. -/
import Derived.Test.YtcbmedfongiojaaGreatDoorKa0
import Derived.Test.YtcbmedfongiojaaGreatDoorKa4
import Derived.Test.YtcbmedfongiojaaGreatDoorKt33
set_option maxHeartbeats 4000000
set_option maxRecDepth 100000
set_option linter.unusedVariables false
set_option linter.unusedSimpArgs false
namespace Go.Proofs.YtcbmedfongiojaaGreatDoor
open Go.RowKit
section
variable {w W W':World} {L:List (Nat × List Value × TypeId)} {B e size k g:Nat} {v:Value} {xs:List Value} {cs:List Value} {t:TypeId}
end
section
variable {w W W':World} {L L':List (Nat × List Value × TypeId)} {B e size k:Nat} {v:Value} {xs:List Value}
end
theorem wb {b:ByteArray} {l:List UInt8} (h:(b.toList == l)=true):b=⟨l.toArray⟩:=by rw [jB] at h;exact of_decide_eq_true h
theorem azK {g:Sk.Game} {l:List En} (h:Sk.aaT g (bare l)=0):rpS g l=abt g l l.length∧rpR g l=ab2 g l l.length:=
 ⟨by unfold rpS;rw [if_pos h,ap9],by unfold rpR;rw [if_pos h,ahW]⟩
namespace Sk
theorem aix (g:Game) (x:Entry):∀ (l:List Entry) (s:State),abk g s (l++[x])=abk g s l++[((step g (final g s l) x).s0,(step g (final g s l) x).s1)]
 | [],s=>rfl
 | y::l,s=>by
   have e:final g s (y::l)=final g (step g s y) l:=rfl;rw [List.cons_append,abk,abk,aix g x l,e]
   rfl
end Sk
theorem atu (l:List En) (k:Nat) (hk:k<l.length):bare (l.take (k+1))=bare (l.take k)++[l[k].x]:=by rw [List.take_succ_eq_append_getElem hk];unfold bare;rw [List.map_append];rfl
def ajc (g:Sk.Game) (l:List En) (k:Nat):List (Int × Int):=Sk.abk g (Sk.start g) (bare (l.take k))
theorem ap1 (g:Sk.Game) (l:List En) {k:Nat} (hk:k≤l.length):(ajc g l k).length=k:=by unfold ajc;rw [Sk.agb,abB,List.length_take];omega
theorem aup (g:Sk.Game) (l:List En) {k:Nat} (hk:k<l.length):ajc g l (k+1)=ajc g l k++[((abt g l (k+1)).s0,(abt g l (k+1)).s1)]:=by
 unfold ajc
 rw [atu l k hk,Sk.aix,afe g l k hk]
 rfl
section
variable {w W:World} {a:Nat × List Value × TypeId}
theorem Bx.push (l1:List (Nat × List Value × TypeId)) {l2:List (Nat × List Value × TypeId)} (h:Bx w W (a::(l1++l2))):Bx w W (l1++a::l2):=
 ⟨h.bw,fun p hp=>h.bx p (List.perm_middle.mem_iff.1 hp),(List.Perm.pairwise_iff (fun h=>Ne.symm h) List.perm_middle).2 h.nd⟩
end
theorem anC:(Tryz.prog.info? 24).map (·.size)=some 2:=by kernel_rfl
theorem aw0:(Tryz.prog.info? 24).map (fun i=>(i.zero,i.size,i.bytes))=some (some (.agg #[.int .i64 0,.int .i64 0]),2,16):=by kernel_rfl
theorem aw7 (a b:Int):∀ v∈[Value.int .i64 a,.int .i64 b],v.oneCell'=true:=by simp [Value.oneCell']
theorem atU {ops:Array Oper} {o:Oper} {a:Act} {rest:List Oper} {Q:Exit→Act→World→Prop} {D k:Nat} {W:World} {v:Value} {xs:List Value} {p q:Int} (hO:W.ownsRow D 24 2 v k xs) (hD:D≤W.heap.size) (hl:k≤1000) (hgd:o.guard=none) (s x:Operand)
 (ho:o.op= .call {callee:= .builtin .append,args:= #[s,x],argTypes:= #[50,50] }) (hs:a.eval s=v) (hx:a.eval x= .slice (some ⟨W.heap.size,0,none⟩) 1 1)
 (h:∀ g cap W',W'.ownsRow D 24 2 (.slice (some ⟨g,0,none⟩) (k+1) cap) (k+1) (xs++[.int .i64 p,.int .i64 q])→Below D W W'→wpList Tryz.prog ops Q rest (a.put o.dst (.slice (some ⟨g,0,none⟩) (k+1) cap)) W'):
 wpList Tryz.prog ops Q (o::rest) a (W.alloc (.cells #[.int .i64 p,.int .i64 q] 24)):=by
 obtain ⟨i0,hi0,hz0,hz1,hz2⟩:=info_parts aw0;have hO2:=hO.alloc (.cells #[.int .i64 p,.int .i64 q] 24);refine wpList_append_lies _ hgd s x _ ho D 24 i0 _ 2 16 Tryz.underlying50 hi0 hz0 hz1 hz2 rfl (by omega) v k xs hs hO2 ⟨W.heap.size,0,none⟩ 1 1 [.int .i64 p,.int .i64 q] hx rfl (jU _ _ _ _ rfl) (aw7 p q) (by omega) (by simp only [maxLen];omega) (by omega) (by simp;omega) _ rfl ?_;intro g cap W' h2 h3 h4 h5;exact h g cap W' h2 (((Below.refl _ _).alloc hD _).trans (Cb hO2 h3 (Nat.le_refl _) (by simp;omega)))
theorem ahG (S:Nat→Prop) (g:Sk.Game) (l:List En) (A:Option Addr) (c:Nat) (w:World) (hr:wF w S A c l) (hck:Sk.aaT g (bare l)=0) (hn:l.length≤100):
 Calls Tryz.prog 14 #[rF g,.slice A l.length c] w fun e w'=>∃ A2 c2,e= .returned (.tuple #[.slice A2 l.length c2,.bool true])∧RdQ w' (fun b=>w.heap.size≤b) A2 c2 (ajc g l l.length)∧Below w.heap.size w w':=by
 obtain ⟨b1,b2,b3⟩:=hr.bd;have uP:=hide (Sk.ae6.1 hck);have HR:=hide hr;have HN:=hide hn;clear hr hck hn
 go_enter Tryz.func14,Tryz.ntmps14
 go_upto_region 0 with (fail)
 go_cut [2,4,5] (fun v2 v4 v5 wx=>v2=ptr (w.heap.size)∧v4= .slice none 0 0∧v5= .bool false∧Bx w wx [(w.heap.size,dN g,23)])
 case first=>
  go_wp2;go_meet;exact ⟨rfl,rfl,rfl,Bx.of ((aC.nil w).new (by simp) (dN g) 23) _ rfl⟩
 case rest=>
  obtain ⟨rfl,rfl,rfl,hL⟩:=hcut
  rename World=>wb
  have zT:=hL.bw.size;have He:=hide (fun (W:World) (hb:Below wb.heap.size wb W)=>hL.call hb);clear hL;go_wp2
  go_loopw [6,13] (fun v6 v13 wr=>∃ (k:Nat) (v:Value),k≤l.length∧v13= .int .i64 (k:Int)∧v6=v∧wr.ownsRow wb.heap.size 24 2 v k ((ajc g l k).flatMap auy)∧Below wb.heap.size wb wr) (fun _ v13 _=>l.length - (intOf v13).toNat)
  case atStart=>exact ⟨0,_,by omega,rfl,rfl,by unfold ajc;exact World.ownsRow_nil _ _ _ _,Below.refl _ _⟩
  case round=>
   obtain ⟨k,v,hk,rfl,ev,hown,hbw⟩:=hrel;rw [ev];clear ev
   by_cases hlt:k<l.length
   · have hO:=hide (He.out _ hbw)
     have aus:=hbw.size;have hrl:=HR.out.below (He.out _ hbw).bw;have hrp:=fun W (hb:Below wr.heap.size wr W)=>aop S g (l.take (k+1)) A c W ((hrl.take (k+1) (by omega)).below hb)
     have azw:Sk.aaT g (bare (l.take (k+1)))=0:=Sk.ae6.2 ⟨uP.out.1,by rw [abB,List.length_take];have:=HN.out;omega,fun y hy=>by
      obtain ⟨z,hz,rfl⟩:=List.mem_map.1 hy
      exact uP.out.2.2 z.x (List.mem_map.2 ⟨z,List.mem_of_mem_take hz,rfl⟩)⟩
     have hra:=(azK azw).1
     have hln:(l.take (k+1)).length=k+1:=by rw [List.length_take];omega
     have hat:abt g (l.take (k+1)) (l.take (k+1)).length=abt g l (k+1):=by unfold abt;rw [List.take_length]
     have hsc:=aup g l hlt;obtain ⟨t,ht⟩:∃ q,abt g l (k+1)=q:=⟨_,rfl⟩;rw [hra,azw,hat,hln,ht] at hrp;rw [ht] at hsc;have HRP:Hid (∀ W,Below wr.heap.size wr W→Calls Tryz.prog 32 #[rF g,.slice A (k+1) c] W fun e w'=>∃ (A2:Option Addr) (c2 n:Nat),e= .returned (.tuple #[lJ t,.slice A2 n c2,.int .i64 0])∧Below W.heap.size W w'):=hide (fun W hb=>(hrp W hb).mono (fun e w' ⟨A2,c2,h1,_,h3⟩=>⟨A2,c2,_,h1,h3⟩));have EX:=hide hsc;clear hrl hrp azw hra hat ht hsc hln
     have wk1:IntKind.i64.wrap ((k:Int)+1)=(k:Int)+1:=by have:=HN.out;rw [IntKind.wrap_i64];omega
     have i1:(0:Int)≤(k:Int)+1:=by omega
     have i2:(k:Int)+1≤(c:Int):=by omega
     have i3:k+1≤c:=by omega
     have hk9:k≤1000:=by have:=HN.out;omega
     have HOW:=hide hown;have hL:=Bx.nil wr;clear hown
     go_upto_region 5 with (fail)
     go_cut [8,10,11,12,13] from 8 to 26 (fun v8 v10 v11 v12 v13 wx=>∃ B8,v8=ptr B8∧v10= .int .i64 0∧v11= .slice A l.length c∧v12= .int .i64 (l.length:Int)∧v13= .int .i64 (k:Int)∧Bx wr wx [(B8,aQ t,26)])
     case first=>
      have VY:∀ W:World,Bx wr W []→W.rangeAt (w.heap.size) 0 (dN g):=fun W h=>((hO.out.get 0 rfl).below h.bw).range;have hL:=hL.drew;refine wp_region_held_drew (S:=(fun w':World=>Bx wr w' [])) (by kernel_rfl) ?bU (fun hHeld=>?_)
      case bU=>exact hL
      refine bP 0 VY Tryz.underlying23 ?_;refine aA 1 ?_;refine aA 2 ?_;refine aA 3 ?_;refine aA 4 ?_;refine iF 5 10 (fun K hK=>?_) fun K hK=>?_
      · go_simp
        (go_at_call 32;refine (HRP.out _ hL.bw).mono ?_;rintro e w5a ⟨A17,c17,n17,rfl,Xg⟩)
        have hL:=hL.call Xg;refine au hK (by first | exact hL | exact hL.tail) fun hHeld=>?_;clear hK K;refine aA 6 ?_;refine aA 7 ?_;refine aA 8 ?_;refine aA 9 ?_;refine aB 10 fun K hK=>?_;go_simp;have hL:=hL.add (aQ Sk.zero) 26;refine au hK (hL.tail) fun hHeld=>?_;clear hK K;refine aB 11 fun K hK=>?_;refine aG hL.head (aQ t) rfl ak (bI _) (.tmp 8) (.tmp 23) rfl rfl rfl ?_;have hL:=hL.put (aQ t) rfl;refine au hK (hL.tail) fun hHeld=>?_;clear hK K;refine aA 12 ?_;refine aA 13 ?_;refine wpAnyH_done (by kernel_rfl) ?_ _;go_wp2;go_meet;exact ⟨_,rfl,rfl,rfl,rfl,rfl,hL⟩
      · go_simp
        have hL:=hL.add (aQ Sk.zero) 26;refine au hK (hL.tail) fun hHeld=>?_;clear hK K;refine aB 5 fun K hK=>?_;go_simp
        (go_at_call 32;refine (HRP.out _ hL.bw).mono ?_;rintro e w5a ⟨A17,c17,n17,rfl,Xg⟩)
        have hL:=hL.call Xg;refine au hK (by first | exact hL | exact hL.tail) fun hHeld=>?_;clear hK K;refine aA 6 ?_;refine aA 7 ?_;refine aA 8 ?_;refine aA 9 ?_;refine aB 11 fun K hK=>?_;refine aG hL.head (aQ t) rfl ak (bI _) (.tmp 8) (.tmp 23) rfl rfl rfl ?_;have hL:=hL.put (aQ t) rfl;refine au hK (hL.tail) fun hHeld=>?_;clear hK K;refine aA 12 ?_;refine aA 13 ?_;refine wpAnyH_done (by kernel_rfl) ?_ _;go_wp2;go_meet;exact ⟨_,rfl,rfl,rfl,rfl,rfl,hL⟩
     case rest=>
      obtain ⟨B8,rfl,rfl,rfl,rfl,rfl,hL⟩:=hcut
      rename World=>w5
      have hown:=yC HOW.out (fun g hg=>hL.bw.block g (HOW.out.lt g hg).2)
      go_wp2_with (first | ((with_reducible refine dh 24 29 ?_);refine nI (hL.rn 0 1 ([.int .i64 t.s0,.int .i64 t.s1])) Tryz.underlying24 anC ?_) | ((with_reducible refine iV 24 29 ?_);refine nJ (hL.rn 0 1 ([.int .i64 t.s0,.int .i64 t.s1])) Tryz.underlying24 anC ?_) | (at_builtin;refine atU (p:=t.s0) (q:=t.s1) hown (by have:=hL.bw.size;omega) hk9 rfl (.tmp 28) (.tmp 31) rfl rfl rfl ?_;intro g1 c1 w6 hown6 hb6))
      have OW:=hide ((hbw.trans (hL.bw.mono aus)).trans hb6);have ZB:=hide (show w6.ownsRow wb.heap.size 24 2 (.slice (some ⟨g1,0,none⟩) (k+1) c1) (k+1) ((ajc g l (k+1)).flatMap auy) by rw [EX.out,List.flatMap_append];exact hown6);clear hown6 hb6
      go_roundw
      case rel=>exact ⟨k+1,_,by omega,by go_num,rfl,ZB.out,OW.out⟩
      case measure=>simp [intOf];omega
   · have hkl:k=l.length:=by omega
     subst hkl;obtain ⟨A2,c2,rfl⟩:=sU hown;have hrd:=Reads.Jd hown (S:=fun b=>w.heap.size≤b) (fun b hb=>Nat.le_trans zT hb) (by have:=HN.out;omega);have hlen:=ap1 g l (Nat.le_refl _);have HRD:=hide (show RdQ wr (fun b=>w.heap.size≤b) A2 c2 (ajc g l l.length) by unfold RdQ;rw [hlen];exact hrd);have Ht:=hide (He.out _ hbw).bw;clear hrd hlen hown;go_wp2;go_ret2;exact ⟨A2,c2,rfl,HRD.out,Ht.out⟩
end Go.Proofs.YtcbmedfongiojaaGreatDoor
