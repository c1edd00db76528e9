/- Parts of a proof. -/
import Derived.Deep.LoopGhost
import Derived.Shelf.Abstract
import Derived.Test.YtcjglfbpjkdgiaaGreatDoorKk2
set_option maxHeartbeats 800000
set_option maxRecDepth 100000
set_option linter.unusedVariables false
set_option linter.unusedSimpArgs false
namespace Go.Proofs.YtcjglfbpjkdgiaaGreatDoor
open Go.RowKit
def wh (b:Bool) (e:Int):Int:=if b then e else 0
def wi (n a b:Int):Int:=wh (M.out n a b) 3
def aS:List Int→Int
 | []=>0
 | e::l=>if e≠0 then e else aS l
theorem sV {l:List Int} {k:Nat} (hk:k<l.length):aS (l.drop k)=if l[k]≠0 then l[k] else aS (l.drop (k+1)):=by
 rw [List.drop_eq_getElem_cons hk,aS]
theorem FB {l:List Bool} {k:Nat} (hk:k<l.length) (i:Int):M.fZ i (l.drop k)=if l[k] then M.fZ (i+1) (l.drop (k+1)) else i:=by
 rw [List.drop_eq_getElem_cons hk,M.fZ]
theorem bQ.lit (W:World) (t:TypeId) (zs:List Int) (hz:zs.length≤1000) (S:Nat→Prop) (hS:S W.heap.size):bQ (W.alloc (.cells (zs.map (Value.int .i64)).toArray t)) S (some ⟨W.heap.size,0,none⟩) zs.length zs:=
 ⟨Nat.le_refl _,by omega,by omega,by simp,fun _=>⟨W.heap.size,0,rfl,hS,by simp,fun j u hu=>by
  have:=dJ W t (zs.map (Value.int .i64)) W.heap.size rfl j u hu
  rwa [oC] at this⟩⟩
theorem dF (b:Bool) (e:Int) (w:World):Calls Tryz.prog 30 #[.bool b,.int .i64 e] w fun r w'=>r= .returned (.int .i64 (wh b e))∧w=w':=by
 cases b
 all_goals
  go_enter Tryz.func30,Tryz.ntmps30
  go_wp2;go_ret;exact ⟨dw (by simp [wh]),rfl⟩
theorem bU (n a b:Int) (w:World):Calls Tryz.prog 64 #[.int .i64 n,.int .i64 a,.int .i64 b] w fun r w'=>r= .returned (.int .i64 (wi n a b))∧w=w':=by
 go_enter Tryz.func64,Tryz.ntmps64
 go_wp2_with (go_at_call 30;refine (dF _ _ _).mono ?_;rintro e w1 ⟨rfl,rfl⟩)
 all_goals
  go_ret;exact ⟨dw (by simp [wi,M.out, *]),rfl⟩
theorem first_any (S:Nat→Prop) (A:Option Addr) (c:Nat) (zs:List Int) (w:World) (h:bQ w S A c zs):
 Calls Tryz.prog 28 #[.slice A zs.length c] w fun r w'=>r= .returned (.int .i64 (aS zs))∧w=w':=by
 obtain ⟨b1,b2,b3⟩:=h.bd
 go_enter Tryz.func28,Tryz.ntmps28
 go_wp2
 go_loop [7] (fun i=>∃ k:Nat,k≤zs.length∧i= .int .i64 k∧aS zs=aS (zs.drop k)) (fun i=>zs.length - (intOf i).toNat)
 case atStart=>exact ⟨0,Nat.zero_le _,rfl,by simp⟩
 case round=>
  obtain ⟨k,hk,rfl,hx⟩:=hrel
  by_cases hlt:k<zs.length
  · obtain ⟨b,o,rfl,_,_,hc⟩:=h.at_ k hlt
    have hck:=hc k hlt;rw [sV hlt] at hx;clear hc
    by_cases he:zs[k]=0
    · have he':(zs[k] != 0)=false:=by simp [he]
      rw [if_neg (by simp [he])] at hx;have HX:=hide hx;clear hx he;go_wp2
      go_round
      case rel=>exact ⟨k+1,by omega,by go_num,HX.out⟩
      case measure=>simp [intOf];omega
    · have he':(zs[k] != 0)=true:=by simp [he]
      rw [if_pos he] at hx;have HX:=hide hx;clear hx he;go_wp2;go_ret;exact ⟨dw HX.out.symm,rfl⟩
  · have hz:aS zs=0:=by rw [hx,List.drop_of_length_le (by omega),aS]
    have HX:=hide hz;clear hx hz;go_wp2;go_ret;exact ⟨dw HX.out.symm,rfl⟩
def Asks (g:Nat) (lb:Array Value) (b:Bool) (w:World):Prop:=
 (∀ args w,(callFunc g args).run Tryz.prog w= .ok (.enter g args) w)∧∀ W,Below w.heap.size w W→Calls Tryz.prog g lb W fun e w'=>e= .returned (.bool b)∧Below w.heap.size w w'
theorem Ou (b o n c:Nat) (g:Nat→Nat) (lb:Nat→Array Value) (p:List Bool) (w:World) (hn:p.length=n) (hc1:n≤1000) (hb:b<w.heap.size)
 (hc:∀ j,j<n→w.cell? ⟨b,o+j,none⟩=some (.func (.func (g j)) #[] (lb j)))
 (hq:∀ j (hj:j<p.length),(∀ i (hi:i<p.length),i<j→p[i]=true)→Asks (g j) (lb j) p[j] w):
 Calls Tryz.prog 73 #[.slice (some ⟨b,o,none⟩) n c] w fun r w'=>r= .returned (.int .i64 (M.fZ 1 p))∧Below w.heap.size w w':=by
 go_enter Tryz.func73,Tryz.ntmps73
 go_wp2
 go_loopw [7] (fun i wr=>∃ k:Nat,k≤n∧i= .int .i64 k∧M.fZ 1 p=M.fZ (k+1) (p.drop k)∧Aside (∀ i (hi:i<p.length),i<k→p[i]=true)∧Aside (Below w.heap.size w wr)) (fun i _=>n - (intOf i).toNat)
 case atStart=>exact ⟨0,Nat.zero_le _,rfl,by simp,fun i _ h=>absurd h (by omega),Below.refl _ _⟩
 case round=>
  obtain ⟨k,hk,rfl,hx,hall,hbw⟩:=hrel
  by_cases hlt:k<n
  · have hkp:k<p.length:=by omega
    rw [FB hkp] at hx;have hck:wr.cell? ⟨b,o+k,none⟩=some (.func (.func (g k)) #[] (lb k)):=(hbw.out.cell (p:=⟨b,o+k,none⟩) hb).trans (hc k hlt);obtain ⟨eg,hcall⟩:=hq k hkp hall.out;have hcall:=hcall wr hbw.out;obtain ⟨gk,hgk⟩:∃ x,g k=x:=⟨_,rfl⟩;obtain ⟨lk,hlk⟩:∃ x,lb k=x:=⟨_,rfl⟩;rw [hgk,hlk] at hck;rw [hgk] at eg;rw [hgk,hlk] at hcall;clear hc hq hgk hlk
    cases hp:p[k] with
    | true=>
      rw [hp] at hcall hx;rw [if_pos rfl] at hx;have HP:=hide hp;have HX:=hide hx;clear hx hp
      go_wp2_with (go_at_fn gk;refine hcall.mono ?_;rintro e w2 ⟨rfl,hb2⟩)
      go_roundw
      case rel=>
       refine ⟨k+1,by omega,by go_num,by rw [HX.out];congr 1,(show Aside _ from fun i hi h=>?_),hb2⟩
       by_cases e:i=k
       · subst e;exact HP.out
       · exact hall.out i hi (by omega)
      case measure=>simp [intOf];omega
    | false=>
      rw [hp] at hcall hx;have HX:=hide hx;clear hx hp
      go_wp2_with (go_at_fn gk;refine hcall.mono ?_;rintro e w2 ⟨rfl,hb2⟩)
      go_ret;exact ⟨dw (by rw [HX.out];simp),hb2⟩
  · have hz:M.fZ 1 p=0:=by rw [hx,List.drop_of_length_le (by omega),M.fZ]
    have HX:=hide hz;clear hx hz;go_wp2;go_ret;exact ⟨dw HX.out.symm,hbw.out⟩
def vJ {α:Type} (g:Nat) (lb:Array Value) (enc:α→Value) (p:α→Bool) (w:World):Prop:=
 (∀ args w,(callFunc g args).run Tryz.prog w= .ok (.enter g args) w)∧∀ W x,Below w.heap.size w W→Calls Tryz.prog g (#[enc x]++lb) W fun e w'=>e= .returned (.bool (p x))∧Below w.heap.size w w'
@[reducible] def Jt (p:M.kL):Value:= .agg #[.int .i64 p.aT,.int .i64 p.aP]
@[reducible] def aaE (n:Int):Value:= .int .i64 n
theorem kN {α:Type} {l:List α} {p:α→Bool} {k:Nat} (hk:k<l.length) (h:(l.take k).any p=false) (hx:p l[k]=false):(l.take (k+1)).any p=false:=by
 rw [List.take_succ_eq_append_getElem hk,List.any_append,h];simp [hx]
theorem lg {α:Type} {l:List α} {p:α→Bool} {k:Nat} (hk:k<l.length) (hx:p l[k]=true):l.any p=true:=
 List.any_eq_true.2 ⟨l[k],List.getElem_mem hk,hx⟩
theorem L8 (zs:List Int) (x:Int):decide (x∈zs)=zs.any fun y=>decide (y=x):=by
 rw [Bool.eq_iff_iff,decide_eq_true_eq,List.any_eq_true]
 constructor
 · intro h;exact ⟨x,h,by simp⟩
 · rintro ⟨y,h1,h2⟩;simp at h2;rw [← h2];exact h1
theorem BP (l:List M.kL) (x:M.kL):decide (x∈l)=l.any fun y=>decide (y=x):=by
 rw [Bool.eq_iff_iff,decide_eq_true_eq,List.any_eq_true]
 constructor
 · intro h;exact ⟨x,h,by simp⟩
 · rintro ⟨y,h1,h2⟩;simp at h2;rw [← h2];exact h1
theorem Ia (S:Nat→Prop) (A:Option Addr) (c:Nat) (l:List M.kL) (g:Nat) (lb:Array Value) (p:M.kL→Bool) (w:World) (h:fP w S A c l) (hg:vJ g lb Jt p w):
 Calls Tryz.prog 137 #[.slice A l.length c,.func (.func g) #[] lb] w fun e w'=>(∃ i:Int,e= .returned (.int .i64 i)∧decide (0≤i)=l.any p)∧Below w.heap.size w w':=by
 obtain ⟨b1,b2,b3⟩:=h.bd;obtain ⟨eg,hq⟩:=hg
 go_enter Tryz.func137,Tryz.ntmps137
 go_wp2
 go_loopw [8] (fun i wr=>∃ k:Nat,k≤l.length∧i= .int .i64 k∧Aside ((l.take k).any p=false)∧Aside (Below w.heap.size w wr)) (fun i _=>l.length - (intOf i).toNat)
 case atStart=>exact ⟨0,Nat.zero_le _,rfl,by simp [Aside],Below.refl _ _⟩
 case round=>
  obtain ⟨k,hk,rfl,hall,hbw⟩:=hrel
  by_cases hlt:k<l.length
  · obtain ⟨b,o,rfl,_,hbl,hc⟩:=h.at_ k hlt
    have hck:=hc k hlt;obtain ⟨hck1,sZ⟩:=hck;have hc1:wr.cell? ⟨b,o+k*2,none⟩=some (.int .i64 l[k].aT):=(hbw.out.cell (p:=⟨b,o+k*2,none⟩) hbl).trans hck1;have hc2:wr.cell? ⟨b,o+k*2+1,none⟩=some (.int .i64 l[k].aP):=(hbw.out.cell (p:=⟨b,o+k*2+1,none⟩) hbl).trans sZ;have hcall:=hq wr l[k] hbw.out;clear hc hck1 sZ hq
    cases hp:p l[k] with
    | true=>
      rw [hp] at hcall;have HP:=hide (lg hlt hp);clear hp
      go_wp2_with (go_at_fn g;refine hcall.mono ?_;rintro e w2 ⟨rfl,hb2⟩)
      go_ret;exact ⟨⟨k,rfl,by rw [HP.out];simp⟩,hb2⟩
    | false=>
      rw [hp] at hcall;have HP:=hide (kN hlt hall.out hp);clear hp
      go_wp2_with (go_at_fn g;refine hcall.mono ?_;rintro e w2 ⟨rfl,hb2⟩)
      go_roundw
      case rel=>exact ⟨k+1,by omega,by go_num,HP.out,hb2⟩
      case measure=>simp [intOf];omega
  · have HA:=hide (show l.any p=false by have:=hall.out;rwa [List.take_of_length_le (by omega)] at this)
    go_wp2;go_ret;exact ⟨⟨-1,rfl,by rw [HA.out];rfl⟩,hbw.out⟩
theorem Et (S:Nat→Prop) (A:Option Addr) (c:Nat) (l:List M.kL) (g:Nat) (lb:Array Value) (p:M.kL→Bool) (w:World) (h:fP w S A c l) (hg:vJ g lb Jt p w):
 Calls Tryz.prog 65 #[.slice A l.length c,.func (.func g) #[] lb] w fun e w'=>e= .returned (.bool (l.any p))∧Below w.heap.size w w':=by
 go_enter Tryz.func65,Tryz.ntmps65
 go_wp2_with (go_at_call 137;refine (Ia S A c l g lb p w h hg).mono ?_;rintro e w2 ⟨⟨i,rfl,hi⟩,hb2⟩)
 go_ret;exact ⟨rfl,hb2⟩
theorem H9 (S:Nat→Prop) (A:Option Addr) (c:Nat) (l:List Int) (g:Nat) (lb:Array Value) (p:Int→Bool) (w:World) (h:bQ w S A c l) (hg:vJ g lb aaE p w):
 Calls Tryz.prog 153 #[.slice A l.length c,.func (.func g) #[] lb] w fun e w'=>(∃ i:Int,e= .returned (.int .i64 i)∧decide (0≤i)=l.any p)∧Below w.heap.size w w':=by
 obtain ⟨b1,b2,b3⟩:=h.bd;obtain ⟨eg,hq⟩:=hg
 go_enter Tryz.func153,Tryz.ntmps153
 go_wp2
 go_loopw [8] (fun i wr=>∃ k:Nat,k≤l.length∧i= .int .i64 k∧Aside ((l.take k).any p=false)∧Aside (Below w.heap.size w wr)) (fun i _=>l.length - (intOf i).toNat)
 case atStart=>exact ⟨0,Nat.zero_le _,rfl,by simp [Aside],Below.refl _ _⟩
 case round=>
  obtain ⟨k,hk,rfl,hall,hbw⟩:=hrel
  by_cases hlt:k<l.length
  · obtain ⟨b,o,rfl,_,hbl,hc⟩:=h.at_ k hlt
    have hck:=hc k hlt;have hc1:wr.cell? ⟨b,o+k,none⟩=some (.int .i64 l[k]):=(hbw.out.cell (p:=⟨b,o+k,none⟩) hbl).trans hck;have hcall:=hq wr l[k] hbw.out;clear hc hck hq
    cases hp:p l[k] with
    | true=>
      rw [hp] at hcall;have HP:=hide (lg hlt hp);clear hp
      go_wp2_with (go_at_fn g;refine hcall.mono ?_;rintro e w2 ⟨rfl,hb2⟩)
      go_ret;exact ⟨⟨k,rfl,by rw [HP.out];simp⟩,hb2⟩
    | false=>
      rw [hp] at hcall;have HP:=hide (kN hlt hall.out hp);clear hp
      go_wp2_with (go_at_fn g;refine hcall.mono ?_;rintro e w2 ⟨rfl,hb2⟩)
      go_roundw
      case rel=>exact ⟨k+1,by omega,by go_num,HP.out,hb2⟩
      case measure=>simp [intOf];omega
  · have HA:=hide (show l.any p=false by have:=hall.out;rwa [List.take_of_length_le (by omega)] at this)
    go_wp2;go_ret;exact ⟨⟨-1,rfl,by rw [HA.out];rfl⟩,hbw.out⟩
theorem PD (S:Nat→Prop) (A:Option Addr) (c:Nat) (l:List Int) (g:Nat) (lb:Array Value) (p:Int→Bool) (w:World) (h:bQ w S A c l) (hg:vJ g lb aaE p w):
 Calls Tryz.prog 99 #[.slice A l.length c,.func (.func g) #[] lb] w fun e w'=>e= .returned (.bool (l.any p))∧Below w.heap.size w w':=by
 go_enter Tryz.func99,Tryz.ntmps99
 go_wp2_with (go_at_call 153;refine (H9 S A c l g lb p w h hg).mono ?_;rintro e w2 ⟨⟨i,rfl,hi⟩,hb2⟩)
 go_ret;exact ⟨rfl,hb2⟩
theorem IC (S:Nat→Prop) (A:Option Addr) (c:Nat) (l:List Int) (x:Int) (w:World) (h:bQ w S A c l):
 Calls Tryz.prog 140 #[.slice A l.length c,.int .i64 x] w fun e w'=>(∃ i:Int,e= .returned (.int .i64 i)∧decide (0≤i)=decide (x∈l))∧w=w':=by
 obtain ⟨b1,b2,b3⟩:=h.bd;rw [L8]
 go_enter Tryz.func140,Tryz.ntmps140
 go_wp2
 go_loop [8] (fun i=>∃ k:Nat,k≤l.length∧i= .int .i64 k∧Aside ((l.take k).any (fun y=>decide (y=x))=false)) (fun i=>l.length - (intOf i).toNat)
 case atStart=>exact ⟨0,Nat.zero_le _,rfl,by simp [Aside]⟩
 case round=>
  obtain ⟨k,hk,rfl,hall⟩:=hrel
  by_cases hlt:k<l.length
  · obtain ⟨b,o,rfl,_,hbl,hc⟩:=h.at_ k hlt
    have hck:=hc k hlt;clear hc
    by_cases he:l[k]=x
    · have HP:=hide (lg (p:=fun y=>decide (y=x)) hlt (by simp [he]))
      have he':(x == l[k])=true:=by simp [he]
      clear he;go_wp2;go_ret;exact ⟨⟨k,rfl,by rw [HP.out];simp⟩,rfl⟩
    · have HP:=hide (kN (p:=fun y=>decide (y=x)) hlt hall.out (by simp [he]))
      have he':(x == l[k])=false:=by simp;exact fun e=>he e.symm
      clear he;go_wp2
      go_round
      case rel=>exact ⟨k+1,by omega,by go_num,HP.out⟩
      case measure=>simp [intOf];omega
  · have HA:=hide (show l.any (fun y=>decide (y=x))=false by have:=hall.out;rwa [List.take_of_length_le (by omega)] at this)
    go_wp2;go_ret;exact ⟨⟨-1,rfl,by rw [HA.out];rfl⟩,rfl⟩
theorem iQ (S:Nat→Prop) (A:Option Addr) (c:Nat) (l:List Int) (x:Int) (w:World) (h:bQ w S A c l):
 Calls Tryz.prog 78 #[.slice A l.length c,.int .i64 x] w fun e w'=>e= .returned (.bool (decide (x∈l)))∧w=w':=by
 go_enter Tryz.func78,Tryz.ntmps78
 go_wp2_with (go_at_call 140;refine (IC S A c l x w h).mono ?_;rintro e w2 ⟨⟨i,rfl,hi⟩,rfl⟩)
 go_ret;exact ⟨rfl,rfl⟩
end Go.Proofs.YtcjglfbpjkdgiaaGreatDoor
