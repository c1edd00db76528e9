/- Parts of a proof. -/
import Derived.BigQuiet
import Derived.Deep.QuietTactic
import Derived.Test.YtcjglfbpjkdgiaaGreatDoorKk1
set_option maxHeartbeats 800000
set_option maxRecDepth 100000
set_option linter.unusedVariables false
set_option linter.unusedSimpArgs false
namespace Go.Proofs.YtcjglfbpjkdgiaaGreatDoor
open Go.RowKit
structure Sh where
 x:M.aV
 a:Option Addr
 c:Nat
def aA (e:Sh):List Value:=[.int .i64 e.x.aG,.string e.x.kind,.int .i64 e.x.aT,.int .i64 e.x.aP,.int .i64 e.x.first,.bool e.x.cO,.slice e.a e.x.aC.length e.c]
def cZ (l:List Sh):List Value:=l.flatMap aA
theorem fA (l:List Sh):(cZ l).length=l.length*7:=by
 induction l with
 | nil=>rfl
 | cons p l ih=>simp [cZ,aA] at ih ⊢;omega
theorem kS (a b:List Sh):cZ (a++b)=cZ a++cZ b:=by simp [cZ]
theorem fU (l:List Sh) (k:Nat) (hk:k<l.length) (j:Nat) (hj:j<7):(cZ l)[k*7+j]? =(aA l[k])[j]? :=by
 have h:cZ l=cZ (l.take k)++(aA l[k]++cZ (l.drop (k+1))):=by
  conv=>lhs;rw [← List.take_append_drop k l,List.drop_eq_getElem_cons hk]
  rw [kS];rfl
 have hl:(cZ (l.take k)).length=k*7:=by rw [fA,List.length_take];omega
 have h7:(aA l[k]).length=7:=rfl;rw [h,List.getElem?_append_right (by omega),hl,List.getElem?_append_left (by omega)]
 congr 1
 omega
def jQ (w:World) (S:Nat→Prop) (A:Option Addr) (c:Nat) (l:List Sh):Prop:=Reads w S 7 A l.length c (cZ l)∧∀ e∈l,fP w S e.a e.c e.x.aC
section
variable {w w':World} {S S':Nat→Prop} {A:Option Addr} {c:Nat} {l:List Sh}
theorem jQ.at_ (h:jQ w S A c l) (k:Nat) (hk:k<l.length):
 ∃ b o,A=some ⟨b,o,none⟩∧S b∧b<w.heap.size∧∀ j (_:j<l.length),w.cell? ⟨b,o+j*7,none⟩=some (.int .i64 l[j].x.aG)∧w.cell? ⟨b,o+j*7+1,none⟩=some (.string l[j].x.kind)∧
  w.cell? ⟨b,o+j*7+2,none⟩=some (.int .i64 l[j].x.aT)∧w.cell? ⟨b,o+j*7+3,none⟩=some (.int .i64 l[j].x.aP)∧w.cell? ⟨b,o+j*7+4,none⟩=some (.int .i64 l[j].x.first)∧
  w.cell? ⟨b,o+j*7+5,none⟩=some (.bool l[j].x.cO)∧w.cell? ⟨b,o+j*7+6,none⟩=some (.slice l[j].a l[j].x.aC.length l[j].c):=by
 obtain ⟨b,o,e,h1,h2,h3⟩:=Reads.at_ h.1 (by omega)
 exact ⟨b,o,e,h1,h2,fun j hj=>⟨h3 _ _ (fU l j hj 0 (by omega)),h3 _ _ (fU l j hj 1 (by omega)),h3 _ _ (fU l j hj 2 (by omega)),
  h3 _ _ (fU l j hj 3 (by omega)),h3 _ _ (fU l j hj 4 (by omega)),h3 _ _ (fU l j hj 5 (by omega)),h3 _ _ (fU l j hj 6 (by omega))⟩⟩
theorem jQ.bd (h:jQ w S A c l):l.length≤c∧c≤9223372036854775807∧l.length≤17592186044416:=Reads.bd h.1
theorem jQ.aC (h:jQ w S A c l) (k:Nat) (hk:k<l.length):fP w S l[k].a l[k].c l[k].x.aC:=h.2 _ (List.getElem_mem hk)
theorem jQ.keep (h:jQ w S A c l) (hs:w.heap.size≤w'.heap.size) (hk:∀ b o,S b→b<w.heap.size→w'.cell? ⟨b,o,none⟩=w.cell? ⟨b,o,none⟩):jQ w' S A c l:=
 ⟨Reads.keep h.1 hs hk,fun e he=>Reads.keep (h.2 e he) hs hk⟩
theorem jQ.below (h:jQ w S A c l) (hb:Below w.heap.size w w'):jQ w' S A c l:=h.keep hb.size fun _ _ _ hp=>hb.cell (p:=⟨_,_,none⟩) hp
theorem jQ.more (h:jQ w S A c l) (hS:∀ b,b<w.heap.size→S b→S' b):jQ w S' A c l:=⟨Reads.more h.1 hS,fun e he=>Reads.more (h.2 e he) hS⟩
end
def plain (l:List Sh):List M.aV:=l.map (·.x)
theorem aW (l:List Sh):(plain l).length=l.length:=by simp [plain]
theorem zh (l:List Sh) (k:Nat) (hk:k<l.length):(plain l)[k]'(by rw [aW];exact hk)=l[k].x:=by simp [plain]
section
variable {w w':World} {S S':Nat→Prop} {A:Option Addr} {c:Nat} {zs:List Int} {ps:List M.kL}
theorem bQ.below (h:bQ w S A c zs) (hb:Below w.heap.size w w'):bQ w' S A c zs:=Reads.below h hb
theorem bQ.alloc (h:bQ w S A c zs) (o:Obj):bQ (w.alloc o) S A c zs:=Reads.alloc h o
theorem bQ.drewN (h:bQ w S A c zs) (n:Nat):bQ (w.drewN n) S A c zs:=h
theorem bQ.more (h:bQ w S A c zs) (hS:∀ b,b<w.heap.size→S b→S' b):bQ w S' A c zs:=Reads.more h hS
theorem bQ.keep (h:bQ w S A c zs) (hs:w.heap.size≤w'.heap.size) (hk:∀ b o,S b→b<w.heap.size→w'.cell? ⟨b,o,none⟩=w.cell? ⟨b,o,none⟩):bQ w' S A c zs:=Reads.keep h hs hk
theorem bQ.setCell (h:bQ w S A c zs) {p:Addr} (hp:¬ S p.block) (u:Value):bQ (w.setCell p u) S A c zs:=Reads.setCell h hp u
theorem fP.below (h:fP w S A c ps) (hb:Below w.heap.size w w'):fP w' S A c ps:=Reads.below h hb
theorem fP.alloc (h:fP w S A c ps) (o:Obj):fP (w.alloc o) S A c ps:=Reads.alloc h o
theorem fP.drewN (h:fP w S A c ps) (n:Nat):fP (w.drewN n) S A c ps:=h
theorem fP.more (h:fP w S A c ps) (hS:∀ b,b<w.heap.size→S b→S' b):fP w S' A c ps:=Reads.more h hS
theorem fP.keep (h:fP w S A c ps) (hs:w.heap.size≤w'.heap.size) (hk:∀ b o,S b→b<w.heap.size→w'.cell? ⟨b,o,none⟩=w.cell? ⟨b,o,none⟩):fP w' S A c ps:=Reads.keep h hs hk
theorem fP.setCell (h:fP w S A c ps) {p:Addr} (hp:¬ S p.block) (u:Value):fP (w.setCell p u) S A c ps:=Reads.setCell h hp u
theorem pW {l:List Sh} {k:Nat} (hk:k<l.length):M.iD ((plain l).drop k)=if M.bT l[k].x≠0 then M.bT l[k].x else M.iD ((plain l).drop (k+1)):=by
 rw [List.drop_eq_getElem_cons (by rw [aW];exact hk),M.iD,zh l k hk]
end
structure Keeps (w B:World) (nb:Nat) (W:World):Prop where
 sz:w.heap.size+nb≤W.heap.size
 cell:∀ p q,p<w.heap.size+nb→W.cell? ⟨p,q,none⟩=B.cell? ⟨p,q,none⟩
 frozen:∀ p q,p<w.heap.size+nb→W.frozen? ⟨p,q,none⟩=B.frozen? ⟨p,q,none⟩
 bw:Below w.heap.size w W
section
variable {w B W W':World} {nb:Nat}
theorem Keeps.of (hb:Below w.heap.size w B) (hs:B.heap.size=w.heap.size+nb):Keeps w B nb B:=⟨by omega,fun _ _ _=>rfl,fun _ _ _=>rfl,hb⟩
theorem Keeps.of0 (w:World):Keeps w w 0 w:=⟨by omega,fun _ _ _=>rfl,fun _ _ _=>rfl,Below.refl _ _⟩
theorem Keeps.Nr (w:World) (o:Obj):Keeps w (w.alloc o) 1 (w.alloc o):= .of ((Below.refl _ _).alloc (Nat.le_refl _) _) (by simp)
theorem Keeps.of2 (w:World) (o p:Obj):Keeps w ((w.alloc o).alloc p) 2 ((w.alloc o).alloc p):= .of (((Below.refl _ _).alloc (Nat.le_refl _) _).alloc (by simp) _) (by simp)
theorem Keeps.drew (h:Keeps w B nb W):Keeps w B nb W.drew:=⟨h.sz,h.cell,h.frozen,h.bw.drew⟩
theorem Keeps.drewN (h:Keeps w B nb W) (n:Nat):Keeps w B nb (W.drewN n):=⟨h.sz,h.cell,h.frozen,below_drewN h.bw n⟩
theorem Keeps.call (h:Keeps w B nb W) (hb:Below W.heap.size W W'):Keeps w B nb W':=
 ⟨Nat.le_trans h.sz hb.size,fun p q hp=>(hb.cell (p:=⟨p,q,none⟩) (Nat.lt_of_lt_of_le hp h.sz)).trans (h.cell p q hp),
  fun p q hp=>(hb.frozen (p:=⟨p,q,none⟩) (Nat.lt_of_lt_of_le hp h.sz)).trans (h.frozen p q hp),h.bw.trans (hb.mono (by have:=h.sz;omega))⟩
theorem Keeps.upto {D:Nat} (h:Keeps w B nb W) (hb:Below D W W') (hD:w.heap.size+nb≤D):Keeps w B nb W':=
 ⟨Nat.le_trans h.sz hb.size,fun p q hp=>(hb.cell (p:=⟨p,q,none⟩) (Nat.lt_of_lt_of_le hp hD)).trans (h.cell p q hp),
  fun p q hp=>(hb.frozen (p:=⟨p,q,none⟩) (Nat.lt_of_lt_of_le hp hD)).trans (h.frozen p q hp),h.bw.trans (hb.mono (by omega))⟩
theorem Keeps.alloc (h:Keeps w B nb W) (o:Obj):Keeps w B nb (W.alloc o):=h.call ((Below.refl _ _).alloc (Nat.le_refl _) o)
theorem xX {base e size n:Nat} {v:Value} {xs:List Value} (h:W.ownsRow base e size v n xs) (hb:Below W.heap.size W W'):W'.ownsRow base e size v n xs:=
 World.ownsRow.kept (row:=none) h ⟨hb.os,hb.tape,hb.output,hb.size,fun i hi _=>hb.block i hi⟩ (by
  rcases hv:v.ownBlock with _ | k
  · exact .inl rfl
  · exact .inr (by simp))
end
theorem yt {xs ys:List Int} {k:Nat} (hx:k<xs.length) (hy:k<ys.length) (h:xs.take k=ys.take k) (e:xs[k]=ys[k]):xs.take (k+1)=ys.take (k+1):=by
 rw [List.take_succ_eq_append_getElem hx,List.take_succ_eq_append_getElem hy,h,e]
theorem ES {xs ys:List Int} {k:Nat} (hx:k<xs.length) (hy:k<ys.length) (e:xs[k]≠ys[k]):xs≠ys:=by
 intro h;subst h;exact e rfl
theorem G8 (S:Nat→Prop) (A B:Option Addr) (c d:Nat) (xs ys:List Int) (w:World) (hx:bQ w S A c xs) (hy:bQ w S B d ys):
 Calls Tryz.prog 41 #[.slice A xs.length c,.slice B ys.length d] w fun r w'=>r= .returned (.bool (decide (xs=ys)))∧∃ n,w'=w.drewN n:=by
 obtain ⟨b1,b2,b3⟩:=hx.bd;obtain ⟨b4,b5,b6⟩:=hy.bd
 by_cases hl:xs.length=ys.length
 · have hl1:((xs.length:Int) != (ys.length:Int))=false:=by rw [hl];simp
   have HL:=hide hl;clear hl
   go_enter Tryz.func41,Tryz.ntmps41
   go_wp2
   go_loopw [5] (fun i wr=>∃ k n:Nat,k≤xs.length∧i= .int .i64 k∧xs.take k=ys.take k∧wr=w.drewN n) (fun i _=>xs.length - (intOf i).toNat)
   case atStart=>exact ⟨0,0,Nat.zero_le _,rfl,by simp,rfl⟩
   case round=>
    obtain ⟨k,n,hk,rfl,hx1,rfl⟩:=hrel
    by_cases hlt:k<xs.length
    · have hlt2:k<ys.length:=by have:=HL.out;omega
      obtain ⟨b,o,rfl,_,_,hc⟩:=hx.at_ k hlt;obtain ⟨b',o',rfl,_,_,hc'⟩:=hy.at_ k hlt2;have h1:=hc k hlt;have h2:=hc' k hlt2;clear hc hc'
      have i1:(0:Int)≤(k:Int):=by omega
      have i2:(k:Int)<(xs.length:Int):=by omega
      have i3:(k:Int)<(ys.length:Int):=by omega
      by_cases he:xs[k]=ys[k]
      · have he1:(xs[k] != ys[k])=false:=by simp [he]
        have HE:=hide he;have HX:=hide hx1;clear he hx1;go_wp2
        go_quiet (fail)
        go_wp2
        go_roundw
        case rel=>exact ⟨k+1,_,by omega,by go_num,yt hlt hlt2 HX.out HE.out,rfl⟩
        case measure=>simp [intOf];omega
      · have he1:(xs[k] != ys[k])=true:=by simp [he]
        go_wp2
        go_quiet (fail)
        go_wp2;go_ret;exact ⟨dD (by simp [ES hlt hlt2 he]),_,World.drewN_drewN _ _ _⟩
    · go_wp2
      go_ret;rw [List.take_of_length_le (by omega),List.take_of_length_le (by have:=HL.out;omega)] at hx1;exact ⟨dD (by simp [hx1]),n,rfl⟩
 · have hl1:((xs.length:Int) != (ys.length:Int))=true:=by simp;omega
   go_enter Tryz.func41,Tryz.ntmps41
   go_wp2;go_ret;exact ⟨dD (by simp;intro e;exact hl (by rw [e])),0,rfl⟩
def oz (l:List M.kL):List Int:=(l.map (·.aT)).filter (· ≠0)
theorem Dh {l:List M.kL} {k:Nat} (hk:k<l.length):oz (l.take (k+1))=oz (l.take k)++if l[k].aT=0 then [] else [l[k].aT]:=by
 unfold oz
 rw [List.take_succ_eq_append_getElem hk,List.map_append,List.filter_append]
 by_cases h:l[k].aT=0 <;> simp [h]
theorem Df (l:List M.kL):(oz l).length≤l.length:=by
 unfold oz
 exact Nat.le_trans (List.length_filter_le _ _) (by simp)
end Go.Proofs.YtcjglfbpjkdgiaaGreatDoor
