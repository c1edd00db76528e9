/- Parts of a proof. -/
import Derived.Test.YtcjglfbpjkdgiaaGreatDoorKk25
import Derived.Test.YtcjglfbpjkdgiaaGreatDoorKk26
set_option maxHeartbeats 8000000
set_option maxRecDepth 100000
set_option linter.unusedVariables false
set_option linter.unusedSimpArgs false
namespace Go.Proofs.YtcjglfbpjkdgiaaGreatDoor
open Go.RowKit
structure qw (e:TypeId) (D:Nat) (l:List Sh) (A:Option Addr) (c:Nat) (W:World):Prop where
 own:W.ownsRow D e 7 (.slice A l.length c) l.length (cZ l)
 each:∀ x∈l,fP W (fun b=>D≤b∧(Value.slice A l.length c).ownBlock≠some b) x.a x.c x.x.aC
theorem qw.nil (e:TypeId) (D:Nat) (W:World):qw e D [] none 0 W:=⟨World.ownsRow_nil _ _ _ _,fun x hx=>by cases hx⟩
theorem qw.below {e:TypeId} {D:Nat} {l:List Sh} {A:Option Addr} {c:Nat} {W W':World} (h:qw e D l A c W) (hb:Below W.heap.size W W'):qw e D l A c W':=
 ⟨dV h.own (fun g hg=>hb.block g (Array.getElem?_eq_some_iff.1 (dh h.own hg).2.choose_spec.1).1),fun x hx=>Reads.below (h.each x hx) hb⟩
theorem qw.read {e:TypeId} {D:Nat} {l:List Sh} {A:Option Addr} {c:Nat} {W:World} (h:qw e D l A c W) (hn:l.length≤17592186044416):jQ W (fun b=>D≤b) A c l:=
 ⟨Reads.je h.own (fun g hg=>hg) hn,fun x hx=>Reads.more (h.each x hx) (fun b _ h=>h.1)⟩
theorem qw.append {e:TypeId} {D:Nat} {l:List Sh} {A:Option Addr} {c g1 cap:Nat} {W0 W w4:World} {o:Obj} {x:Sh} (h:qw e D l A c W0) (hb:Below W0.heap.size W0 W) (hD:D≤W0.heap.size) (hx:fP W (fun b=>W0.heap.size≤b) x.a x.c x.x.aC)
 (hgrow:(W.alloc o).grownBy w4 (Value.slice A l.length c).ownBlock) (hown4:w4.ownsRow D e 7 (.slice (some ⟨g1,0,none⟩) (l.length+1) cap) (l.length+1) (cZ l++aA x)) (hat:(Value.slice A l.length c).ownBlock=some g1∨g1=W.heap.size+1):
 qw e D (l++[x]) (some ⟨g1,0,none⟩) cap w4:=by
 have hlt:∀ g,(Value.slice A l.length c).ownBlock=some g→g<W0.heap.size:=fun g hg=>(Array.getElem?_eq_some_iff.1 (dh h.own hg).2.choose_spec.1).1;have hs:=hb.size
 have key:∀ y:Sh,fP W (fun b=>D≤b∧(Value.slice A l.length c).ownBlock≠some b) y.a y.c y.x.aC→fP w4 (fun b=>D≤b∧(some g1:Option Nat)≠some b) y.a y.c y.x.aC:=fun y hy=>by
  have h1:=Reads.more hy (S':=fun b=>(D≤b∧(Value.slice A l.length c).ownBlock≠some b)∧b<W.heap.size) (fun b hb h=>⟨h,hb⟩);have h2:=Reads.keep h1 (by have:=hgrow.size;simp at this;omega) (w':=w4) (fun b o hb hlt=>(hgrow.cell_far ⟨b,o,none⟩ (by simp;omega) (fun e=>hb.1.2 e.symm)).trans (World.cell?_alloc_lt _ _ ⟨b,o,none⟩ hlt));refine Reads.more h2 (fun b _ hb=>⟨hb.1.1,fun e=>?_⟩)
  cases e
  rcases hat with h3 | h3
  · exact hb.1.2 h3
  · have:=hb.2;omega
 have hl:(l++[x]).length=l.length+1:=by simp
 refine ⟨?_,fun y hy=>?_⟩
 · rw [hl,kS]
   have:cZ [x]=aA x:=by simp [cZ]
   rw [this];exact hown4
 · rw [hl]
   rcases List.mem_append.1 hy with hy | hy
   · exact key y (Reads.below (h.each y hy) hb)
   · obtain rfl:=List.mem_singleton.1 hy
     exact key _ (Reads.more hx (fun b _ hb=>⟨Nat.le_trans hD hb,fun e=>by have:=hlt b e;have hb:W0.heap.size≤b:=hb;omega⟩))
theorem Kw:(Tryz.prog.info? 36).map (fun i=>(i.zero,i.size,i.bytes))=some (some (.agg #[.int .i64 0,.string ⟨#[]⟩,.int .i64 0,.int .i64 0,.int .i64 0,.bool false,.slice none 0 0]),7,80):=by kernel_rfl
theorem rJ:(Tryz.prog.info? 36).map (·.size)=some 7:=by kernel_rfl
def shortS (x:M.aV):Bool:=decide (x.kind.size≤60∧x.aC.length≤18)
def XH (k n:Nat):Bool:=decide (¬ ((n<k∧k≤1000)∨1003<k))
def ug (l:List M.aV) (n:Nat):Bool:=XH l.length n && l.all shortS
theorem Fg {l:List Sh} {k:Nat} (hk:k<l.length):((plain l).drop k).all shortS=(shortS l[k].x && ((plain l).drop (k+1)).all shortS):=by
 have h:(plain l).drop k=l[k].x::(plain l).drop (k+1):=by
  rw [List.drop_eq_getElem_cons (by rw [aW];exact hk),zh l k hk]
 rw [h];rfl
theorem He (S:Nat→Prop) (l:List Sh) (A:Option Addr) (c n:Nat) (w:World) (hp:jQ w S A c l):
 Calls Tryz.prog 20 #[.slice A l.length c,.int .i64 n] w fun e w'=>e= .returned (.bool (ug (plain l) n))∧Below w.heap.size w w':=by
 obtain ⟨b1,b2,b3⟩:=hp.bd
 have bad:(n<l.length∧l.length≤1000)∨1003<l.length→ug (plain l) n=false:=fun h=>by
  unfold ug XH;rw [aW,decide_eq_false (fun hn=>hn h)];rfl
 have HBAD:=hide bad;clear bad
 by_cases h1:n<l.length
 · have i1:(n:Int)<(l.length:Int):=by omega
   by_cases h2:l.length≤1000
   · have i2:(l.length:Int)≤1000:=by omega
     have HR:=hide (HBAD.out (.inl ⟨h1,h2⟩))
     go_enter Tryz.func20,Tryz.ntmps20
     go_wp2;go_ret;exact ⟨by rw [HR.out] <;> rfl,Below.refl _ _⟩
   · have i2:¬ (l.length:Int)≤1000:=by omega
     by_cases h3:1003<l.length
     · have i3:(1003:Int)<(l.length:Int):=by omega
       have HR:=hide (HBAD.out (.inr h3))
       go_enter Tryz.func20,Tryz.ntmps20
       go_wp2;go_ret;exact ⟨by rw [HR.out] <;> rfl,Below.refl _ _⟩
     · have i3:¬ (1003:Int)<(l.length:Int):=by omega
       have hgo:ug (plain l) n=(plain l).all shortS:=by unfold ug XH;rw [aW,decide_eq_true (by omega)];rfl
       have HGO:=hide hgo;clear hgo HBAD
       go_enter Tryz.func20,Tryz.ntmps20
       go_wp2
       go_loopw [5] (fun i wr=>∃ k:Nat,k≤l.length∧i= .int .i64 k∧(plain l).all shortS=((plain l).drop k).all shortS∧Below w.heap.size w wr) (fun i _=>l.length - (intOf i).toNat)
       case atStart=>exact ⟨0,Nat.zero_le _,rfl,by simp,Below.refl _ _⟩
       case round=>
        obtain ⟨k,hk,rfl,hx1,hb⟩:=hrel
        by_cases hlt:k<l.length
        · obtain ⟨b,o,rfl,_,hbl,hcs⟩:=Reads.at_ (hp.below hb).1 (by omega)
          have h00:wr.rangeAt b (o+k*7) (aA l[k]):=fun j v hj=>by
           have hj7:j<7:=(List.getElem?_eq_some_iff.1 hj).1;rw [Nat.add_assoc];exact hcs _ _ ((fU l k hlt j hj7).trans hj)
          have hst:=Fg hlt;have HX:=hide (hx1.trans hst);have hcall:=fun W:World=>vU l[k].x l[k].a l[k].c W ((fP.bd (hp.aC k hlt)).2.2);obtain ⟨B,hB⟩:∃ B,shortS l[k].x=B:=⟨_,rfl⟩;have hB':decide (l[k].x.kind.size≤60∧l[k].x.aC.length≤18)=B:=hB;rw [hB'] at hcall;have HC:=hide hcall;have HB:=hide hB
          have j1:(0:Int)≤(k:Int):=by omega
          have j2:(k:Int)<(l.length:Int):=by omega
          clear hcall hx1 hst hcs hB hB'
          cases B with
          | true=>
            go_wp2_with (first | (refine aB 36 (.tmp 28) rfl ?_;refine dH (g:=b) (o:=o+k*7) h00 Tryz.underlying36 rfl rJ rfl (.tmp 28) rfl rfl ?_) | (go_at_call 7;refine (HC.out _).mono ?_;rintro e w1 ⟨rfl,hb1⟩))
            go_roundw
            case rel=>exact ⟨k+1,by omega,by go_num,by rw [HX.out,HB.out];rfl,hb.trans (hb1.mono hb.size)⟩
            case measure=>simp [intOf];omega
          | false=>
            go_wp2_with (first | (refine aB 36 (.tmp 28) rfl ?_;refine dH (g:=b) (o:=o+k*7) h00 Tryz.underlying36 rfl rJ rfl (.tmp 28) rfl rfl ?_) | (go_at_call 7;refine (HC.out _).mono ?_;rintro e w1 ⟨rfl,hb1⟩))
            go_ret;exact ⟨by rw [HGO.out,HX.out,HB.out] <;> rfl,hb.trans (hb1.mono hb.size)⟩
        · have hkk:k=l.length:=by omega
          have hz:(plain l).all shortS=true:=by rw [hx1,hkk, ← aW l,List.drop_length];rfl
          have HZ:=hide hz;clear hx1 hkk hz;go_wp2;go_ret;exact ⟨by rw [HGO.out,HZ.out] <;> rfl,hb⟩
 · have i1:¬ (n:Int)<(l.length:Int):=by omega
   by_cases h3:1003<l.length
   · have i3:(1003:Int)<(l.length:Int):=by omega
     have HR:=hide (HBAD.out (.inr h3))
     go_enter Tryz.func20,Tryz.ntmps20
     go_wp2;go_ret;exact ⟨by rw [HR.out] <;> rfl,Below.refl _ _⟩
   · have i3:¬ (1003:Int)<(l.length:Int):=by omega
     have hgo:ug (plain l) n=(plain l).all shortS:=by unfold ug XH;rw [aW,decide_eq_true (by omega)];rfl
     have HGO:=hide hgo;clear hgo HBAD
     go_enter Tryz.func20,Tryz.ntmps20
     go_wp2
     go_loopw [5] (fun i wr=>∃ k:Nat,k≤l.length∧i= .int .i64 k∧(plain l).all shortS=((plain l).drop k).all shortS∧Below w.heap.size w wr) (fun i _=>l.length - (intOf i).toNat)
     case atStart=>exact ⟨0,Nat.zero_le _,rfl,by simp,Below.refl _ _⟩
     case round=>
      obtain ⟨k,hk,rfl,hx1,hb⟩:=hrel
      by_cases hlt:k<l.length
      · obtain ⟨b,o,rfl,_,hbl,hcs⟩:=Reads.at_ (hp.below hb).1 (by omega)
        have h00:wr.rangeAt b (o+k*7) (aA l[k]):=fun j v hj=>by
         have hj7:j<7:=(List.getElem?_eq_some_iff.1 hj).1;rw [Nat.add_assoc];exact hcs _ _ ((fU l k hlt j hj7).trans hj)
        have hst:=Fg hlt;have HX:=hide (hx1.trans hst);have hcall:=fun W:World=>vU l[k].x l[k].a l[k].c W ((fP.bd (hp.aC k hlt)).2.2);obtain ⟨B,hB⟩:∃ B,shortS l[k].x=B:=⟨_,rfl⟩;have hB':decide (l[k].x.kind.size≤60∧l[k].x.aC.length≤18)=B:=hB;rw [hB'] at hcall;have HC:=hide hcall;have HB:=hide hB
        have j1:(0:Int)≤(k:Int):=by omega
        have j2:(k:Int)<(l.length:Int):=by omega
        clear hcall hx1 hst hcs hB hB'
        cases B with
        | true=>
          go_wp2_with (first | (refine aB 36 (.tmp 28) rfl ?_;refine dH (g:=b) (o:=o+k*7) h00 Tryz.underlying36 rfl rJ rfl (.tmp 28) rfl rfl ?_) | (go_at_call 7;refine (HC.out _).mono ?_;rintro e w1 ⟨rfl,hb1⟩))
          go_roundw
          case rel=>exact ⟨k+1,by omega,by go_num,by rw [HX.out,HB.out];rfl,hb.trans (hb1.mono hb.size)⟩
          case measure=>simp [intOf];omega
        | false=>
          go_wp2_with (first | (refine aB 36 (.tmp 28) rfl ?_;refine dH (g:=b) (o:=o+k*7) h00 Tryz.underlying36 rfl rJ rfl (.tmp 28) rfl rfl ?_) | (go_at_call 7;refine (HC.out _).mono ?_;rintro e w1 ⟨rfl,hb1⟩))
          go_ret;exact ⟨by rw [HGO.out,HX.out,HB.out] <;> rfl,hb.trans (hb1.mono hb.size)⟩
      · have hkk:k=l.length:=by omega
        have hz:(plain l).all shortS=true:=by rw [hx1,hkk, ← aW l,List.drop_length];rfl
        have HZ:=hide hz;clear hx1 hkk hz;go_wp2;go_ret;exact ⟨by rw [HGO.out,HZ.out] <;> rfl,hb⟩
structure Es where
 s:M.State
 a:Option Addr
 c:Nat
def Xf (e:Es):List Value:=aJ e.s e.a e.c
theorem YQ (e:Es):(Xf e).length=15:=rfl
theorem Reads.sets {S:Nat→Prop} {size n:Nat} {A:Option Addr} {c:Nat} {xs:List Value} {g:Nat} (hg:¬ S g):∀ (vs:List Value) (o:Nat) (W:World),Reads W S size A n c xs→Reads (W.setCells g o vs) S size A n c xs
 | [],_,_,h=>h
 | v::r,o,W,h=>Reads.sets hg r (o+1) _ (h.setCell (p:=⟨g,o,none⟩) hg v)
theorem bQ.zero (W:World):bQ W (fun _=>True) none 0 M.zero.au:=Reads.none_ _ _ _
theorem qH {W:World} {D:Nat} {e:TypeId} {size n:Nat} {v:Value} {xs:List Value} (h:W.ownsRow D e size v n xs) {g:Nat} (hg:v.ownBlock=some g):g<W.heap.size:=(Array.getElem?_eq_some_iff.1 (dh h hg).2.choose_spec.1).1
section
variable {W:World}
theorem lG {w4:World} {o:Obj} {v:Value} (hgrow:(W.alloc o).grownBy w4 v.ownBlock) {b:Nat} (hb:b<W.heap.size) (hn:v.ownBlock≠some b):w4.heap[b]? =W.heap[b]? :=
 (hgrow.block b (by simp;omega) (fun e=>hn e.symm)).trans (heap_alloc_old W o hb)
theorem ED {w4:World} {o:Obj} {v:Value} {X:Nat→Prop} (hgrow:(W.alloc o).grownBy w4 v.ownBlock) (hX:∀ g,v.ownBlock=some g→X g):Turn X W w4:=
 ⟨hgrow.os,hgrow.tape,hgrow.output,Nat.le_trans (by simp) hgrow.size,fun b hb hn=>lG hgrow hb (fun e=>hn (hX b e))⟩
end
def LJ (w:World) (S:Nat→Prop) (A:Option Addr) (c:Nat) (L:List Es):Prop:=Reads w S 15 A L.length c (L.flatMap Xf)∧∀ e∈L,bQ w S e.a e.c e.s.au
theorem LJ.below {w w':World} {S:Nat→Prop} {A:Option Addr} {c:Nat} {L:List Es} (h:LJ w S A c L) (hb:Below w.heap.size w w'):LJ w' S A c L:=
 ⟨Reads.below h.1 hb,fun e he=>(h.2 e he).below hb⟩
theorem LJ.more {w:World} {S S':Nat→Prop} {A:Option Addr} {c:Nat} {L:List Es} (h:LJ w S A c L) (hS:∀ b,b<w.heap.size→S b→S' b):LJ w S' A c L:=
 ⟨Reads.more h.1 hS,fun e he=>(h.2 e he).more hS⟩
section
variable {e:TypeId} {D:Nat} {Z:Nat→Prop} {L:List Es} {A:Option Addr} {c:Nat} {W W':World}
end
theorem Fj (r:M.Rules) (l:List M.aV):M.jf r l 0=M.start r:=rfl
theorem MW:(Tryz.prog.info? 27).map (fun i=>(i.zero,i.size,i.bytes))=some (some (.agg #[.int .i64 0,.string ⟨#[]⟩,.int .i64 0,.int .i64 0,.int .i64 0,.bool false,.slice none 0 0]),7,80):=by kernel_rfl
theorem Qb:(Tryz.prog.info? 71).map (fun i=>(i.zero,i.size,i.bytes))=some (some (.agg #[.int .i64 0,.int .i64 0]),2,16):=by kernel_rfl
def rX (t:TypeId) (W:World) (g cap:Nat) (L:List Sh):Prop:=∃ sp,Held W g (cZ L++sp) t∧(cZ L++sp).length=cap*7∧L.length≤cap∧cap≤maxLen
theorem UH (zs:List M.kL):∀ v∈bZ zs,v.oneCell'=true:=by
 intro v hv
 unfold bZ at hv
 obtain ⟨p,_,hp⟩:=List.mem_flatMap.1 hv
 rcases List.mem_cons.1 hp with rfl | hp
 · rfl
 · rw [List.mem_singleton] at hp;subst hp;rfl
theorem YO (l:List Sh):∀ v∈cZ l,v.oneCell'=true:=by
 intro v hv
 unfold cZ at hv
 obtain ⟨p,_,hp⟩:=List.mem_flatMap.1 hv;exact KC p v hp
theorem YP {t:TypeId} {W:World} {D g cap:Nat} {l:List Sh} (h:W.ownsRow D t 7 (.slice (some ⟨g,0,none⟩) l.length cap) l.length (cZ l)):∃ g',(some ⟨g,0,none⟩:Option Addr)=some ⟨g',0,none⟩∧D≤g'∧rX t W g' cap l:=by
 obtain ⟨_,⟨e,_⟩ | ⟨g',cap',cur,e,h1,h2,h3,h4,h5,h6⟩⟩:=h
 · cases e
 · cases e
   refine ⟨g,rfl,h1,cur.toList.drop (l.length*7),?_,?_,h3,h4⟩
   · rw [← h6,List.take_append_drop]
     exact h2
   · rw [← h6,List.take_append_drop, ← h5];simp
theorem rX.owns {t:TypeId} {W:World} {D g cap:Nat} {l:List Sh} (h:rX t W g cap l) (hD:D≤g):W.ownsRow D t 7 (.slice (some ⟨g,0,none⟩) l.length cap) l.length (cZ l):=by
 obtain ⟨sp,h1,h2,h3,h4⟩:=h;refine ⟨fA l,.inr ⟨g,cap,_,rfl,hD,h1,h3,h4,by simpa using h2,?_⟩⟩;rw [List.toList_toArray, ← fA l,List.take_left']
 rfl
theorem zu (L:List Sh) (k:Nat) (hk:k<L.length):cZ L=cZ (L.take k)++aA L[k]++cZ (L.drop (k+1)):=by
 conv=>lhs;rw [← List.take_append_drop k L,List.drop_eq_getElem_cons hk,kS]
 rw [List.append_assoc]
 rfl
theorem O6 (L:List Sh) (k:Nat) (hk:k<L.length) (x:Sh):cZ (L.set k x)=cZ (L.take k)++aA x++cZ (L.drop (k+1)):=by
 have h:=zu (L.set k x) k (by simpa using hk);rw [List.getElem_set_self,List.take_set_of_le (Nat.le_refl _),List.drop_set_of_lt (Nat.lt_succ_self _)] at h;exact h
theorem DL {L:List Sh} {k:Nat} (hk:k<L.length):(cZ (L.take k)).length=k*7:=by rw [fA,List.length_take,Nat.min_eq_left (Nat.le_of_lt hk)]
theorem rX.put {t:TypeId} {W:World} {g cap k:Nat} {L:List Sh} (h:rX t W g cap L) (hk:k<L.length) (x:Sh):rX t (W.setCells g (k*7) (aA x)) g cap (L.set k x):=by
 obtain ⟨sp,h1,h2,h3,h4⟩:=h;refine ⟨sp,?_,?_,by simpa using h3,h4⟩
 · rw [zu L k hk,List.append_assoc _ _ sp] at h1
   have h5:=Held.G9 (aA x) _ _ _ _ h1 rfl;rw [DL hk] at h5;rw [O6 L k hk,List.append_assoc _ _ sp];exact h5
 · rw [← h2,List.length_append,List.length_append,fA,fA,List.length_set]
theorem rX.aC {t:TypeId} {W:World} {g cap k:Nat} {L:List Sh} (h:rX t W g cap L) (hk:k<L.length) (A:Option Addr) (c:Nat):rX t (W.setCell ⟨g,k*7+6,none⟩ (.slice A L[k].x.aC.length c)) g cap (L.set k ⟨L[k].x,A,c⟩):=by
 obtain ⟨sp,h1,h2,h3,h4⟩:=h;refine ⟨sp,?_,?_,by simpa using h3,h4⟩
 · have h5:=h1.set (k*7+6) (.slice A L[k].x.aC.length c)
   have e:(cZ L++sp).set (k*7+6) (.slice A L[k].x.aC.length c)=cZ (L.set k ⟨L[k].x,A,c⟩)++sp:=by
    rw [zu L k hk,O6 L k hk,List.append_assoc,List.append_assoc, ← DL hk,List.set_append_right _ _ (by omega),Nat.add_sub_cancel_left];rw [List.append_assoc,List.append_assoc]
    rfl
   rw [e] at h5;exact h5
 · rw [← h2,List.length_append,List.length_append,fA,fA,List.length_set]
theorem rX.there {t:TypeId} {W:World} {g cap k:Nat} {L:List Sh} (h:rX t W g cap L) (hk:k<L.length):W.there g (k*7) 7:=fun j hj=>by
 obtain ⟨sp,h1,h2,h3,h4⟩:=h
 have hl:k*7+j<(cZ L++sp).length:=by rw [h2];omega
 rw [h1.cell (List.getElem?_eq_getElem hl)];exact ⟨rfl,h1.frozen _⟩
theorem rX.at_ {t:TypeId} {W:World} {g cap k:Nat} {L:List Sh} (h:rX t W g cap L) (hk:k<L.length):W.cell? ⟨g,k*7+6,none⟩=some (.slice L[k].a L[k].x.aC.length L[k].c)∧W.frozen? ⟨g,k*7+6,none⟩=false:=by
 obtain ⟨sp,h1,h2,h3,h4⟩:=h;refine ⟨h1.cell ?_,h1.frozen _⟩;rw [List.getElem?_append_left (by rw [fA];omega),fU L k hk 6 (by omega)]
 rfl
theorem rX.below {t:TypeId} {W W':World} {g cap:Nat} {L:List Sh} (h:rX t W g cap L) (hb:Below W.heap.size W W'):rX t W' g cap L:=by
 obtain ⟨sp,h1,h2⟩:=h;exact ⟨sp,h1.below hb,h2⟩
theorem rX.lt {t:TypeId} {W:World} {g cap:Nat} {L:List Sh} (h:rX t W g cap L):g<W.heap.size:=by
 obtain ⟨sp,h1,h2⟩:=h;exact h1.lt
theorem BL (S:Nat→Prop) (A:Option Addr) (c:Nat) (zs:List M.kL) (w:World) (h:fP w S A c zs) (hn:zs.length*16≤140737488355328):
 Calls Tryz.prog 33 #[.slice A zs.length c] w fun e w'=>∃ A' c',e= .returned (.slice A' zs.length c')∧fP w' (fun b=>w.heap.size≤b) A' c' zs∧Below w.heap.size w w':=by
 obtain ⟨i0,hi,hz0,hz1,hz2⟩:=info_parts Qb;obtain ⟨b1,b2,b3⟩:=Reads.bd h
 rcases Nat.eq_zero_or_pos zs.length with h0 | h0
 · obtain rfl:=List.eq_nil_of_length_eq_zero h0
   cases A with
   | none=>
     go_enter Tryz.func33,Tryz.ntmps33
     go_wp2;go_ret;exact ⟨none,0,rfl,Reads.none_ _ _ _,Below.refl _ _⟩
   | some a=>
     have hf:=run_firstCells_some (P:=Tryz.prog) w 2 0 a 0 c [] (by simp) (by intro j v h;simp at h)
     go_enter Tryz.func33,Tryz.ntmps33
     go_wp2;go_ret;exact ⟨none,0,rfl,Reads.none_ _ _ _,Below.refl _ _⟩
 · obtain ⟨b,o,rfl,_,hbl,hc⟩:=Reads.at_ h h0
   have hnews:∀ j u,(bZ zs)[j]? =some u→w.cell? ((⟨b,o,none⟩:Addr).add j)=some u:=by
    intro j u hu;rw [oC];exact hc j u hu
   have HC:=hide hc;have hln:=(kR zs);clear hc
   go_enter Tryz.func33,Tryz.ntmps33
   go_wp2_with (at_builtin;refine wpList_append_lies _ rfl _ _ _ rfl w.heap.size 71 i0 (.agg #[.int .i64 0,.int .i64 0]) 2 16 Tryz.underlying25 hi hz0 hz1 hz2 rfl (by omega) (.slice none 0 0) 0 [] rfl (World.ownsRow_nil _ _ _ _) ⟨b,o,none⟩ zs.length c (bZ zs) rfl hln hnews ?c1 h0 ?c2 ?c3 (Nat.le_refl _) w.heap.size rfl ?_)
   case c1=>exact UH zs
   case c2=>simp only [maxLen];omega
   case c3=>omega
   intro g1 cap w1 hown1 hgrow _ _;have hb1:Below w.heap.size w w1:=eX (World.ownsRow_nil _ w.heap.size 71 2) hgrow (Nat.le_refl _) (Nat.le_refl _);have HO:=hide hown1;clear hown1 hgrow;go_wp2;go_ret;have hown2:=HO.out;exact ⟨_,_,by simp,Reads.je hown2 (fun b h=>h) (by omega),hb1⟩
theorem Ar (S:Nat→Prop) (A:Option Addr) (c:Nat) (l:List Sh) (w:World) (h:jQ w S A c l) (hl:l.length≤1000):
 Calls Tryz.prog 32 #[.slice A l.length c] w fun e w'=>∃ A' c',e= .returned (.slice A' l.length c')∧(0<l.length→∃ g,A'=some ⟨g,0,none⟩∧w.heap.size≤g∧rX 27 w' g c' l)∧Below w.heap.size w w':=by
 obtain ⟨i0,hi,hz0,hz1,hz2⟩:=info_parts MW;obtain ⟨b1,b2,b3⟩:=Reads.bd h.1
 rcases Nat.eq_zero_or_pos l.length with h0 | h0
 · obtain rfl:=List.eq_nil_of_length_eq_zero h0
   cases A with
   | none=>
     go_enter Tryz.func32,Tryz.ntmps32
     go_wp2;go_ret;exact ⟨none,0,rfl,fun h=>absurd h (Nat.lt_irrefl _),Below.refl _ _⟩
   | some a=>
     have hf:=run_firstCells_some (P:=Tryz.prog) w 7 0 a 0 c [] (by simp) (by intro j v h;simp at h)
     go_enter Tryz.func32,Tryz.ntmps32
     go_wp2;go_ret;exact ⟨none,0,rfl,fun h=>absurd h (Nat.lt_irrefl _),Below.refl _ _⟩
 · obtain ⟨b,o,rfl,_,hbl,hc⟩:=Reads.at_ h.1 h0
   have hnews:∀ j u,(cZ l)[j]? =some u→w.cell? ((⟨b,o,none⟩:Addr).add j)=some u:=by
    intro j u hu;rw [oC];exact hc j u hu
   have HC:=hide hc;have hln:=(fA l);clear hc
   go_enter Tryz.func32,Tryz.ntmps32
   go_wp2_with (at_builtin;refine wpList_append_lies _ rfl _ _ _ rfl w.heap.size 27 i0 (.agg #[.int .i64 0,.string ⟨#[]⟩,.int .i64 0,.int .i64 0,.int .i64 0,.bool false,.slice none 0 0]) 7 80 Tryz.underlying24 hi hz0 hz1 hz2 rfl (by omega) (.slice none 0 0) 0 [] rfl (World.ownsRow_nil _ _ _ _) ⟨b,o,none⟩ l.length c (cZ l) rfl hln hnews ?c1 h0 ?c2 ?c3 (Nat.le_refl _) w.heap.size rfl ?_)
   case c1=>exact YO l
   case c2=>simp only [maxLen];omega
   case c3=>omega
   intro g1 cap w1 hown1 hgrow _ _;have hb1:Below w.heap.size w w1:=eX (World.ownsRow_nil _ w.heap.size 27 7) hgrow (Nat.le_refl _) (Nat.le_refl _);have HO:=hide hown1;clear hown1 hgrow;go_wp2;go_ret;have hown2:=HO.out;exact ⟨_,_,by simp,fun _=>YP hown2,hb1⟩
def Xz (l:List M.aV) (n:Int) (x:M.aV):Int:=if n<1∨(l.length:Int)<n then 10 else M.bT x
theorem EY (l:List Sh) (k:Nat) (x:M.aV) (A:Option Addr) (c:Nat):plain (l.set k ⟨x,A,c⟩)=(plain l).set k x:=by
 unfold plain;rw [List.map_set]
theorem Un:(Tryz.prog.info? 27).map (·.size)=some 7:=by kernel_rfl
def Yx (l:List M.aV) (n:Int) (x:M.aV):Int:=aS [M.dO l,wh (decide (n<1) || decide ((l.length:Int)<n)) 10,M.bT x]
def pcM (l:List M.aV) (n:Int) (x:M.aV):List M.aV:=if Yx l n x=0 then l.set (n - 1).toNat x else []
theorem Qz (l:List M.aV) (n:Int) (x:M.aV):Yx l n x=if M.dO l=0 then Xz l n x else M.dO l:=by
 unfold Yx Xz aS aS aS aS wh
 by_cases h1:M.dO l=0
 · by_cases h2:n<1∨(l.length:Int)<n
   · have:(decide (n<1) || decide ((l.length:Int)<n))=true:=by simpa using h2
     simp [h1,h2,this]
   · have:(decide (n<1) || decide ((l.length:Int)<n))=false:=by simpa using h2
     simp [h1,h2,this]
     exact Eq.symm
 · simp [h1]
structure PcI (g cap k:Nat) (l0:List M.aV) (w0 W:World):Prop where
 r:∃ L:List Sh,plain L=l0∧rX 27 W g cap L∧∀ e∈L,fP W (fun b=>b≠g) e.a e.c e.x.aC
 b:Below w0.heap.size w0 W
theorem GN (S S':Nat→Prop) (l:List Sh) (A:Option Addr) (c:Nat) (n:Int) (x:M.aV) (P:Option Addr) (d:Nat) (w:World) (hp:jQ w S A c l) (hx:fP w S' P d x.aC):
 Calls Tryz.prog 10 #[.slice A l.length c,.int .i64 n,iy x P d] w fun e w'=>∃ L A' c',e= .returned (.tuple #[.slice A' (L:List Sh).length c',.int .i64 (Yx (plain l) n x)])∧plain L=pcM (plain l) n x∧jQ w' (fun _=>True) A' c' L∧Below w.heap.size w w':=by
 obtain ⟨E1,hE1⟩:∃ E,M.dO (plain l)=E:=⟨_,rfl⟩;obtain ⟨E3,F6⟩:∃ E,M.bT x=E:=⟨_,rfl⟩;obtain ⟨b1,b2,b3⟩:=hp.bd;obtain ⟨E,hEE⟩:∃ E,Yx (plain l) n x=E:=⟨_,rfl⟩
 have Y8:aS [E1,wh (decide (n<1) || decide ((l.length:Int)<n)) 10,E3]=E:=by rw [← hEE, ← hE1, ← F6];unfold Yx;rw [aW]
 by_cases h1:n<1
 · have t1:decide (n<1)=true:=decide_eq_true h1
   have hE:aS [E1,wh true 10,E3]=E:=by rw [← Y8,t1];rfl
   have h0:E≠0:=by
    rw [← hE]
    unfold aS aS wh
    by_cases h:E1=0 <;> simp [h]
   clear Y8 h1;have hfi:=fun A c w h=>first_any (fun _=>True) A c [E1,wh true 10,E3] w h
   simp only [hE] at hfi
   have Xk:=hide hfi;clear hfi
   go_enter Tryz.func10,Tryz.ntmps10
   go_upto_region 1 with (fail)
   refine rD (p:=fun W=>Code.wp _ _ _ _ W) (fun w0 hw0=>?_)
   have hB:aX w w0 [((aA ⟨x,P,d⟩),27)]:=by rw [hw0];exact (aX.nil w).new (by simp) (aA ⟨x,P,d⟩) 27
   clear hw0;have hrx:∀ W',(fun w':World=>Below w0.heap.size w0 w') W'→W'.rangeAt w.heap.size 0 (aA ⟨x,P,d⟩):=fun W' h=>((hB.ah rfl).below h).range;have hcl:=fun W (h:(fun w':World=>Below w0.heap.size w0 w') W)=>uY S l A c W ((hp.below hB.bw).below h);have hcx:=fun W (h:(fun w':World=>Below w0.heap.size w0 w') W)=>jS S' x P d W (Reads.below (Reads.below hx hB.bw) h)
   simp only [hE1] at hcl
   simp only [F6] at hcx
   have Ls:=hide hcl;have HCX:=hide hcx;clear hcl hcx;clear hE hE1 F6;refine wp_region_held_drew (S:=(fun w':World=>Below w0.heap.size w0 w')) (by kernel_rfl) ?dL (fun hHeld=>?_)
   case dL=>exact (Below.refl _ _).drew
   refine tk 0 ?_;refine tk 2 ?_;refine tk 3 ?_;refine jZ 11 hrx Tryz.underlying27 ?_;refine tr 1 fun K hK=>?_;go_simp
   (go_at_call 29;refine (Ls.out _ hHeld).mono ?_;rintro e w1 ⟨rfl,hb1⟩)
   refine bW hK (hHeld.trans (hb1.mono hHeld.size)) fun hHeld=>?_;clear hK K;refine tk 4 ?_;refine tu 5 ?_;refine tu 6 ?_;refine tu 7 ?_;refine tu 8 ?_;refine tk 9 ?_;refine tr 10 fun K hK=>?_;go_simp
   (go_at_call 30;refine (dF _ _ _).mono ?_;rintro e w9 ⟨rfl,rfl⟩)
   refine bW hK (hHeld) fun hHeld=>?_;clear hK K;refine tr 12 fun K hK=>?_;go_simp
   (go_at_call 31;refine (HCX.out _ hHeld).mono ?_;rintro e w3 ⟨rfl,hb3⟩)
   refine bW hK (hHeld.trans (hb3.mono hHeld.size)) fun hHeld=>?_;clear hK K;refine tr 13 fun K hK=>?_;go_simp;refine bW hK (Below.alloc hHeld hHeld.size _) fun hHeld=>?_;clear hK K;refine tr 14 fun K hK=>?_;go_simp
   (go_at_call 28;refine (Xk.out _ _ _ (bQ.lit _ _ _ (by simp) _ trivial)).mono ?_;rintro e w8 ⟨rfl,rfl⟩)
   refine bW hK (hHeld) fun hHeld=>?_;clear hK K;refine tk 15 ?_;refine wpAnyH_done (by kernel_rfl) ?_ _
   have hz:(E != 0)=true:=by simpa using h0
   have HR:=hide (show Yx (plain l) n x=E∧pcM (plain l) n x=[] from ⟨hEE,if_neg (by rw [hEE];exact h0)⟩);clear h0 hEE;go_wp2;go_ret2;exact ⟨[],none,0,by rw [HR.out.1] <;> rfl,by rw [HR.out.2] <;> rfl,⟨Reads.none_ _ _ _,fun e he=>by cases he⟩,hB.bw.trans (hHeld.mono hB.bw.size)⟩
 have t1:decide (n<1)=false:=decide_eq_false h1;obtain ⟨b,t2⟩:∃ b,decide ((l.length:Int)<n)=b:=⟨_,rfl⟩
 have hE:aS [E1,wh b 10,E3]=E:=by rw [← Y8,t1,t2];rfl
 clear Y8 h1;have hfi:=fun A c w h=>first_any (fun _=>True) A c [E1,wh b 10,E3] w h
 simp only [hE] at hfi
 have Xk:=hide hfi;clear hfi
 go_enter Tryz.func10,Tryz.ntmps10
 go_upto_region 1 with (fail)
 refine rD (p:=fun W=>Code.wp _ _ _ _ W) (fun w0 hw0=>?_)
 have hB:aX w w0 [((aA ⟨x,P,d⟩),27)]:=by rw [hw0];exact (aX.nil w).new (by simp) (aA ⟨x,P,d⟩) 27
 clear hw0;have hrx:∀ W',(fun w':World=>Below w0.heap.size w0 w') W'→W'.rangeAt w.heap.size 0 (aA ⟨x,P,d⟩):=fun W' h=>((hB.ah rfl).below h).range;have hcl:=fun W (h:(fun w':World=>Below w0.heap.size w0 w') W)=>uY S l A c W ((hp.below hB.bw).below h);have hcx:=fun W (h:(fun w':World=>Below w0.heap.size w0 w') W)=>jS S' x P d W (Reads.below (Reads.below hx hB.bw) h)
 simp only [hE1] at hcl
 simp only [F6] at hcx
 have Ls:=hide hcl;have HCX:=hide hcx;clear hcl hcx;have HE1:=hide hE1;have HE3:=hide F6;clear hE1 F6 hE;refine wp_region_held_drew (S:=(fun w':World=>Below w0.heap.size w0 w')) (by kernel_rfl) ?dY (fun hHeld=>?_)
 case dY=>exact (Below.refl _ _).drew
 refine tk 0 ?_;refine tk 2 ?_;refine tk 3 ?_;refine jZ 11 hrx Tryz.underlying27 ?_;refine tr 1 fun K hK=>?_;go_simp
 (go_at_call 29;refine (Ls.out _ hHeld).mono ?_;rintro e w1 ⟨rfl,hb1⟩)
 refine bW hK (hHeld.trans (hb1.mono hHeld.size)) fun hHeld=>?_;clear hK K;refine tk 4 ?_;refine tk 5 ?_;refine tk 6 ?_;refine tk 7 ?_;refine tk 8 ?_;refine tk 9 ?_;refine tr 10 fun K hK=>?_;go_simp
 (go_at_call 30;refine (dF _ _ _).mono ?_;rintro e w9 ⟨rfl,rfl⟩)
 refine bW hK (hHeld) fun hHeld=>?_;clear hK K;refine tr 12 fun K hK=>?_;go_simp
 (go_at_call 31;refine (HCX.out _ hHeld).mono ?_;rintro e w3 ⟨rfl,hb3⟩)
 refine bW hK (hHeld.trans (hb3.mono hHeld.size)) fun hHeld=>?_;clear hK K;refine tr 13 fun K hK=>?_;go_simp;refine bW hK (Below.alloc hHeld hHeld.size _) fun hHeld=>?_;clear hK K;refine tr 14 fun K hK=>?_;go_simp
 (go_at_call 28;refine (Xk.out _ _ _ (bQ.lit _ _ _ (by simp) _ trivial)).mono ?_;rintro e w8 ⟨rfl,rfl⟩)
 refine bW hK (hHeld) fun hHeld=>?_;clear hK K;refine tk 15 ?_;refine wpAnyH_done (by kernel_rfl) ?_ _
 by_cases h0:E=0
 rotate_left
 · clear t1 t2
   have hz:(E != 0)=true:=by simpa using h0
   have HR:=hide (show Yx (plain l) n x=E∧pcM (plain l) n x=[] from ⟨hEE,if_neg (by rw [hEE];exact h0)⟩);clear h0 hEE;go_wp2;go_ret2;exact ⟨[],none,0,by rw [HR.out.1] <;> rfl,by rw [HR.out.2] <;> rfl,⟨Reads.none_ _ _ _,fun e he=>by cases he⟩,hB.bw.trans (hHeld.mono hB.bw.size)⟩
 subst h0;have hs:=Qz (plain l) n x;rw [hEE] at hs
 have hl0:M.dO (plain l)=0:=by
  by_cases h:M.dO (plain l)=0
  · exact h
  · rw [if_neg h] at hs;exact absurd hs.symm h
 rw [if_pos hl0] at hs
 have hn:¬ (n<1∨(l.length:Int)<n):=fun h=>by
  unfold Xz at hs
  rw [aW,if_pos h] at hs;exact absurd hs (by decide)
 have hx0:M.bT x=0:=by unfold Xz at hs;rw [aW,if_neg hn] at hs;exact hs.symm
 obtain ⟨k0,rfl⟩:∃ k:Nat,n=(k:Int)+1:=⟨(n - 1).toNat,by omega⟩
 have hk0:k0<l.length:=by omega
 have hmv:pcM (plain l) ((k0:Int)+1) x=(plain l).set k0 x:=by unfold pcM;rw [if_pos hEE];congr 1;omega
 have hll:=(M.jJ _).1 hl0;rw [aW] at hll
 have hsm:∀ e∈(plain l).set k0 x,e.aC.length*16≤140737488355328:=fun e he=>by
  have:M.bT e=0:=by
   rcases List.mem_or_eq_of_mem_set he with h | rfl
   · exact hll.2 e h
   · exact hx0
  have:=(M.lV this).few
  omega
 have hcs:=fun W h=>Ar S A c l W h hll.1;have HCS:=hide hcs;have HLT:=hide (show 0<l.length by omega);have HR:=hide (And.intro hEE hmv);have RD:=hide hsm;clear hcs hsm hEE hmv hs hl0 hn hx0 hll t1 t2;have hbw:=hB.bw.trans (hHeld.mono hB.bw.size)
 have i1:(0:Int)≤(k0:Int):=by omega
 have i2:(k0:Int)<(l.length:Int):=by omega
 go_upto_region 6 with (first | (go_at_call 32;refine (HCS.out _ (hp.below hbw)).mono ?_;rintro e w4 ⟨A4,c4,rfl,hrow,hb4⟩;obtain ⟨g,rfl,hg,hrow⟩:=hrow HLT.out;have hx4:=(hB.ah rfl).below (hHeld.trans (hb4.mono hHeld.size));dsimp only) | (refine aB 27 (.tmp 5) rfl ?_;refine ak (hx4) Tryz.underlying27 rfl Un rfl (.tmp 5) rfl rfl ?_) | (refine aO 27 (.tmp 35) (.tmp 34) rfl ?_;refine vO (g:=g) (o:=k0*7) (vs:=(aA ⟨x,P,d⟩)) (hrow.there hk0) Un (uf _ _ _) rfl (.tmp 35) (.tmp 34) rfl rfl rfl ?_))
 refine rD (p:=fun W=>Code.wp _ _ _ _ W) (fun w5 hw5=>?_);have hgw:w.heap.size≤g:=Nat.le_trans hbw.size hg
 have hb5:Below w.heap.size w w5:=by rw [hw5];exact below_setCells _ hgw _ _ _ _ (hbw.trans (hb4.mono hbw.size))
 have hI:PcI g c4 0 ((plain l).set k0 x) w w5:=⟨⟨l.set k0 ⟨x,P,d⟩,EY _ _ _ _ _,by rw [hw5];exact hrow.put hk0 ⟨x,P,d⟩,fun e he=>by
  rcases List.mem_or_eq_of_mem_set he with h | rfl
  · exact Reads.more (Reads.below (Reads.more (hp.2 e h) (S':=fun b=>b<w.heap.size) (fun b hb _=>hb)) hb5) (fun b _ hb=>by omega)
  · exact Reads.more (Reads.below (Reads.more hx (S':=fun b=>b<w.heap.size) (fun b hb _=>hb)) hb5) (fun b _ hb=>by omega)⟩,hb5⟩
 clear hw5 hx4 hrow hb4 hHeld hbw hrx hB hg hb5;go_wp2
 go_loopw [38] (fun i wr=>∃ k:Nat,k≤l.length∧i= .int .i64 k∧PcI g c4 k ((plain l).set k0 x) w wr) (fun i _=>l.length - (intOf i).toNat)
 case atStart=>exact ⟨0,Nat.zero_le _,rfl,hI⟩
 case round=>
  obtain ⟨k,hk,rfl,hJ⟩:=hrel;clear hI;obtain ⟨⟨L,hL,OG,sD⟩,hbk⟩:=hJ
  have hlen:L.length=l.length:=by have:=congrArg List.length hL;rw [List.length_set,aW,aW] at this;exact this
  by_cases hlt:k<l.length
  · have TW:k<L.length:=by omega
    have hc6:=(OG.at_ TW).1;have hpk:=sD _ (List.getElem_mem TW);have hgl:=OG.lt;have hpl:=RD.out L[k].x (by rw [← hL];exact List.mem_map_of_mem (List.getElem_mem TW))
    have hLs:(plain L).set k L[k].x=plain L:=by
     have h2:k<(plain L).length:=by rw [aW];exact TW
     have h3:L[k].x=(plain L)[k]:=by simp [plain]
     rw [h3,List.set_getElem_self]
    have uD:=hide hpl;have HPO:=hide sD
    have j1:(0:Int)≤(k:Int):=by omega
    have j2:(k:Int)<(l.length:Int):=by omega
    have HLN:=hide hlen;clear hpl sD hlen
    go_wp2_with (first | (go_at_call 33;refine (BL _ _ _ _ _ hpk uD.out).mono ?_;rintro e w7 ⟨A7,c7,rfl,hr7,hb7⟩;have Ua:=OG.below hb7;have hc7:=(Ua.at_ TW).1;have hf7:=(Ua.at_ TW).2;dsimp only))
    have hbf:Below w.heap.size w (w7.setCell ⟨g,k*7+6,none⟩ (.slice A7 L[k].x.aC.length c7)):=(hbk.trans (hb7.mono hbk.size)).setCell (p:=⟨g,k*7+6,none⟩) hgw _
    go_roundw
    case rel=>
     refine ⟨k+1,by omega,by go_num,⟨⟨L.set k ⟨L[k].x,A7,c7⟩,by rw [EY,hLs,hL],Ua.aC TW A7 c7,fun e he=>?_⟩,hbf⟩⟩
     rcases List.mem_or_eq_of_mem_set he with h | rfl
     · exact Reads.setCell (Reads.below (HPO.out e h) hb7) (fun h=>h rfl) _
     · exact Reads.setCell (Reads.more hr7 (fun b _ h=>by omega)) (fun h=>h rfl) _
    case measure=>simp [intOf];omega
  · have i9:¬ ((k:Int)<(l.length:Int)):=by omega
    have hfin:=OG.owns hgw;rw [← hlen] at i9 ⊢;have HF:=hide hfin;have HL2:=hide hlen;clear hlt hfin hlen;go_wp2;go_ret2;exact ⟨L,_,_,by rw [HR.out.1] <;> rfl,by rw [HR.out.2];exact hL,⟨Reads.je HF.out (fun _ _=>trivial) (by have:=HL2.out;omega),fun e he=>Reads.more (sD e he) (fun _ _ _=>trivial)⟩,hbk⟩
theorem GV:(Tryz.prog.info? 53).map (fun i=>(i.zero,i.size,i.bytes))=some (some (.agg aZ.toArray),15,112):=by kernel_rfl
def SE (r:M.Rules) (l:List Sh) (L:List Es):Prop:=∀ k (h:k<L.length),L[k].s=jF r l (k+1)
theorem SE.snoc {r:M.Rules} {l:List Sh} {L:List Es} {x:Es} (h:SE r l L) (hx:x.s=jF r l (L.length+1)):SE r l (L++[x]):=by
 intro k hk
 rcases Nat.lt_or_ge k L.length with hlt | hge
 · rw [List.getElem_append_left hlt];exact h k hlt
 · have hk2:k=L.length:=by simp at hk;omega
   subst hk2;rw [List.getElem_append_right (Nat.le_refl _)]
   simp [hx]
structure SG (r:M.Rules) (l:List Sh) (w:World) (B D:Nat) (X Y:Nat→Prop) (xs:List wY) (W:World):Prop where
 bw:Below w.heap.size w W
 sz:D≤W.heap.size
 sep:∀ b,X b∨Y b→D≤b
 a:∃ (L:List Es) (A:Option Addr) (c:Nat),Held W B [.slice A L.length c] 96∧jh W D X Y 53 15 (.slice A L.length c) L.length (L.flatMap Xf)∧L.length=xs.length∧SE r l L∧∀ y∈L,KI W X (fun b=>D≤b∧(Value.slice A L.length c).ownBlock≠some b) y.a y.c y.s.au
section
variable {r:M.Rules} {l:List Sh} {w:World} {B D:Nat}
theorem SG.abides (hw:w.heap.size<B) (h9:B<D):kZ (SG r l w B D):=by
 intro X Y pre W X' Y' W' h ht hX hY
 have hno:∀ b,b<D→¬ X b:=fun b hb hx=>by have:=h.sep b (.inl hx);omega
 obtain ⟨L,A,c,hv,ho,hl,hg,hk⟩:=h.a;refine ⟨gB h.bw ht (fun b hb=>by have:=h.sep b (.inl hb);omega) (by have:=h.sz;omega),Nat.le_trans h.sz ht.size,?_,⟨L,A,c,hv.turn ht (hno _ h9),ho.turn ht hX hY,hl,hg,fun y hy=>(hk y hy).turn ht hX⟩⟩
 rintro b (hb | hb)
 · rcases hX b hb with h2 | h2
   · exact h.sep b (.inl h2)
   · exact Nat.le_trans h.sz h2
 · rcases hY b hb with h2 | h2
   · exact h.sep b (.inr h2)
   · exact Nat.le_trans h.sz h2
theorem SG.putObj {X Y:Nat→Prop} {pre:List wY} {W:World} {lp:Nat} {o:Obj} (h:SG r l w B D X Y pre W) (hD:w.heap.size≤D) (hlp:D≤lp) (hl:W.heap[lp]? =some o) (ho:o.isCells=false) (o':Obj):SG r l w B D X Y pre (W.putObj lp o'):=by
 obtain ⟨L,A,c,hv,hw,h1,hg,hk⟩:=h.a;exact ⟨fJ h.bw (by omega) _,by simpa using h.sz,h.sep,⟨L,A,c,hv.putObj hl ho _,hw.putObj hl ho _,h1,hg,fun y hy=>(hk y hy).putObj hl ho _⟩⟩
theorem OQ {X S0:Nat→Prop} {W w5:World} {A:Option Addr} {c g1 n cap:Nat} {zs:List Int} {v:Value} (h:bQ W S0 A c zs) (hS:∀ b,S0 b→b<W.heap.size→¬ X b∧D≤b∧v.ownBlock≠some b) (hT:Turn (fun b=>b=B∨v.ownBlock=some b) W w5) (hB:B<D) (hat:v.ownBlock=some g1∨W.heap.size≤g1):
 KI w5 X (fun b=>D≤b∧(Value.slice (some ⟨g1,0,none⟩) n cap).ownBlock≠some b) A c zs:=by
 have h1:=bQ.more h (S':=fun b=>b<W.heap.size∧¬ X b∧D≤b∧v.ownBlock≠some b) (fun b hb h=>⟨hb,hS b h hb⟩)
 have h2:bQ w5 _ A c zs:=Reads.keep h1 hT.size (fun b o hs hl=>World.cell?_of_block (hT.block b hl (by
  rintro (e | e)
  · exact absurd hs.2.2.1 (by omega)
  · exact hs.2.2.2 e)))
 refine KI.of h2 (fun b hs _=>⟨hs.2.1,hs.2.2.1,fun e=>?_⟩);have e':(some g1:Option Nat)=some b:=e
 cases e'
 rcases hat with h3 | h3
 · exact hs.2.2.2 h3
 · have:=hs.1;omega
theorem SG.fin {X Y K:Nat→Prop} {Ix:(Nat→Prop)→(Nat→Prop)→List wY→World→Prop} {x:wY} {pre:List wY} {W w5:World} {A A2:Option Addr} {c g1 cap c2:Nat} {L:List Es} {a:Act} (hw:w.heap.size≤B) (hB:B<D) (hWs:D≤W.heap.size) (hbw:Below w.heap.size w W) (hsep:∀ b,X b∨Y b→D≤b)
 (hX:∀ b,X b∨Y b→D≤b∧b<W.heap.size) (hK:∀ b,K b→b<D∧b≠B) (iV:jh W D X Y 53 15 (.slice A L.length c) L.length (L.flatMap Xf)) (hT:Turn (fun b=>b=B∨(Value.slice A L.length c).ownBlock=some b) W w5) (hV:Held w5 B [.slice (some ⟨g1,0,none⟩) (L.length+1) cap] 96)
 (hO:jh w5 D X Y 53 15 (.slice (some ⟨g1,0,none⟩) (L.length+1) cap) (L.length+1) (L.flatMap Xf++Xf ⟨x.t,A2,c2⟩)) (hat:(Value.slice A L.length c).ownBlock=some g1∨W.heap.size≤g1) (hl:L.length=pre.length) (hg:SE r l L) (ht:x.t=jF r l (pre.length+1)) (hx:bQ W Y A2 c2 x.t.au) (hxy:∀ b,Y b→¬ X b)
 (hk:∀ y∈L,KI W X (fun b=>D≤b∧(Value.slice A L.length c).ownBlock≠some b) y.a y.c y.s.au):o8 K D X Y (SG r l w B D) Ix (pre++[x]) W .normal a w5:=by
 obtain ⟨h1,h2⟩:=Fe hWs hX hB hK iV hT
 have e1:(L++[(⟨x.t,A2,c2⟩:Es)]).length=L.length+1:=by simp
 refine ⟨h1,h2,⟨gB hbw hT ?_ (by omega),Nat.le_trans hWs hT.size,hsep,⟨L++[⟨x.t,A2,c2⟩],some ⟨g1,0,none⟩,cap,?_,?_,?_,hg.snoc (by rw [hl];exact ht),fun y hy=>?_⟩⟩⟩
 · rintro b (h | h)
   · omega
   · have:=(dh iV.own h).1;omega
 · rw [e1];exact hV
 · rw [e1,List.flatMap_append]
   have:[(⟨x.t,A2,c2⟩:Es)].flatMap Xf=Xf ⟨x.t,A2,c2⟩:=by simp
   rw [this];exact hO
 · rw [e1,List.length_append,List.length_singleton,hl]
 · rcases List.mem_append.1 hy with hy | hy
   · obtain ⟨Z,hz,hz2⟩:=hk y hy
     exact OQ hz (fun b hb _=>⟨(hz2 b hb).2.1,(hz2 b hb).2.2.1,(hz2 b hb).2.2.2⟩) hT hB hat
   · obtain rfl:=List.mem_singleton.1 hy
     exact OQ hx (fun b hb _=>⟨hxy b hb,(hX b (.inr hb)).1,(fun e=>(iV.far b e).2 hb)⟩) hT hB hat
end
theorem zW (S:Nat→Prop) (r:M.Rules) (l:List Sh) (A:Option Addr) (c:Nat) (w:World) (hp:jQ w S A c l) (hr:M.aQ r=0) (hlg:M.dO (plain l)=0):
 Calls Tryz.prog 35 #[iJ r,.slice A l.length c] w fun e w'=>∃ L A2 c2,e= .returned (.slice A2 (L:List Es).length c2)∧L.length=l.length∧SE r l L∧LJ w' (fun b=>w.heap.size≤b) A2 c2 L∧Below w.heap.size w w':=by
 refine callsIn_wide.1 (callsIn_of_wp_marks (F:=Fence.wide) (n:=5) Tryz.func35 rfl trivial ?_ rfl)
 simp only [Tryz.ntmps35,List.size_toArray,List.length_cons,List.length_nil,Nat.reduceAdd,Nat.reduceSub,Array.replicate_succ,
  Array.replicate_zero,List.push_toArray,List.append_toArray,List.nil_append,List.cons_append]
 refine wpIn_wide.2 ?_
 generalize hQ':bodyPostM Fence.wide 5 Tryz.prog _ _=Q'
 have HR:=hide hr;have hls:=((M.jJ _).1 hlg).1;rw [aW] at hls;have HL:Hid (∀ e∈l,M.bT e.x=0):=hide (fun e he=>((M.jJ _).1 hlg).2 _ (List.mem_map_of_mem he));have Ph:=hide hls;have HQ:=hide hQ';clear hQ' hr hls hlg
 go_upto_region 2 with (fail)
 refine rD (p:=fun W=>Code.wp _ _ _ _ W) (fun wc hwc=>?_)
 have hB:aX w wc [([.string r.game,.int .i64 r.target,.int .i64 r.bD],23),([.slice none 0 0],96)]:=by rw [hwc];exact (((aX.nil w).new (by simp) ([.string r.game,.int .i64 r.target,.int .i64 r.bD]) _).new (by simp) ([.slice none 0 0]) _)
 clear hwc;have k0:=(hB.ah rfl).cell (j:=0) rfl;have EK:=(hB.ah rfl).frozen 0;have k1:=(hB.ah rfl).cell (j:=1) rfl;have Lm:=(hB.ah rfl).frozen 1;have k2:=(hB.ah rfl).cell (j:=2) rfl;have Um:=(hB.ah rfl).frozen 2
 have qB:w.heap.size+2≤wc.heap.size:=by simpa using hB.size (by simp)
 go_wp2_with (go_at_call 38;refine (rC r _ _ _ _).mono ?_;rintro e w3 ⟨rfl,hC⟩)
 rename_i KQ TN;clear k0 EK k1 Lm k2 Um
 have hD3:wc.heap.size+2≤w3.heap.size:=by
  have:=hC.size (by simp)
  simpa using this
 have hb3:Below w.heap.size w w3:=hB.bw.trans (hC.bw.mono (by omega));have MF:Held w3 wc.heap.size [.string r.game,.int .i64 r.target,.int .i64 r.bD] 23:=hC.ah rfl;have MC:Held w3 (wc.heap.size+1) [.slice A l.length c] 24:=hC.get 1 rfl
 have hK3:∀ b,(b=wc.heap.size∨b=wc.heap.size+1∨(S b∧b<w.heap.size))→b<w3.heap.size:=by rintro b (h | h | ⟨_,h⟩) <;> omega
 have ZW:jQ w3 (fun b=>b=wc.heap.size∨b=wc.heap.size+1∨(S b∧b<w.heap.size)) A c l:=(hp.more (S':=(fun b=>b=wc.heap.size∨b=wc.heap.size+1∨(S b∧b<w.heap.size))) (fun b hb h=> .inr (.inr ⟨h,hb⟩))).below hb3;have hA3:Held w3 (w.heap.size+1) [.slice none 0 0] 96:=(hB.get 1 rfl).upto hC.bw (by omega);refine (wpIn_wide (n:=5)).1 ?_
 refine fV (F:=Fence.wide) rfl (by decide) rfl trivial (fun _ _=>rfl) (oP r l A c (fun b=>b=wc.heap.size∨b=wc.heap.size+1∨(S b∧b<w.heap.size)) _ _ 4 w3 (by decide) HR.out HL.out Ph.out hK3 MF (.inl rfl) MC (.inr (.inl rfl)) ZW) hK3 (Below.refl _ _) (fun _=>rfl) (SG r l w (w.heap.size+1) w3.heap.size) (fun _ _ _ _=>False) (SG.abides (by omega) (by omega)) (fun _ _ _ _ _ _ _ h _ _ _=>h)
  (fun X Y pre W lp o o' h hlp hl ho=>h.putObj (by omega) hlp hl ho o') (fun _ _ _ _ _ _ _ h _ _ _=>h) (fun X Y pre x W lp o o' h hlp hl ho=>h.putObj hl ho o') ?h0 (fun x a W=>∃ Be v0 v1 v2 v3 v4 v6 v8 v9 v10 v11 v12 v13 v14 v15 v16 v17 v18 v19,a= {tmps:= #[v0,v1,v2,v3,v4,ptr (w.heap.size+1),v6,ptr Be,v8,v9,v10,v11,v12,v13,v14,v15,v16,v17,v18,v19],defers:=[] }∧w3.heap.size≤Be∧Held W Be (bY r x) 106) ?assign ?ap ?body ?done ?stop
 case h0=>
  intro W hW;exact ⟨(hb3.trans (hW.mono (by omega))),hW.size,fun b h=>h.elim (fun h=>h.elim) (fun h=>h.elim),⟨[],none,0,hA3.below hW,⟨World.ownsRow_nil _ _ _ _,fun g hg=>by cases hg⟩,rfl,fun k h=>absurd h (Nat.not_lt_zero _),fun y hy=>by cases hy⟩⟩
 case ap=>
  rintro x a' W lp o o' ⟨Be,v0,v1,v2,v3,v4,v6,v8,v9,v10,v11,v12,v13,v14,v15,v16,v17,v18,v19,e2,h1,h2⟩ hlp hl ho
  exact ⟨Be,v0,v1,v2,v3,v4,v6,v8,v9,v10,v11,v12,v13,v14,v15,v16,v17,v18,v19,e2,h1,h2.putObj hl ho _⟩
 case stop=>exact fun _ _ _ _ _ _ _ h _=>h.elim
 case assign=>
  intro lp X Y pre x W K' hi ht hk uy;have hb:=((Below.refl W.heap.size W).alloc (Nat.le_refl _) (.cells gW.toArray 106));have hb':=below_setCells W.heap.size (Nat.le_refl _) (bY r x) 0 _ _ hb;have hE0:=Held.new W gW 106;have hsz:=hi.sz
  have fin:∀ v0 v1 v2 v3 v4 v6 v8 v9 v10 v11 v12 v13 v14 v15 v16 v17 v18 v19:Value,K' {tmps:= #[v0,v1,v2,v3,v4,ptr (w.heap.size+1),v6,ptr W.heap.size,v8,v9,v10,v11,v12,v13,v14,v15,v16,v17,v18,v19],defers:=[] } ((W.alloc (.cells gW.toArray 106)).setCells W.heap.size 0 (bY r x)):=fun _ _ _ _ _ _ _ _ _ _ _ _ _ _ _ _ _ _=>
   hk _ _ ⟨hb'.size,fun k o hk hl _=>(hb'.block k (Array.getElem?_eq_some_iff.1 hl).1).trans hl⟩
    ⟨hb'.size,fun b h=>hb'.block b (uy b h),fun b h=>hb'.block b (Nat.lt_of_lt_of_le (hK3 b h) hsz)⟩
    (SG.abides (by omega) (by omega) _ _ _ _ _ _ _ hi (Turn.of_below hb') (fun b h=> .inl h) (fun b h=> .inl h))
    ⟨ht.i,ht.lt,ht.e,ht.s,ht.t,ht.rule,ht.a.below hb',ht.b.below hb',ht.xy⟩
    ⟨W.heap.size,_,_,_,_,_,_,_,_,_,_,_,_,_,_,_,_,_,_,rfl,hsz,hE0.whole _ rfl⟩
  have FIN:=hide fin;clear hk fin hb hb' hi ht uy hsz
  simp [yS]
  refine bH (by kernel_rfl) (by rintro ⟨_,_,h⟩;exact h) ?_
  go_wp2_with (refine aO 106 (.tmp 7) (.tmp 12) rfl ?_;refine aF hE0 (bY r x) rfl lF (qZ _ _) rfl (.tmp 7) (.tmp 12) rfl rfl rfl ?_)
  exact FIN.out _ _ _ _ _ _ _ _ _ _ _ _ _ _ _ _ _ _
 case body=>
  rintro lp X Y pre x a' W hi ht ⟨Be,v0,v1,v2,v3,v4,v6,v8,v9,v10,v11,v12,v13,v14,v15,v16,v17,v18,v19,rfl,ZU,hE⟩ hlt uy hWs
  obtain ⟨L,AL,cL,hV,iV,XT,hLg,hLk⟩:=hi.a
  have hle:l[pre.length]=x.e:=by have:=ht.e;rw [List.getElem?_eq_getElem hlt] at this;exact Option.some.inj this
  have hst:x.t=jF r l (pre.length+1):=by rw [qm r l _ hlt,ht.t,ht.s,hle]
  have hLn:L.length≤1000:=by have:=Ph.out;omega
  have h28:W.rangeAt Be 28 [.int .i64 x.t.turn,.bool x.t.brk,.bool x.t.hand,.bool x.t.push,.bool x.t.pushed,.int .i64 x.t.group,.slice x.A' x.t.au.length x.c',.int .i64 x.t.s0,.int .i64 x.t.s1,.int .i64 x.t.f0,.int .i64 x.t.f1,.int .i64 x.t.run,.int .i64 x.t.bI,.bool x.t.over,.int .i64 x.t.bP]:=fun j v hj=>by
   have h1:=hE.cell (Bd r x.i x.e x.s x.t x.A x.A' x.c x.c' x.rule (3+j) v (vF r x.t x.A' x.c' j v hj));rw [show 28+j=25+(3+j) by omega];exact h1
  have hsz:=hi.sz;have hbw:=hi.bw;have hsep:=hi.sep;have c9:=hV.cell (j:=0) rfl;have f9:=hV.frozen 0;obtain ⟨i0,hi0,hz0,hz1,hz2⟩:=info_parts GV;have HF:=hide (fun (w5:World) (g1 cap:Nat) h1 h2 h3 h4=>SG.fin (Ix:=fun _ _ _ _=>False) (a:={tmps:= #[],defers:=[] }) (K:=fun b=>b=wc.heap.size∨b=wc.heap.size+1∨(S b∧b<w.heap.size)) (x:=x) (pre:=pre) (w5:=w5) (g1:=g1) (cap:=cap) (w:=w) (B:=w.heap.size+1) (by omega) (by omega) hWs hbw hsep uy (by rintro b (h | h | ⟨_,h⟩) <;> constructor <;> omega) iV h1 h2 h3 h4 XT hLg hst ht.b ht.xy hLk);have HV:=hide hV;have HX:=hide uy;have hown:=iV.own;have Pj:=hide iV;clear hLg hLk XT hst hle hi ht uy hsep iV hV;apply wpIn_block;refine bH (by kernel_rfl) (by rintro ⟨_,_,h⟩;exact h) ?_
  go_wp2_with (first | (refine aB 53 (.tmp 15) rfl ?_;refine dH (g:=Be) (o:=28) h28 Tryz.underlying53 rfl bg rfl (.tmp 15) rfl rfl ?_) | (at_builtin;refine wpList_append_lies _ rfl _ _ _ rfl (w3.heap.size) 53 i0 (.agg aZ.toArray) 15 112 Tryz.underlying96 hi0 hz0 hz1 hz2 rfl (by omega) _ _ _ rfl (hown.alloc _) ⟨W.heap.size,0,none⟩ 1 1 [.int .i64 x.t.turn,.bool x.t.brk,.bool x.t.hand,.bool x.t.push,.bool x.t.pushed,.int .i64 x.t.group,.slice x.A' x.t.au.length x.c',.int .i64 x.t.s0,.int .i64 x.t.s1,.int .i64 x.t.f0,.int .i64 x.t.f1,.int .i64 x.t.run,.int .i64 x.t.bI,.bool x.t.over,.int .i64 x.t.bP] rfl rfl (dJ _ _ _ _ rfl) ?c1 (by omega) ?c2 ?c3 ?c4 (W.heap.size+1) (by simp) ?_))
  case c1=>exact fG x.t x.A' x.c'
  case c2=>simp only [maxLen];omega
  case c3=>omega
  case c4=>simp;omega
  intro g1 cap w4 hown4 hgrow hat hlt4;obtain ⟨uw,hT6,hV6,CG⟩:=BA HV.out (by omega) Pj.out (fun b h=>(HX.out b h).2) hWs hgrow hown4 hat rfl;have c4:=uw.cell (j:=0) rfl;have f4:=uw.frozen 0;have FIN:=hide (HF.out _ _ _ hT6 hV6 CG (hat.imp id (fun h=>by omega)));clear hT6 hV6 CG hgrow hown4 c9 f9 uw hat;go_wp2;exact FIN.out
 case done=>
  intro D X Y xs W hD hS hi hdef;obtain ⟨L,AL,cL,hV,iV,XT,hLg,hLk⟩:=hi.a;have hbw:=hi.bw;have hWs:=hi.sz;have c9:=hV.cell (j:=0) rfl;have yN:=hide hdef
  have hLn:L.length≤1000:=by have:=Ph.out;omega
  have fin:∀ (a:Act),a.defers=[{target:= .collected D,args:= #[] }]→a.tmps.getD 4 undef= .slice AL L.length cL→Q' .ret a W:=by
   intro a e1 e4;rw [← HQ.out];refine jA e1 yN.out (results_tmp rfl _ _ _) ⟨L,AL,cL,by rw [e4],by omega,hLg,⟨?_,fun y hy=>?_⟩,fJ hbw (by omega) _⟩
   · exact Reads.je (iV.putObj yN.out rfl _).own (fun g hg=>by omega) (by omega)
   · exact ((hLk y hy).putObj yN.out rfl _).out.more (fun b _ h=>by omega)
  have FIN:=hide fin;clear fin hi hdef iV hV hLk hLg XT hS;refine TN _ _ ?_
  dsimp only
  refine kY ?_;go_wp2;exact FIN.out _ rfl rfl
theorem LQ (a0 a1 a2 a3 a4 b0 b1 b2 b3 b4:Bool) (w:World):(Op.equalIn 10000 166 (.agg #[.bool a0,.bool a1,.bool a2,.bool a3,.bool a4]) (.agg #[.bool b0,.bool b1,.bool b2,.bool b3,.bool b4])).run Tryz.prog w= .ok ((a0 == b0) && ((a1 == b1) && ((a2 == b2) && ((a3 == b3) && (a4 == b4))))) w:=by
 obtain ⟨i,hi⟩:∃ i,Tryz.prog.info? 4=some i:=⟨_,rfl⟩
 have hu:Tryz.prog.underlying 166=some (.array 5 4):=by kernel_rfl
 have hui:Tryz.prog.underlying 4=some .bool:=by kernel_rfl
 have hc:Tryz.prog.cellsOf 4=1:=by kernel_rfl
 have h5:List.range 5=[0,1,2,3,4]:=rfl
 have p0:∀ (v0 v1 v2 v3 v4:Value) (w:World),(part 4 #[v0,v1,v2,v3,v4] (0*1)).run Tryz.prog w= .ok v0 w:=fun _ _ _ _ _ w=>by kernel_rfl
 have p1:∀ (v0 v1 v2 v3 v4:Value) (w:World),(part 4 #[v0,v1,v2,v3,v4] (1*1)).run Tryz.prog w= .ok v1 w:=fun _ _ _ _ _ w=>by kernel_rfl
 have p2:∀ (v0 v1 v2 v3 v4:Value) (w:World),(part 4 #[v0,v1,v2,v3,v4] (2*1)).run Tryz.prog w= .ok v2 w:=fun _ _ _ _ _ w=>by kernel_rfl
 have p3:∀ (v0 v1 v2 v3 v4:Value) (w:World),(part 4 #[v0,v1,v2,v3,v4] (3*1)).run Tryz.prog w= .ok v3 w:=fun _ _ _ _ _ w=>by kernel_rfl
 have p4:∀ (v0 v1 v2 v3 v4:Value) (w:World),(part 4 #[v0,v1,v2,v3,v4] (4*1)).run Tryz.prog w= .ok v4 w:=fun _ _ _ _ _ w=>by kernel_rfl
 have q:∀ (a b:Bool) (w:World),(Op.equalIn 9999 4 (.bool a) (.bool b)).run Tryz.prog w= .ok (a == b) w:=fun a b w=>run_equalIn_bool' w 9998 _ _ _ hui;rw [show (10000:Nat)=9999+1 from rfl,run_equalIn_array w 9999 _ _ hu hi,h5,hc]
 unfold Op.eqItems Op.eqItems Op.eqItems Op.eqItems Op.eqItems Op.eqItems
 simp only [Sem.run_bind,p0,p1,p2,p3,p4,q,Result.andThen_ok]
 cases h0:(a0 == b0) <;> cases h1:(a1 == b1) <;> cases h2:(a2 == b2) <;> cases h3:(a3 == b3) <;> cases h4:(a4 == b4) <;> simp [q,p1,p2,p3,p4,h1,h2,h3,h4]
theorem P8 (a0 a1 a2 a3 a4 b0 b1 b2 b3 b4:Int) (w:World):(Op.equalIn 10000 168 (.agg #[.int .i64 a0,.int .i64 a1,.int .i64 a2,.int .i64 a3,.int .i64 a4]) (.agg #[.int .i64 b0,.int .i64 b1,.int .i64 b2,.int .i64 b3,.int .i64 b4])).run Tryz.prog w= .ok ((a0 == b0) && ((a1 == b1) && ((a2 == b2) && ((a3 == b3) && (a4 == b4))))) w:=by
 obtain ⟨i,hi⟩:∃ i,Tryz.prog.info? 3=some i:=⟨_,rfl⟩
 have hu:Tryz.prog.underlying 168=some (.array 5 3):=by kernel_rfl
 have hui:Tryz.prog.underlying 3=some (.int .i64):=by kernel_rfl
 have hc:Tryz.prog.cellsOf 3=1:=by kernel_rfl
 have h5:List.range 5=[0,1,2,3,4]:=rfl
 have p0:∀ (v0 v1 v2 v3 v4:Value) (w:World),(part 3 #[v0,v1,v2,v3,v4] (0*1)).run Tryz.prog w= .ok v0 w:=fun _ _ _ _ _ w=>by kernel_rfl
 have p1:∀ (v0 v1 v2 v3 v4:Value) (w:World),(part 3 #[v0,v1,v2,v3,v4] (1*1)).run Tryz.prog w= .ok v1 w:=fun _ _ _ _ _ w=>by kernel_rfl
 have p2:∀ (v0 v1 v2 v3 v4:Value) (w:World),(part 3 #[v0,v1,v2,v3,v4] (2*1)).run Tryz.prog w= .ok v2 w:=fun _ _ _ _ _ w=>by kernel_rfl
 have p3:∀ (v0 v1 v2 v3 v4:Value) (w:World),(part 3 #[v0,v1,v2,v3,v4] (3*1)).run Tryz.prog w= .ok v3 w:=fun _ _ _ _ _ w=>by kernel_rfl
 have p4:∀ (v0 v1 v2 v3 v4:Value) (w:World),(part 3 #[v0,v1,v2,v3,v4] (4*1)).run Tryz.prog w= .ok v4 w:=fun _ _ _ _ _ w=>by kernel_rfl
 have q:∀ (a b:Int) (w:World),(Op.equalIn 9999 3 (.int .i64 a) (.int .i64 b)).run Tryz.prog w= .ok (a == b) w:=fun a b w=>run_equalIn_int w 9998 _ _ _ a b hui;rw [show (10000:Nat)=9999+1 from rfl,run_equalIn_array w 9999 _ _ hu hi,h5,hc]
 unfold Op.eqItems Op.eqItems Op.eqItems Op.eqItems Op.eqItems Op.eqItems
 simp only [Sem.run_bind,p0,p1,p2,p3,p4,q,Result.andThen_ok]
 cases h0:(a0 == b0) <;> cases h1:(a1 == b1) <;> cases h2:(a2 == b2) <;> cases h3:(a3 == b3) <;> cases h4:(a4 == b4) <;> simp [q,p1,p2,p3,p4,h1,h2,h3,h4]
theorem Mc:Tryz.prog.eqGuardType Tryz.prog.depth 166=false:=by kernel_rfl
theorem Md:Tryz.prog.eqGuardType Tryz.prog.depth 168=false:=by kernel_rfl
theorem Ov:(Tryz.prog.info? 166).map (·.size)=some 5:=by kernel_rfl
theorem OH:(Tryz.prog.info? 168).map (·.size)=some 5:=by kernel_rfl
def wG (x:M.State):List Value:=[.bool x.brk,.bool x.hand,.bool x.push,.bool x.pushed,.bool x.over]
def Dc (x:M.State):List Value:=[.int .i64 x.turn,.int .i64 x.group,.int .i64 x.run,.int .i64 x.bI,.int .i64 x.bP]
theorem iP (x:M.State) (A:Option Addr) (c:Nat) (w:World):Calls Tryz.prog 70 #[oK x A c] w fun e w'=>e= .returned (.agg (wG x).toArray)∧Below w.heap.size w w':=by
 go_enter Tryz.func70,Tryz.ntmps70
 have hB:=((aX.nil w).new (by simp) (aJ x A c) 53).new (by simp) [.bool false,.bool false,.bool false,.bool false,.bool false] 166;have hS:=hB.ah rfl;have k0:=hS.cell (j:=0) rfl;have k1:=hS.cell (j:=1) rfl;have k2:=hS.cell (j:=2) rfl;have k3:=hS.cell (j:=3) rfl;have k4:=hS.cell (j:=4) rfl;have k5:=hS.cell (j:=5) rfl;have k6:=hS.cell (j:=6) rfl;have k7:=hS.cell (j:=7) rfl;have k8:=hS.cell (j:=8) rfl;have k9:=hS.cell (j:=9) rfl;have k10:=hS.cell (j:=10) rfl;have k11:=hS.cell (j:=11) rfl;have k12:=hS.cell (j:=12) rfl;have k13:=hS.cell (j:=13) rfl;have k14:=hS.cell (j:=14) rfl
 go_wp2_with (refine aO 166 (.tmp 2) (.tmp 13) rfl ?_;refine aF (hB.get 1 rfl) (wG x) rfl Ov (by simp [wG,Value.oneCell']) rfl (.tmp 2) (.tmp 13) rfl rfl rfl ?_)
 exact bodyPost_ret (bf (p:=2) ((hB.put 1 rfl (wG x) rfl).get 1 rfl) Tryz.underlying166 rfl Ov rfl _ rfl) rfl ⟨rfl,(hB.put 1 rfl (wG x) rfl).bw⟩
theorem jE (x:M.State) (A:Option Addr) (c:Nat) (w:World):Calls Tryz.prog 71 #[oK x A c] w fun e w'=>e= .returned (.agg (Dc x).toArray)∧Below w.heap.size w w':=by
 go_enter Tryz.func71,Tryz.ntmps71
 have hB:=((aX.nil w).new (by simp) (aJ x A c) 53).new (by simp) [.int .i64 0,.int .i64 0,.int .i64 0,.int .i64 0,.int .i64 0] 168;have hS:=hB.ah rfl;have k0:=hS.cell (j:=0) rfl;have k1:=hS.cell (j:=1) rfl;have k2:=hS.cell (j:=2) rfl;have k3:=hS.cell (j:=3) rfl;have k4:=hS.cell (j:=4) rfl;have k5:=hS.cell (j:=5) rfl;have k6:=hS.cell (j:=6) rfl;have k7:=hS.cell (j:=7) rfl;have k8:=hS.cell (j:=8) rfl;have k9:=hS.cell (j:=9) rfl;have k10:=hS.cell (j:=10) rfl;have k11:=hS.cell (j:=11) rfl;have k12:=hS.cell (j:=12) rfl;have k13:=hS.cell (j:=13) rfl;have k14:=hS.cell (j:=14) rfl
 go_wp2_with (refine aO 168 (.tmp 2) (.tmp 13) rfl ?_;refine aF (hB.get 1 rfl) (Dc x) rfl OH (by simp [Dc,Value.oneCell']) rfl (.tmp 2) (.tmp 13) rfl rfl rfl ?_)
 exact bodyPost_ret (bf (p:=2) ((hB.put 1 rfl (Dc x) rfl).get 1 rfl) Tryz.underlying168 rfl OH rfl _ rfl) rfl ⟨rfl,(hB.put 1 rfl (Dc x) rfl).bw⟩
def BZ (x y:M.State):Bool:=(x.brk == y.brk) && ((x.hand == y.hand) && ((x.push == y.push) && ((x.pushed == y.pushed) && ((x.over == y.over)))))
def Jk (x y:M.State):Bool:=(x.turn == y.turn) && ((x.group == y.group) && ((x.run == y.run) && ((x.bI == y.bI) && ((x.bP == y.bP)))))
theorem y9 (S S':Nat→Prop) (x y:M.State) (A B:Option Addr) (c d:Nat) (w:World) (hp:bQ w S A c x.au) (hq:bQ w S' B d y.au):
 Calls Tryz.prog 37 #[oK x A c,oK y B d] w fun e w'=>e= .returned (.bool (x.eq y))∧Below w.heap.size w w':=by
 obtain ⟨b1,b2,b3⟩:=hp.bd;obtain ⟨c1,c2,c3⟩:=hq.bd
 have heq:∀ W,Below w.heap.size w W→Calls Tryz.prog 69 #[.slice A x.au.length c,.slice B y.au.length d] W fun e w'=>e= .returned (.bool (decide (x.au=y.au)))∧∃ n,w'=W.drewN n:=
  fun W hW=>BR (fun _=>True) A B c d x.au y.au W (Reads.more (Reads.below hp hW) (fun _ _ _=>trivial)) (Reads.more (Reads.below hq hW) (fun _ _ _=>trivial))
 obtain ⟨R,hR⟩:∃ R,x.eq y=R:=⟨_,rfl⟩;rw [hR];have HR:=hide hR;clear hR;have zK:=sU
 go_enter Tryz.func37,Tryz.ntmps37
 have hB:=((aX.nil w).new (by simp) (aJ x A c) 53).new (by simp) (aJ y B d) 53;have hX:=hB.ah rfl;have hY:=hB.get 1 rfl;have k6:=hX.cell (j:=6) rfl;have k7:=hX.cell (j:=7) rfl;have k8:=hX.cell (j:=8) rfl;have k9:=hX.cell (j:=9) rfl;have k10:=hX.cell (j:=10) rfl;have m6:=hY.cell (j:=6) rfl;have m7:=hY.cell (j:=7) rfl;have m8:=hY.cell (j:=8) rfl;have m9:=hY.cell (j:=9) rfl;have m10:=hY.cell (j:=10) rfl
 by_cases h1:x.au=y.au
 rotate_left
 · rw [decide_eq_false h1] at heq
   have HEQ:=hide heq;obtain rfl:R=false:=HR.out.symm.trans (fC (fun e=>h1 (by rw [e])));clear heq h1
   go_wp2_with (first | (go_at_call 69;refine (HEQ.out _ hB.bw).mono ?_;rintro e w9 ⟨rfl,n,rfl⟩))
   all_goals go_ret
   all_goals exact ⟨rfl,below_drewN hB.bw _⟩
 rw [decide_eq_true h1] at heq;have HEQ:=hide heq;clear heq
 by_cases h2:x.s0=y.s0∧x.s1=y.s1
 rotate_left
 · have hsc:∀ w,(Op.equalIn 10000 51 (.agg #[.int .i64 x.s0,.int .i64 x.s1]) (.agg #[.int .i64 y.s0,.int .i64 y.s1])).run Tryz.prog w= .ok false w:=fun w=>by
    rw [oZ]
    have:((x.s0 == y.s0) && (x.s1 == y.s1))=false:=by rw [Bool.eq_false_iff];intro hb;simp at hb;exact h2 hb
    rw [this]
   obtain rfl:R=false:=HR.out.symm.trans (fC (fun e=>h2 (by rw [e];exact ⟨rfl,rfl⟩)));clear h1 h2
   go_wp2_with (first | (go_at_call 69;refine (HEQ.out _ hB.bw).mono ?_;rintro e w9 ⟨rfl,n,rfl⟩))
   all_goals go_ret
   all_goals exact ⟨rfl,below_drewN hB.bw _⟩
 have hsc:∀ w,(Op.equalIn 10000 51 (.agg #[.int .i64 x.s0,.int .i64 x.s1]) (.agg #[.int .i64 y.s0,.int .i64 y.s1])).run Tryz.prog w= .ok true w:=fun w=>by rw [oZ,h2.1,h2.2];simp
 by_cases h3:x.f0=y.f0∧x.f1=y.f1
 rotate_left
 · have hsf:∀ w,(Op.equalIn 10000 51 (.agg #[.int .i64 x.f0,.int .i64 x.f1]) (.agg #[.int .i64 y.f0,.int .i64 y.f1])).run Tryz.prog w= .ok false w:=fun w=>by
    rw [oZ]
    have:((x.f0 == y.f0) && (x.f1 == y.f1))=false:=by rw [Bool.eq_false_iff];intro hb;simp at hb;exact h3 hb
    rw [this]
   obtain rfl:R=false:=HR.out.symm.trans (fC (fun e=>h3 (by rw [e];exact ⟨rfl,rfl⟩)));clear h1 h2 h3
   go_wp2_with (first | (go_at_call 69;refine (HEQ.out _ hB.bw).mono ?_;rintro e w9 ⟨rfl,n,rfl⟩))
   all_goals go_ret
   all_goals exact ⟨rfl,below_drewN hB.bw _⟩
 have hsf:∀ w,(Op.equalIn 10000 51 (.agg #[.int .i64 x.f0,.int .i64 x.f1]) (.agg #[.int .i64 y.f0,.int .i64 y.f1])).run Tryz.prog w= .ok true w:=fun w=>by rw [oZ,h3.1,h3.2];simp
 have hg5:=Mc;have hi5:=Md;have hfl:∀ (w:World),(Op.equalIn 10000 166 (.agg (wG x).toArray) (.agg (wG y).toArray)).run Tryz.prog w= .ok (BZ x y) w:=fun w=>LQ _ _ _ _ _ _ _ _ _ _ w;have hnu:∀ (w:World),(Op.equalIn 10000 168 (.agg (Dc x).toArray) (.agg (Dc y).toArray)).run Tryz.prog w= .ok (Jk x y) w:=fun w=>P8 _ _ _ _ _ _ _ _ _ _ w
 have hall:x.eq y=(BZ x y && Jk x y):=by
  rw [Bool.eq_iff_iff,M.State.eq_iff]
  constructor
  · rintro rfl;simp [BZ,Jk]
  · intro h
    simp only [BZ,Jk,Bool.and_eq_true,beq_iff_eq] at h
    cases x;cases y
    simp only at h h1 h2 h3
    simp_all
 clear h1 h2 h3
 go_upto_region 3 with (first | (go_at_call 69;refine (HEQ.out _ hB.bw).mono ?_;rintro e w9 ⟨rfl,n,rfl⟩))
 refine rD (p:=fun W=>Code.wp _ _ _ _ W) (fun wb hwb=>?_)
 have hBb:aX w wb [(aJ x A c,53),(aJ y B d,53)]:=by rw [hwb];exact hB.drewN _
 have hrx:∀ W',(fun w':World=>Below wb.heap.size wb w') W'→W'.rangeAt w.heap.size 0 (aJ x A c):=fun W' h=>((hBb.ah rfl).below h).range;have hry:∀ W',(fun w':World=>Below wb.heap.size wb w') W'→W'.rangeAt (w.heap.size+1) 0 (aJ y B d):=fun W' h=>((hBb.get 1 rfl).below h).range;clear hwb hB hX hY k6 k7 k8 k9 k10 m6 m7 m8 m9 m10;have AU:True:=trivial;have AV:True:=trivial;obtain ⟨n,hn⟩:∃ n,Jk x y=n:=⟨_,rfl⟩;rw [hn] at hnu hall
 cases hf:BZ x y with
 | false=>
   rw [hf] at hfl hall;obtain rfl:R=false:=HR.out.symm.trans hall;clear hall hf hnu hn;refine wp_region_held_drew (S:=(fun w':World=>Below wb.heap.size wb w')) (by kernel_rfl) ?dL (fun hHeld=>?_)
   case dL=>exact (Below.refl _ _).drew
   refine jZ 0 hrx Tryz.underlying53 ?_;refine jZ 2 hry Tryz.underlying53 ?_;refine tr 1 fun K hK=>?_;go_simp
   (first | (go_at_call 70;(first | (have _t:=AU;clear AU;refine (iP x A c _).mono ?_) | refine (iP y B d _).mono ?_);rintro e w6 ⟨rfl,hb6⟩) | (go_at_call 71;(first | (have _t:=AV;clear AV;refine (jE x A c _).mono ?_) | refine (jE y B d _).mono ?_);rintro e w6 ⟨rfl,hb6⟩))
   refine bW hK (hHeld.trans (hb6.mono hHeld.size)) fun hHeld=>?_;clear hK K;refine tr 3 fun K hK=>?_;go_simp
   (first | (go_at_call 70;(first | (have _t:=AU;clear AU;refine (iP x A c _).mono ?_) | refine (iP y B d _).mono ?_);rintro e w6 ⟨rfl,hb6⟩) | (go_at_call 71;(first | (have _t:=AV;clear AV;refine (jE x A c _).mono ?_) | refine (jE y B d _).mono ?_);rintro e w6 ⟨rfl,hb6⟩))
   refine bW hK (hHeld.trans (hb6.mono hHeld.size)) fun hHeld=>?_;clear hK K;refine tk 4 ?_;refine tk 5 ?_;refine tu 6 ?_;refine tu 7 ?_;refine tu 8 ?_;refine tu 9 ?_;refine tu 10 ?_;refine tk 11 ?_;refine tk 12 ?_;refine wpAnyH_done (by kernel_rfl) ?_ _;go_wp2;go_ret;exact ⟨rfl,hBb.bw.trans (hHeld.mono (hBb.bw.size))⟩
 | true=>
   rw [hf] at hfl hall;obtain rfl:R=n:=HR.out.symm.trans hall;clear hall hf hn;refine wp_region_held_drew (S:=(fun w':World=>Below wb.heap.size wb w')) (by kernel_rfl) ?dY (fun hHeld=>?_)
   case dY=>exact (Below.refl _ _).drew
   refine jZ 0 hrx Tryz.underlying53 ?_;refine jZ 2 hry Tryz.underlying53 ?_;refine tr 1 fun K hK=>?_;go_simp
   (first | (go_at_call 70;(first | (have _t:=AU;clear AU;refine (iP x A c _).mono ?_) | refine (iP y B d _).mono ?_);rintro e w6 ⟨rfl,hb6⟩) | (go_at_call 71;(first | (have _t:=AV;clear AV;refine (jE x A c _).mono ?_) | refine (jE y B d _).mono ?_);rintro e w6 ⟨rfl,hb6⟩))
   refine bW hK (hHeld.trans (hb6.mono hHeld.size)) fun hHeld=>?_;clear hK K;refine tr 3 fun K hK=>?_;go_simp
   (first | (go_at_call 70;(first | (have _t:=AU;clear AU;refine (iP x A c _).mono ?_) | refine (iP y B d _).mono ?_);rintro e w6 ⟨rfl,hb6⟩) | (go_at_call 71;(first | (have _t:=AV;clear AV;refine (jE x A c _).mono ?_) | refine (jE y B d _).mono ?_);rintro e w6 ⟨rfl,hb6⟩))
   refine bW hK (hHeld.trans (hb6.mono hHeld.size)) fun hHeld=>?_;clear hK K;refine tk 4 ?_;refine tk 5 ?_;refine jZ 6 hrx Tryz.underlying53 ?_;refine jZ 8 hry Tryz.underlying53 ?_;refine tr 7 fun K hK=>?_;go_simp
   (first | (go_at_call 70;(first | (have _t:=AU;clear AU;refine (iP x A c _).mono ?_) | refine (iP y B d _).mono ?_);rintro e w6 ⟨rfl,hb6⟩) | (go_at_call 71;(first | (have _t:=AV;clear AV;refine (jE x A c _).mono ?_) | refine (jE y B d _).mono ?_);rintro e w6 ⟨rfl,hb6⟩))
   refine bW hK (hHeld.trans (hb6.mono hHeld.size)) fun hHeld=>?_;clear hK K;refine tr 9 fun K hK=>?_;go_simp
   (first | (go_at_call 70;(first | (have _t:=AU;clear AU;refine (iP x A c _).mono ?_) | refine (iP y B d _).mono ?_);rintro e w6 ⟨rfl,hb6⟩) | (go_at_call 71;(first | (have _t:=AV;clear AV;refine (jE x A c _).mono ?_) | refine (jE y B d _).mono ?_);rintro e w6 ⟨rfl,hb6⟩))
   refine bW hK (hHeld.trans (hb6.mono hHeld.size)) fun hHeld=>?_;clear hK K;refine tk 10 ?_;refine tk 11 ?_;refine tk 12 ?_;refine wpAnyH_done (by kernel_rfl) ?_ _;go_wp2;go_ret;exact ⟨rfl,hBb.bw.trans (hHeld.mono (hBb.bw.size))⟩
end Go.Proofs.YtcjglfbpjkdgiaaGreatDoor
