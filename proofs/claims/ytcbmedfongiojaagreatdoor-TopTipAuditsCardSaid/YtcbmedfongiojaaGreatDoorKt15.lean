/- Parts of a proof. -/
import Derived.Laws.ResultCell
import Derived.Test.YtcbmedfongiojaaGreatDoorKt10
set_option maxHeartbeats 4000000
set_option maxRecDepth 100000
set_option linter.unusedVariables false
set_option linter.unusedSimpArgs false
namespace Go.Proofs.YtcbmedfongiojaaGreatDoor
open Go.RowKit
theorem aG {op:Oper} {a:Act} {W:World} {Q:Exit→Act→World→Prop} {g:Nat} {cs:List Value} {t:TypeId} {K:Act→World→Prop} (h:Held W g cs t) (vs:List Value) (hl:vs.length=cs.length) (hi:(Tryz.prog.info? t).map (·.size)=some cs.length) (h1:∀ v∈vs,v.oneCell'=true) (x y:Operand) (ho:op.op= .store t x y)
 (hx:a.eval x= .pointer (some ⟨g,0,none⟩)) (hy:a.eval y= .agg vs.toArray)
 (k:K (a.put op.dst undef) (W.setCells g 0 vs)):op.wp Tryz.prog a W K Q:=
 wp_store_mid t x y ho g 0 vs.toArray hx hy (by rw [jd rfl hl];exact h.there) (by rw [jd rfl hl];exact hi) (all_oneCell_toArray h1) (by rw [List.toList_toArray];exact k)
theorem kV {g:Nat}:∀ (vs:List Value) (o p q:Nat) {W:World},p≠g→(W.setCells g o vs).cell? ⟨p,q,none⟩=W.cell? ⟨p,q,none⟩
 | [],_,_,_,_,_=>rfl
 | v::r,o,p,q,W,h=>(kV r (o+1) p q h).trans (World.cell?_setCell_other W ⟨g,o,none⟩ ⟨p,q,none⟩ v (fun e=>h (congrArg Addr.block e).symm))
theorem jW {W:World} {g:Nat} {cs:List Value} {t:TypeId} {d:TypeDesc} {fn:Func} {p u:Tmp} (h:Held W g cs t) (hu:Tryz.prog.underlying t=some d) (hd:d.isRow=true) (hi:(Tryz.prog.info? t).map (·.size)=some cs.length) (hr:fn.results= #[.cell p t,.tmp u]) (tmps:Array Value) (hp:tmps.getD p undef= .pointer (some ⟨g,0,none⟩)):
 (results fn tmps).run Tryz.prog W= .ok (.tuple #[.agg cs.toArray,tmps.getD u undef]) W:=by
 rw [results_cell_tmp hr,hp]
 simp only [asAddr,Sem.run_pure,Result.andThen_ok,run_loadVar_row W g t t cs.toArray (0,0) d h hu (by cases d <;> first | rfl | cases hd) (by rw [jd rfl rfl];exact hi)]
@[reducible] def rF (g:Sk.Game):Value:= .agg #[.string g.kind,.int .i64 g.aW,.int .i64 g.target,.int .i64 g.turns]
@[reducible] def lJ (s:Sk.State):Value:= .agg #[.int .i64 s.turn,.int .i64 s.s0,.int .i64 s.s1,.int .i64 s.brk,.string s.phase,.int .i64 s.aW,.int .i64 s.colour,.bool s.free,.bool s.aO,.int .i64 s.aJ,.int .i64 s.t0,.int .i64 s.t1,.int .i64 s.ay]
@[reducible] def Vy (v:Sk.fF):Value:= .agg #[.int .i64 v.points,.int .i64 v.iC,.int .i64 v.penalty,.bool v.stays]
def dN (g:Sk.Game):List Value:=[.string g.kind,.int .i64 g.aW,.int .i64 g.target,.int .i64 g.turns]
def aQ (s:Sk.State):List Value:=[.int .i64 s.turn,.int .i64 s.s0,.int .i64 s.s1,.int .i64 s.brk,.string s.phase,.int .i64 s.aW,.int .i64 s.colour,.bool s.free,.bool s.aO,.int .i64 s.aJ,.int .i64 s.t0,.int .i64 s.t1,.int .i64 s.ay]
theorem bI (s:Sk.State):∀ v∈aQ s,v.oneCell'=true:=by simp [aQ,Value.oneCell']
def kF (w:World) (S:Nat→Prop) (A:Option Addr) (c:Nat) (l:List ByteArray):Prop:=Reads w S 1 A l.length c (l.map Value.string)
section
variable {w w':World} {S S':Nat→Prop} {A:Option Addr} {c:Nat} {l:List ByteArray}
theorem kF.at_ (h:kF w S A c l) (k:Nat) (hk:k<l.length):∃ b o,A=some ⟨b,o,none⟩∧S b∧b<w.heap.size∧∀ j (_:j<l.length),w.cell? ⟨b,o+j,none⟩=some (.string l[j]):=by
 obtain ⟨b,o,e,h1,h2,h3⟩:=Reads.at_ h (by omega);refine ⟨b,o,e,h1,h2,fun j hj=>h3 j _ ?_⟩;rw [List.getElem?_map,List.getElem?_eq_getElem hj]
 rfl
theorem kF.bd (h:kF w S A c l):l.length≤c∧c≤9223372036854775807∧l.length≤17592186044416:=Reads.bd h
theorem kF.below (h:kF w S A c l) (hb:Below w.heap.size w w'):kF w' S A c l:=Reads.below h hb
theorem kF.keep (h:kF w S A c l) (hs:w.heap.size≤w'.heap.size) (hk:∀ b o,S b→b<w.heap.size→w'.cell? ⟨b,o,none⟩=w.cell? ⟨b,o,none⟩):kF w' S A c l:=Reads.keep h hs hk
theorem kF.more (h:kF w S A c l) (hS:∀ b,b<w.heap.size→S b→S' b):kF w S' A c l:=Reads.more h hS
theorem kF.drewN (h:kF w S A c l) (n:Nat):kF (w.drewN n) S A c l:=h
theorem kF.lit (W:World) (t:TypeId) (l:List ByteArray) (hl:l.length≤1000) (S:Nat→Prop) (hS:S W.heap.size):kF (W.alloc (.cells (l.map Value.string).toArray t)) S (some ⟨W.heap.size,0,none⟩) l.length l:=
 ⟨Nat.le_refl _,by omega,by omega,by simp,fun _=>⟨W.heap.size,0,rfl,hS,by simp,fun j u hu=>by
  have:=jU W t (l.map Value.string) W.heap.size rfl j u hu
  rwa [qB] at this⟩⟩
end
structure En where
 x:Sk.Entry
 A:Option Addr
 a:Nat
 B:Option Addr
 b:Nat
@[reducible] def wC (e:En):Value:= .agg #[.string e.x.kind,.string e.x.called,.slice e.A e.x.hits.length e.a,.slice e.B e.x.aV.length e.b,.int .i64 e.x.dM]
def fC (e:En):List Value:=[.string e.x.kind,.string e.x.called,.slice e.A e.x.hits.length e.a,.slice e.B e.x.aV.length e.b,.int .i64 e.x.dM]
structure je (w:World) (S:Nat→Prop) (e:En):Prop where
 hits:kF w S e.A e.a e.x.hits
 aV:kF w S e.B e.b e.x.aV
def tJ (l:List En):List Value:=l.flatMap fC
theorem uq (l:List En):(tJ l).length=l.length*5:=by
 induction l with
 | nil=>rfl
 | cons p l ih=>simp [tJ,fC] at ih ⊢;omega
theorem uo (a b:List En):tJ (a++b)=tJ a++tJ b:=by simp [tJ]
theorem sO (l:List En) (k:Nat) (hk:k<l.length) (j:Nat) (hj:j<5):(tJ l)[k*5+j]? =(fC l[k])[j]? :=by
 have h:tJ l=tJ (l.take k)++(fC l[k]++tJ (l.drop (k+1))):=by
  conv=>lhs;rw [← List.take_append_drop k l,List.drop_eq_getElem_cons hk]
  rw [uo];rfl
 have hl:(tJ (l.take k)).length=k*5:=by rw [uq,List.length_take];omega
 have h7:(fC l[k]).length=5:=rfl;rw [h,List.getElem?_append_right (by omega),hl,List.getElem?_append_left (by omega)]
 congr 1
 omega
theorem Oj (l:List En) (k:Nat):tJ (l.take k)=(tJ l).take (k*5):=by
 rcases Nat.lt_or_ge k l.length with h | h
 · have hl:(tJ (l.take k)).length=k*5:=by rw [uq,List.length_take];omega
   have e:tJ l=tJ (l.take k)++tJ (l.drop k):=by rw [← uo,List.take_append_drop]
   rw [e,List.take_append_of_le_length (by omega)];exact (List.take_of_length_le (by omega)).symm
 · rw [List.take_of_length_le h,List.take_of_length_le (by rw [uq];omega)]
def wF (w:World) (S:Nat→Prop) (A:Option Addr) (c:Nat) (l:List En):Prop:=Reads w S 5 A l.length c (tJ l)∧∀ e∈l,je w S e
section
variable {w w':World} {S S':Nat→Prop} {A:Option Addr} {c:Nat} {l:List En} {e:En}
theorem je.below (h:je w S e) (hb:Below w.heap.size w w'):je w' S e:=⟨h.hits.below hb,h.aV.below hb⟩
theorem je.more (h:je w S e) (hS:∀ b,b<w.heap.size→S b→S' b):je w S' e:=⟨h.hits.more hS,h.aV.more hS⟩
theorem je.keep (h:je w S e) (hs:w.heap.size≤w'.heap.size) (hk:∀ b o,S b→b<w.heap.size→w'.cell? ⟨b,o,none⟩=w.cell? ⟨b,o,none⟩):je w' S e:=⟨h.hits.keep hs hk,h.aV.keep hs hk⟩
theorem je.drewN (h:je w S e) (n:Nat):je (w.drewN n) S e:=⟨h.hits,h.aV⟩
theorem wF.at_ (h:wF w S A c l) (k:Nat) (hk:k<l.length):
 ∃ b o,A=some ⟨b,o,none⟩∧S b∧b<w.heap.size∧∀ j (_:j<l.length),w.cell? ⟨b,o+j*5,none⟩=some (.string l[j].x.kind)∧w.cell? ⟨b,o+j*5+1,none⟩=some (.string l[j].x.called)∧
  w.cell? ⟨b,o+j*5+2,none⟩=some (.slice l[j].A l[j].x.hits.length l[j].a)∧w.cell? ⟨b,o+j*5+3,none⟩=some (.slice l[j].B l[j].x.aV.length l[j].b)∧w.cell? ⟨b,o+j*5+4,none⟩=some (.int .i64 l[j].x.dM):=by
 obtain ⟨b,o,e,h1,h2,h3⟩:=Reads.at_ h.1 (by omega);exact ⟨b,o,e,h1,h2,fun j hj=>⟨h3 _ _ (sO l j hj 0 (by omega)),h3 _ _ (sO l j hj 1 (by omega)),h3 _ _ (sO l j hj 2 (by omega)),h3 _ _ (sO l j hj 3 (by omega)),h3 _ _ (sO l j hj 4 (by omega))⟩⟩
theorem wF.bd (h:wF w S A c l):l.length≤c∧c≤9223372036854775807∧l.length≤17592186044416:=Reads.bd h.1
theorem wF.ent (h:wF w S A c l) (k:Nat) (hk:k<l.length):je w S l[k]:=h.2 _ (List.getElem_mem hk)
theorem wF.keep (h:wF w S A c l) (hs:w.heap.size≤w'.heap.size) (hk:∀ b o,S b→b<w.heap.size→w'.cell? ⟨b,o,none⟩=w.cell? ⟨b,o,none⟩):wF w' S A c l:=
 ⟨Reads.keep h.1 hs hk,fun e he=>(h.2 e he).keep hs hk⟩
theorem wF.below (h:wF w S A c l) (hb:Below w.heap.size w w'):wF w' S A c l:=h.keep hb.size fun _ _ _ hp=>hb.cell (p:=⟨_,_,none⟩) hp
theorem wF.more (h:wF w S A c l) (hS:∀ b,b<w.heap.size→S b→S' b):wF w S' A c l:=⟨Reads.more h.1 hS,fun e he=>(h.2 e he).more hS⟩
theorem wF.take (h:wF w S A c l) (k:Nat) (hk:k≤l.length):wF w S A c (l.take k):=by
 refine ⟨?_,fun e he=>h.2 e (List.mem_of_mem_take he)⟩
 have:=Reads.take (k:=k) h.1 hk
 rw [Oj,List.length_take,Nat.min_eq_left hk];exact this
end
theorem fG:(Tryz.prog.info? 23).map (·.size)=some 4:=by kernel_rfl
theorem ak:(Tryz.prog.info? 26).map (·.size)=some 13:=by kernel_rfl
theorem bY:(Tryz.prog.info? 41).map (·.size)=some 5:=by kernel_rfl
theorem dR:(Tryz.prog.info? 88).map (·.size)=some 4:=by kernel_rfl
theorem rl_info:(Tryz.prog.info? 141).map (·.size)=some 6:=by kernel_rfl
theorem yY:(Tryz.prog.info? 238).map (·.size)=some 8:=by kernel_rfl
theorem jB (b:ByteArray) (l:List UInt8):(b.toList == l)=decide (b=⟨l.toArray⟩):=by
 rw [Bool.eq_iff_iff,beq_iff_eq,decide_eq_true_eq];exact ⟨fun e=>sK (by rw [e,ByteArray.toList_eq]),fun e=>by subst e;rw [ByteArray.toList_eq]⟩
theorem mD {a b:ByteArray} (h:a=b):(a.toList == b.toList)=true:=by subst h;simp
theorem mg {a b:ByteArray} (h:¬ a=b):(a.toList == b.toList)=false:=beq_eq_false_iff_ne.2 (fun e=>h (sK e))
theorem aA {P:Program} {md:Region.Mode} {ops:Array Oper} {Q:Exit→Act→World→Prop} {S:World→Prop} {oi:Oper} {fuel:Nat} {listed l':Array Bool} {a a':Act} {w:World} {v:Value} (i:Nat) (h:wpAnyH P md ops Q S fuel l' a' w) (hi:ops[i]? =some oi:=by exact ga rfl) (h3:(Region.noSelect ops && (Region.free md ops listed i && (Region.ready md ops listed).contains i))=true:=by kernel_rfl) (hw:Region.wanted oi (yielded ops a.tmps)=true:=by rfl)
 (hy:∀ w,S w→(execOp a.eval oi).run P w= .ok (.value v) w:=by (intro w hSw;(try dsimp only at hSw);go_simp;try with_reducible rfl)) (hS:S w:=by assumption) (hQ:∀ c a w,Q (.panic c) (a.put oi.dst v) w→Q (.panic c) a w:=by exact fun _ _ _ h=>h) (hl:listed.setIfInBounds i true=l':=by (try simp only [la,lz,ls]);exact rfl) (ha:a.put oi.dst v=a':=by (try simp only [Act.put,la,lz,ls]);exact rfl):wpAnyH P md ops Q S (fuel+1) listed a w:=by
 subst hl ha;rw [Bool.and_eq_true,Bool.and_eq_true] at h3;exact wpAnyH_take hi h3.1 h3.2.1 h3.2.2 hQ (Or.inl ⟨hw,hy⟩) hS h
theorem iE {P:Program} {md:Region.Mode} {ops:Array Oper} {Q:Exit→Act→World→Prop} {S:World→Prop} {oi:Oper} {fuel:Nat} {listed l':Array Bool} {a a':Act} {w:World} (i:Nat) (h:wpAnyH P md ops Q S fuel l' a' w) (hi:ops[i]? =some oi:=by exact ga rfl) (h3:(Region.noSelect ops && (Region.free md ops listed i && (Region.ready md ops listed).contains i))=true:=by kernel_rfl) (hw:Region.wanted oi (yielded ops a.tmps)=false:=by rfl)
 (hS:S w:=by assumption) (hQ:∀ c a w,Q (.panic c) (a.put oi.dst undef) w→Q (.panic c) a w:=by exact fun _ _ _ h=>h) (hl:listed.setIfInBounds i true=l':=by (try simp only [la,lz,ls]);exact rfl) (ha:a.put oi.dst undef=a':=by (try simp only [Act.put,la,lz,ls]);exact rfl):wpAnyH P md ops Q S (fuel+1) listed a w:=by
 subst hl ha;rw [Bool.and_eq_true,Bool.and_eq_true] at h3;exact wpAnyH_take hi h3.1 h3.2.1 h3.2.2 hQ (Or.inr ⟨hw,rfl⟩) hS h
theorem aB {P:Program} {md:Region.Mode} {ops:Array Oper} {Q:Exit→Act→World→Prop} {S:World→Prop} {oi:Oper} {fuel:Nat} {listed l1:Array Bool} {a:Act} {w:World} (i:Nat) (h1:∀ K:Act→World→Prop,Shut (∀ a w,S w→(S w→wpAnyH P md ops Q S fuel l1 a w)→K a w)→if Region.wanted oi (yielded ops a.tmps)=true then Oper.wp P oi a w K Q else K (a.put oi.dst undef) w)
 (hi:ops[i]? =some oi:=by exact ga rfl) (hr:Region.ready md ops listed=[i]:=by kernel_rfl) (hl1:listed.setIfInBounds i true=l1:=by (try simp only [la,lz,ls]);exact rfl):wpAnyH P md ops Q S (fuel+1) listed a w:=by
 subst hl1;exact wpAnyH_ready hr (by simp) (AllReadyH.cons hi h1 AllReadyH.nil)
def jA (b:Bool) (e:Int):Int:=if b then e else 0
def fst:List Int→Int
 | []=>0
 | e::l=>if e≠0 then e else fst l
theorem Ot {l:List Int} {k:Nat} (hk:k<l.length):fst (l.drop k)=if l[k]≠0 then l[k] else fst (l.drop (k+1)):=by
 rw [List.drop_eq_getElem_cons hk,fst]
theorem kX.row (W:World) (t:TypeId) (zs:List Int) (hz:zs.length≤1000) (S:Nat→Prop) (hS:S W.heap.size):kX (W.alloc (.cells (zs.map (Value.int .i64)).toArray t)) S (some ⟨W.heap.size,0,none⟩) zs.length zs:=
 ⟨Nat.le_refl _,by omega,by omega,by simp,fun _=>⟨W.heap.size,0,rfl,hS,by simp,fun j u hu=>by
  have:=jU W t (zs.map (Value.int .i64)) W.heap.size rfl j u hu
  rwa [qB] at this⟩⟩
theorem dJ (b:Bool) (e:Int) (w:World):Calls Tryz.prog 25 #[.bool b,.int .i64 e] w fun r w'=>r= .returned (.int .i64 (jA b e))∧w=w':=by
 cases b
 all_goals
  go_enter Tryz.func25,Tryz.ntmps25
  go_wp2;go_ret;exact ⟨bG (by simp [jA]),rfl⟩
theorem jG (n a b:Int) (w:World):Calls Tryz.prog 30 #[.int .i64 n,.int .i64 a,.int .i64 b] w fun e w'=>e= .returned (.bool (Sk.out n a b))∧w=w':=by
 go_enter Tryz.func30,Tryz.ntmps30
 go_wp2
 all_goals
  go_ret;exact ⟨aI (by simp [Sk.out, *]),rfl⟩
theorem iO (S:Nat→Prop) (A:Option Addr) (c:Nat) (zs:List Int) (w:World) (h:kX w S A c zs):
 Calls Tryz.prog 23 #[.slice A zs.length c] w fun r w'=>r= .returned (.int .i64 (fst zs))∧w=w':=by
 obtain ⟨b1,b2,b3⟩:=h.bd
 go_enter Tryz.func23,Tryz.ntmps23
 go_wp2
 go_loop [7] (fun i=>∃ k:Nat,k≤zs.length∧i= .int .i64 k∧fst zs=fst (zs.drop k)) (fun i=>zs.length - (intOf i).toNat)
 case atStart=>exact ⟨0,Nat.zero_le _,rfl,by simp⟩
 case round=>
  obtain ⟨k,hk,rfl,hx⟩:=hrel
  by_cases hlt:k<zs.length
  · obtain ⟨b,o,rfl,_,_,hc⟩:=h.at_ k hlt
    have hck:=hc k hlt;rw [Ot hlt] at hx;clear hc
    by_cases he:zs[k]=0
    · have he':(zs[k] != 0)=false:=by simp [he]
      rw [if_neg (by simp [he])] at hx;have HX:=hide hx;clear hx he;go_wp2
      go_round
      case rel=>exact ⟨k+1,by omega,by go_num,HX.out⟩
      case measure=>simp [intOf];omega
    · have he':(zs[k] != 0)=true:=by simp [he]
      rw [if_pos he] at hx;have HX:=hide hx;clear hx he;go_wp2;go_ret;exact ⟨bG HX.out.symm,rfl⟩
  · have hz:fst zs=0:=by rw [hx,List.drop_of_length_le (by omega),fst]
    have HX:=hide hz;clear hx hz;go_wp2;go_ret;exact ⟨bG HX.out.symm,rfl⟩
theorem Tt {l:List ByteArray} {x:ByteArray} {k:Nat} (hk:k<l.length) (n:Int):Sk.at_ x (l.drop k) n=if l[k]=x then n else Sk.at_ x (l.drop (k+1)) (n+1):=by
 rw [List.drop_eq_getElem_cons hk,Sk.at_]
theorem NP (x:ByteArray):∀ (l:List ByteArray) (n:Int),0≤n→decide (0≤Sk.at_ x l n)=Sk.has l x
 | [],n,_=>by simp [Sk.at_,Sk.has]
 | y::l,n,hn=>by
   rw [Sk.at_]
   by_cases h:y=x
   · simp [Sk.has,h,hn]
   · rw [if_neg h,NP x l (n+1) (by omega)];simp [Sk.has,h]
theorem Aq (S:Nat→Prop) (A:Option Addr) (c:Nat) (l:List ByteArray) (x:ByteArray) (w:World) (h:kF w S A c l):
 Calls Tryz.prog 122 #[.slice A l.length c,.string x] w fun e w'=>e= .returned (.int .i64 (Sk.at_ x l 0))∧w=w':=by
 obtain ⟨b1,b2,b3⟩:=h.bd
 go_enter Tryz.func122,Tryz.ntmps122
 go_wp2
 go_loop [8] (fun i=>∃ k:Nat,k≤l.length∧i= .int .i64 k∧Aside (Sk.at_ x l 0=Sk.at_ x (l.drop k) k)) (fun i=>l.length - (intOf i).toNat)
 case atStart=>exact ⟨0,Nat.zero_le _,rfl,by simp [Aside]⟩
 case round=>
  obtain ⟨k,hk,rfl,hall⟩:=hrel
  by_cases hlt:k<l.length
  · obtain ⟨b,o,rfl,_,hbl,hc⟩:=h.at_ k hlt
    have hck:=hc k hlt;clear hc;have hx:=hall.out;rw [Tt hlt] at hx
    by_cases he:l[k]=x
    · rw [if_pos he] at hx
      have HP:=hide hx;have he':(x.toList == l[k].toList)=true:=mD he.symm;clear he hx hall;go_wp2;go_ret;exact ⟨bG HP.out.symm,rfl⟩
    · rw [if_neg he] at hx
      have HP:=hide hx;have he':(x.toList == l[k].toList)=false:=mg (fun e=>he e.symm);clear he hx hall;go_wp2
      go_round
      case rel=>exact ⟨k+1,by omega,by go_num,HP.out⟩
      case measure=>simp [intOf];omega
  · have HA:=hide (show Sk.at_ x l 0= -1 by rw [hall.out,List.drop_of_length_le (by omega),Sk.at_])
    go_wp2;go_ret;exact ⟨bG HA.out.symm,rfl⟩
theorem gZ (S:Nat→Prop) (A:Option Addr) (c:Nat) (l:List ByteArray) (x:ByteArray) (w:World) (h:kF w S A c l):
 Calls Tryz.prog 59 #[.slice A l.length c,.string x] w fun e w'=>e= .returned (.bool (Sk.has l x))∧w=w':=by
 go_enter Tryz.func59,Tryz.ntmps59
 go_wp2_with (go_at_call 122;refine (Aq S A c l x w h).mono ?_;rintro e w2 ⟨rfl,rfl⟩)
 go_ret;exact ⟨aI (NP x l 0 (Int.le_refl _)),rfl⟩
def Says (g:Nat) (lb:Array Value) (l:List ByteArray) (p:ByteArray→Bool) (w:World):Prop:=
 (∀ args w,(callFunc g args).run Tryz.prog w= .ok (.enter g args) w)∧∀ W x,x∈l→Below w.heap.size w W→Calls Tryz.prog g (#[.string x]++lb) W fun e w'=>e= .returned (.bool (p x))∧Below w.heap.size w w'
theorem MK {l:List ByteArray} {p:ByteArray→Bool} {k:Nat} (hk:k<l.length) (h:(l.take k).any p=false) (hx:p l[k]=false):(l.take (k+1)).any p=false:=by
 rw [List.take_succ_eq_append_getElem hk,List.any_append,h];simp [hx]
theorem RU {l:List ByteArray} {p:ByteArray→Bool} {k:Nat} (hk:k<l.length) (hx:p l[k]=true):l.any p=true:=
 List.any_eq_true.2 ⟨l[k],List.getElem_mem hk,hx⟩
theorem Ap (S:Nat→Prop) (A:Option Addr) (c:Nat) (l:List ByteArray) (g:Nat) (lb:Array Value) (p:ByteArray→Bool) (w:World) (h:kF w S A c l) (hg:Says g lb l p w):
 Calls Tryz.prog 193 #[.slice A l.length c,.func (.func g) #[] lb] w fun e w'=>(∃ i:Int,e= .returned (.int .i64 i)∧decide (0≤i)=l.any p)∧Below w.heap.size w w':=by
 obtain ⟨b1,b2,b3⟩:=h.bd;obtain ⟨eg,hq⟩:=hg
 go_enter Tryz.func193,Tryz.ntmps193
 go_wp2
 go_loopw [8] (fun i wr=>∃ k:Nat,k≤l.length∧i= .int .i64 k∧Aside ((l.take k).any p=false)∧Aside (Below w.heap.size w wr)) (fun i _=>l.length - (intOf i).toNat)
 case atStart=>exact ⟨0,Nat.zero_le _,rfl,by simp [Aside],Below.refl _ _⟩
 case round=>
  obtain ⟨k,hk,rfl,hall,hbw⟩:=hrel
  by_cases hlt:k<l.length
  · obtain ⟨b,o,rfl,_,hbl,hc⟩:=h.at_ k hlt
    have hck:=hc k hlt;have hc1:wr.cell? ⟨b,o+k,none⟩=some (.string l[k]):=(hbw.out.cell (p:=⟨b,o+k,none⟩) hbl).trans hck;have hcall:=hq wr l[k] (List.getElem_mem hlt) hbw.out;clear hc hck hq
    cases hp:p l[k] with
    | true=>
      rw [hp] at hcall;have HP:=hide (RU hlt hp);clear hp
      go_wp2_with (go_at_fn g;refine hcall.mono ?_;rintro e w2 ⟨rfl,hb2⟩)
      go_ret;exact ⟨⟨k,rfl,by rw [HP.out];simp⟩,hb2⟩
    | false=>
      rw [hp] at hcall;have HP:=hide (MK hlt hall.out hp);clear hp
      go_wp2_with (go_at_fn g;refine hcall.mono ?_;rintro e w2 ⟨rfl,hb2⟩)
      go_roundw
      case rel=>exact ⟨k+1,by omega,by go_num,HP.out,hb2⟩
      case measure=>simp [intOf];omega
  · have HA:=hide (show l.any p=false by have:=hall.out;rwa [List.take_of_length_le (by omega)] at this)
    go_wp2;go_ret;exact ⟨⟨-1,rfl,by rw [HA.out];rfl⟩,hbw.out⟩
theorem og (S:Nat→Prop) (A:Option Addr) (c:Nat) (l:List ByteArray) (g:Nat) (lb:Array Value) (p:ByteArray→Bool) (w:World) (h:kF w S A c l) (hg:Says g lb l p w):
 Calls Tryz.prog 134 #[.slice A l.length c,.func (.func g) #[] lb] w fun e w'=>e= .returned (.bool (l.any p))∧Below w.heap.size w w':=by
 go_enter Tryz.func134,Tryz.ntmps134
 go_wp2_with (go_at_call 193;refine (Ap S A c l g lb p w h hg).mono ?_;rintro e w2 ⟨⟨i,rfl,hi⟩,hb2⟩)
 go_ret;exact ⟨rfl,hb2⟩
theorem Ig {l:List ByteArray} {x:ByteArray} {k:Nat} (hk:k<l.length):Sk.count (l.take (k+1)) x=Sk.count (l.take k) x+(if l[k]=x then 1 else 0):=by
 unfold Sk.count
 rw [List.take_succ_eq_append_getElem hk,List.filter_append]
 by_cases h:l[k]=x <;> simp [h]
theorem Cm (l:List ByteArray) (x:ByteArray) (k:Nat):0≤Sk.count (l.take k) x∧Sk.count (l.take k) x≤k:=by
 unfold Sk.count
 have h1:=List.length_filter_le (fun y=>decide (y=x)) (l.take k);rw [List.length_take] at h1
 omega
theorem iM (S:Nat→Prop) (A:Option Addr) (c:Nat) (l:List ByteArray) (x:ByteArray) (w:World) (h:kF w S A c l):
 Calls Tryz.prog 180 #[.slice A l.length c,.string x] w fun e w'=>e= .returned (.int .i64 (Sk.count l x))∧w=w':=by
 obtain ⟨b1,b2,b3⟩:=h.bd
 go_enter Tryz.func180,Tryz.ntmps180
 go_wp2
 go_loop [5,10] (fun n i=>∃ k:Nat,k≤l.length∧i= .int .i64 k∧n= .int .i64 (Sk.count (l.take k) x)) (fun _ i=>l.length - (intOf i).toNat)
 case atStart=>exact ⟨0,Nat.zero_le _,rfl,rfl⟩
 case round=>
  obtain ⟨k,hk,rfl,rfl⟩:=hrel;obtain ⟨t1,t2⟩:=Cm l x k
  by_cases hlt:k<l.length
  · obtain ⟨b,o,rfl,_,hbl,hc⟩:=h.at_ k hlt
    have hck:=hc k hlt;clear hc;have hst:=Ig (x:=x) hlt;obtain ⟨m,hm⟩:∃ m,Sk.count (l.take k) x=m:=⟨_,rfl⟩;rw [hm] at t1 t2 hst ⊢
    by_cases he:l[k]=x
    · rw [if_pos he] at hst
      have HP:=hide hst;have he':(l[k].toList == x.toList)=true:=mD he;clear he hst hm;go_wp2
      go_round
      case rel=>exact ⟨k+1,by omega,by go_num,by rw [HP.out]⟩
      case measure=>simp [intOf];omega
    · rw [if_neg he] at hst
      have HP:=hide hst;have he':(l[k].toList == x.toList)=false:=mg he;clear he hst hm;go_wp2
      go_round
      case rel=>exact ⟨k+1,by omega,by go_num,by rw [HP.out];go_num⟩
      case measure=>simp [intOf];omega
  · have HA:=hide (show Sk.count (l.take k) x=Sk.count l x by rw [List.take_of_length_le (by omega)])
    go_wp2;go_ret;exact ⟨bG HA.out,rfl⟩
def oJ:List Value:=[.string Sk.dB,.string Sk.aX,.string Sk.dH,.string Sk.wH,.string Sk.wG,.string Sk.BZ,.string Sk.iw,.string Sk.bf]
theorem wJ:oJ=Sk.dX.map Value.string:=rfl
def tC:List Value:=[.string ⟨#[]⟩,.string ⟨#[]⟩,.string ⟨#[]⟩,.string ⟨#[]⟩,.string ⟨#[]⟩,.string ⟨#[]⟩,.string ⟨#[]⟩,.string ⟨#[]⟩]
theorem wK:∀ v∈oJ,v.oneCell'=true:=by simp [oJ,Value.oneCell']
theorem pz (w:World):Calls Tryz.prog 181 #[] w fun e w'=>e= .returned (.agg #[.string Sk.dB,.string Sk.aX,.string Sk.dH,.string Sk.wH,.string Sk.wG,.string Sk.BZ,.string Sk.iw,.string Sk.bf])∧Below w.heap.size w w':=by
 go_enter Tryz.func181,Tryz.ntmps181
 go_upto_region 0 with (fail)
 go_cut [0] (fun v0 wx=>v0=ptr w.heap.size∧aC w wx [(tC,238)])
 case first=>
  go_wp2;go_meet;exact ⟨rfl,((aC.nil w).new (by simp) (tC) _)⟩
 case rest=>
  obtain ⟨rfl,hB⟩:=hcut
  go_wp2_with (refine fO 238 (.tmp 0) (.tmp 1) rfl ?_;refine dP (hB.aj rfl) (oJ) rfl yY (wK) rfl (.tmp 0) (.tmp 1) rfl rfl rfl ?_)
  have hZ:=hB.put 0 rfl oJ rfl;exact bodyPost_ret (aP (p:=0) (hZ.aj rfl) Tryz.underlying238 rfl yY rfl _ rfl) rfl ⟨rfl,hZ.bw⟩
theorem kF.held {W:World} {D:Nat} {cs:List Value} {t:TypeId} {S:Nat→Prop} (h:Held W D cs t) (hS:S D) (o n c:Nat) (l:List ByteArray) (hl:l.length=n) (hn:n≤c) (hc:c≤1000) (he:∀ j u,(l.map Value.string)[j]? =some u→cs[o+j]? =some u):kF W S (some ⟨D,o,none⟩) c l:=
 ⟨by omega,by omega,by omega,by simp,fun _=>⟨D,o,rfl,hS,h.lt,fun j u hu=>h.cell (he j u hu)⟩⟩
theorem dS (x:ByteArray) (w:World):Calls Tryz.prog 137 #[.string x] w fun e w'=>e= .returned (.int .i64 (Sk.value x))∧Below w.heap.size w w':=by
 go_enter Tryz.func137,Tryz.ntmps137
 go_upto_region 1 with (fail)
 go_cut [2,3] (fun v2 v wx=>∃ D,v2= .int .i64 0∧v=ptr D∧Held wx D oJ 238∧Below w.heap.size w wx)
 case first=>
  go_wp2_with (first | (go_at_call 181;refine (pz _).mono ?_;rintro e w1 ⟨rfl,hb1⟩;have hZ:=Held.new w1 tC 238) | (refine fO 238 (.tmp 3) (.tmp 4) rfl ?_;refine dP (hZ) (oJ) rfl yY (wK) rfl (.tmp 3) (.tmp 4) rfl rfl rfl ?_))
  go_meet;exact ⟨_,rfl,rfl,hZ.whole oJ rfl,below_setCells _ hb1.size _ _ _ _ (hb1.alloc hb1.size _)⟩
 case rest=>
  obtain ⟨D,rfl,rfl,hb8,hb2⟩:=hcut;have hr:kF wc (fun _=>True) (some ⟨D,0,none⟩) 8 Sk.dX:=kF.held hb8 trivial 0 8 8 Sk.dX rfl (by omega) (by omega) (fun j u hu=>by rw [Nat.zero_add,wJ];exact hu);clear hb8
  go_wp2_with (go_at_call 122;refine (Aq (fun _=>True) _ 8 Sk.dX x _ hr).mono ?_;rintro e w2 ⟨rfl,rfl⟩)
  go_ret;exact ⟨rfl,hb2⟩
@[reducible] def Nv (a n f1 f2 f3 f4 f5:Nat):Value:= .agg #[.slice (some ⟨a,0,none⟩) n n,.func (.func f1) #[] #[],.func (.func f2) #[] #[],.func (.func f3) #[] #[],.func (.func f4) #[] #[],.func (.func f5) #[] #[]]
def gL (N:Nat):List (ByteArray × Value):=
 [(⟨#[115,110,111,111,107,101,114]⟩,Nv (N+1) 3 108 109 110 111 112),
  (⟨#[98,105,108,108,105,97,114,100,115]⟩,Nv (N+2) 1 113 114 115 116 117),
  (⟨#[99,97,114,111,109]⟩,Nv (N+3) 1 118 119 115 120 121)]
def gE (N n:Nat):Array MapEntry:=((List.range n).filterMap fun i=>((gL N)[i]?).map fun p=>{key:= .string p.1,val:=p.2,born:=i }).toArray
theorem TN (N n:Nat) (k:ByteArray) (v:Value) (h:(gL N)[n]? =some (k,v)):(gE N n).push {key:= .string k,val:=v,born:=n }=gE N (n+1):=by
 simp [gE,List.range_succ,h]
def nH:Nat→List ByteArray
 | 0=>[Sk.gu,Sk.bV,Sk.bJ]
 | _=>[Sk.ru]
structure GM (w W:World) (n:Nat):Prop where
 bw:Below w.heap.size w W
 sz:W.heap.size=w.heap.size+1+n
 mp:W.heap[w.heap.size]? =some (.map (gE w.heap.size n) n)
 ph:∀ i,i<n→Held W (w.heap.size+1+i) ((nH i).map Value.string) 9
theorem WR (w:World):GM w (w.alloc (.map (gE w.heap.size 0) 0)) 0:=⟨(Below.refl _ _).alloc (Nat.le_refl _) _,by simp,heap_alloc_new w _,fun i h=>absurd h (by omega)⟩
theorem WS {W:World} {g N n:Nat} {k:ByteArray} {v:Value} (hb:W.heap[g]? =some (.map (gE N n) n)) (hv:(gL N)[n]? =some (k,v)) (hf:Instr.findNow .string (.string k) (gE N n).toList 0=some none):
 (Instr.mapUpdate 142 (.map (some g)) (.string k) v).run Tryz.prog W= .ok () {W with heap:=W.heap.setIfInBounds g (.map (gE N (n+1)) (n+1)) }:=by
 have h2:=Am (P:=Tryz.prog) (.map (gE N (n+1)) (n+1)) hb;have hck:∀ b,(Instr.checkKey b 10000 9 (.string k)).run Tryz.prog W= .ok () W:=fun b=>nT 9 Tryz.underlying9 b 9999 k W;rw [← TN N n k v hv] at h2 ⊢
 simp [Instr.mapUpdate,run_underlying Tryz.underlying142,oU hb,hck,Instr.findKey,run_underlying Tryz.underlying9,hf,h2]
theorem DR {w W:World} {n:Nat} (h:GM w W n) (k:ByteArray) (v:Value) (cs:List Value) (hv:(gL w.heap.size)[n]? =some (k,v)) (hcs:cs=(nH n).map Value.string) (hf:Instr.findNow .string (.string k) (gE w.heap.size n).toList 0=some none):
 ∃ W2,(Instr.mapUpdate 142 (.map (some w.heap.size)) (.string k) v).run Tryz.prog (W.alloc (.cells cs.toArray 9))= .ok () W2∧GM w W2 (n+1):=by
 have hb:(W.alloc (.cells cs.toArray 9)).heap[w.heap.size]? =some (.map (gE w.heap.size n) n):=(heap_alloc_old W _ (by rw [h.sz];omega)).trans h.mp;refine ⟨_,WS hb hv hf,?_⟩
 have hne:∀ i,w.heap.size≠w.heap.size+1+i:=fun i=>by omega
 refine ⟨⟨h.bw.os,h.bw.tape,h.bw.output,?_,fun b hb=>?_⟩,?_,?_,fun i hi=>?_⟩
 · show w.heap.size≤((W.alloc _).heap.setIfInBounds w.heap.size _).size
   rw [Array.size_setIfInBounds,World.size_alloc,h.sz];omega
 · show ((W.alloc _).heap.setIfInBounds w.heap.size _)[b]? =_
   rw [Array.getElem?_setIfInBounds_ne (by omega)];exact (heap_alloc_old W _ (by rw [h.sz];omega)).trans (h.bw.block b hb)
 · show ((W.alloc _).heap.setIfInBounds w.heap.size _).size=_
   rw [Array.size_setIfInBounds,World.size_alloc,h.sz];omega
 · show ((W.alloc _).heap.setIfInBounds w.heap.size _)[w.heap.size]? =_
   rw [Array.getElem?_setIfInBounds_self_of_lt (by rw [World.size_alloc,h.sz];omega)]
 · show ((W.alloc _).heap.setIfInBounds w.heap.size _)[w.heap.size+1+i]? =_
   rw [Array.getElem?_setIfInBounds_ne (hne i)]
   rcases Nat.lt_or_ge i n with h1 | h1
   · exact (heap_alloc_old W _ (by rw [h.sz];omega)).trans (h.ph i h1)
   · obtain rfl:i=n:=by omega
     rw [hcs, ← h.sz];exact heap_alloc_new W _
theorem fV (w:World):Calls Tryz.prog 58 #[] w fun e w'=>e= .returned (.map (some w.heap.size))∧GM w w' 3:=by
 have hmm:(Instr.makeMap 142 none).run Tryz.prog w= .ok (.map (some w.heap.size)) (w.alloc (.map (gE w.heap.size 0) 0)):=rfl;have g0:=WR w;obtain ⟨V0,hV0⟩:∃ V,w.alloc (.map (gE w.heap.size 0) 0)=V:=⟨_,rfl⟩;rw [hV0] at g0 hmm;obtain ⟨V1,e0,g1⟩:=DR g0 ⟨#[115,110,111,111,107,101,114]⟩ (Nv V0.heap.size 3 108 109 110 111 112) [.string ⟨#[114,101,100]⟩,.string ⟨#[99,111,108,111,117,114]⟩,.string ⟨#[102,105,110,97,108]⟩] (by rw [g0.sz];rfl) rfl (by kernel_rfl);obtain ⟨V2,e1,g2⟩:=DR g1 ⟨#[98,105,108,108,105,97,114,100,115]⟩ (Nv V1.heap.size 1 113 114 115 116 117) [.string ⟨#[112,108,97,121]⟩] (by rw [g1.sz];rfl) rfl (by kernel_rfl);obtain ⟨V3,e2,g3⟩:=DR g2 ⟨#[99,97,114,111,109]⟩ (Nv V2.heap.size 1 118 119 115 120 121) [.string ⟨#[112,108,97,121]⟩] (by rw [g2.sz];rfl) rfl (by kernel_rfl);clear g0 g1 g2 hV0
 go_enter Tryz.func58,Tryz.ntmps58
 go_wp2;go_ret;exact ⟨rfl,g3⟩
def gI (k:ByteArray):Nat:=if k=Sk.aK then 0 else if k=Sk.bF then 1 else 2
def jk (k:ByteArray):Nat:=if k=Sk.aK then 108 else if k=Sk.bF then 113 else 118
def gV (k:ByteArray):Nat:=if k=Sk.aK then 109 else if k=Sk.bF then 114 else 119
def gU (k:ByteArray):Nat:=if k=Sk.aK then 110 else if k=Sk.bF then 115 else 115
def gK (k:ByteArray):Nat:=if k=Sk.aK then 111 else if k=Sk.bF then 116 else 120
def gq (k:ByteArray):Nat:=if k=Sk.aK then 112 else if k=Sk.bF then 117 else 121
@[reducible] def zI (N:Nat) (k:ByteArray):Value:=Nv (N+1+gI k) (nH (gI k)).length (jk k) (gV k) (gU k) (gK k) (gq k)
def vT:Value:= .agg #[.slice none 0 0,.nilFunc,.nilFunc,.nilFunc,.nilFunc,.nilFunc]
theorem JY {W:World} {g N:Nat} (hb:W.heap[g]? =some (.map (gE N 3) 3)) (k:ByteArray) (ok:Bool) (r:Option (Nat × Value)) (hf:Instr.findNow .string (.string k) (gE N 3).toList 0=some r):
 (Instr.lookup 142 (.map (some g)) (.string k) ok).run Tryz.prog W= .ok (if ok then .tuple #[(r.map (·.2)).getD vT,.bool r.isSome] else (r.map (·.2)).getD vT) W:=by
 have hz:(zeroValue 141).run Tryz.prog W= .ok vT W:=by kernel_rfl
 have hck:∀ b,(Instr.checkKey b 10000 9 (.string k)).run Tryz.prog W= .ok () W:=fun b=>nT 9 Tryz.underlying9 b 9999 k W
 cases r with
 | none=>cases ok <;> simp [Instr.lookup,run_underlying Tryz.underlying142,oU hb,hck,Instr.findKey,run_underlying Tryz.underlying9,hf,hz] <;> rfl
 | some p=>cases ok <;> simp [Instr.lookup,run_underlying Tryz.underlying142,oU hb,hck,Instr.findKey,run_underlying Tryz.underlying9,hf]
theorem fB {W:World} {g N:Nat} (hb:W.heap[g]? =some (.map (gE N 3) 3)) {k:ByteArray} (hk:Sk.jv k=true) (ok:Bool):
 (Instr.lookup 142 (.map (some g)) (.string k) ok).run Tryz.prog W= .ok (if ok then .tuple #[zI N k,.bool true] else zI N k) W:=by
 have hk:k=Sk.aK∨k=Sk.bF∨k=Sk.fA:=by simpa [Sk.jv] using hk
 rcases hk with rfl | rfl | rfl
 · exact JY hb _ ok (some (0,zI N Sk.aK)) (by kernel_rfl)
 · exact JY hb _ ok (some (1,zI N Sk.bF)) (by kernel_rfl)
 · exact JY hb _ ok (some (2,zI N Sk.fA)) (by kernel_rfl)
theorem kJ {W:World} {g N:Nat} (hb:W.heap[g]? =some (.map (gE N 3) 3)) {k:ByteArray} (hk:Sk.jv k=false) (ok:Bool):
 (Instr.lookup 142 (.map (some g)) (.string k) ok).run Tryz.prog W= .ok (if ok then .tuple #[vT,.bool false] else vT) W:=by
 have hk:¬ k=Sk.aK∧¬ k=Sk.bF∧¬ k=Sk.fA:=by simpa [Sk.jv,not_or] using hk
 obtain ⟨h0,h1,h2⟩:=hk;refine JY hb _ ok none ?_;have he:(gE N 3).toList=(gL N).zipIdx.map fun p=>{key:= .string p.1.1,val:=p.1.2,born:=p.2 }:=rfl;rw [he];have e0:=zu h0;have e1:=zu h1;have e2:=zu h2
 simp only [gL,List.zipIdx,List.map,Instr.findNow,Instr.sameNow,e0,e1,e2]
theorem GM.phases {w W:World} (h:GM w W 3) (k:ByteArray):kF W (fun b=>w.heap.size≤b) (some ⟨w.heap.size+1+gI k,0,none⟩) (nH (gI k)).length (nH (gI k)):=by
 have hi:gI k<3:=by unfold gI;split <;> (try split) <;> omega
 have hh:=h.ph (gI k) hi
 have hl:(nH (gI k)).length≤3:=by unfold nH;split <;> simp
 refine ⟨Nat.le_refl _,by omega,by omega,by simp,fun _=>⟨_,0,rfl,by omega,hh.lt,fun j u hu=>?_⟩⟩;rw [Nat.zero_add];exact hh.cell hu
theorem wt {b:ByteArray} {l:List UInt8} (h:b=⟨l.toArray⟩):(b.toList == l)=true:=by rw [jB];exact decide_eq_true h
theorem wf {b:ByteArray} {l:List UInt8} (h:¬ b=⟨l.toArray⟩):(b.toList == l)=false:=by rw [jB];exact decide_eq_false h
theorem ieq (a b:Int):(a == b)=decide (a=b):=by by_cases h:a=b <;> simp [h]
theorem yU (g:Sk.Game) (w:World):Calls Tryz.prog 108 #[rF g] w fun e w'=>e= .returned (.bool (decide (Sk.out g.aW 1 15=false∧g.target=0∧g.turns=0)))∧Below w.heap.size w w':=by
 go_enter Tryz.func108,Tryz.ntmps108
 go_upto_region 0 with (fail)
 go_cut [1,2] (fun v1 v2 wx=>v1=ptr w.heap.size∧v2= .bool false∧aC w wx [(dN g,23)])
 case first=>
  go_wp2;go_meet;exact ⟨rfl,rfl,((aC.nil w).new (by simp) (dN g) _)⟩
 case rest=>
  obtain ⟨rfl,rfl,hB⟩:=hcut;have hF:=hB.aj rfl;have k1:=hF.cell (j:=1) rfl;have XM:=hF.frozen 1;have k2:=hF.cell (j:=2) rfl;have kf2:=hF.frozen 2;have k3:=hF.cell (j:=3) rfl;have kf3:=hF.frozen 3
  go_wp2_with (first | (go_at_call 30;refine (jG _ _ _ _).mono ?_;rintro e oh ⟨rfl,rfl⟩))
  all_goals
   go_ret;exact ⟨aI (by simp_all [ieq]),hB.bw⟩
theorem uT (g:Sk.Game) (w:World):Calls Tryz.prog 113 #[rF g] w fun e w'=>e= .returned (.bool (decide (g.aW=0∧Sk.out g.target 1 1000=false∧g.turns=0)))∧Below w.heap.size w w':=by
 go_enter Tryz.func113,Tryz.ntmps113
 go_upto_region 0 with (fail)
 go_cut [1,2] (fun v1 v2 wx=>v1=ptr w.heap.size∧v2= .bool false∧aC w wx [(dN g,23)])
 case first=>
  go_wp2;go_meet;exact ⟨rfl,rfl,((aC.nil w).new (by simp) (dN g) _)⟩
 case rest=>
  obtain ⟨rfl,rfl,hB⟩:=hcut;have hF:=hB.aj rfl;have k1:=hF.cell (j:=1) rfl;have XM:=hF.frozen 1;have k2:=hF.cell (j:=2) rfl;have kf2:=hF.frozen 2;have k3:=hF.cell (j:=3) rfl;have kf3:=hF.frozen 3
  go_wp2_with (first | (go_at_call 30;refine (jG _ _ _ _).mono ?_;rintro e oh ⟨rfl,rfl⟩))
  all_goals
   go_ret;exact ⟨aI (by simp_all [ieq]),hB.bw⟩
theorem Bj (g:Sk.Game) (w:World):Calls Tryz.prog 118 #[rF g] w fun e w'=>e= .returned (.bool (decide (g.aW=0∧Sk.out g.target 1 1000=false∧Sk.out g.turns 1 100=false)))∧Below w.heap.size w w':=by
 go_enter Tryz.func118,Tryz.ntmps118
 go_upto_region 0 with (fail)
 go_cut [1,2] (fun v1 v2 wx=>v1=ptr w.heap.size∧v2= .bool false∧aC w wx [(dN g,23)])
 case first=>
  go_wp2;go_meet;exact ⟨rfl,rfl,((aC.nil w).new (by simp) (dN g) _)⟩
 case rest=>
  obtain ⟨rfl,rfl,hB⟩:=hcut;have hF:=hB.aj rfl;have k1:=hF.cell (j:=1) rfl;have XM:=hF.frozen 1;have k2:=hF.cell (j:=2) rfl;have kf2:=hF.frozen 2;have k3:=hF.cell (j:=3) rfl;have kf3:=hF.frozen 3
  go_wp2_with (first | (go_at_call 30;refine (jG _ _ _ _).mono ?_;rintro e oh ⟨rfl,rfl⟩))
  all_goals
   go_ret;exact ⟨aI (by simp_all [ieq]),hB.bw⟩
theorem sV (s:Sk.State) (w:World):Calls Tryz.prog 188 #[lJ s] w fun e w'=>e= .returned (.bool (Sk.jw s))∧Below w.heap.size w w':=by
 go_enter Tryz.func188,Tryz.ntmps188
 go_upto_region 0 with (fail)
 go_cut [1,2] (fun v1 v2 wx=>v1=ptr w.heap.size∧v2= .bool false∧aC w wx [(aQ s,26)])
 case first=>
  go_wp2;go_meet;exact ⟨rfl,rfl,((aC.nil w).new (by simp) (aQ s) _)⟩
 case rest=>
  obtain ⟨rfl,rfl,hB⟩:=hcut;have hF:=hB.aj rfl;have k6:=hF.cell (j:=6) rfl;have UQ:=hF.frozen 6;have k7:=hF.cell (j:=7) rfl;have Px:=hF.frozen 7;have k8:=hF.cell (j:=8) rfl;have kf8:=hF.frozen 8
  by_cases h1:s.colour=0
  · have TY:=(show (s.colour == 0)=true by simp [h1])
    have ahb:=(show (s.colour != 0)=false by simp [h1])
    by_cases h2:s.free=true
    · try rw [h2] at k7
      have HH:=hide (And.intro h1 (And.intro h2 trivial));clear h1 h2;go_wp2
      all_goals
       go_ret;exact ⟨aI (by obtain ⟨h1,h2,_⟩:=HH.out;first | (simp [Sk.jw,h1,h2];done) | (simp [Sk.jw,h1,h2];omega) | (rw [Bool.eq_iff_iff];simp [Sk.jw,h1,h2];omega)),hB.bw⟩
    · have h2:s.free=false:=by simpa using h2
      try rw [h2] at k7
      by_cases h3:s.aO=true
      · try rw [h3] at k8
        have HH:=hide (And.intro h1 (And.intro h2 (And.intro h3 trivial)));clear h1 h2 h3;go_wp2
        all_goals
         go_ret;exact ⟨aI (by obtain ⟨h1,h2,h3,_⟩:=HH.out;first | (simp [Sk.jw,h1,h2,h3];done) | (simp [Sk.jw,h1,h2,h3];omega) | (rw [Bool.eq_iff_iff];simp [Sk.jw,h1,h2,h3];omega)),hB.bw⟩
      · have h3:s.aO=false:=by simpa using h3
        try rw [h3] at k8
        have HH:=hide (And.intro h1 (And.intro h2 (And.intro h3 trivial)));clear h1 h2 h3;go_wp2
        all_goals
         go_ret;exact ⟨aI (by obtain ⟨h1,h2,h3,_⟩:=HH.out;first | (simp [Sk.jw,h1,h2,h3];done) | (simp [Sk.jw,h1,h2,h3];omega) | (rw [Bool.eq_iff_iff];simp [Sk.jw,h1,h2,h3];omega)),hB.bw⟩
  · have TW:=(show (s.colour == 0)=false by simp [h1])
    have ag4:=(show (s.colour != 0)=true by simp [h1]);have HH:=hide (And.intro h1 trivial);clear h1;go_wp2
    all_goals
     go_ret;exact ⟨aI (by obtain ⟨h1,_⟩:=HH.out;first | (simp [Sk.jw,h1];done) | (simp [Sk.jw,h1];omega) | (rw [Bool.eq_iff_iff];simp [Sk.jw,h1];omega)),hB.bw⟩
theorem xE (g:Sk.Game) (s:Sk.State) (w:World):Calls Tryz.prog 109 #[rF g,lJ s] w fun e w'=>e= .returned (.bool (Sk.bH s))∧Below w.heap.size w w':=by
 go_enter Tryz.func109,Tryz.ntmps109
 go_upto_region 0 with (fail)
 go_cut [2,3,4] (fun v2 v3 v4 wx=>v2=ptr w.heap.size∧v3=ptr (w.heap.size+1)∧v4= .bool false∧aC w wx [(dN g,23),(aQ s,26)])
 case first=>
  go_wp2;go_meet;exact ⟨rfl,rfl,rfl,(((aC.nil w).new (by simp) (dN g) _).new (by simp) (aQ s) _)⟩
 case rest=>
  obtain ⟨rfl,rfl,rfl,hB⟩:=hcut;have hS:=hB.get 1 rfl;have s4:=hS.cell (j:=4) rfl;have sf4:=hS.frozen 4;have s5:=hS.cell (j:=5) rfl;have sf5:=hS.frozen 5;have s6:=hS.cell (j:=6) rfl;have sf6:=hS.frozen 6;have s9:=hS.cell (j:=9) rfl;have Hr:=hS.frozen 9;have s12:=hS.cell (j:=12) rfl;have rV:=hS.frozen 12
  by_cases h4:s.aJ=0
  · have OC:=(show (s.aJ == 0)=true by simp [h4])
    have ahp:=(show (s.aJ != 0)=false by simp [h4])
    by_cases h5:s.ay=2
    · have Ud:=(show (s.ay == 2)=true by simp [h5])
      have asg:=(show (s.ay != 2)=false by simp [h5]);have HH:=hide (And.intro h4 (And.intro h5 trivial));clear h4 h5;go_wp2
      all_goals
       go_ret;exact ⟨aI (by obtain ⟨h4,h5,_⟩:=HH.out;first | (simp [Sk.bH,h4,h5];done) | (simp [Sk.bH,h4,h5];omega) | (rw [Bool.eq_iff_iff];simp [Sk.bH,h4,h5];omega)),hB.bw⟩
    · have Uc:=(show (s.ay == 2)=false by simp [h5])
      have ar8:=(show (s.ay != 2)=true by simp [h5])
      by_cases h6:s.phase=Sk.bJ
      · have Uf:=wt h6
        by_cases h7:s.aW=0
        · have Uh:=(show (s.aW == 0)=true by simp [h7])
          have asz:=(show (s.aW != 0)=false by simp [h7])
          by_cases h8:2≤s.colour
          · have Ze:=(show decide (2≤s.colour)=true from decide_eq_true h8)
            have HH:=hide (And.intro h4 (And.intro h5 (And.intro h6 (And.intro h7 (And.intro h8 trivial)))));clear h4 h5 h6 h7 h8;go_wp2
            all_goals
             go_ret;exact ⟨aI (by obtain ⟨h4,h5,h6,h7,h8,_⟩:=HH.out;first | (simp [Sk.bH,h4,h5,h6,h7,h8];done) | (simp [Sk.bH,h4,h5,h6,h7,h8];omega) | (rw [Bool.eq_iff_iff];simp [Sk.bH,h4,h5,h6,h7,h8];omega)),hB.bw⟩
          · have Zd:=(show decide (2≤s.colour)=false from decide_eq_false h8)
            have HH:=hide (And.intro h4 (And.intro h5 (And.intro h6 (And.intro h7 (And.intro h8 trivial)))));clear h4 h5 h6 h7 h8;go_wp2
            all_goals
             go_ret;exact ⟨aI (by obtain ⟨h4,h5,h6,h7,h8,_⟩:=HH.out;first | (simp [Sk.bH,h4,h5,h6,h7,h8];done) | (simp [Sk.bH,h4,h5,h6,h7,h8];omega) | (rw [Bool.eq_iff_iff];simp [Sk.bH,h4,h5,h6,h7,h8];omega)),hB.bw⟩
        · have Ug:=(show (s.aW == 0)=false by simp [h7])
          have asq:=(show (s.aW != 0)=true by simp [h7]);have HH:=hide (And.intro h4 (And.intro h5 (And.intro h6 (And.intro h7 trivial))));clear h4 h5 h6 h7;go_wp2
          all_goals
           go_ret;exact ⟨aI (by obtain ⟨h4,h5,h6,h7,_⟩:=HH.out;first | (simp [Sk.bH,h4,h5,h6,h7];done) | (simp [Sk.bH,h4,h5,h6,h7];omega) | (rw [Bool.eq_iff_iff];simp [Sk.bH,h4,h5,h6,h7];omega)),hB.bw⟩
      · have Ue:=wf h6
        by_cases h9:s.colour=0
        · have Zg:=(show (s.colour == 0)=true by simp [h9])
          have ahD:=(show (s.colour != 0)=false by simp [h9])
          by_cases h10:s.phase=Sk.gu
          · have VO:=wt h10
            by_cases h11:0<s.aW
            · have VQ:=(show decide (0<s.aW)=true from decide_eq_true h11)
              have HH:=hide (And.intro h4 (And.intro h5 (And.intro h6 (And.intro h9 (And.intro h10 (And.intro h11 trivial))))));clear h4 h5 h6 h9 h10 h11;go_wp2
              all_goals
               go_ret;exact ⟨aI (by obtain ⟨h4,h5,h6,h9,h10,h11,_⟩:=HH.out;first | (simp [Sk.bH,h4,h5,h6,h9,h10,h11];done) | (simp [Sk.bH,h4,h5,h6,h9,h10,h11];omega) | (rw [Bool.eq_iff_iff];simp [Sk.bH,h4,h5,h6,h9,h10,h11];omega)),hB.bw⟩
            · have VP:=(show decide (0<s.aW)=false from decide_eq_false h11)
              have HH:=hide (And.intro h4 (And.intro h5 (And.intro h6 (And.intro h9 (And.intro h10 (And.intro h11 trivial))))));clear h4 h5 h6 h9 h10 h11;go_wp2
              all_goals
               go_ret;exact ⟨aI (by obtain ⟨h4,h5,h6,h9,h10,h11,_⟩:=HH.out;first | (simp [Sk.bH,h4,h5,h6,h9,h10,h11];done) | (simp [Sk.bH,h4,h5,h6,h9,h10,h11];omega) | (rw [Bool.eq_iff_iff];simp [Sk.bH,h4,h5,h6,h9,h10,h11];omega)),hB.bw⟩
          · have VN:=wf h10
            have HH:=hide (And.intro h4 (And.intro h5 (And.intro h6 (And.intro h9 (And.intro h10 trivial)))));clear h4 h5 h6 h9 h10;go_wp2
            all_goals
             go_ret;exact ⟨aI (by obtain ⟨h4,h5,h6,h9,h10,_⟩:=HH.out;first | (simp [Sk.bH,h4,h5,h6,h9,h10];done) | (simp [Sk.bH,h4,h5,h6,h9,h10];omega) | (rw [Bool.eq_iff_iff];simp [Sk.bH,h4,h5,h6,h9,h10];omega)),hB.bw⟩
        · have Zf:=(show (s.colour == 0)=false by simp [h9])
          have ahw:=(show (s.colour != 0)=true by simp [h9]);have HH:=hide (And.intro h4 (And.intro h5 (And.intro h6 (And.intro h9 trivial))));clear h4 h5 h6 h9;go_wp2
          all_goals
           go_ret;exact ⟨aI (by obtain ⟨h4,h5,h6,h9,_⟩:=HH.out;first | (simp [Sk.bH,h4,h5,h6,h9];done) | (simp [Sk.bH,h4,h5,h6,h9];omega) | (rw [Bool.eq_iff_iff];simp [Sk.bH,h4,h5,h6,h9];omega)),hB.bw⟩
  · have OB:=(show (s.aJ == 0)=false by simp [h4])
    have ahi:=(show (s.aJ != 0)=true by simp [h4]);have HH:=hide (And.intro h4 trivial);clear h4;go_wp2
    all_goals
     go_ret;exact ⟨aI (by obtain ⟨h4,_⟩:=HH.out;first | (simp [Sk.bH,h4];done) | (simp [Sk.bH,h4];omega) | (rw [Bool.eq_iff_iff];simp [Sk.bH,h4];omega)),hB.bw⟩
theorem uj (g:Sk.Game) (s:Sk.State) (w:World):Calls Tryz.prog 114 #[rF g,lJ s] w fun e w'=>e= .returned (.bool (Sk.bZ g s))∧Below w.heap.size w w':=by
 go_enter Tryz.func114,Tryz.ntmps114
 go_upto_region 0 with (fail)
 go_cut [2,3,4] (fun v2 v3 v4 wx=>v2=ptr w.heap.size∧v3=ptr (w.heap.size+1)∧v4= .bool false∧aC w wx [(dN g,23),(aQ s,26)])
 case first=>
  go_wp2;go_meet;exact ⟨rfl,rfl,rfl,(((aC.nil w).new (by simp) (dN g) _).new (by simp) (aQ s) _)⟩
 case rest=>
  obtain ⟨rfl,rfl,rfl,hB⟩:=hcut
  rcases Bool.eq_false_or_eq_true (Sk.jw s) with hpl | hpl
  · have HP:=fun W=>sV s W
    simp only [hpl] at HP
    have HP:=hide HP
    by_cases h12:s.ay=2
    · have VT:=(show (s.ay == 2)=true by simp [h12])
      have Zc:=(show (s.ay != 2)=false by simp [h12]);have HH:=hide (And.intro h12 trivial);clear h12
      go_wp2_with (first | ((with_reducible refine dh 26 3 ?_);refine dO (hB.get 1 rfl) Tryz.underlying26 ak ?_) | ((with_reducible refine iV 26 3 ?_);refine nO (hB.get 1 rfl) Tryz.underlying26 ak ?_) | (go_at_call 188;refine (HP.out _).mono ?_;rintro e w1 ⟨rfl,hb1⟩;have hB1:=hB.call (by simp) hb1;have hF:=hB1.aj rfl;have hS:=hB1.get 1 rfl;have g2:=hF.cell (j:=2) rfl;have xQ:=hF.frozen 2;have g3:=hF.cell (j:=3) rfl;have Hl:=hF.frozen 3;have s1:=hS.cell (j:=1) rfl;have KE:=hS.frozen 1;have s2:=hS.cell (j:=2) rfl;have KF:=hS.frozen 2;have s12:=hS.cell (j:=12) rfl;have rV:=hS.frozen 12))
      all_goals
       go_ret;exact ⟨aI (by obtain ⟨h12,_⟩:=HH.out;first | (simp [Sk.bZ,hpl,h12];done) | (simp [Sk.bZ,hpl,h12];omega) | (rw [Bool.eq_iff_iff];simp [Sk.bZ,hpl,h12];omega)),hB1.bw⟩
    · have VR:=(show (s.ay == 2)=false by simp [h12])
      have Zb:=(show (s.ay != 2)=true by simp [h12])
      by_cases h13:0≤s.ay
      · have anT:=(show decide (0≤s.ay)=true from decide_eq_true h13)
        have HH:=hide (And.intro h12 (And.intro h13 trivial));clear h12 h13
        go_wp2_with (first | ((with_reducible refine dh 26 3 ?_);refine dO (hB.get 1 rfl) Tryz.underlying26 ak ?_) | ((with_reducible refine iV 26 3 ?_);refine nO (hB.get 1 rfl) Tryz.underlying26 ak ?_) | (go_at_call 188;refine (HP.out _).mono ?_;rintro e w1 ⟨rfl,hb1⟩;have hB1:=hB.call (by simp) hb1;have hF:=hB1.aj rfl;have hS:=hB1.get 1 rfl;have g2:=hF.cell (j:=2) rfl;have xQ:=hF.frozen 2;have g3:=hF.cell (j:=3) rfl;have Hl:=hF.frozen 3;have s1:=hS.cell (j:=1) rfl;have KE:=hS.frozen 1;have s2:=hS.cell (j:=2) rfl;have KF:=hS.frozen 2;have s12:=hS.cell (j:=12) rfl;have rV:=hS.frozen 12))
        all_goals
         go_ret;exact ⟨aI (by obtain ⟨h12,h13,_⟩:=HH.out;first | (simp [Sk.bZ,hpl,h12,h13];done) | (simp [Sk.bZ,hpl,h12,h13];omega) | (rw [Bool.eq_iff_iff];simp [Sk.bZ,hpl,h12,h13];omega)),hB1.bw⟩
      · have anM:=(show decide (0≤s.ay)=false from decide_eq_false h13)
        by_cases JZ:max s.s0 s.s1<g.target
        · have an7:=(show decide (max s.s0 s.s1<g.target)=true from decide_eq_true JZ)
          have HH:=hide (And.intro h12 (And.intro h13 (And.intro JZ trivial)));clear h12 h13 JZ
          go_wp2_with (first | ((with_reducible refine dh 26 3 ?_);refine dO (hB.get 1 rfl) Tryz.underlying26 ak ?_) | ((with_reducible refine iV 26 3 ?_);refine nO (hB.get 1 rfl) Tryz.underlying26 ak ?_) | (go_at_call 188;refine (HP.out _).mono ?_;rintro e w1 ⟨rfl,hb1⟩;have hB1:=hB.call (by simp) hb1;have hF:=hB1.aj rfl;have hS:=hB1.get 1 rfl;have g2:=hF.cell (j:=2) rfl;have xQ:=hF.frozen 2;have g3:=hF.cell (j:=3) rfl;have Hl:=hF.frozen 3;have s1:=hS.cell (j:=1) rfl;have KE:=hS.frozen 1;have s2:=hS.cell (j:=2) rfl;have KF:=hS.frozen 2;have s12:=hS.cell (j:=12) rfl;have rV:=hS.frozen 12))
          all_goals
           go_ret;exact ⟨aI (by obtain ⟨h12,h13,JZ,_⟩:=HH.out;first | (simp [Sk.bZ,hpl,h12,h13,JZ];done) | (simp [Sk.bZ,hpl,h12,h13,JZ];omega) | (rw [Bool.eq_iff_iff];simp [Sk.bZ,hpl,h12,h13,JZ];omega)),hB1.bw⟩
        · have an0:=(show decide (max s.s0 s.s1<g.target)=false from decide_eq_false JZ)
          have HH:=hide (And.intro h12 (And.intro h13 (And.intro JZ trivial)));clear h12 h13 JZ
          go_wp2_with (first | ((with_reducible refine dh 26 3 ?_);refine dO (hB.get 1 rfl) Tryz.underlying26 ak ?_) | ((with_reducible refine iV 26 3 ?_);refine nO (hB.get 1 rfl) Tryz.underlying26 ak ?_) | (go_at_call 188;refine (HP.out _).mono ?_;rintro e w1 ⟨rfl,hb1⟩;have hB1:=hB.call (by simp) hb1;have hF:=hB1.aj rfl;have hS:=hB1.get 1 rfl;have g2:=hF.cell (j:=2) rfl;have xQ:=hF.frozen 2;have g3:=hF.cell (j:=3) rfl;have Hl:=hF.frozen 3;have s1:=hS.cell (j:=1) rfl;have KE:=hS.frozen 1;have s2:=hS.cell (j:=2) rfl;have KF:=hS.frozen 2;have s12:=hS.cell (j:=12) rfl;have rV:=hS.frozen 12))
          all_goals
           go_ret;exact ⟨aI (by obtain ⟨h12,h13,JZ,_⟩:=HH.out;first | (simp [Sk.bZ,hpl,h12,h13,JZ];done) | (simp [Sk.bZ,hpl,h12,h13,JZ];omega) | (rw [Bool.eq_iff_iff];simp [Sk.bZ,hpl,h12,h13,JZ];omega)),hB1.bw⟩
  · have HP:=fun W=>sV s W
    simp only [hpl] at HP
    have HP:=hide HP
    go_wp2_with (first | ((with_reducible refine dh 26 3 ?_);refine dO (hB.get 1 rfl) Tryz.underlying26 ak ?_) | ((with_reducible refine iV 26 3 ?_);refine nO (hB.get 1 rfl) Tryz.underlying26 ak ?_) | (go_at_call 188;refine (HP.out _).mono ?_;rintro e w1 ⟨rfl,hb1⟩;have hB1:=hB.call (by simp) hb1;have hF:=hB1.aj rfl;have hS:=hB1.get 1 rfl;have g2:=hF.cell (j:=2) rfl;have xQ:=hF.frozen 2;have g3:=hF.cell (j:=3) rfl;have Hl:=hF.frozen 3;have s1:=hS.cell (j:=1) rfl;have KE:=hS.frozen 1;have s2:=hS.cell (j:=2) rfl;have KF:=hS.frozen 2;have s12:=hS.cell (j:=12) rfl;have rV:=hS.frozen 12))
    all_goals
     go_ret;exact ⟨aI (by first | (simp [Sk.bZ,hpl];done) | (simp [Sk.bZ,hpl];omega) | (rw [Bool.eq_iff_iff];simp [Sk.bZ,hpl];omega)),hB1.bw⟩
def dI (g:Sk.Game) (s:Sk.State):Bool:=if 0≤s.ay then decide (s.t0=s.t1∨(s.turn=1∧s.t0=s.t1+1)) else if s.turn=1 then decide (s.t0=s.t1+1) else decide (s.t0=s.t1∧s.t0<g.turns∧max s.s0 s.s1<g.target)
theorem bT (g:Sk.Game) (s:Sk.State):Sk.lu g s=if Sk.jw s=false∨s.aJ≠0 then false else dI g s:=rfl
theorem zA (g:Sk.Game) (s:Sk.State) (hr:0≤s.t1∧s.t1≤100) (w:World):Calls Tryz.prog 119 #[rF g,lJ s] w fun e w'=>e= .returned (.bool (Sk.lu g s))∧Below w.heap.size w w':=by
 go_enter Tryz.func119,Tryz.ntmps119
 go_upto_region 0 with (fail)
 go_cut [2,3,4] (fun v2 v3 v4 wx=>v2=ptr w.heap.size∧v3=ptr (w.heap.size+1)∧v4= .bool false∧aC w wx [(dN g,23),(aQ s,26)])
 case first=>
  go_wp2;go_meet;exact ⟨rfl,rfl,rfl,(((aC.nil w).new (by simp) (dN g) _).new (by simp) (aQ s) _)⟩
 case rest=>
  obtain ⟨rfl,rfl,rfl,hB⟩:=hcut
  rcases Bool.eq_false_or_eq_true (Sk.jw s) with hpl | hpl
  · have HP:=fun W=>sV s W
    simp only [hpl] at HP
    have HP:=hide HP
    by_cases h15:s.aJ=0
    · have aos:=(show (s.aJ == 0)=true by simp [h15])
      have aoz:=(show (s.aJ != 0)=false by simp [h15])
      by_cases h16:0≤s.ay
      · have aoN:=(show decide (0≤s.ay)=true from decide_eq_true h16)
        by_cases h17:s.t0=s.t1
        · have ao1:=(show (s.t0 == s.t1)=true by simp [h17])
          have HH:=hide (And.intro h15 (And.intro h16 (And.intro h17 trivial)));clear h15 h16 h17
          go_wp2_with (first | ((with_reducible refine dh 26 3 ?_);refine dO (hB.get 1 rfl) Tryz.underlying26 ak ?_) | ((with_reducible refine iV 26 3 ?_);refine nO (hB.get 1 rfl) Tryz.underlying26 ak ?_) | (go_at_call 188;refine (HP.out _).mono ?_;rintro e w1 ⟨rfl,hb1⟩;have hB1:=hB.call (by simp) hb1;have hF:=hB1.aj rfl;have hS:=hB1.get 1 rfl;have g2:=hF.cell (j:=2) rfl;have xQ:=hF.frozen 2;have g3:=hF.cell (j:=3) rfl;have Hl:=hF.frozen 3;have s0:=hS.cell (j:=0) rfl;have RZ:=hS.frozen 0;have s1:=hS.cell (j:=1) rfl;have KE:=hS.frozen 1;have s2:=hS.cell (j:=2) rfl;have KF:=hS.frozen 2;have s9:=hS.cell (j:=9) rfl;have Hr:=hS.frozen 9;have s10:=hS.cell (j:=10) rfl;have Et:=hS.frozen 10;have s11:=hS.cell (j:=11) rfl;have Eu:=hS.frozen 11;have s12:=hS.cell (j:=12) rfl;have rV:=hS.frozen 12))
          go_quiet (fail)
          go_wp2
          all_goals
           go_ret;exact ⟨aI (by obtain ⟨h15,h16,h17,_⟩:=HH.out;first | (simp [dI,bT,hpl,h15,h16,h17];done) | (simp [dI,bT,hpl,h15,h16,h17];omega) | (rw [Bool.eq_iff_iff];simp [dI,bT,hpl,h15,h16,h17];omega)),below_drewN hB1.bw _⟩
        · have aoU:=(show (s.t0 == s.t1)=false by simp [h17])
          by_cases h18:s.turn=1
          · have apn:=(show (s.turn == 1)=true by simp [h18])
            have apv:=(show (s.turn != 1)=false by simp [h18])
            by_cases h19:s.t0=s.t1+1
            · have apJ:=(show (s.t0 == s.t1+1)=true by simp [h19])
              have HH:=hide (And.intro h15 (And.intro h16 (And.intro h17 (And.intro h18 (And.intro h19 trivial)))));clear h15 h16 h17 h18 h19
              go_wp2_with (first | ((with_reducible refine dh 26 3 ?_);refine dO (hB.get 1 rfl) Tryz.underlying26 ak ?_) | ((with_reducible refine iV 26 3 ?_);refine nO (hB.get 1 rfl) Tryz.underlying26 ak ?_) | (go_at_call 188;refine (HP.out _).mono ?_;rintro e w1 ⟨rfl,hb1⟩;have hB1:=hB.call (by simp) hb1;have hF:=hB1.aj rfl;have hS:=hB1.get 1 rfl;have g2:=hF.cell (j:=2) rfl;have xQ:=hF.frozen 2;have g3:=hF.cell (j:=3) rfl;have Hl:=hF.frozen 3;have s0:=hS.cell (j:=0) rfl;have RZ:=hS.frozen 0;have s1:=hS.cell (j:=1) rfl;have KE:=hS.frozen 1;have s2:=hS.cell (j:=2) rfl;have KF:=hS.frozen 2;have s9:=hS.cell (j:=9) rfl;have Hr:=hS.frozen 9;have s10:=hS.cell (j:=10) rfl;have Et:=hS.frozen 10;have s11:=hS.cell (j:=11) rfl;have Eu:=hS.frozen 11;have s12:=hS.cell (j:=12) rfl;have rV:=hS.frozen 12))
              go_quiet (fail)
              go_wp2
              all_goals
               go_ret;exact ⟨aI (by obtain ⟨h15,h16,h17,h18,h19,_⟩:=HH.out;first | (simp [dI,bT,hpl,h15,h16,h17,h18,h19];done) | (simp [dI,bT,hpl,h15,h16,h17,h18,h19];omega) | (rw [Bool.eq_iff_iff];simp [dI,bT,hpl,h15,h16,h17,h18,h19];omega)),below_drewN hB1.bw _⟩
            · have apC:=(show (s.t0 == s.t1+1)=false by simp [h19])
              have HH:=hide (And.intro h15 (And.intro h16 (And.intro h17 (And.intro h18 (And.intro h19 trivial)))));clear h15 h16 h17 h18 h19
              go_wp2_with (first | ((with_reducible refine dh 26 3 ?_);refine dO (hB.get 1 rfl) Tryz.underlying26 ak ?_) | ((with_reducible refine iV 26 3 ?_);refine nO (hB.get 1 rfl) Tryz.underlying26 ak ?_) | (go_at_call 188;refine (HP.out _).mono ?_;rintro e w1 ⟨rfl,hb1⟩;have hB1:=hB.call (by simp) hb1;have hF:=hB1.aj rfl;have hS:=hB1.get 1 rfl;have g2:=hF.cell (j:=2) rfl;have xQ:=hF.frozen 2;have g3:=hF.cell (j:=3) rfl;have Hl:=hF.frozen 3;have s0:=hS.cell (j:=0) rfl;have RZ:=hS.frozen 0;have s1:=hS.cell (j:=1) rfl;have KE:=hS.frozen 1;have s2:=hS.cell (j:=2) rfl;have KF:=hS.frozen 2;have s9:=hS.cell (j:=9) rfl;have Hr:=hS.frozen 9;have s10:=hS.cell (j:=10) rfl;have Et:=hS.frozen 10;have s11:=hS.cell (j:=11) rfl;have Eu:=hS.frozen 11;have s12:=hS.cell (j:=12) rfl;have rV:=hS.frozen 12))
              go_quiet (fail)
              go_wp2
              all_goals
               go_ret;exact ⟨aI (by obtain ⟨h15,h16,h17,h18,h19,_⟩:=HH.out;first | (simp [dI,bT,hpl,h15,h16,h17,h18,h19];done) | (simp [dI,bT,hpl,h15,h16,h17,h18,h19];omega) | (rw [Bool.eq_iff_iff];simp [dI,bT,hpl,h15,h16,h17,h18,h19];omega)),below_drewN hB1.bw _⟩
          · have ao8:=(show (s.turn == 1)=false by simp [h18])
            have apf:=(show (s.turn != 1)=true by simp [h18]);have HH:=hide (And.intro h15 (And.intro h16 (And.intro h17 (And.intro h18 trivial))));clear h15 h16 h17 h18
            go_wp2_with (first | ((with_reducible refine dh 26 3 ?_);refine dO (hB.get 1 rfl) Tryz.underlying26 ak ?_) | ((with_reducible refine iV 26 3 ?_);refine nO (hB.get 1 rfl) Tryz.underlying26 ak ?_) | (go_at_call 188;refine (HP.out _).mono ?_;rintro e w1 ⟨rfl,hb1⟩;have hB1:=hB.call (by simp) hb1;have hF:=hB1.aj rfl;have hS:=hB1.get 1 rfl;have g2:=hF.cell (j:=2) rfl;have xQ:=hF.frozen 2;have g3:=hF.cell (j:=3) rfl;have Hl:=hF.frozen 3;have s0:=hS.cell (j:=0) rfl;have RZ:=hS.frozen 0;have s1:=hS.cell (j:=1) rfl;have KE:=hS.frozen 1;have s2:=hS.cell (j:=2) rfl;have KF:=hS.frozen 2;have s9:=hS.cell (j:=9) rfl;have Hr:=hS.frozen 9;have s10:=hS.cell (j:=10) rfl;have Et:=hS.frozen 10;have s11:=hS.cell (j:=11) rfl;have Eu:=hS.frozen 11;have s12:=hS.cell (j:=12) rfl;have rV:=hS.frozen 12))
            go_quiet (fail)
            go_wp2
            all_goals
             go_ret;exact ⟨aI (by obtain ⟨h15,h16,h17,h18,_⟩:=HH.out;first | (simp [dI,bT,hpl,h15,h16,h17,h18];done) | (simp [dI,bT,hpl,h15,h16,h17,h18];omega) | (rw [Bool.eq_iff_iff];simp [dI,bT,hpl,h15,h16,h17,h18];omega)),below_drewN hB1.bw _⟩
      · have aoG:=(show decide (0≤s.ay)=false from decide_eq_false h16)
        by_cases h20:s.turn=1
        · have ap4:=(show (s.turn == 1)=true by simp [h20])
          have aqb:=(show (s.turn != 1)=false by simp [h20])
          by_cases h21:s.t0=s.t1+1
          · have aqp:=(show (s.t0 == s.t1+1)=true by simp [h21])
            have HH:=hide (And.intro h15 (And.intro h16 (And.intro h20 (And.intro h21 trivial))));clear h15 h16 h20 h21
            go_wp2_with (first | ((with_reducible refine dh 26 3 ?_);refine dO (hB.get 1 rfl) Tryz.underlying26 ak ?_) | ((with_reducible refine iV 26 3 ?_);refine nO (hB.get 1 rfl) Tryz.underlying26 ak ?_) | (go_at_call 188;refine (HP.out _).mono ?_;rintro e w1 ⟨rfl,hb1⟩;have hB1:=hB.call (by simp) hb1;have hF:=hB1.aj rfl;have hS:=hB1.get 1 rfl;have g2:=hF.cell (j:=2) rfl;have xQ:=hF.frozen 2;have g3:=hF.cell (j:=3) rfl;have Hl:=hF.frozen 3;have s0:=hS.cell (j:=0) rfl;have RZ:=hS.frozen 0;have s1:=hS.cell (j:=1) rfl;have KE:=hS.frozen 1;have s2:=hS.cell (j:=2) rfl;have KF:=hS.frozen 2;have s9:=hS.cell (j:=9) rfl;have Hr:=hS.frozen 9;have s10:=hS.cell (j:=10) rfl;have Et:=hS.frozen 10;have s11:=hS.cell (j:=11) rfl;have Eu:=hS.frozen 11;have s12:=hS.cell (j:=12) rfl;have rV:=hS.frozen 12))
            go_quiet (fail)
            go_wp2
            all_goals
             go_ret;exact ⟨aI (by obtain ⟨h15,h16,h20,h21,_⟩:=HH.out;first | (simp [dI,bT,hpl,h15,h16,h20,h21];done) | (simp [dI,bT,hpl,h15,h16,h20,h21];omega) | (rw [Bool.eq_iff_iff];simp [dI,bT,hpl,h15,h16,h20,h21];omega)),below_drewN hB1.bw _⟩
          · have aqi:=(show (s.t0 == s.t1+1)=false by simp [h21])
            have HH:=hide (And.intro h15 (And.intro h16 (And.intro h20 (And.intro h21 trivial))));clear h15 h16 h20 h21
            go_wp2_with (first | ((with_reducible refine dh 26 3 ?_);refine dO (hB.get 1 rfl) Tryz.underlying26 ak ?_) | ((with_reducible refine iV 26 3 ?_);refine nO (hB.get 1 rfl) Tryz.underlying26 ak ?_) | (go_at_call 188;refine (HP.out _).mono ?_;rintro e w1 ⟨rfl,hb1⟩;have hB1:=hB.call (by simp) hb1;have hF:=hB1.aj rfl;have hS:=hB1.get 1 rfl;have g2:=hF.cell (j:=2) rfl;have xQ:=hF.frozen 2;have g3:=hF.cell (j:=3) rfl;have Hl:=hF.frozen 3;have s0:=hS.cell (j:=0) rfl;have RZ:=hS.frozen 0;have s1:=hS.cell (j:=1) rfl;have KE:=hS.frozen 1;have s2:=hS.cell (j:=2) rfl;have KF:=hS.frozen 2;have s9:=hS.cell (j:=9) rfl;have Hr:=hS.frozen 9;have s10:=hS.cell (j:=10) rfl;have Et:=hS.frozen 10;have s11:=hS.cell (j:=11) rfl;have Eu:=hS.frozen 11;have s12:=hS.cell (j:=12) rfl;have rV:=hS.frozen 12))
            go_quiet (fail)
            go_wp2
            all_goals
             go_ret;exact ⟨aI (by obtain ⟨h15,h16,h20,h21,_⟩:=HH.out;first | (simp [dI,bT,hpl,h15,h16,h20,h21];done) | (simp [dI,bT,hpl,h15,h16,h20,h21];omega) | (rw [Bool.eq_iff_iff];simp [dI,bT,hpl,h15,h16,h20,h21];omega)),below_drewN hB1.bw _⟩
        · have apQ:=(show (s.turn == 1)=false by simp [h20])
          have apX:=(show (s.turn != 1)=true by simp [h20])
          by_cases h22:s.t0=s.t1
          · have aqE:=(show (s.t0 == s.t1)=true by simp [h22])
            by_cases h23:s.t0<g.turns
            · have aqS:=(show decide (s.t0<g.turns)=true from decide_eq_true h23)
              by_cases J3:max s.s0 s.s1<g.target
              · have aq6:=(show decide (max s.s0 s.s1<g.target)=true from decide_eq_true J3)
                have HH:=hide (And.intro h15 (And.intro h16 (And.intro h20 (And.intro h22 (And.intro h23 (And.intro J3 trivial))))));clear h15 h16 h20 h22 h23 J3
                go_wp2_with (first | ((with_reducible refine dh 26 3 ?_);refine dO (hB.get 1 rfl) Tryz.underlying26 ak ?_) | ((with_reducible refine iV 26 3 ?_);refine nO (hB.get 1 rfl) Tryz.underlying26 ak ?_) | (go_at_call 188;refine (HP.out _).mono ?_;rintro e w1 ⟨rfl,hb1⟩;have hB1:=hB.call (by simp) hb1;have hF:=hB1.aj rfl;have hS:=hB1.get 1 rfl;have g2:=hF.cell (j:=2) rfl;have xQ:=hF.frozen 2;have g3:=hF.cell (j:=3) rfl;have Hl:=hF.frozen 3;have s0:=hS.cell (j:=0) rfl;have RZ:=hS.frozen 0;have s1:=hS.cell (j:=1) rfl;have KE:=hS.frozen 1;have s2:=hS.cell (j:=2) rfl;have KF:=hS.frozen 2;have s9:=hS.cell (j:=9) rfl;have Hr:=hS.frozen 9;have s10:=hS.cell (j:=10) rfl;have Et:=hS.frozen 10;have s11:=hS.cell (j:=11) rfl;have Eu:=hS.frozen 11;have s12:=hS.cell (j:=12) rfl;have rV:=hS.frozen 12))
                go_quiet (fail)
                go_wp2
                all_goals
                 go_ret;exact ⟨aI (by obtain ⟨h15,h16,h20,h22,h23,J3,_⟩:=HH.out;first | (simp [dI,bT,hpl,h15,h16,h20,h22,h23,J3];done) | (simp [dI,bT,hpl,h15,h16,h20,h22,h23,J3];omega) | (rw [Bool.eq_iff_iff];simp [dI,bT,hpl,h15,h16,h20,h22,h23,J3];omega)),below_drewN hB1.bw _⟩
              · have aqZ:=(show decide (max s.s0 s.s1<g.target)=false from decide_eq_false J3)
                have HH:=hide (And.intro h15 (And.intro h16 (And.intro h20 (And.intro h22 (And.intro h23 (And.intro J3 trivial))))));clear h15 h16 h20 h22 h23 J3
                go_wp2_with (first | ((with_reducible refine dh 26 3 ?_);refine dO (hB.get 1 rfl) Tryz.underlying26 ak ?_) | ((with_reducible refine iV 26 3 ?_);refine nO (hB.get 1 rfl) Tryz.underlying26 ak ?_) | (go_at_call 188;refine (HP.out _).mono ?_;rintro e w1 ⟨rfl,hb1⟩;have hB1:=hB.call (by simp) hb1;have hF:=hB1.aj rfl;have hS:=hB1.get 1 rfl;have g2:=hF.cell (j:=2) rfl;have xQ:=hF.frozen 2;have g3:=hF.cell (j:=3) rfl;have Hl:=hF.frozen 3;have s0:=hS.cell (j:=0) rfl;have RZ:=hS.frozen 0;have s1:=hS.cell (j:=1) rfl;have KE:=hS.frozen 1;have s2:=hS.cell (j:=2) rfl;have KF:=hS.frozen 2;have s9:=hS.cell (j:=9) rfl;have Hr:=hS.frozen 9;have s10:=hS.cell (j:=10) rfl;have Et:=hS.frozen 10;have s11:=hS.cell (j:=11) rfl;have Eu:=hS.frozen 11;have s12:=hS.cell (j:=12) rfl;have rV:=hS.frozen 12))
                go_quiet (fail)
                go_wp2
                all_goals
                 go_ret;exact ⟨aI (by obtain ⟨h15,h16,h20,h22,h23,J3,_⟩:=HH.out;first | (simp [dI,bT,hpl,h15,h16,h20,h22,h23,J3];done) | (simp [dI,bT,hpl,h15,h16,h20,h22,h23,J3];omega) | (rw [Bool.eq_iff_iff];simp [dI,bT,hpl,h15,h16,h20,h22,h23,J3];omega)),below_drewN hB1.bw _⟩
            · have aqL:=(show decide (s.t0<g.turns)=false from decide_eq_false h23)
              have HH:=hide (And.intro h15 (And.intro h16 (And.intro h20 (And.intro h22 (And.intro h23 trivial)))));clear h15 h16 h20 h22 h23
              go_wp2_with (first | ((with_reducible refine dh 26 3 ?_);refine dO (hB.get 1 rfl) Tryz.underlying26 ak ?_) | ((with_reducible refine iV 26 3 ?_);refine nO (hB.get 1 rfl) Tryz.underlying26 ak ?_) | (go_at_call 188;refine (HP.out _).mono ?_;rintro e w1 ⟨rfl,hb1⟩;have hB1:=hB.call (by simp) hb1;have hF:=hB1.aj rfl;have hS:=hB1.get 1 rfl;have g2:=hF.cell (j:=2) rfl;have xQ:=hF.frozen 2;have g3:=hF.cell (j:=3) rfl;have Hl:=hF.frozen 3;have s0:=hS.cell (j:=0) rfl;have RZ:=hS.frozen 0;have s1:=hS.cell (j:=1) rfl;have KE:=hS.frozen 1;have s2:=hS.cell (j:=2) rfl;have KF:=hS.frozen 2;have s9:=hS.cell (j:=9) rfl;have Hr:=hS.frozen 9;have s10:=hS.cell (j:=10) rfl;have Et:=hS.frozen 10;have s11:=hS.cell (j:=11) rfl;have Eu:=hS.frozen 11;have s12:=hS.cell (j:=12) rfl;have rV:=hS.frozen 12))
              go_quiet (fail)
              go_wp2
              all_goals
               go_ret;exact ⟨aI (by obtain ⟨h15,h16,h20,h22,h23,_⟩:=HH.out;first | (simp [dI,bT,hpl,h15,h16,h20,h22,h23];done) | (simp [dI,bT,hpl,h15,h16,h20,h22,h23];omega) | (rw [Bool.eq_iff_iff];simp [dI,bT,hpl,h15,h16,h20,h22,h23];omega)),below_drewN hB1.bw _⟩
          · have aqx:=(show (s.t0 == s.t1)=false by simp [h22])
            have HH:=hide (And.intro h15 (And.intro h16 (And.intro h20 (And.intro h22 trivial))));clear h15 h16 h20 h22
            go_wp2_with (first | ((with_reducible refine dh 26 3 ?_);refine dO (hB.get 1 rfl) Tryz.underlying26 ak ?_) | ((with_reducible refine iV 26 3 ?_);refine nO (hB.get 1 rfl) Tryz.underlying26 ak ?_) | (go_at_call 188;refine (HP.out _).mono ?_;rintro e w1 ⟨rfl,hb1⟩;have hB1:=hB.call (by simp) hb1;have hF:=hB1.aj rfl;have hS:=hB1.get 1 rfl;have g2:=hF.cell (j:=2) rfl;have xQ:=hF.frozen 2;have g3:=hF.cell (j:=3) rfl;have Hl:=hF.frozen 3;have s0:=hS.cell (j:=0) rfl;have RZ:=hS.frozen 0;have s1:=hS.cell (j:=1) rfl;have KE:=hS.frozen 1;have s2:=hS.cell (j:=2) rfl;have KF:=hS.frozen 2;have s9:=hS.cell (j:=9) rfl;have Hr:=hS.frozen 9;have s10:=hS.cell (j:=10) rfl;have Et:=hS.frozen 10;have s11:=hS.cell (j:=11) rfl;have Eu:=hS.frozen 11;have s12:=hS.cell (j:=12) rfl;have rV:=hS.frozen 12))
            go_quiet (fail)
            go_wp2
            all_goals
             go_ret;exact ⟨aI (by obtain ⟨h15,h16,h20,h22,_⟩:=HH.out;first | (simp [dI,bT,hpl,h15,h16,h20,h22];done) | (simp [dI,bT,hpl,h15,h16,h20,h22];omega) | (rw [Bool.eq_iff_iff];simp [dI,bT,hpl,h15,h16,h20,h22];omega)),below_drewN hB1.bw _⟩
    · have aoe:=(show (s.aJ == 0)=false by simp [h15])
      have aol:=(show (s.aJ != 0)=true by simp [h15]);have HH:=hide (And.intro h15 trivial);clear h15
      go_wp2_with (first | ((with_reducible refine dh 26 3 ?_);refine dO (hB.get 1 rfl) Tryz.underlying26 ak ?_) | ((with_reducible refine iV 26 3 ?_);refine nO (hB.get 1 rfl) Tryz.underlying26 ak ?_) | (go_at_call 188;refine (HP.out _).mono ?_;rintro e w1 ⟨rfl,hb1⟩;have hB1:=hB.call (by simp) hb1;have hF:=hB1.aj rfl;have hS:=hB1.get 1 rfl;have g2:=hF.cell (j:=2) rfl;have xQ:=hF.frozen 2;have g3:=hF.cell (j:=3) rfl;have Hl:=hF.frozen 3;have s9:=hS.cell (j:=9) rfl;have Hr:=hS.frozen 9))
      all_goals
       go_ret;exact ⟨aI (by obtain ⟨h15,_⟩:=HH.out;first | (simp [bT,hpl,h15];done) | (simp [bT,hpl,h15];omega) | (rw [Bool.eq_iff_iff];simp [bT,hpl,h15];omega)),hB1.bw⟩
  · have HP:=fun W=>sV s W
    simp only [hpl] at HP
    have HP:=hide HP
    go_wp2_with (first | ((with_reducible refine dh 26 3 ?_);refine dO (hB.get 1 rfl) Tryz.underlying26 ak ?_) | ((with_reducible refine iV 26 3 ?_);refine nO (hB.get 1 rfl) Tryz.underlying26 ak ?_) | (go_at_call 188;refine (HP.out _).mono ?_;rintro e w1 ⟨rfl,hb1⟩;have hB1:=hB.call (by simp) hb1;have hF:=hB1.aj rfl;have hS:=hB1.get 1 rfl;have g2:=hF.cell (j:=2) rfl;have xQ:=hF.frozen 2;have g3:=hF.cell (j:=3) rfl;have Hl:=hF.frozen 3;have s9:=hS.cell (j:=9) rfl;have Hr:=hS.frozen 9))
    all_goals
     go_ret;exact ⟨aI (by first | (simp [bT,hpl];done) | (simp [bT,hpl];omega) | (rw [Bool.eq_iff_iff];simp [bT,hpl];omega)),hB1.bw⟩
theorem qw (s:Sk.State) (ht:s.turn=0∨s.turn=1) (w:World):Calls Tryz.prog 189 #[lJ s] w fun e w'=>e= .returned (.string (Sk.own s))∧Below w.heap.size w w':=by
 go_enter Tryz.func189,Tryz.ntmps189
 go_upto_region 0 with (fail)
 go_cut [1,2] (fun v1 v2 wx=>v1=ptr w.heap.size∧v2= .string ⟨#[]⟩∧aC w wx [(aQ s,26)])
 case first=>
  go_wp2;go_meet;exact ⟨rfl,rfl,((aC.nil w).new (by simp) (aQ s) _)⟩
 case rest=>
  obtain ⟨rfl,rfl,hB⟩:=hcut;have hF:=hB.aj rfl;have k0:=hF.cell (j:=0) rfl;have XL:=hF.frozen 0
  have i0:∀ W,(Instr.index 275 (.agg #[.string Sk.dB,.string Sk.dH]) (.int .i64 0)).run Tryz.prog W= .ok (.string Sk.dB) W:=fun _=>by kernel_rfl
  have i1:∀ W,(Instr.index 275 (.agg #[.string Sk.dB,.string Sk.dH]) (.int .i64 1)).run Tryz.prog W= .ok (.string Sk.dH) W:=fun _=>by kernel_rfl
  rcases ht with h | h
  · rw [h] at k0
    have HH:=hide (show Sk.own s=Sk.dB by unfold Sk.own;rw [if_pos h]);clear h;go_wp2;go_ret;exact ⟨by rw [HH.out];rfl,hB.bw⟩
  · rw [h] at k0
    have HH:=hide (show Sk.own s=Sk.dH by unfold Sk.own;rw [if_neg (by omega)]);clear h;go_wp2;go_ret;exact ⟨by rw [HH.out];rfl,hB.bw⟩
theorem yF (s:Sk.State) (ht:s.turn=0∨s.turn=1) (w:World):Calls Tryz.prog 234 #[lJ s] w fun e w'=>e= .returned (.string (Sk.theirs s))∧Below w.heap.size w w':=by
 go_enter Tryz.func234,Tryz.ntmps234
 go_upto_region 0 with (fail)
 go_cut [1,2] (fun v1 v2 wx=>v1=ptr w.heap.size∧v2= .string ⟨#[]⟩∧aC w wx [(aQ s,26)])
 case first=>
  go_wp2;go_meet;exact ⟨rfl,rfl,((aC.nil w).new (by simp) (aQ s) _)⟩
 case rest=>
  obtain ⟨rfl,rfl,hB⟩:=hcut;have hF:=hB.aj rfl;have k0:=hF.cell (j:=0) rfl;have XL:=hF.frozen 0
  have i0:∀ W,(Instr.index 275 (.agg #[.string Sk.dH,.string Sk.dB]) (.int .i64 0)).run Tryz.prog W= .ok (.string Sk.dH) W:=fun _=>by kernel_rfl
  have i1:∀ W,(Instr.index 275 (.agg #[.string Sk.dH,.string Sk.dB]) (.int .i64 1)).run Tryz.prog W= .ok (.string Sk.dB) W:=fun _=>by kernel_rfl
  rcases ht with h | h
  · rw [h] at k0
    have HH:=hide (show Sk.theirs s=Sk.dH by unfold Sk.theirs;rw [if_pos h]);clear h;go_wp2;go_ret;exact ⟨by rw [HH.out];rfl,hB.bw⟩
  · rw [h] at k0
    have HH:=hide (show Sk.theirs s=Sk.dB by unfold Sk.theirs;rw [if_neg (by omega)]);clear h;go_wp2;go_ret;exact ⟨by rw [HH.out];rfl,hB.bw⟩
theorem ni (s:Sk.State) (ht:s.turn=0∨s.turn=1) (w:World):Calls Tryz.prog 131 #[lJ s] w fun e w'=>e= .returned (lJ (Sk.pass s))∧Below w.heap.size w w':=by
 obtain ⟨tu,a0,a1,br,ph,re,co,fr,fo,sk,t0,t1,wi⟩:=s
 simp only at ht
 rcases ht with rfl | rfl
 · go_enter Tryz.func131,Tryz.ntmps131
   go_upto_region 0 with (fail)
   go_cut [1,2] (fun v1 v2 wx=>v1=ptr w.heap.size∧v2=ptr (w.heap.size+1)∧aC w wx [(aQ ⟨0,a0,a1,br,ph,re,co,fr,fo,sk,t0,t1,wi⟩,26),(aQ Sk.zero,26)])
   case first=>
    go_wp2;go_meet;exact ⟨rfl,rfl,(((aC.nil w).new (by simp) (aQ ⟨0,a0,a1,br,ph,re,co,fr,fo,sk,t0,t1,wi⟩) _).new (by simp) (aQ Sk.zero) _)⟩
   case rest=>
    obtain ⟨rfl,rfl,hB⟩:=hcut;have hF:=hB.aj rfl;have k0:=hF.cell (j:=0) rfl;have XL:=hF.frozen 0;have k3:=hF.cell (j:=3) rfl;have kf3:=hF.frozen 3;have k9:=hF.cell (j:=9) rfl;have kf9:=hF.frozen 9;have hE:aC w (((wc.setCell ⟨w.heap.size,0,none⟩ (.int .i64 1)).setCell ⟨w.heap.size,3,none⟩ (.int .i64 0)).setCell ⟨w.heap.size,9,none⟩ (.int .i64 0)) [(aQ (Sk.pass ⟨0,a0,a1,br,ph,re,co,fr,fo,sk,t0,t1,wi⟩),26),(aQ Sk.zero,26)]:=((hB.set 0 rfl 0 _).set 0 rfl 3 _).set 0 rfl 9 _
    go_wp2_with (first | ((with_reducible refine dh 26 1 ?_);refine dO (hE.aj rfl) Tryz.underlying26 ak ?_) | ((with_reducible refine isS 26 2 9 ?_);refine iZ (hE.get 1 rfl) (aQ (Sk.pass ⟨0,a0,a1,br,ph,re,co,fr,fo,sk,t0,t1,wi⟩)) ak (bI _) ?_))
    have hZ:=hE.put 1 rfl (aQ (Sk.pass ⟨0,a0,a1,br,ph,re,co,fr,fo,sk,t0,t1,wi⟩)) rfl;exact bodyPost_ret (aP (p:=2) (hZ.get 1 rfl) Tryz.underlying26 rfl ak rfl _ rfl) rfl ⟨rfl,hZ.bw⟩
 · go_enter Tryz.func131,Tryz.ntmps131
   go_upto_region 0 with (fail)
   go_cut [1,2] (fun v1 v2 wx=>v1=ptr w.heap.size∧v2=ptr (w.heap.size+1)∧aC w wx [(aQ ⟨1,a0,a1,br,ph,re,co,fr,fo,sk,t0,t1,wi⟩,26),(aQ Sk.zero,26)])
   case first=>
    go_wp2;go_meet;exact ⟨rfl,rfl,(((aC.nil w).new (by simp) (aQ ⟨1,a0,a1,br,ph,re,co,fr,fo,sk,t0,t1,wi⟩) _).new (by simp) (aQ Sk.zero) _)⟩
   case rest=>
    obtain ⟨rfl,rfl,hB⟩:=hcut;have hF:=hB.aj rfl;have k0:=hF.cell (j:=0) rfl;have XL:=hF.frozen 0;have k3:=hF.cell (j:=3) rfl;have kf3:=hF.frozen 3;have k9:=hF.cell (j:=9) rfl;have kf9:=hF.frozen 9;have hE:aC w (((wc.setCell ⟨w.heap.size,0,none⟩ (.int .i64 0)).setCell ⟨w.heap.size,3,none⟩ (.int .i64 0)).setCell ⟨w.heap.size,9,none⟩ (.int .i64 0)) [(aQ (Sk.pass ⟨1,a0,a1,br,ph,re,co,fr,fo,sk,t0,t1,wi⟩),26),(aQ Sk.zero,26)]:=((hB.set 0 rfl 0 _).set 0 rfl 3 _).set 0 rfl 9 _
    go_wp2_with (first | ((with_reducible refine dh 26 1 ?_);refine dO (hE.aj rfl) Tryz.underlying26 ak ?_) | ((with_reducible refine isS 26 2 9 ?_);refine iZ (hE.get 1 rfl) (aQ (Sk.pass ⟨1,a0,a1,br,ph,re,co,fr,fo,sk,t0,t1,wi⟩)) ak (bI _) ?_))
    have hZ:=hE.put 1 rfl (aQ (Sk.pass ⟨1,a0,a1,br,ph,re,co,fr,fo,sk,t0,t1,wi⟩)) rfl;exact bodyPost_ret (aP (p:=2) (hZ.get 1 rfl) Tryz.underlying26 rfl ak rfl _ rfl) rfl ⟨rfl,hZ.bw⟩
theorem gX (s:Sk.State) (w:World):Calls Tryz.prog 187 #[lJ s] w fun e w'=>e= .returned (.int .i64 (Sk.leader s))∧Below w.heap.size w w':=by
 go_enter Tryz.func187,Tryz.ntmps187
 go_upto_region 0 with (fail)
 go_cut [1,2] (fun v1 v2 wx=>v1=ptr w.heap.size∧v2= .int .i64 0∧aC w wx [(aQ s,26)])
 case first=>
  go_wp2;go_meet;exact ⟨rfl,rfl,((aC.nil w).new (by simp) (aQ s) _)⟩
 case rest=>
  obtain ⟨rfl,rfl,hB⟩:=hcut;have hF:=hB.aj rfl;have k1:=hF.cell (j:=1) rfl;have XM:=hF.frozen 1;have k2:=hF.cell (j:=2) rfl;have kf2:=hF.frozen 2
  by_cases h1:s.s1<s.s0
  · have TY:=(show decide (s.s1<s.s0)=true from decide_eq_true h1)
    have HH:=hide (And.intro h1 trivial);clear h1;go_wp2
    all_goals
     go_ret;exact ⟨bG (by obtain ⟨h1,_⟩:=HH.out;first | (simp [Sk.leader,h1];done) | (simp [Sk.leader,h1];omega) | (rw [Bool.eq_iff_iff];simp [Sk.leader,h1];omega)),hB.bw⟩
  · have TW:=(show decide (s.s1<s.s0)=false from decide_eq_false h1)
    by_cases h2:s.s0<s.s1
    · have Ub:=(show decide (s.s0<s.s1)=true from decide_eq_true h2)
      have HH:=hide (And.intro h1 (And.intro h2 trivial));clear h1 h2;go_wp2
      all_goals
       go_ret;exact ⟨bG (by obtain ⟨h1,h2,_⟩:=HH.out;first | (simp [Sk.leader,h1,h2];done) | (simp [Sk.leader,h1,h2];omega) | (rw [Bool.eq_iff_iff];simp [Sk.leader,h1,h2];omega)),hB.bw⟩
    · have Ua:=(show decide (s.s0<s.s1)=false from decide_eq_false h2)
      have HH:=hide (And.intro h1 (And.intro h2 trivial));clear h1 h2;go_wp2
      all_goals
       go_ret;exact ⟨bG (by obtain ⟨h1,h2,_⟩:=HH.out;first | (simp [Sk.leader,h1,h2];done) | (simp [Sk.leader,h1,h2];omega) | (rw [Bool.eq_iff_iff];simp [Sk.leader,h1,h2];omega)),hB.bw⟩
theorem kS (s:Sk.State) (hc:0≤s.colour∧s.colour≤7) (w:World):Calls Tryz.prog 186 #[lJ s] w fun e w'=>∃ A c,e= .returned (.slice A (Sk.on s).length c)∧kF w' (fun b=>w.heap.size≤b) A c (Sk.on s)∧Below w.heap.size w w':=by
 go_enter Tryz.func186,Tryz.ntmps186
 go_upto_region 0 with (fail)
 go_cut [1,2] (fun v1 v2 wx=>v1=ptr w.heap.size∧v2= .slice none 0 0∧aC w wx [(aQ s,26)])
 case first=>
  go_wp2;go_meet;exact ⟨rfl,rfl,((aC.nil w).new (by simp) (aQ s) _)⟩
 case rest=>
  obtain ⟨rfl,rfl,hB⟩:=hcut
  go_upto_region 1 with (fail)
  go_cut [3] (fun v wx=>∃ D,v=ptr D∧w.heap.size+1≤D∧Held wx D oJ 238∧aC w wx [(aQ s,26)])
  case first=>
   go_wp2_with (first | (go_at_call 181;refine (pz _).mono ?_;rintro e w1 ⟨rfl,hb1⟩;have hB1:=hB.call (by simp) hb1;have hZ:=Held.new w1 tC 238) | ((with_reducible refine isS 238 3 4 ?_);refine iZ (hZ) (oJ) yY (wK) ?_))
   go_meet;exact ⟨_,rfl,by have:=hB1.size (by simp);simpa using this,hZ.whole oJ rfl,(hB1.alloc (by simp) _).fK (by have:=hB1.size (by simp);simpa using this) _ _⟩
  case rest=>
   obtain ⟨D,rfl,hD,hb8,hB2⟩:=hcut;have hF:=hB2.aj rfl;have k4:=hF.cell (j:=4) rfl;have k6:=hF.cell (j:=6) rfl;have hsz:=hB2.size (by simp)
   by_cases h1:s.phase=Sk.gu
   · have e1:=wt h1
     have ho:Sk.on s=[Sk.aX]:=by unfold Sk.on;rw [if_pos h1]
     have HH:=hide ho;clear h1 ho hc;go_wp2;go_ret;exact ⟨some ⟨wc.heap.size,0,none⟩,1,by rw [HH.out];rfl,by rw [HH.out];exact kF.lit wc 9 [Sk.aX] (by simp) _ (by have:=hB2.bw.size;omega),hB2.bw.alloc (by have:=hB2.bw.size;omega) _⟩
   · have e1:=wf h1
     by_cases h2:s.phase=Sk.bV
     · have e2:=wt h2
       have ho:Sk.on s=Sk.dX.drop 2:=by unfold Sk.on;rw [if_neg h1,if_pos h2]
       have HH:=hide ho;clear h1 h2 ho hc;go_wp2;go_ret;exact ⟨some ⟨D,2,none⟩,6,by rw [HH.out];rfl,by rw [HH.out];exact ⟨by decide,by decide,by decide,rfl,fun _=>⟨D,2,rfl,by omega,hb8.lt,fun j u hu=>hb8.cell (by rw [wJ];rw [List.map_drop,List.getElem?_drop] at hu;exact hu)⟩⟩,hB2.bw⟩
     · have e2:=wf h2
       have ho:Sk.on s=[Sk.bC s.colour]:=by unfold Sk.on;rw [if_neg h1,if_neg h2]
       obtain ⟨n,hn⟩:∃ n:Nat,s.colour=n:=⟨s.colour.toNat,by omega⟩
       have YM:n<8:=by omega
       have kb:wc.cell? ⟨D,n,none⟩=some (.string (Sk.bC s.colour)):=by
        have h9:Sk.dX[n]? =some (Sk.bC s.colour):=by unfold Sk.bC;rw [hn,Int.toNat_natCast,List.getD_eq_getElem?_getD,List.getElem?_eq_getElem (show n<Sk.dX.length from YM)];rfl
        exact hb8.cell (by rw [wJ,List.getElem?_map,h9];rfl)
       have kbf:=hb8.frozen n;rw [hn] at k6;obtain ⟨bb,hbb⟩:∃ b,Sk.bC s.colour=b:=⟨_,rfl⟩;rw [hbb] at kb ho;have HH:=hide ho;clear h1 h2 ho hc hn hbb;go_wp2;go_ret;exact ⟨some ⟨wc.heap.size,0,none⟩,1,by rw [HH.out];rfl,by rw [HH.out];exact kF.lit wc 9 [bb] (by simp) _ (by have:=hB2.bw.size;omega),hB2.bw.alloc (by have:=hB2.bw.size;omega) _⟩
theorem Dz (s:Sk.State) (b:ByteArray) (w:World):Calls Tryz.prog 127 #[lJ s,.string b] w fun e w'=>e= .returned (.bool (Sk.callable s b))∧Below w.heap.size w w':=by
 go_enter Tryz.func127,Tryz.ntmps127
 go_upto_region 0 with (fail)
 go_cut [2,4] (fun v2 v4 wx=>v2=ptr w.heap.size∧v4= .bool false∧aC w wx [(aQ s,26)])
 case first=>
  go_wp2;go_meet;exact ⟨rfl,rfl,((aC.nil w).new (by simp) (aQ s) _)⟩
 case rest=>
  obtain ⟨rfl,rfl,hB⟩:=hcut
  rcases Bool.eq_false_or_eq_true s.free with hf0 | hf0
  · have hfr:=hide hf0
    clear hf0
    by_cases h3:s.phase=Sk.gu
    · have OA:=wt h3
      by_cases h4:2≤Sk.value b
      · have OC:=(show decide (2≤Sk.value b)=true from decide_eq_true h4)
        have HH:=hide (And.intro h3 (And.intro h4 trivial));clear h3 h4
        go_wp2_with (first | (go_at_call 137;refine (dS _ _).mono ?_;rintro e w1 ⟨rfl,hb1⟩;have hB1:=hB.call (by simp) hb1;have hF:=hB1.aj rfl;have k4:=hF.cell (j:=4) rfl;have S9:=hF.frozen 4;have k6:=hF.cell (j:=6) rfl;have UQ:=hF.frozen 6;have k7:=hF.cell (j:=7) rfl;have Px:=hF.frozen 7;rw [hfr.out] at k7))
        go_ret;exact ⟨aI (by have oM:=hfr.out;obtain ⟨h3,h4,_⟩:=HH.out;first | (simp [Sk.callable,oM,h3,h4];done) | (simp [Sk.callable,oM,h3,h4];omega) | (rw [Bool.eq_iff_iff];simp [Sk.callable,oM,h3,h4];omega)),hB1.bw⟩
      · have OB:=(show decide (2≤Sk.value b)=false from decide_eq_false h4)
        have HH:=hide (And.intro h3 (And.intro h4 trivial));clear h3 h4
        go_wp2_with (first | (go_at_call 137;refine (dS _ _).mono ?_;rintro e w1 ⟨rfl,hb1⟩;have hB1:=hB.call (by simp) hb1;have hF:=hB1.aj rfl;have k4:=hF.cell (j:=4) rfl;have S9:=hF.frozen 4;have k6:=hF.cell (j:=6) rfl;have UQ:=hF.frozen 6;have k7:=hF.cell (j:=7) rfl;have Px:=hF.frozen 7;rw [hfr.out] at k7))
        go_ret;exact ⟨aI (by have oM:=hfr.out;obtain ⟨h3,h4,_⟩:=HH.out;first | (simp [Sk.callable,oM,h3,h4];done) | (simp [Sk.callable,oM,h3,h4];omega) | (rw [Bool.eq_iff_iff];simp [Sk.callable,oM,h3,h4];omega)),hB1.bw⟩
    · have Oz:=wf h3
      by_cases h5:s.phase=Sk.bJ
      · have Ud:=wt h5
        by_cases h6:s.colour<Sk.value b
        · have Uf:=(show decide (s.colour<Sk.value b)=true from decide_eq_true h6)
          have HH:=hide (And.intro h3 (And.intro h5 (And.intro h6 trivial)));clear h3 h5 h6
          go_wp2_with (first | (go_at_call 137;refine (dS _ _).mono ?_;rintro e w1 ⟨rfl,hb1⟩;have hB1:=hB.call (by simp) hb1;have hF:=hB1.aj rfl;have k4:=hF.cell (j:=4) rfl;have S9:=hF.frozen 4;have k6:=hF.cell (j:=6) rfl;have UQ:=hF.frozen 6;have k7:=hF.cell (j:=7) rfl;have Px:=hF.frozen 7;rw [hfr.out] at k7))
          go_ret;exact ⟨aI (by have oM:=hfr.out;obtain ⟨h3,h5,h6,_⟩:=HH.out;first | (simp [Sk.callable,oM,h3,h5,h6];done) | (simp [Sk.callable,oM,h3,h5,h6];omega) | (rw [Bool.eq_iff_iff];simp [Sk.callable,oM,h3,h5,h6];omega)),hB1.bw⟩
        · have Ue:=(show decide (s.colour<Sk.value b)=false from decide_eq_false h6)
          have HH:=hide (And.intro h3 (And.intro h5 (And.intro h6 trivial)));clear h3 h5 h6
          go_wp2_with (first | (go_at_call 137;refine (dS _ _).mono ?_;rintro e w1 ⟨rfl,hb1⟩;have hB1:=hB.call (by simp) hb1;have hF:=hB1.aj rfl;have k4:=hF.cell (j:=4) rfl;have S9:=hF.frozen 4;have k6:=hF.cell (j:=6) rfl;have UQ:=hF.frozen 6;have k7:=hF.cell (j:=7) rfl;have Px:=hF.frozen 7;rw [hfr.out] at k7))
          go_ret;exact ⟨aI (by have oM:=hfr.out;obtain ⟨h3,h5,h6,_⟩:=HH.out;first | (simp [Sk.callable,oM,h3,h5,h6];done) | (simp [Sk.callable,oM,h3,h5,h6];omega) | (rw [Bool.eq_iff_iff];simp [Sk.callable,oM,h3,h5,h6];omega)),hB1.bw⟩
      · have Uc:=wf h5
        have HH:=hide (And.intro h3 (And.intro h5 trivial));clear h3 h5
        go_wp2_with (first | (go_at_call 137;refine (dS _ _).mono ?_;rintro e w1 ⟨rfl,hb1⟩;have hB1:=hB.call (by simp) hb1;have hF:=hB1.aj rfl;have k4:=hF.cell (j:=4) rfl;have S9:=hF.frozen 4;have k6:=hF.cell (j:=6) rfl;have UQ:=hF.frozen 6;have k7:=hF.cell (j:=7) rfl;have Px:=hF.frozen 7;rw [hfr.out] at k7))
        go_ret;exact ⟨aI (by have oM:=hfr.out;obtain ⟨h3,h5,_⟩:=HH.out;first | (simp [Sk.callable,oM,h3,h5];done) | (simp [Sk.callable,oM,h3,h5];omega) | (rw [Bool.eq_iff_iff];simp [Sk.callable,oM,h3,h5];omega)),hB1.bw⟩
  · have hfr:=hide hf0
    clear hf0
    go_wp2_with (first | (go_at_call 137;refine (dS _ _).mono ?_;rintro e w1 ⟨rfl,hb1⟩;have hB1:=hB.call (by simp) hb1;have hF:=hB1.aj rfl;have k4:=hF.cell (j:=4) rfl;have S9:=hF.frozen 4;have k6:=hF.cell (j:=6) rfl;have UQ:=hF.frozen 6;have k7:=hF.cell (j:=7) rfl;have Px:=hF.frozen 7;rw [hfr.out] at k7))
    go_ret;exact ⟨aI (by have oM:=hfr.out;first | (simp [Sk.callable,oM];done) | (simp [Sk.callable,oM];omega) | (rw [Bool.eq_iff_iff];simp [Sk.callable,oM];omega)),hB1.bw⟩
theorem xK (s:Sk.State) (e:En) (w:World):Calls Tryz.prog 184 #[lJ s,wC e] w fun e_ w'=>e_= .returned (.int .i64 (Sk.worth s e.x))∧Below w.heap.size w w':=by
 go_enter Tryz.func184,Tryz.ntmps184
 go_upto_region 0 with (fail)
 go_cut [2,3,4] (fun v2 v3 v4 wx=>v2=ptr w.heap.size∧v3=ptr (w.heap.size+1)∧v4= .int .i64 0∧aC w wx [(aQ s,26),(fC e,41)])
 case first=>
  go_wp2;go_meet;exact ⟨rfl,rfl,rfl,(((aC.nil w).new (by simp) (aQ s) _).new (by simp) (fC e) _)⟩
 case rest=>
  obtain ⟨rfl,rfl,rfl,hB⟩:=hcut;have hF:=hB.aj rfl;have hX:=hB.get 1 rfl;have k4:=hF.cell (j:=4) rfl;have S9:=hF.frozen 4;have k6:=hF.cell (j:=6) rfl;have UQ:=hF.frozen 6;have x1:=hX.cell (j:=1) rfl;have xf1:=hX.frozen 1
  by_cases h7:s.phase=Sk.gu
  · have Uh:=wt h7
    have HH:=hide (And.intro h7 trivial);clear h7
    go_wp2_with (first | (go_at_call 137;refine (dS _ _).mono ?_;rintro e w1 ⟨rfl,hb1⟩;have hB:=hB.call (by simp) hb1))
    all_goals
     go_ret;exact ⟨bG (by obtain ⟨h7,_⟩:=HH.out;first | (simp [Sk.worth,h7];done) | (simp [Sk.worth,h7];omega) | (rw [Bool.eq_iff_iff];simp [Sk.worth,h7];omega)),hB.bw⟩
  · have Ug:=wf h7
    by_cases h8:s.phase=Sk.bV
    · have Ze:=wt h8
      have HH:=hide (And.intro h7 (And.intro h8 trivial));clear h7 h8
      go_wp2_with (first | (go_at_call 137;refine (dS _ _).mono ?_;rintro e w1 ⟨rfl,hb1⟩;have hB:=hB.call (by simp) hb1))
      all_goals
       go_ret;exact ⟨bG (by obtain ⟨h7,h8,_⟩:=HH.out;first | (simp [Sk.worth,h7,h8];done) | (simp [Sk.worth,h7,h8];omega) | (rw [Bool.eq_iff_iff];simp [Sk.worth,h7,h8];omega)),hB.bw⟩
    · have Zd:=wf h8
      have HH:=hide (And.intro h7 (And.intro h8 trivial));clear h7 h8
      go_wp2_with (first | (go_at_call 137;refine (dS _ _).mono ?_;rintro e w1 ⟨rfl,hb1⟩;have hB:=hB.call (by simp) hb1))
      all_goals
       go_ret;exact ⟨bG (by obtain ⟨h7,h8,_⟩:=HH.out;first | (simp [Sk.worth,h7,h8];done) | (simp [Sk.worth,h7,h8];omega) | (rw [Bool.eq_iff_iff];simp [Sk.worth,h7,h8];omega)),hB.bw⟩
theorem A8 (s:Sk.State) (e:En) (b:ByteArray) (hc:0≤s.colour∧s.colour≤7) (w:World):Calls Tryz.prog 185 #[lJ s,wC e,.string b] w fun e_ w'=>e_= .returned (.bool (Sk.wanted s e.x b))∧Below w.heap.size w w':=by
 go_enter Tryz.func185,Tryz.ntmps185
 go_upto_region 0 with (fail)
 go_cut [3,4,6] (fun v3 v4 v6 wx=>v3=ptr w.heap.size∧v4=ptr (w.heap.size+1)∧v6= .bool false∧aC w wx [(aQ s,26),(fC e,41)])
 case first=>
  go_wp2;go_meet;exact ⟨rfl,rfl,rfl,(((aC.nil w).new (by simp) (aQ s) _).new (by simp) (fC e) _)⟩
 case rest=>
  obtain ⟨rfl,rfl,rfl,hB⟩:=hcut;have hF:=hB.aj rfl;have hX:=hB.get 1 rfl;have k4:=hF.cell (j:=4) rfl;have S9:=hF.frozen 4;have x1:=hX.cell (j:=1) rfl;have xf1:=hX.frozen 1
  by_cases h9:b=e.x.called
  · have Zg:=mD h9
    have ahD:=mD h9.symm
    by_cases h10:e.x.called=Sk.bQ
    · have VO:=wt h10
      by_cases h11:s.phase=Sk.bV
      · have VQ:=wt h11
        have HH:=hide (And.intro h9 (And.intro h10 (And.intro h11 trivial)));clear h9 h10 h11
        go_wp2_with (first | ((with_reducible refine dh 26 3 ?_);refine dO (hB.aj rfl) Tryz.underlying26 ak ?_) | ((with_reducible refine iV 26 3 ?_);refine nO (hB.aj rfl) Tryz.underlying26 ak ?_) | (go_at_call 186;refine (kS s hc _).mono ?_;rintro e1 w1 ⟨A1,c1,rfl,hr1,hb1⟩;have hB:=hB.call (by simp) hb1) | (go_at_call 59;refine (gZ _ A1 c1 (Sk.on s) b _ hr1).mono ?_;rintro e2 w2 ⟨rfl,rfl⟩))
        all_goals
         go_ret;exact ⟨aI (by obtain ⟨h9,h10,h11,_⟩:=HH.out;first | (simp [Sk.wanted,h9,h10,h11];done) | (simp [Sk.wanted,h9,h10,h11];omega) | (rw [Bool.eq_iff_iff];simp [Sk.wanted,h9,h10,h11];omega)),hB.bw⟩
      · have VP:=wf h11
        have HH:=hide (And.intro h9 (And.intro h10 (And.intro h11 trivial)));clear h9 h10 h11
        go_wp2_with (first | ((with_reducible refine dh 26 3 ?_);refine dO (hB.aj rfl) Tryz.underlying26 ak ?_) | ((with_reducible refine iV 26 3 ?_);refine nO (hB.aj rfl) Tryz.underlying26 ak ?_) | (go_at_call 186;refine (kS s hc _).mono ?_;rintro e1 w1 ⟨A1,c1,rfl,hr1,hb1⟩;have hB:=hB.call (by simp) hb1) | (go_at_call 59;refine (gZ _ A1 c1 (Sk.on s) b _ hr1).mono ?_;rintro e2 w2 ⟨rfl,rfl⟩))
        all_goals
         go_ret;exact ⟨aI (by obtain ⟨h9,h10,h11,_⟩:=HH.out;first | (simp [Sk.wanted,h9,h10,h11];done) | (simp [Sk.wanted,h9,h10,h11];omega) | (rw [Bool.eq_iff_iff];simp [Sk.wanted,h9,h10,h11];omega)),hB.bw⟩
    · have VN:=wf h10
      have HH:=hide (And.intro h9 (And.intro h10 trivial));clear h9 h10
      go_wp2_with (first | ((with_reducible refine dh 26 3 ?_);refine dO (hB.aj rfl) Tryz.underlying26 ak ?_) | ((with_reducible refine iV 26 3 ?_);refine nO (hB.aj rfl) Tryz.underlying26 ak ?_) | (go_at_call 186;refine (kS s hc _).mono ?_;rintro e1 w1 ⟨A1,c1,rfl,hr1,hb1⟩;have hB:=hB.call (by simp) hb1) | (go_at_call 59;refine (gZ _ A1 c1 (Sk.on s) b _ hr1).mono ?_;rintro e2 w2 ⟨rfl,rfl⟩))
      all_goals
       go_ret;exact ⟨aI (by obtain ⟨h9,h10,_⟩:=HH.out;first | (simp [Sk.wanted,h9,h10];done) | (simp [Sk.wanted,h9,h10];omega) | (rw [Bool.eq_iff_iff];simp [Sk.wanted,h9,h10];omega)),hB.bw⟩
  · have Zf:=mg h9
    have ahw:=mg (fun e=>h9 e.symm)
    by_cases h12:s.phase=Sk.bV
    · have VT:=wt h12
      have HH:=hide (And.intro h9 (And.intro h12 trivial));clear h9 h12
      go_wp2_with (first | ((with_reducible refine dh 26 3 ?_);refine dO (hB.aj rfl) Tryz.underlying26 ak ?_) | ((with_reducible refine iV 26 3 ?_);refine nO (hB.aj rfl) Tryz.underlying26 ak ?_) | (go_at_call 186;refine (kS s hc _).mono ?_;rintro e1 w1 ⟨A1,c1,rfl,hr1,hb1⟩;have hB:=hB.call (by simp) hb1) | (go_at_call 59;refine (gZ _ A1 c1 (Sk.on s) b _ hr1).mono ?_;rintro e2 w2 ⟨rfl,rfl⟩))
      all_goals
       go_ret;exact ⟨aI (by obtain ⟨h9,h12,_⟩:=HH.out;first | (simp [Sk.wanted,h9,h12];done) | (simp [Sk.wanted,h9,h12];omega) | (rw [Bool.eq_iff_iff];simp [Sk.wanted,h9,h12];omega)),hB.bw⟩
    · have VR:=wf h12
      have HH:=hide (And.intro h9 (And.intro h12 trivial));clear h9 h12
      go_wp2_with (first | ((with_reducible refine dh 26 3 ?_);refine dO (hB.aj rfl) Tryz.underlying26 ak ?_) | ((with_reducible refine iV 26 3 ?_);refine nO (hB.aj rfl) Tryz.underlying26 ak ?_) | (go_at_call 186;refine (kS s hc _).mono ?_;rintro e1 w1 ⟨A1,c1,rfl,hr1,hb1⟩;have hB:=hB.call (by simp) hb1) | (go_at_call 59;refine (gZ _ A1 c1 (Sk.on s) b _ hr1).mono ?_;rintro e2 w2 ⟨rfl,rfl⟩))
      all_goals
       go_ret;exact ⟨aI (by obtain ⟨h9,h12,_⟩:=HH.out;first | (simp [Sk.wanted,h9,h12];done) | (simp [Sk.wanted,h9,h12];omega) | (rw [Bool.eq_iff_iff];simp [Sk.wanted,h9,h12];omega)),hB.bw⟩
def brk (i:Int):List Bool→Int
 | []=>0
 | b::l=>if b then brk (i+1) l else i
theorem NT {l:List Bool} {k:Nat} (hk:k<l.length) (i:Int):brk i (l.drop k)=if l[k] then brk (i+1) (l.drop (k+1)) else i:=by
 rw [List.drop_eq_getElem_cons hk,brk]
def nX (g:Nat) (lb:Array Value) (b:Bool) (w:World):Prop:=
 (∀ args w,(callFunc g args).run Tryz.prog w= .ok (.enter g args) w)∧∀ W,Below w.heap.size w W→Calls Tryz.prog g lb W fun e w'=>e= .returned (.bool b)∧Below w.heap.size w w'
theorem EZ (g:Nat) (lb:Array Value) (b:Bool) (w W:World) (h:nX g lb b w) (hb:Below w.heap.size w W):
 Calls Tryz.prog 192 #[.func (.func g) #[] lb] W fun e w'=>e= .returned (.bool (!b))∧Below w.heap.size w w':=by
 obtain ⟨eg,hq⟩:=h;have hcall:=hq W hb;clear hq
 go_enter Tryz.func192,Tryz.ntmps192
 go_wp2_with (go_at_fn g;refine hcall.mono ?_;rintro e w2 ⟨rfl,hb2⟩)
 go_ret;exact ⟨rfl,hb2⟩
theorem Dx (b o n c:Nat) (g:Nat→Nat) (lb:Nat→Array Value) (p:List Bool) (w:World) (hn:p.length=n) (hc1:n≤1000) (hb:b<w.heap.size)
 (hc:∀ j,j<n→w.cell? ⟨b,o+j,none⟩=some (.func (.func (g j)) #[] (lb j)))
 (hq:∀ j (hj:j<p.length),(∀ i (hi:i<p.length),i<j→p[i]=true)→nX (g j) (lb j) p[j] w):
 Calls Tryz.prog 191 #[.slice (some ⟨b,o,none⟩) n c,.func (.func 192) #[] #[]] w fun r w'=>r= .returned (.int .i64 (brk 1 p - 1))∧Below w.heap.size w w':=by
 go_enter Tryz.func191,Tryz.ntmps191
 go_wp2
 go_loopw [8] (fun i wr=>∃ k:Nat,k≤n∧i= .int .i64 k∧brk 1 p=brk (k+1) (p.drop k)∧Aside (∀ i (hi:i<p.length),i<k→p[i]=true)∧Aside (Below w.heap.size w wr)) (fun i _=>n - (intOf i).toNat)
 case atStart=>exact ⟨0,Nat.zero_le _,rfl,by simp,fun i _ h=>absurd h (by omega),Below.refl _ _⟩
 case round=>
  obtain ⟨k,hk,rfl,hx,hall,hbw⟩:=hrel
  by_cases hlt:k<n
  · have hkp:k<p.length:=by omega
    rw [NT hkp] at hx;have hck:wr.cell? ⟨b,o+k,none⟩=some (.func (.func (g k)) #[] (lb k)):=(hbw.out.cell (p:=⟨b,o+k,none⟩) hb).trans (hc k hlt);have hcall:=EZ _ _ _ w wr (hq k hkp hall.out) hbw.out;obtain ⟨gk,hgk⟩:∃ x,g k=x:=⟨_,rfl⟩;obtain ⟨lk,hlk⟩:∃ x,lb k=x:=⟨_,rfl⟩;rw [hgk,hlk] at hck hcall;clear hc hq hgk hlk
    cases hp:p[k] with
    | true=>
      rw [hp] at hcall hx;rw [if_pos rfl] at hx;have HP:=hide hp;have HX:=hide hx;clear hx hp
      go_wp2_with (go_at_call 192;refine hcall.mono ?_;rintro e w2 ⟨rfl,hb2⟩)
      go_roundw
      case rel=>
       refine ⟨k+1,by omega,by go_num,by rw [HX.out];congr 1,(show Aside _ from fun i hi h=>?_),hb2⟩
       by_cases e:i=k
       · subst e;exact HP.out
       · exact hall.out i hi (by omega)
      case measure=>simp [intOf];omega
    | false=>
      rw [hp] at hcall hx;have HX:=hide hx;clear hx hp
      go_wp2_with (go_at_call 192;refine hcall.mono ?_;rintro e w2 ⟨rfl,hb2⟩)
      go_ret;exact ⟨bG (by rw [HX.out];simp),hb2⟩
  · have hz:brk 1 p=0:=by rw [hx,List.drop_of_length_le (by omega),brk]
    have HX:=hide hz;clear hx hz;go_wp2;go_ret;exact ⟨bG (by rw [HX.out];rfl),hbw.out⟩
theorem NS:∀ (p:List Bool) (i:Int),0<i→0≤brk i p∧brk i p≤i+p.length
 | [],i,h=>by rw [brk];simp;omega
 | b::l,i,h=>by
   rw [brk]
   have:=NS l (i+1) (by omega)
   split
   · simp only [List.length_cons];omega
   · simp;omega
theorem H9 (b o n c:Nat) (g:Nat→Nat) (lb:Nat→Array Value) (p:List Bool) (w:World) (hn:p.length=n) (hc1:n≤1000) (hb:b<w.heap.size)
 (hc:∀ j,j<n→w.cell? ⟨b,o+j,none⟩=some (.func (.func (g j)) #[] (lb j)))
 (hq:∀ j (hj:j<p.length),(∀ i (hi:i<p.length),i<j→p[i]=true)→nX (g j) (lb j) p[j] w):
 Calls Tryz.prog 123 #[.slice (some ⟨b,o,none⟩) n c] w fun r w'=>r= .returned (.int .i64 (brk 1 p))∧Below w.heap.size w w':=by
 have hbd:=NS p 1 (by omega);have HC:=hide (Dx b o n c g lb p w hn hc1 hb hc hq);obtain ⟨B,hB⟩:∃ B,brk 1 p=B:=⟨_,rfl⟩;rw [hB] at HC hbd ⊢;clear hc hq hB
 go_enter Tryz.func123,Tryz.ntmps123
 go_wp2_with (go_at_call 191;refine (HC.out).mono ?_;rintro e w2 ⟨rfl,hb2⟩)
 go_ret;exact ⟨bG (by go_num),hb2⟩
theorem aC.keeps {w W:World} {L:List (List Value × TypeId)} (h:aC w W L) (n:Nat) (hn:L.length=n) (h0:0<n):Keeps w W n W:=
 ⟨by have:=h.size (by omega);omega,fun _ _ _=>rfl,fun _ _ _=>rfl,h.bw⟩
def Ak (a n f1 f2 f3 f4 f5:Nat):List Value:=[.slice (some ⟨a,0,none⟩) n n,.func (.func f1) #[] #[],.func (.func f2) #[] #[],.func (.func f3) #[] #[],.func (.func f4) #[] #[],.func (.func f5) #[] #[]]
theorem DN (k:ByteArray):∀ args w,(callFunc (jk k) args).run Tryz.prog w= .ok (.enter (jk k) args) w:=by
 unfold jk
 split
 · exact enters_of Tryz.func108 (by kernel_rfl) rfl
 · split
   · exact enters_of Tryz.func113 (by kernel_rfl) rfl
   · exact enters_of Tryz.func118 (by kernel_rfl) rfl
theorem BG (k:ByteArray):∀ args w,(callFunc (gV k) args).run Tryz.prog w= .ok (.enter (gV k) args) w:=by
 unfold gV
 split
 · exact enters_of Tryz.func109 (by kernel_rfl) rfl
 · split
   · exact enters_of Tryz.func114 (by kernel_rfl) rfl
   · exact enters_of Tryz.func119 (by kernel_rfl) rfl
theorem BF (k:ByteArray):∀ args w,(callFunc (gU k) args).run Tryz.prog w= .ok (.enter (gU k) args) w:=by
 unfold gU
 split
 · exact enters_of Tryz.func110 (by kernel_rfl) rfl
 · split
   · exact enters_of Tryz.func115 (by kernel_rfl) rfl
   · exact enters_of Tryz.func115 (by kernel_rfl) rfl
theorem tV (k:ByteArray):∀ args w,(callFunc (gK k) args).run Tryz.prog w= .ok (.enter (gK k) args) w:=by
 unfold gK
 split
 · exact enters_of Tryz.func111 (by kernel_rfl) rfl
 · split
   · exact enters_of Tryz.func116 (by kernel_rfl) rfl
   · exact enters_of Tryz.func120 (by kernel_rfl) rfl
theorem mF (k:ByteArray):∀ args w,(callFunc (gq k) args).run Tryz.prog w= .ok (.enter (gq k) args) w:=by
 unfold gq
 split
 · exact enters_of Tryz.func112 (by kernel_rfl) rfl
 · split
   · exact enters_of Tryz.func117 (by kernel_rfl) rfl
   · exact enters_of Tryz.func121 (by kernel_rfl) rfl
theorem fits_any (g:Sk.Game) (w:World):Calls Tryz.prog (jk g.kind) #[rF g] w fun e w'=>e= .returned (.bool (Sk.fits g))∧Below w.heap.size w w':=by
 unfold jk Sk.fits
 split
 · exact yU g w
 · split
   · exact uT g w
   · exact Bj g w
theorem lS {w W:World} {n:Nat} (h:GM w W 3) (hn:w.heap.size=n):W.heap[n]? =some (.map (gE n 3) 3):=by subst hn;exact h.mp
theorem kT {w W:World} {n:Nat} (h:GM w W 3) (hn:w.heap.size=n) (o:Obj):(W.alloc o).heap[n]? =some (.map (gE n 3) 3):=by
 subst hn;exact (heap_alloc_old W o (by have:=h.sz;omega)).trans h.mp
theorem yZ {g b:Nat} (hne:b≠g):∀ (vs:List Value) (o:Nat) (W:World),(W.setCells g o vs).heap[b]? =W.heap[b]?
 | [],_,_=>rfl
 | v::r,o,W=>(yZ hne r (o+1) _).trans (Below.heap_setCell W ⟨g,o,none⟩ v b hne)
theorem Keeps.fK {w B W:World} {n g:Nat} (h:Keeps w B n W) (hg:w.heap.size+n≤g) (vs:List Value) (o:Nat):Keeps w B n (W.setCells g o vs):=
 ⟨by rw [setCells_size];exact h.sz,fun p q hp=>(kV vs o p q (by omega)).trans (h.cell p q hp),fun p q hp=>by
     rw [show (W.setCells g o vs).frozen? ⟨p,q,none⟩=W.frozen? ⟨p,q,none⟩ by simp only [World.frozen?,yZ (show p≠g by omega)]]
     exact h.frozen p q hp,below_setCells g (by omega) vs o w W h.bw⟩
def zo:List Value:=[.slice none 0 0,.nilFunc,.nilFunc,.nilFunc,.nilFunc,.nilFunc]
theorem kD (a n f1 f2 f3 f4 f5:Nat):∀ v∈Ak a n f1 f2 f3 f4 f5,v.oneCell'=true:=by simp [Ak,Value.oneCell']
theorem xM:∀ v∈zo,v.oneCell'=true:=by simp [zo,Value.oneCell']
theorem zC (g:Sk.Game) (w:World):Calls Tryz.prog 36 #[rF g] w fun e w'=>e= .returned (.int .i64 (Sk.eU g))∧Below w.heap.size w w':=by
 go_enter Tryz.func36,Tryz.ntmps36
 go_upto_region 0 with (fail)
 go_cut [1,2] (fun v1 v2 wx=>v1=ptr w.heap.size∧v2= .int .i64 0∧aC w wx [(dN g,23)])
 case first=>
  go_wp2;go_meet;exact ⟨rfl,rfl,((aC.nil w).new (by simp) (dN g) _)⟩
 case rest=>
  obtain ⟨rfl,rfl,hB⟩:=hcut;have hF:=hB.aj rfl;have k0:=hF.cell (j:=0) rfl;have K0:=hB.keeps 1 rfl (by omega)
  cases hk:Sk.jv g.kind with
  | true=>
    go_upto_region 1 with (fail)
    go_cut [3,4,5] (fun v3 v4 v5 wx=>∃ D N,v3=ptr D∧v4= .bool true∧Held wx D (Ak (N+1+gI g.kind) (nH (gI g.kind)).length (jk g.kind) (gV g.kind) (gU g.kind) (gK g.kind) (gq g.kind)) 141∧aC w wx [(dN g,23)])
    case first=>
     refine wp_region_held_drew (S:=(fun w':World=>∀ p q,p<w.heap.size+1→w'.cell? ⟨p,q,none⟩=wc.cell? ⟨p,q,none⟩)) (by kernel_rfl) ?bU (fun hHeld=>?_)
     case bU=>exact K0.cell
     refine aA 1 ?_;refine aA 2 ?_;refine iF 0 7 (fun K hK=>?_) fun K hK=>?_
     · go_simp
       (first | (go_at_call 58;refine (fV _).mono ?_;rintro e w1 ⟨rfl,g3⟩;have hl1:=fB (lS (n:=wc.heap.size) g3 (by simp)) hk true;have hl2:=fun o=>fB (kT (n:=wc.heap.size) g3 (by simp) o) hk true;have K1:=(K0.drew).call g3.bw;have mA:=trivial;have hZ:=Held.new w1 zo 141;have jr:w.heap.size+1≤w1.heap.size:=K1.sz;have hB1:=(hB.drew).call (by simp) g3.bw) | (go_at_call 58;refine (fV _).mono ?_;rintro e w1 ⟨rfl,g3⟩;have hl1:=fB (lS (n:=wc.heap.size+1) g3 (by simp)) hk true;have hl2:=fun o=>fB (kT (n:=wc.heap.size+1) g3 (by simp) o) hk true;have K1:=(K0.drew.alloc _).call g3.bw;have mB:=trivial;have hZ:=(Held.newAt (g:=wc.heap.size) wc.drew zo 141 rfl).below g3.bw;have jr:w.heap.size+1≤wc.heap.size:=K0.sz;have hB1:=(hB.drew.alloc (by simp) _).call (by simp) g3.bw))
       refine au hK (K1.cell) fun hHeld=>?_;clear hK K;refine iF 3 7 (fun K hK=>?_) fun K hK=>?_
       · go_simp
         refine au hK (by first | exact K1.cell | exact (K1.alloc _).cell) fun hHeld=>?_;clear hK K;refine aA 4 ?_;refine aA 5 ?_;refine aA 6 ?_;refine aB 7 fun K hK=>?_;go_simp;refine au hK (by first | (have _m:=mA;exact (K1.alloc _).cell) | exact (K0.drew.alloc _).cell) fun hHeld=>?_;clear hK K;refine aB 8 fun K hK=>?_
         first | (have _m:=mA;refine aG hZ (Ak (wc.heap.size+1+gI g.kind) (nH (gI g.kind)).length (jk g.kind) (gV g.kind) (gU g.kind) (gK g.kind) (gq g.kind)) rfl rl_info (kD _ _ _ _ _ _ _) (.tmp 3) (.tmp 10) rfl rfl rfl ?_) | (have _m:=mB;refine aG hZ (Ak ((wc.heap.size+1)+1+gI g.kind) (nH (gI g.kind)).length (jk g.kind) (gV g.kind) (gU g.kind) (gK g.kind) (gq g.kind)) rfl rl_info (kD _ _ _ _ _ _ _) (.tmp 3) (.tmp 10) rfl rfl rfl ?_)
         refine au hK (by first | (have _m:=mA;exact ((K1.alloc _).fK jr _ _).cell) | (have _m:=mB;exact (K1.fK jr _ _).cell)) fun hHeld=>?_;clear hK K;refine aA 9 ?_;refine wpAnyH_done (by kernel_rfl) ?_ _;go_wp2;go_meet;exact ⟨_,_,rfl,rfl,hZ.whole _ rfl,by first | (have _m:=mA;exact ((hB1.alloc (by simp) _).fK (by simpa using jr) _ _)) | (have _m:=mB;exact (hB1.fK (by simpa using jr) _ _))⟩
       · go_simp
         refine au hK (by first | (have _m:=mA;exact (K1.alloc _).cell) | exact (K0.drew.alloc _).cell) fun hHeld=>?_;clear hK K;refine aB 3 fun K hK=>?_;go_simp;refine au hK (by first | exact K1.cell | exact (K1.alloc _).cell) fun hHeld=>?_;clear hK K;refine aA 4 ?_;refine aA 5 ?_;refine aA 6 ?_;refine aB 8 fun K hK=>?_
         first | (have _m:=mA;refine aG hZ (Ak (wc.heap.size+1+gI g.kind) (nH (gI g.kind)).length (jk g.kind) (gV g.kind) (gU g.kind) (gK g.kind) (gq g.kind)) rfl rl_info (kD _ _ _ _ _ _ _) (.tmp 3) (.tmp 10) rfl rfl rfl ?_) | (have _m:=mB;refine aG hZ (Ak ((wc.heap.size+1)+1+gI g.kind) (nH (gI g.kind)).length (jk g.kind) (gV g.kind) (gU g.kind) (gK g.kind) (gq g.kind)) rfl rl_info (kD _ _ _ _ _ _ _) (.tmp 3) (.tmp 10) rfl rfl rfl ?_)
         refine au hK (by first | (have _m:=mA;exact ((K1.alloc _).fK jr _ _).cell) | (have _m:=mB;exact (K1.fK jr _ _).cell)) fun hHeld=>?_;clear hK K;refine aA 9 ?_;refine wpAnyH_done (by kernel_rfl) ?_ _;go_wp2;go_meet;exact ⟨_,_,rfl,rfl,hZ.whole _ rfl,by first | (have _m:=mA;exact ((hB1.alloc (by simp) _).fK (by simpa using jr) _ _)) | (have _m:=mB;exact (hB1.fK (by simpa using jr) _ _))⟩
     · go_simp
       refine au hK (by first | (have _m:=mA;exact (K1.alloc _).cell) | exact (K0.drew.alloc _).cell) fun hHeld=>?_;clear hK K;refine aB 0 fun K hK=>?_;go_simp
       (first | (go_at_call 58;refine (fV _).mono ?_;rintro e w1 ⟨rfl,g3⟩;have hl1:=fB (lS (n:=wc.heap.size) g3 (by simp)) hk true;have hl2:=fun o=>fB (kT (n:=wc.heap.size) g3 (by simp) o) hk true;have K1:=(K0.drew).call g3.bw;have mA:=trivial;have hZ:=Held.new w1 zo 141;have jr:w.heap.size+1≤w1.heap.size:=K1.sz;have hB1:=(hB.drew).call (by simp) g3.bw) | (go_at_call 58;refine (fV _).mono ?_;rintro e w1 ⟨rfl,g3⟩;have hl1:=fB (lS (n:=wc.heap.size+1) g3 (by simp)) hk true;have hl2:=fun o=>fB (kT (n:=wc.heap.size+1) g3 (by simp) o) hk true;have K1:=(K0.drew.alloc _).call g3.bw;have mB:=trivial;have hZ:=(Held.newAt (g:=wc.heap.size) wc.drew zo 141 rfl).below g3.bw;have jr:w.heap.size+1≤wc.heap.size:=K0.sz;have hB1:=(hB.drew.alloc (by simp) _).call (by simp) g3.bw))
       refine au hK (K1.cell) fun hHeld=>?_;clear hK K;refine aB 3 fun K hK=>?_;go_simp;refine au hK (by first | exact K1.cell | exact (K1.alloc _).cell) fun hHeld=>?_;clear hK K;refine aA 4 ?_;refine aA 5 ?_;refine aA 6 ?_;refine aB 8 fun K hK=>?_
       first | (have _m:=mA;refine aG hZ (Ak (wc.heap.size+1+gI g.kind) (nH (gI g.kind)).length (jk g.kind) (gV g.kind) (gU g.kind) (gK g.kind) (gq g.kind)) rfl rl_info (kD _ _ _ _ _ _ _) (.tmp 3) (.tmp 10) rfl rfl rfl ?_) | (have _m:=mB;refine aG hZ (Ak ((wc.heap.size+1)+1+gI g.kind) (nH (gI g.kind)).length (jk g.kind) (gV g.kind) (gU g.kind) (gK g.kind) (gq g.kind)) rfl rl_info (kD _ _ _ _ _ _ _) (.tmp 3) (.tmp 10) rfl rfl rfl ?_)
       refine au hK (by first | (have _m:=mA;exact ((K1.alloc _).fK jr _ _).cell) | (have _m:=mB;exact (K1.fK jr _ _).cell)) fun hHeld=>?_;clear hK K;refine aA 9 ?_;refine wpAnyH_done (by kernel_rfl) ?_ _;go_wp2;go_meet;exact ⟨_,_,rfl,rfl,hZ.whole _ rfl,by first | (have _m:=mA;exact ((hB1.alloc (by simp) _).fK (by simpa using jr) _ _)) | (have _m:=mB;exact (hB1.fK (by simpa using jr) _ _))⟩
    case rest=>
     obtain ⟨D,N,rfl,rfl,hR,hB1⟩:=hcut;clear hB hF k0 K0
     have hc:Sk.eU g=if Sk.fits g=true then 0 else 3:=by unfold Sk.eU;rw [if_neg (by rw [hk];decide)]
     have HC:=hide hc;have f1:=hR.cell (j:=1) rfl;have eg:=DN g.kind;have hf:=fits_any g;obtain ⟨gf,hgf⟩:∃ x,jk g.kind=x:=⟨_,rfl⟩;rw [hgf] at f1 eg hf;have HFI:=hide hf;clear hf hgf hc hk hR
     cases hy:Sk.fits g
     all_goals
      rw [hy] at HFI HC;clear hy
      go_wp2_with (first | ((with_reducible refine dh 23 1 ?_);refine dO (hB1.aj rfl) Tryz.underlying23 fG ?_) | (go_at_fn gf;refine (HFI.out _).mono ?_;rintro e w2 ⟨rfl,hb2⟩) | (go_at_call 25;refine (dJ _ _ _).mono ?_;rintro e oh ⟨rfl,rfl⟩))
      go_ret;exact ⟨bG (by rw [HC.out];rfl),hB1.bw.trans (hb2.mono hB1.bw.size)⟩
  | false=>
    have hc:Sk.eU g=13:=by unfold Sk.eU;rw [if_pos hk]
    go_upto_region 1 with (fail)
    go_cut [3,4,5] (fun v3 v4 v5 wx=>v4= .bool false∧Below w.heap.size w wx)
    case first=>
     refine wp_region_held_drew (S:=(fun w':World=>∀ p q,p<w.heap.size+1→w'.cell? ⟨p,q,none⟩=wc.cell? ⟨p,q,none⟩)) (by kernel_rfl) ?cu (fun hHeld=>?_)
     case cu=>exact K0.cell
     refine aA 1 ?_;refine aA 2 ?_;refine iF 0 7 (fun K hK=>?_) fun K hK=>?_
     · go_simp
       (first | (go_at_call 58;refine (fV _).mono ?_;rintro e w1 ⟨rfl,g3⟩;have hl1:=kJ (lS (n:=wc.heap.size) g3 (by simp)) hk true;have hl2:=fun o=>kJ (kT (n:=wc.heap.size) g3 (by simp) o) hk true;have K1:=(K0.drew).call g3.bw;have mA:=trivial;have hZ:=Held.new w1 zo 141;have jr:w.heap.size+1≤w1.heap.size:=K1.sz;have hB1:=(hB.drew).call (by simp) g3.bw) | (go_at_call 58;refine (fV _).mono ?_;rintro e w1 ⟨rfl,g3⟩;have hl1:=kJ (lS (n:=wc.heap.size+1) g3 (by simp)) hk true;have hl2:=fun o=>kJ (kT (n:=wc.heap.size+1) g3 (by simp) o) hk true;have K1:=(K0.drew.alloc _).call g3.bw;have mB:=trivial;have hZ:=(Held.newAt (g:=wc.heap.size) wc.drew zo 141 rfl).below g3.bw;have jr:w.heap.size+1≤wc.heap.size:=K0.sz;have hB1:=(hB.drew.alloc (by simp) _).call (by simp) g3.bw))
       refine au hK (K1.cell) fun hHeld=>?_;clear hK K;refine iF 3 7 (fun K hK=>?_) fun K hK=>?_
       · go_simp
         refine au hK (by first | exact K1.cell | exact (K1.alloc _).cell) fun hHeld=>?_;clear hK K;refine aA 4 ?_;refine aA 5 ?_;refine aA 6 ?_;refine aB 7 fun K hK=>?_;go_simp;refine au hK (by first | (have _m:=mA;exact (K1.alloc _).cell) | exact (K0.drew.alloc _).cell) fun hHeld=>?_;clear hK K;refine aB 8 fun K hK=>?_
         first | (have _m:=mA;refine aG hZ (zo) rfl rl_info xM (.tmp 3) (.tmp 10) rfl rfl rfl ?_) | (have _m:=mB;refine aG hZ (zo) rfl rl_info xM (.tmp 3) (.tmp 10) rfl rfl rfl ?_)
         refine au hK (by first | (have _m:=mA;exact ((K1.alloc _).fK jr _ _).cell) | (have _m:=mB;exact (K1.fK jr _ _).cell)) fun hHeld=>?_;clear hK K;refine aA 9 ?_;refine wpAnyH_done (by kernel_rfl) ?_ _;go_wp2;go_meet;refine ⟨rfl,aC.bw (L:=[(dN g,23)]) ?_⟩
         first | (have _m:=mA;exact ((hB1.alloc (by simp) _).fK (by simpa using jr) _ _)) | (have _m:=mB;exact (hB1.fK (by simpa using jr) _ _))
       · go_simp
         refine au hK (by first | (have _m:=mA;exact (K1.alloc _).cell) | exact (K0.drew.alloc _).cell) fun hHeld=>?_;clear hK K;refine aB 3 fun K hK=>?_;go_simp;refine au hK (by first | exact K1.cell | exact (K1.alloc _).cell) fun hHeld=>?_;clear hK K;refine aA 4 ?_;refine aA 5 ?_;refine aA 6 ?_;refine aB 8 fun K hK=>?_
         first | (have _m:=mA;refine aG hZ (zo) rfl rl_info xM (.tmp 3) (.tmp 10) rfl rfl rfl ?_) | (have _m:=mB;refine aG hZ (zo) rfl rl_info xM (.tmp 3) (.tmp 10) rfl rfl rfl ?_)
         refine au hK (by first | (have _m:=mA;exact ((K1.alloc _).fK jr _ _).cell) | (have _m:=mB;exact (K1.fK jr _ _).cell)) fun hHeld=>?_;clear hK K;refine aA 9 ?_;refine wpAnyH_done (by kernel_rfl) ?_ _;go_wp2;go_meet;refine ⟨rfl,aC.bw (L:=[(dN g,23)]) ?_⟩
         first | (have _m:=mA;exact ((hB1.alloc (by simp) _).fK (by simpa using jr) _ _)) | (have _m:=mB;exact (hB1.fK (by simpa using jr) _ _))
     · go_simp
       refine au hK (by first | (have _m:=mA;exact (K1.alloc _).cell) | exact (K0.drew.alloc _).cell) fun hHeld=>?_;clear hK K;refine aB 0 fun K hK=>?_;go_simp
       (first | (go_at_call 58;refine (fV _).mono ?_;rintro e w1 ⟨rfl,g3⟩;have hl1:=kJ (lS (n:=wc.heap.size) g3 (by simp)) hk true;have hl2:=fun o=>kJ (kT (n:=wc.heap.size) g3 (by simp) o) hk true;have K1:=(K0.drew).call g3.bw;have mA:=trivial;have hZ:=Held.new w1 zo 141;have jr:w.heap.size+1≤w1.heap.size:=K1.sz;have hB1:=(hB.drew).call (by simp) g3.bw) | (go_at_call 58;refine (fV _).mono ?_;rintro e w1 ⟨rfl,g3⟩;have hl1:=kJ (lS (n:=wc.heap.size+1) g3 (by simp)) hk true;have hl2:=fun o=>kJ (kT (n:=wc.heap.size+1) g3 (by simp) o) hk true;have K1:=(K0.drew.alloc _).call g3.bw;have mB:=trivial;have hZ:=(Held.newAt (g:=wc.heap.size) wc.drew zo 141 rfl).below g3.bw;have jr:w.heap.size+1≤wc.heap.size:=K0.sz;have hB1:=(hB.drew.alloc (by simp) _).call (by simp) g3.bw))
       refine au hK (K1.cell) fun hHeld=>?_;clear hK K;refine aB 3 fun K hK=>?_;go_simp;refine au hK (by first | exact K1.cell | exact (K1.alloc _).cell) fun hHeld=>?_;clear hK K;refine aA 4 ?_;refine aA 5 ?_;refine aA 6 ?_;refine aB 8 fun K hK=>?_
       first | (have _m:=mA;refine aG hZ (zo) rfl rl_info xM (.tmp 3) (.tmp 10) rfl rfl rfl ?_) | (have _m:=mB;refine aG hZ (zo) rfl rl_info xM (.tmp 3) (.tmp 10) rfl rfl rfl ?_)
       refine au hK (by first | (have _m:=mA;exact ((K1.alloc _).fK jr _ _).cell) | (have _m:=mB;exact (K1.fK jr _ _).cell)) fun hHeld=>?_;clear hK K;refine aA 9 ?_;refine wpAnyH_done (by kernel_rfl) ?_ _;go_wp2;go_meet;refine ⟨rfl,aC.bw (L:=[(dN g,23)]) ?_⟩
       first | (have _m:=mA;exact ((hB1.alloc (by simp) _).fK (by simpa using jr) _ _)) | (have _m:=mB;exact (hB1.fK (by simpa using jr) _ _))
    case rest=>
     obtain ⟨rfl,hb⟩:=hcut;have HC:=hide hc;clear hc;go_wp2;go_ret;exact ⟨bG HC.out.symm,hb⟩
def KG (k:ByteArray):ByteArray:=if k=Sk.aK then Sk.gu else Sk.ru
theorem GV {w W:World} (h:GM w W 3) {k:ByteArray} (hk:Sk.jv k=true):W.cell? ⟨w.heap.size+1+gI k,0,none⟩=some (.string (KG k)):=by
 have hi:gI k<3:=by unfold gI;split <;> (try split) <;> omega
 have hh:=h.ph (gI k) hi;refine hh.cell ?_
 unfold gI KG
 split
 · rfl
 · split <;> rfl
theorem TP (k:ByteArray):0<(nH (gI k)).length:=by unfold nH;split <;> simp
theorem Ez (g:Sk.Game) (hk:Sk.jv g.kind=true) (w:World):Calls Tryz.prog 37 #[rF g] w fun e w'=>e= .returned (lJ (Sk.start g))∧Below w.heap.size w w':=by
 have hfd:∀ (a n f1 f2 f3 f4 f5:Nat) (W:World),(Instr.field 141 (Nv a n f1 f2 f3 f4 f5) 0).run Tryz.prog W= .ok (.slice (some ⟨a,0,none⟩) n n) W:=fun _ _ _ _ _ _ _ _=>by kernel_rfl
 go_enter Tryz.func37,Tryz.ntmps37
 go_upto_region 0 with (fail)
 go_cut [1,2] (fun v1 v2 wx=>v1=ptr w.heap.size∧v2=ptr (w.heap.size+1)∧aC w wx [(dN g,23),(aQ Sk.zero,26)])
 case first=>
  go_wp2;go_meet;exact ⟨rfl,rfl,(((aC.nil w).new (by simp) (dN g) _).new (by simp) (aQ Sk.zero) _)⟩
 case rest=>
  obtain ⟨rfl,rfl,hB⟩:=hcut;have hF:=hB.aj rfl;have k0:=hF.cell (j:=0) rfl;have k1:=hF.cell (j:=1) rfl;have K0:=hB.keeps 2 rfl (by omega);have HK:=hide hk;have hpos:=TP g.kind;clear hk
  go_upto_region 1 with (fail)
  go_cut [] (fun wx=>aC w wx [(dN g,23),(aQ (Sk.start g),26)])
  case first=>
   refine wp_region_held_drew (S:=(fun w':World=>∀ p q,p<w.heap.size+1→w'.cell? ⟨p,q,none⟩=wc.cell? ⟨p,q,none⟩)) (by kernel_rfl) ?dF (fun hHeld=>?_)
   case dF=>exact fun p q h=>K0.cell p q (by omega)
   refine tk 1 ?_;refine tk 2 ?_;refine tk 7 ?_;refine tk 8 ?_;refine tr 0 fun K hK=>?_;go_simp
   (go_at_call 58;refine (fV _).mono ?_;rintro e w1 ⟨rfl,g3⟩;have hl1:=fB (lS (n:=wc.heap.size) g3 (by simp)) HK.out false;have K1:=(K0.drew).call g3.bw;have hB1:=(hB.drew).call (by simp) g3.bw;have uz:w1.cell? ⟨wc.heap.size+1+gI g.kind,0,none⟩=_:=GV g3 HK.out)
   refine hK.out _ _ ?abK (fun hHeld=>?_)
   case abK=>(exact fun p q h=>K1.cell p q (by omega))
   clear hK K
   try simp only [Act.put,la,lz,ls]
   refine tr 3 fun K hK=>?_;go_simp;refine hK.out _ _ ?abR (fun hHeld=>?_)
   case abR=>(exact fun p q h=>K1.cell p q (by omega))
   clear hK K
   try simp only [Act.put,la,lz,ls]
   refine tk 4 ?_;refine tk 5 ?_;refine tr 6 fun K hK=>?_;go_simp;refine hK.out _ _ ?abY (fun hHeld=>?_)
   case abY=>(exact fun p q h=>K1.cell p q (by omega))
   clear hK K
   try simp only [Act.put,la,lz,ls]
   refine tk 9 ?_;refine tr 10 fun K hK=>?_;refine aG (hB1.get 1 rfl) (aQ (Sk.start g)) rfl ak (bI _) (.tmp 2) (.tmp 12) rfl rfl rfl ?_;refine hK.out _ _ ?uH (fun hHeld=>?_)
   case uH=>(exact fun p q h=>(kV _ _ p q (by omega)).trans (K1.cell p q (by omega)))
   clear hK K
   try simp only [Act.put,la,lz,ls]
   refine wpAnyH_done (by kernel_rfl) ?_ _;go_wp2;go_meet;exact hB1.put 1 rfl (aQ (Sk.start g)) rfl
  case rest=>
   go_wp2;exact bodyPost_ret (aP (p:=2) (hcut.get 1 rfl) Tryz.underlying26 rfl ak rfl _ rfl) rfl ⟨rfl,hcut.bw⟩
theorem zJ {g:Sk.Game} (h:Sk.eU g=0):Sk.jv g.kind=true:=by
 unfold Sk.eU at h
 cases hk:Sk.jv g.kind
 · rw [if_pos hk] at h;cases h
 · rfl
theorem GU (g:Sk.Game) (w:World):Calls Tryz.prog 20 #[rF g] w fun e w'=>e= .returned (.tuple #[lJ (if Sk.eU g=0 then Sk.start g else Sk.zero),.int .i64 (Sk.eU g)])∧Below w.heap.size w w':=by
 go_enter Tryz.func20,Tryz.ntmps20
 go_upto_region 0 with (fail)
 go_cut [1,2,3] (fun v1 v2 v3 wx=>v1=ptr w.heap.size∧v2=ptr (w.heap.size+1)∧v3= .int .i64 0∧aC w wx [(dN g,23),(aQ Sk.zero,26)])
 case first=>
  go_wp2;go_meet;exact ⟨rfl,rfl,rfl,(((aC.nil w).new (by simp) (dN g) _).new (by simp) (aQ Sk.zero) _)⟩
 case rest=>
  obtain ⟨rfl,rfl,rfl,hB⟩:=hcut
  go_upto_region 1 with (fail)
  go_cut [4] (fun v wx=>v= .int .i64 (Sk.eU g)∧aC w wx [(dN g,23),(aQ Sk.zero,26)])
  case first=>
   go_wp2_with (first | ((with_reducible refine dh 23 1 ?_);refine dO (hB.aj rfl) Tryz.underlying23 fG ?_) | (go_at_call 36;refine (zC g _).mono ?_;rintro e w1 ⟨rfl,hb1⟩;have hB1:=hB.call (by simp) hb1))
   go_meet;exact ⟨rfl,hB1⟩
  case rest=>
   obtain ⟨rfl,hB1⟩:=hcut;clear hB
   by_cases hz:Sk.eU g=0
   · have hz':(Sk.eU g != 0)=false:=by simp [hz]
     have HK:=hide (zJ hz);have HZ:=hide hz;clear hz
     go_wp2_with (first | ((with_reducible refine dh 23 1 ?_);refine dO (hB1.aj rfl) Tryz.underlying23 fG ?_) | (go_at_call 37;refine (Ez g HK.out _).mono ?_;rintro e w2 ⟨rfl,hb2⟩;have hB2:=hB1.call (by simp) hb2) | ((with_reducible refine isS 26 2 12 ?_);refine iZ (hB2.get 1 rfl) (aQ (Sk.start g)) ak (bI _) ?_))
     have hE:=hB2.put 1 rfl (aQ (Sk.start g)) rfl;refine bodyPost_ret (jW (p:=2) (hE.get 1 rfl) Tryz.underlying26 rfl ak rfl _ rfl) rfl ⟨?_,hE.bw⟩
     rfl
   · have hz':(Sk.eU g != 0)=true:=by simp [hz]
     have HZ:=hide hz;clear hz
     go_wp2_with (first | ((with_reducible refine isS 26 2 9 ?_);refine iZ (hB1.get 1 rfl) (aQ Sk.zero) ak (bI _) ?_))
     have hE:=hB1.put 1 rfl (aQ Sk.zero) rfl;refine bodyPost_ret (jW (p:=2) (hE.get 1 rfl) Tryz.underlying26 rfl ak rfl _ rfl) rfl ⟨?_,hE.bw⟩
     rfl
theorem Ou (k:ByteArray):gI k<3:=by unfold gI;split <;> (try split) <;> omega
theorem GM.row {w W:World} (h:GM w W 3) (k:ByteArray) {n:Nat} (hn:w.heap.size=n):kF W (fun b=>b=n+1+gI k) (some ⟨n+1+gI k,0,none⟩) (nH (gI k)).length (nH (gI k)):=by
 subst hn
 have hi:gI k<3:=by unfold gI;split <;> (try split) <;> omega
 have hh:=h.ph (gI k) hi
 have hl:(nH (gI k)).length≤3:=by unfold nH;split <;> simp
 exact kF.held (S:=fun b=>b=w.heap.size+1+gI k) hh rfl 0 (nH (gI k)).length (nH (gI k)).length (nH (gI k)) rfl (Nat.le_refl _) (by omega) (fun j u hu=>by rw [Nat.zero_add];exact hu)
theorem kF.fK {S:Nat→Prop} {A:Option Addr} {c g:Nat} {l:List ByteArray} {W:World} (h:kF W S A c l) (hg:¬ S g) (vs:List Value) (o:Nat):kF (W.setCells g o vs) S A c l:=
 h.keep (by rw [setCells_size];exact Nat.le_refl _) fun b q hb _=>kV vs o b q (fun e=>hg (by rw [← e];exact hb))
theorem kF.alloc {S:Nat→Prop} {A:Option Addr} {c:Nat} {l:List ByteArray} {W:World} (h:kF W S A c l) (o:Obj):kF (W.alloc o) S A c l:=h.below ((Below.refl _ _).alloc (Nat.le_refl _) o)
def BD (g:Sk.Game) (s:Sk.State):Bool:=Sk.out s.turn 0 1 || Sk.out s.brk 0 99999 || Sk.out s.aW 0 g.aW || Sk.out s.colour 0 7 || Sk.out s.aJ 0 5 || Sk.out s.ay (-1) 2
def Fg (g:Sk.Game) (s:Sk.State):Bool:=Sk.out s.s0 0 99999 || Sk.out s.t0 0 g.turns
def Ik (g:Sk.Game) (s:Sk.State):Bool:=Sk.out s.s1 0 99999 || Sk.out s.t1 0 g.turns
theorem JR {g:Sk.Game} {s:Sk.State} {c:Int} {ys:Bool} (hs:Sk.score s s.turn=c) (h:¬ c<s.brk) (hf:Sk.cZ s=false) (hy:Sk.ji g s=ys):jA (!ys) 19=if Sk.score s s.turn<s.brk∨Sk.cZ s=true∨Sk.ji g s=false then 19 else 0:=by
 rw [hs,hf,hy]
 cases ys <;> simp [h,jA]
theorem XG {g:Sk.Game} {s:Sk.State} (h:Sk.far g s=false):(s.turn=0∨s.turn=1)∧0≤s.t1∧s.t1≤g.turns:=by
 unfold Sk.far at h
 simp only [decide_eq_false_iff_not,not_or] at h
 obtain ⟨h1,h2,h3,h4,h5,h6,h7,h8,h9,h10⟩:=h
 unfold Sk.out at h1 h10
 simp only [Bool.not_eq_true,decide_eq_false_iff_not,not_or] at h1 h10
 omega
theorem tN {W W':World} {B:Nat} (h:Below B W.drew W'):Below B W W':=⟨h.os,h.tape,h.output,h.size,h.block⟩
theorem MV (g:Sk.Game) (s:Sk.State) (hz:Sk.eU g=0) (hr:0≤s.t1∧s.t1≤g.turns) (W:World):Calls Tryz.prog (gV g.kind) #[rF g,lJ s] W fun e w'=>e= .returned (.bool (Sk.ji g s))∧Below W.heap.size W w':=by
 have hc:=Sk.gW hz
 unfold gV Sk.ji
 split
 · exact xE g s W
 · split
   · exact uj g s W
   · exact zA g s (by rcases hc with ⟨h,_⟩ | ⟨h,_⟩ | ⟨_,_,_,_,h⟩ <;> first | omega | (rename_i h1 h2;first | exact absurd h h1 | exact absurd h h2)) W
theorem WL (g:Sk.Game) (s:Sk.State):Sk.far g s=(BD g s || Fg g s || Ik g s):=by
 unfold Sk.far BD Fg Ik
 rw [Bool.eq_iff_iff]
 simp only [decide_eq_true_eq,Bool.or_eq_true,or_assoc]
theorem LQ (g:Sk.Game) (hk:Sk.jv g.kind=true) (p:ByteArray):Sk.has (nH (gI g.kind)) p=Sk.fH g p:=by
 unfold Sk.fH gI
 have h3:g.kind=Sk.aK∨g.kind=Sk.bF∨g.kind=Sk.fA:=by simpa [Sk.jv] using hk
 by_cases h:g.kind=Sk.aK
 · rw [if_pos h,if_pos h]
   simp only [nH,Sk.has,List.any_cons,List.any_nil,Bool.or_false]
   rw [Bool.eq_iff_iff]
   simp only [Bool.or_eq_true,decide_eq_true_eq,eq_comm (b:=p)]
 · rw [if_neg h,if_neg h]
   split
   all_goals
    simp only [nH,Sk.has,List.any_cons,List.any_nil,Bool.or_false]
    rw [Bool.eq_iff_iff]
    simp only [decide_eq_true_eq,eq_comm (b:=p)]
theorem lG (g:Sk.Game) (s:Sk.State) (w:World):Calls Tryz.prog 24 #[rF g,lJ s] w fun e w'=>e= .returned (.int .i64 (Sk.bW g s))∧Below w.heap.size w w':=by
 go_enter Tryz.func24,Tryz.ntmps24
 go_upto_region 0 with (fail)
 go_cut [2,3,4] (fun v2 v3 v4 wx=>v2=ptr w.heap.size∧v3=ptr (w.heap.size+1)∧v4= .int .i64 0∧aC w wx [(dN g,23),(aQ s,26)])
 case first=>
  go_wp2;go_meet;exact ⟨rfl,rfl,rfl,(((aC.nil w).new (by simp) (dN g) _).new (by simp) (aQ s) _)⟩
 case rest=>
  obtain ⟨rfl,rfl,rfl,hB⟩:=hcut
  go_upto_region 1 with (fail)
  go_cut [5] (fun v wx=>v= .int .i64 (Sk.eU g)∧aC w wx [(dN g,23),(aQ s,26)])
  case first=>
   go_wp2_with (first | ((with_reducible refine dh 23 2 ?_);refine dO (hB.aj rfl) Tryz.underlying23 fG ?_) | (go_at_call 36;refine (zC g _).mono ?_;rintro e w1 ⟨rfl,hb1⟩;have hB1:=hB.call (by simp) hb1))
   go_meet;exact ⟨rfl,hB1⟩
  case rest=>
   obtain ⟨rfl,hB1⟩:=hcut;clear hB
   by_cases hz:Sk.eU g=0
   · have hz':(Sk.eU g != 0)=false:=by simp [hz]
     have hk:=zJ hz
     have hck:Sk.bW g s=if Sk.far g s then 3 else if Sk.fH g s.phase=false then 13 else if Sk.score s s.turn<s.brk∨Sk.cZ s∨Sk.ji g s=false then 19 else 0:=by unfold Sk.bW;rw [if_neg (by rw [hz];decide)]
     have uP:=hide hck;have HZ:=hide hz;clear hz hck;have hB:=hB1;clear hB1;have hF:=hB.aj rfl;have k0:=hF.cell (j:=0) rfl;have K0:=hB.keeps 2 rfl (by omega)
     go_upto_region 4 with (fail)
     go_cut [6] (fun v6 wx=>∃ D N,v6=ptr D∧Held wx D (Ak (N+1+gI g.kind) (nH (gI g.kind)).length (jk g.kind) (gV g.kind) (gU g.kind) (gK g.kind) (gq g.kind)) 141∧kF wx (fun b=>b=N+1+gI g.kind) (some ⟨N+1+gI g.kind,0,none⟩) (nH (gI g.kind)).length (nH (gI g.kind))∧w.heap.size+2≤D∧D<wx.heap.size∧aC w wx [(dN g,23),(aQ s,26)])
     case first=>
      refine wp_region_held_drew (S:=(fun w':World=>∀ p q,p<w.heap.size+2→w'.cell? ⟨p,q,none⟩=wc.cell? ⟨p,q,none⟩)) (by kernel_rfl) ?kQ (fun hHeld=>?_)
      case kQ=>exact K0.cell
      refine tk 1 ?_;refine tk 2 ?_;refine wpAnyH_ready (rs:=[0,4]) (by kernel_rfl) (by simp) ?_;refine AllReadyH.cons (o:=_) (ga rfl) (fun K hK=>?_) (AllReadyH.cons (o:=_) (ga rfl) (fun K hK=>?_) AllReadyH.nil)
      · go_simp
        (first | (go_at_call 58;refine (fV _).mono ?_;rintro e w1 ⟨rfl,g3⟩;have hl1:=fB (lS (n:=wc.heap.size) g3 (by simp)) hk false;have hl2:=fun o=>fB (kT (n:=wc.heap.size) g3 (by simp) o) hk false;have K1:=(K0.drew).call g3.bw;have mA:=trivial;have hZ:=Held.new w1 zo 141;have jr:w.heap.size+2≤w1.heap.size:=K1.sz;have hB1:=(hB.drew).call (by simp) g3.bw) | (go_at_call 58;refine (fV _).mono ?_;rintro e w1 ⟨rfl,g3⟩;have hl1:=fB (lS (n:=wc.heap.size+1) g3 (by simp)) hk false;have hl2:=fun o=>fB (kT (n:=wc.heap.size+1) g3 (by simp) o) hk false;have K1:=(K0.drew.alloc _).call g3.bw;have mB:=trivial;have hZ:=(Held.newAt (g:=wc.heap.size) wc.drew zo 141 rfl).below g3.bw;have jr:w.heap.size+2≤wc.heap.size:=K0.sz;have hB1:=(hB.drew.alloc (by simp) _).call (by simp) g3.bw))
        refine hK.out _ _ ?Vg (fun hHeld=>?_)
        case Vg=>(exact K1.cell)
        clear hK K
        try simp only [Act.put,la,lz,ls]
        refine wpAnyH_ready (rs:=[3,4]) (by kernel_rfl) (by simp) ?_;refine AllReadyH.cons (o:=_) (ga rfl) (fun K hK=>?_) (AllReadyH.cons (o:=_) (ga rfl) (fun K hK=>?_) AllReadyH.nil)
        · go_simp
          refine hK.out _ _ ?Rt (fun hHeld=>?_)
          case Rt=>(first | exact K1.cell | exact (K1.alloc _).cell)
          clear hK K
          try simp only [Act.put,la,lz,ls]
          refine tr 4 fun K hK=>?_;go_simp;refine hK.out _ _ ?Rx (fun hHeld=>?_)
          case Rx=>(first | (have _m:=mA;exact (K1.alloc _).cell) | exact (K0.drew.alloc _).cell)
          clear hK K
          try simp only [Act.put,la,lz,ls]
          refine tr 5 fun K hK=>?_
          first | (have _m:=mA;refine aG hZ (Ak (wc.heap.size+1+gI g.kind) (nH (gI g.kind)).length (jk g.kind) (gV g.kind) (gU g.kind) (gK g.kind) (gq g.kind)) rfl rl_info (kD _ _ _ _ _ _ _) (.tmp 6) (.tmp 19) rfl rfl rfl ?_) | (have _m:=mB;refine aG hZ (Ak ((wc.heap.size+1)+1+gI g.kind) (nH (gI g.kind)).length (jk g.kind) (gV g.kind) (gU g.kind) (gK g.kind) (gq g.kind)) rfl rl_info (kD _ _ _ _ _ _ _) (.tmp 6) (.tmp 19) rfl rfl rfl ?_)
          refine hK.out _ _ ?RD (fun hHeld=>?_)
          case RD=>(first | (have _m:=mA;exact ((K1.alloc _).fK jr _ _).cell) | (have _m:=mB;exact (K1.fK jr _ _).cell))
          clear hK K
          try simp only [Act.put,la,lz,ls]
          refine wpAnyH_done (by kernel_rfl) ?_ _;go_wp2;go_meet
          first | (have _m:=mA;exact ⟨_,_,rfl,hZ.whole _ rfl,kF.fK ((g3.row g.kind (n:=wc.heap.size) rfl).alloc _) (by have h1:=g3.sz;have h2:=Ou g.kind;have h3:wc.drew.heap.size=wc.heap.size:=rfl;omega) _ _,jr,by rw [setCells_size];exact hZ.lt,by first | (have _m:=mA;exact ((hB1.alloc (by simp) _).fK (by simpa using jr) _ _)) | (have _m:=mB;exact (hB1.fK (by simpa using jr) _ _))⟩) | (have _m:=mB;exact ⟨_,_,rfl,hZ.whole _ rfl,kF.fK (g3.row g.kind (n:=wc.heap.size+1) (by simp)) (by omega) _ _,jr,by rw [setCells_size];exact hZ.lt,by first | (have _m:=mA;exact ((hB1.alloc (by simp) _).fK (by simpa using jr) _ _)) | (have _m:=mB;exact (hB1.fK (by simpa using jr) _ _))⟩)
        · go_simp
          refine hK.out _ _ ?Ry (fun hHeld=>?_)
          case Ry=>(first | (have _m:=mA;exact (K1.alloc _).cell) | exact (K0.drew.alloc _).cell)
          clear hK K
          try simp only [Act.put,la,lz,ls]
          refine tr 3 fun K hK=>?_;go_simp;refine hK.out _ _ ?Ru (fun hHeld=>?_)
          case Ru=>(first | exact K1.cell | exact (K1.alloc _).cell)
          clear hK K
          try simp only [Act.put,la,lz,ls]
          refine tr 5 fun K hK=>?_
          first | (have _m:=mA;refine aG hZ (Ak (wc.heap.size+1+gI g.kind) (nH (gI g.kind)).length (jk g.kind) (gV g.kind) (gU g.kind) (gK g.kind) (gq g.kind)) rfl rl_info (kD _ _ _ _ _ _ _) (.tmp 6) (.tmp 19) rfl rfl rfl ?_) | (have _m:=mB;refine aG hZ (Ak ((wc.heap.size+1)+1+gI g.kind) (nH (gI g.kind)).length (jk g.kind) (gV g.kind) (gU g.kind) (gK g.kind) (gq g.kind)) rfl rl_info (kD _ _ _ _ _ _ _) (.tmp 6) (.tmp 19) rfl rfl rfl ?_)
          refine hK.out _ _ ?RF (fun hHeld=>?_)
          case RF=>(first | (have _m:=mA;exact ((K1.alloc _).fK jr _ _).cell) | (have _m:=mB;exact (K1.fK jr _ _).cell))
          clear hK K
          try simp only [Act.put,la,lz,ls]
          refine wpAnyH_done (by kernel_rfl) ?_ _;go_wp2;go_meet
          first | (have _m:=mA;exact ⟨_,_,rfl,hZ.whole _ rfl,kF.fK ((g3.row g.kind (n:=wc.heap.size) rfl).alloc _) (by have h1:=g3.sz;have h2:=Ou g.kind;have h3:wc.drew.heap.size=wc.heap.size:=rfl;omega) _ _,jr,by rw [setCells_size];exact hZ.lt,by first | (have _m:=mA;exact ((hB1.alloc (by simp) _).fK (by simpa using jr) _ _)) | (have _m:=mB;exact (hB1.fK (by simpa using jr) _ _))⟩) | (have _m:=mB;exact ⟨_,_,rfl,hZ.whole _ rfl,kF.fK (g3.row g.kind (n:=wc.heap.size+1) (by simp)) (by omega) _ _,jr,by rw [setCells_size];exact hZ.lt,by first | (have _m:=mA;exact ((hB1.alloc (by simp) _).fK (by simpa using jr) _ _)) | (have _m:=mB;exact (hB1.fK (by simpa using jr) _ _))⟩)
      · go_simp
        refine hK.out _ _ ?Rz (fun hHeld=>?_)
        case Rz=>(first | (have _m:=mA;exact (K1.alloc _).cell) | exact (K0.drew.alloc _).cell)
        clear hK K
        try simp only [Act.put,la,lz,ls]
        refine tr 0 fun K hK=>?_;go_simp
        (first | (go_at_call 58;refine (fV _).mono ?_;rintro e w1 ⟨rfl,g3⟩;have hl1:=fB (lS (n:=wc.heap.size) g3 (by simp)) hk false;have hl2:=fun o=>fB (kT (n:=wc.heap.size) g3 (by simp) o) hk false;have K1:=(K0.drew).call g3.bw;have mA:=trivial;have hZ:=Held.new w1 zo 141;have jr:w.heap.size+2≤w1.heap.size:=K1.sz;have hB1:=(hB.drew).call (by simp) g3.bw) | (go_at_call 58;refine (fV _).mono ?_;rintro e w1 ⟨rfl,g3⟩;have hl1:=fB (lS (n:=wc.heap.size+1) g3 (by simp)) hk false;have hl2:=fun o=>fB (kT (n:=wc.heap.size+1) g3 (by simp) o) hk false;have K1:=(K0.drew.alloc _).call g3.bw;have mB:=trivial;have hZ:=(Held.newAt (g:=wc.heap.size) wc.drew zo 141 rfl).below g3.bw;have jr:w.heap.size+2≤wc.heap.size:=K0.sz;have hB1:=(hB.drew.alloc (by simp) _).call (by simp) g3.bw))
        refine hK.out _ _ ?Rq (fun hHeld=>?_)
        case Rq=>(exact K1.cell)
        clear hK K
        try simp only [Act.put,la,lz,ls]
        refine tr 3 fun K hK=>?_;go_simp;refine hK.out _ _ ?Rw (fun hHeld=>?_)
        case Rw=>(first | exact K1.cell | exact (K1.alloc _).cell)
        clear hK K
        try simp only [Act.put,la,lz,ls]
        refine tr 5 fun K hK=>?_
        first | (have _m:=mA;refine aG hZ (Ak (wc.heap.size+1+gI g.kind) (nH (gI g.kind)).length (jk g.kind) (gV g.kind) (gU g.kind) (gK g.kind) (gq g.kind)) rfl rl_info (kD _ _ _ _ _ _ _) (.tmp 6) (.tmp 19) rfl rfl rfl ?_) | (have _m:=mB;refine aG hZ (Ak ((wc.heap.size+1)+1+gI g.kind) (nH (gI g.kind)).length (jk g.kind) (gV g.kind) (gU g.kind) (gK g.kind) (gq g.kind)) rfl rl_info (kD _ _ _ _ _ _ _) (.tmp 6) (.tmp 19) rfl rfl rfl ?_)
        refine hK.out _ _ ?RG (fun hHeld=>?_)
        case RG=>(first | (have _m:=mA;exact ((K1.alloc _).fK jr _ _).cell) | (have _m:=mB;exact (K1.fK jr _ _).cell))
        clear hK K
        try simp only [Act.put,la,lz,ls]
        refine wpAnyH_done (by kernel_rfl) ?_ _;go_wp2;go_meet
        first | (have _m:=mA;exact ⟨_,_,rfl,hZ.whole _ rfl,kF.fK ((g3.row g.kind (n:=wc.heap.size) rfl).alloc _) (by have h1:=g3.sz;have h2:=Ou g.kind;have h3:wc.drew.heap.size=wc.heap.size:=rfl;omega) _ _,jr,by rw [setCells_size];exact hZ.lt,by first | (have _m:=mA;exact ((hB1.alloc (by simp) _).fK (by simpa using jr) _ _)) | (have _m:=mB;exact (hB1.fK (by simpa using jr) _ _))⟩) | (have _m:=mB;exact ⟨_,_,rfl,hZ.whole _ rfl,kF.fK (g3.row g.kind (n:=wc.heap.size+1) (by simp)) (by omega) _ _,jr,by rw [setCells_size];exact hZ.lt,by first | (have _m:=mA;exact ((hB1.alloc (by simp) _).fK (by simpa using jr) _ _)) | (have _m:=mB;exact (hB1.fK (by simpa using jr) _ _))⟩)
     case rest=>
      obtain ⟨D,N,rfl,hR,uz,hD,hDl,hB2⟩:=hcut;clear hB hF k0 K0;have hS:=hB2.get 1 rfl;have hG:=hB2.aj rfl;have s0:=hS.cell (j:=0) rfl;have RZ:=hS.frozen 0;have s3:=hS.cell (j:=3) rfl;have sf3:=hS.frozen 3;have s5:=hS.cell (j:=5) rfl;have sf5:=hS.frozen 5;have s6:=hS.cell (j:=6) rfl;have sf6:=hS.frozen 6;have s9:=hS.cell (j:=9) rfl;have Hr:=hS.frozen 9;have s12:=hS.cell (j:=12) rfl;have rV:=hS.frozen 12;have g1:=hG.cell (j:=1) rfl;have gf1:=hG.frozen 1
      go_upto_region 5 with (fail)
      go_cut [7] (fun v wx=>v= .bool (BD g s)∧wx=wc)
      case first=>
       go_wp2_with (first | (go_at_call 30;refine (jG _ _ _ _).mono ?_;rintro e oh ⟨rfl,rfl⟩))
       all_goals
        go_meet;exact ⟨dK (by simp_all [BD]),rfl⟩
      case rest=>
       obtain ⟨rfl,rfl⟩:=hcut;obtain ⟨yf,XD⟩:∃ y,BD g s=y:=⟨_,rfl⟩;have Y5:=hide XD;rw [XD];clear XD;go_wp2
       go_loopw [7,8,50] (fun v7 v8 i wr=>∃ k:Nat,k≤2∧i= .int .i64 k∧v7= .bool (BD g s || (if 0<k then Fg g s else false) || (if 1<k then Ik g s else false))∧Below wc.heap.size wc wr) (fun _ _ i _=>2 - (intOf i).toNat)
       case atStart=>exact ⟨0,by omega,rfl,by rw [Y5.out];simp,Below.refl _ _⟩
       case round=>
        obtain ⟨k,hk2,rfl,rfl,hbw⟩:=hrel;have hB3:=hB2.call (by simp) hbw;have hS3:=hB3.get 1 rfl;have hG3:=hB3.aj rfl;have Ul:=hR.below hbw;have hp3:=uz.below hbw;have z0:=hS3.cell (j:=0) rfl;have zf0:=hS3.frozen 0;have z1:=hS3.cell (j:=1) rfl;have SN:=hS3.frozen 1;have z2:=hS3.cell (j:=2) rfl;have SQ:=hS3.frozen 2;have z3:=hS3.cell (j:=3) rfl;have zf3:=hS3.frozen 3;have z4:=hS3.cell (j:=4) rfl;have zf4:=hS3.frozen 4;have z7:=hS3.cell (j:=7) rfl;have zf7:=hS3.frozen 7;have z8:=hS3.cell (j:=8) rfl;have zf8:=hS3.frozen 8;have z10:=hS3.cell (j:=10) rfl;have am2:=hS3.frozen 10;have z11:=hS3.cell (j:=11) rfl;have am9:=hS3.frozen 11;have z12:=hS3.cell (j:=12) rfl;have anh:=hS3.frozen 12;have g3:=hG3.cell (j:=3) rfl
        obtain rfl | rfl | rfl:k=0∨k=1∨k=2:=by omega
        · simp only [show BD g s=yf from Y5.out,Nat.lt_irrefl,if_false,show ¬ (1<0) by omega,Bool.or_false]
          obtain ⟨yo,hyo⟩:∃ y,Sk.out s.s0 0 99999=y:=⟨_,rfl⟩;obtain ⟨yt,Nu⟩:∃ y,Sk.out s.t0 0 g.turns=y:=⟨_,rfl⟩
          have ZA:∀ W,Calls Tryz.prog 30 #[.int .i64 s.s0,.int .i64 0,.int .i64 99999] W fun e w'=>e= .returned (.bool yo)∧W=w':=fun W=>by rw [← hyo];exact jG _ _ _ W
          have hot:∀ W,Calls Tryz.prog 30 #[.int .i64 s.t0,.int .i64 0,.int .i64 g.turns] W fun e w'=>e= .returned (.bool yt)∧W=w':=fun W=>by rw [← Nu];exact jG _ _ _ W
          have OY:Fg g s=(yo || yt):=by unfold Fg;rw [hyo,Nu]
          have ND:=hide OY;clear hyo Nu OY;have HOO:=hide ZA;have HOT:=hide hot;clear ZA hot;have fin:∀ nq:Nat,Below wc.heap.size wc (wr.drewN nq):=fun nq=>below_drewN hbw nq;have FIN:=hide fin;clear fin
          cases yf
          · cases yo
            all_goals
             go_wp2
             go_quiet (first | (go_at_call_of 30 (Value.int .i64 s.s0);exact qQ (HOO.out _)) | (go_at_call_of 30 (Value.int .i64 s.t0);exact qQ (HOT.out _)))
             go_wp2
             go_roundw
             case rel=>exact ⟨1,by omega,by go_num,by simp [ND.out],FIN.out _⟩
             case measure=>simp [intOf]
          · go_wp2
            go_quiet (fail)
            go_wp2
            go_roundw
            case rel=>exact ⟨1,by omega,by go_num,by simp [ND.out],FIN.out _⟩
            case measure=>simp [intOf]
        · simp only [show BD g s=yf from Y5.out,Nat.lt_irrefl,if_false,if_true,show 0<1 by omega,Bool.or_false]
          obtain ⟨yg,hyg⟩:∃ y,(yf || Fg g s)=y:=⟨_,rfl⟩;have HYG:=hide hyg;rw [hyg];clear hyg;obtain ⟨yo,hyo⟩:∃ y,Sk.out s.s1 0 99999=y:=⟨_,rfl⟩;obtain ⟨yt,Nu⟩:∃ y,Sk.out s.t1 0 g.turns=y:=⟨_,rfl⟩
          have ZA:∀ W,Calls Tryz.prog 30 #[.int .i64 s.s1,.int .i64 0,.int .i64 99999] W fun e w'=>e= .returned (.bool yo)∧W=w':=fun W=>by rw [← hyo];exact jG _ _ _ W
          have hot:∀ W,Calls Tryz.prog 30 #[.int .i64 s.t1,.int .i64 0,.int .i64 g.turns] W fun e w'=>e= .returned (.bool yt)∧W=w':=fun W=>by rw [← Nu];exact jG _ _ _ W
          have OY:Ik g s=(yo || yt):=by unfold Ik;rw [hyo,Nu]
          have ND:=hide OY;clear hyo Nu OY;have HOO:=hide ZA;have HOT:=hide hot;clear ZA hot;have fin:∀ nq:Nat,Below wc.heap.size wc (wr.drewN nq):=fun nq=>below_drewN hbw nq;have FIN:=hide fin;clear fin
          cases yg
          · cases yo
            all_goals
             go_wp2
             go_quiet (first | (go_at_call_of 30 (Value.int .i64 s.s1);exact qQ (HOO.out _)) | (go_at_call_of 30 (Value.int .i64 s.t1);exact qQ (HOT.out _)))
             go_wp2
             go_roundw
             case rel=>exact ⟨2,by omega,by go_num,by simp only [show 0<2 by omega,show 1<2 by omega,if_true];rw [HYG.out,ND.out];simp,FIN.out _⟩
             case measure=>simp [intOf]
          · go_wp2
            go_quiet (fail)
            go_wp2
            go_roundw
            case rel=>exact ⟨2,by omega,by go_num,by simp only [show 0<2 by omega,show 1<2 by omega,if_true];rw [HYG.out,ND.out];simp,FIN.out _⟩
            case measure=>simp [intOf]
        · have hfe:(yf || Fg g s || Ik g s)=Sk.far g s:=by rw [WL,show BD g s=yf from Y5.out]
          have hrf:((yf || if 0<2 then Fg g s else false) || if 1<2 then Ik g s else false)=Sk.far g s:=by simpa using hfe
          rw [show BD g s=yf from Y5.out] at*
          simp only [hrf]
          have HFE:=hide hrf;clear hfe hrf;have zR0:=Ul.cell (j:=0) rfl;have hDr:D<wr.heap.size:=Ul.lt;have hsr:=hB3.size (by simp)
          simp only [List.length_cons,List.length_nil] at hsr
          have hl0:w.heap.size<wr.heap.size:=by omega
          have hl1:w.heap.size+1<wr.heap.size:=by omega
          clear s0 RZ s3 sf3 s5 sf5 s6 sf6 s9 Hr s12 rV g1 gf1
          go_upto_region 11 with (fail)
          go_cut [9] (fun v wx=>v= .int .i64 (fst [jA (Sk.far g s) 3,jA (!Sk.has (nH (gI g.kind)) s.phase) 13])∧Below wr.heap.size wr wx)
          case first=>
           go_region_held3 (fun w':World=>∀ p q,p<wr.heap.size→w'.cell? ⟨p,q,none⟩=wr.cell? ⟨p,q,none⟩) (first | exact fun p q h=>rfl | exact (fun p q h=>((Below.refl wr.heap.size wr).alloc (Nat.le_refl _) _).cell (p:=⟨p,q,none⟩) h)) (first | (go_at_call 25;refine (dJ _ _ _).mono ?_;rintro e oh ⟨rfl,rfl⟩) | (go_at_call 59;refine (gZ _ _ _ (nH (gI g.kind)) s.phase _ (hp3.drewN 1)).mono ?_;rintro e oh ⟨rfl,rfl⟩) | (go_at_call 23;refine (iO (fun _=>True) _ _ [jA (Sk.far g s) 3,jA (!Sk.has (nH (gI g.kind)) s.phase) 13] _ (kX.row _ _ [jA (Sk.far g s) 3,jA (!Sk.has (nH (gI g.kind)) s.phase) 13] (by simp) _ trivial)).mono ?_;rintro e oh ⟨rfl,rfl⟩))
           go_wp2;go_meet;exact ⟨rfl,(below_drewN (Below.refl wr.heap.size wr) 1).alloc (Nat.le_refl _) _⟩
          case rest=>
           obtain ⟨rfl,hb4⟩:=hcut;have hpo:=LQ g hk s.phase;have hB4:=hB3.call (by simp) hb4;have hR4:=Ul.below hb4;have wS:=hB4.bw;have hS4:=hB4.get 1 rfl;have hG4:=hB4.aj rfl
           have hE1:fst [jA (Sk.far g s) 3,jA (!Sk.has (nH (gI g.kind)) s.phase) 13]=if Sk.far g s then 3 else if Sk.fH g s.phase=false then 13 else 0:=by
            rw [hpo]
            cases Sk.far g s <;> cases Sk.fH g s.phase <;> rfl
           by_cases hf:Sk.far g s=true
           · have hz2:fst [jA (Sk.far g s) 3,jA (!Sk.has (nH (gI g.kind)) s.phase) 13]=3:=by rw [hE1,if_pos hf]
             have HZ2:=hide (show Sk.bW g s=3 by rw [uP.out,if_pos hf]);rw [hz2];clear hf hz2 hE1;go_wp2;go_ret;exact ⟨bG HZ2.out.symm,wS⟩
           · by_cases hp:Sk.fH g s.phase=false
             · have hz2:fst [jA (Sk.far g s) 3,jA (!Sk.has (nH (gI g.kind)) s.phase) 13]=13:=by rw [hE1,if_neg hf,if_pos hp]
               have HZ2:=hide (show Sk.bW g s=13 by rw [uP.out,if_neg hf,if_pos hp]);rw [hz2];clear hf hz2 hE1 hp;go_wp2;go_ret;exact ⟨bG HZ2.out.symm,wS⟩
             · have hz2:fst [jA (Sk.far g s) 3,jA (!Sk.has (nH (gI g.kind)) s.phase) 13]=0:=by rw [hE1,if_neg hf,if_neg hp]
               have HZ2:=hide (show Sk.bW g s=if Sk.score s s.turn<s.brk∨Sk.cZ s∨Sk.ji g s=false then 19 else 0 by rw [uP.out,if_neg hf,if_neg hp]);rw [hz2]
               have YL:Sk.far g s=false:=by simpa using hf
               have WV:=XG YL;clear hf hz2 hE1 hp YL;have hSt:=MV g s HZ.out ⟨WV.2.1,WV.2.2⟩;have eg:=BG g.kind;obtain ⟨gst,Xm⟩:∃ x,gV g.kind=x:=⟨_,rfl⟩;obtain ⟨ys,hys⟩:∃ x,Sk.ji g s=x:=⟨_,rfl⟩
               simp only [Xm,hys] at hSt eg
               have HST:=hide hSt;have HYS:=hide hys;have q2f:=hR4.cell (j:=2) rfl
               simp only [Xm] at q2f
               have hrG:∀ W:World,(∀ p q,p<wc.heap.size→W.cell? ⟨p,q,none⟩=wc.cell? ⟨p,q,none⟩)→W.rangeAt w.heap.size 0 (dN g):=fun W h j v hj=>by rw [h _ _ hG4.lt];exact hG4.range j v hj
               have xX:∀ W:World,(∀ p q,p<wc.heap.size→W.cell? ⟨p,q,none⟩=wc.cell? ⟨p,q,none⟩)→W.rangeAt (w.heap.size+1) 0 (aQ s):=fun W h j v hj=>by rw [h _ _ hS4.lt];exact hS4.range j v hj
               have hl5:=hG4.lt;have hl6:=hS4.lt;have hl7:=hR4.lt;have q0:=hS4.cell (j:=0) rfl;have qf0:=hS4.frozen 0;have q1:=hS4.cell (j:=1) rfl;have qf1:=hS4.frozen 1;have q2:=hS4.cell (j:=2) rfl;have qf2:=hS4.frozen 2;have q3:=hS4.cell (j:=3) rfl;have qf3:=hS4.frozen 3;have q4:=hS4.cell (j:=4) rfl;have qf4:=hS4.frozen 4;have q7:=hS4.cell (j:=7) rfl;have qf7:=hS4.frozen 7;have q8:=hS4.cell (j:=8) rfl;have qf8:=hS4.frozen 8;have q12:=hS4.cell (j:=12) rfl;have auV:=hS4.frozen 12;clear hSt Xm hys z0 zf0 z1 SN z2 SQ z3 zf3 z4 zf4 z7 zf7 z8 zf8 z10 am2 z11 am9 z12 anh g3 zR0
               go_upto_region 14 with (fail)
               go_cut [10] (fun v wx=>v= .bool (Sk.cZ s)∧wx=wc)
               case first=>
                by_cases h1:s.free=true
                · try rw [h1] at q7
                  by_cases h2:s.aO=true
                  · try rw [h2] at q8
                    have HH:=hide (And.intro h1 (And.intro h2 trivial));clear h1 h2;go_wp2;go_meet;exact ⟨dK (by obtain ⟨h1,h2,_⟩:=HH.out;first | (simp [Sk.cZ,h1,h2];done) | (simp [Sk.cZ,h1,h2];omega) | (rw [Bool.eq_iff_iff];simp [Sk.cZ,h1,h2];omega)),rfl⟩
                  · have h2:s.aO=false:=by simpa using h2
                    try rw [h2] at q8
                    by_cases h3:s.phase=Sk.bV
                    · have OA:=wt h3
                      have HH:=hide (And.intro h1 (And.intro h2 (And.intro h3 trivial)));clear h1 h2 h3;go_wp2;go_meet;exact ⟨dK (by obtain ⟨h1,h2,h3,_⟩:=HH.out;first | (simp [Sk.cZ,h1,h2,h3];done) | (simp [Sk.cZ,h1,h2,h3];omega) | (rw [Bool.eq_iff_iff];simp [Sk.cZ,h1,h2,h3];omega)),rfl⟩
                    · have Oz:=wf h3
                      by_cases h4:0≤s.ay
                      · have OC:=(show decide (0≤s.ay)=true from decide_eq_true h4)
                        have HH:=hide (And.intro h1 (And.intro h2 (And.intro h3 (And.intro h4 trivial))));clear h1 h2 h3 h4;go_wp2;go_meet;exact ⟨dK (by obtain ⟨h1,h2,h3,h4,_⟩:=HH.out;first | (simp [Sk.cZ,h1,h2,h3,h4];done) | (simp [Sk.cZ,h1,h2,h3,h4];omega) | (rw [Bool.eq_iff_iff];simp [Sk.cZ,h1,h2,h3,h4];omega)),rfl⟩
                      · have OB:=(show decide (0≤s.ay)=false from decide_eq_false h4)
                        have HH:=hide (And.intro h1 (And.intro h2 (And.intro h3 (And.intro h4 trivial))));clear h1 h2 h3 h4;go_wp2;go_meet;exact ⟨dK (by obtain ⟨h1,h2,h3,h4,_⟩:=HH.out;first | (simp [Sk.cZ,h1,h2,h3,h4];done) | (simp [Sk.cZ,h1,h2,h3,h4];omega) | (rw [Bool.eq_iff_iff];simp [Sk.cZ,h1,h2,h3,h4];omega)),rfl⟩
                · have h1:s.free=false:=by simpa using h1
                  try rw [h1] at q7
                  by_cases h5:s.aO=true
                  · try rw [h5] at q8
                    by_cases h6:s.phase=Sk.bV
                    · have Uf:=wt h6
                      have HH:=hide (And.intro h1 (And.intro h5 (And.intro h6 trivial)));clear h1 h5 h6;go_wp2;go_meet;exact ⟨dK (by obtain ⟨h1,h5,h6,_⟩:=HH.out;first | (simp [Sk.cZ,h1,h5,h6];done) | (simp [Sk.cZ,h1,h5,h6];omega) | (rw [Bool.eq_iff_iff];simp [Sk.cZ,h1,h5,h6];omega)),rfl⟩
                    · have Ue:=wf h6
                      by_cases h7:0≤s.ay
                      · have Uh:=(show decide (0≤s.ay)=true from decide_eq_true h7)
                        have HH:=hide (And.intro h1 (And.intro h5 (And.intro h6 (And.intro h7 trivial))));clear h1 h5 h6 h7;go_wp2;go_meet;exact ⟨dK (by obtain ⟨h1,h5,h6,h7,_⟩:=HH.out;first | (simp [Sk.cZ,h1,h5,h6,h7];done) | (simp [Sk.cZ,h1,h5,h6,h7];omega) | (rw [Bool.eq_iff_iff];simp [Sk.cZ,h1,h5,h6,h7];omega)),rfl⟩
                      · have Ug:=(show decide (0≤s.ay)=false from decide_eq_false h7)
                        have HH:=hide (And.intro h1 (And.intro h5 (And.intro h6 (And.intro h7 trivial))));clear h1 h5 h6 h7;go_wp2;go_meet;exact ⟨dK (by obtain ⟨h1,h5,h6,h7,_⟩:=HH.out;first | (simp [Sk.cZ,h1,h5,h6,h7];done) | (simp [Sk.cZ,h1,h5,h6,h7];omega) | (rw [Bool.eq_iff_iff];simp [Sk.cZ,h1,h5,h6,h7];omega)),rfl⟩
                  · have h5:s.aO=false:=by simpa using h5
                    try rw [h5] at q8
                    have HH:=hide (And.intro h1 (And.intro h5 trivial));clear h1 h5;go_wp2;go_meet;exact ⟨dK (by obtain ⟨h1,h5,_⟩:=HH.out;first | (simp [Sk.cZ,h1,h5];done) | (simp [Sk.cZ,h1,h5];omega) | (rw [Bool.eq_iff_iff];simp [Sk.cZ,h1,h5];omega)),rfl⟩
               case rest=>
                obtain ⟨rfl,rfl⟩:=hcut;obtain ⟨yfo,XE⟩:∃ y,Sk.cZ s=y:=⟨_,rfl⟩;have Hg:=hide XE;rw [XE];clear XE;have yQ:=wS
                rcases WV.1 with ht | ht
                · rw [ht] at q0
                  have HT:=hide ht;clear ht
                  by_cases xU:s.s0<s.brk
                  · have ai3:decide (s.s0<s.brk)=true:=decide_eq_true xU
                    have WA:=hide xU;clear xU
                    go_upto_region 15 with (fail)
                    refine wp_region_held_drew (S:=(fun w':World=>∀ p q,p<wc.heap.size→w'.cell? ⟨p,q,none⟩=wc.cell? ⟨p,q,none⟩)) (by kernel_rfl) ?dF (fun hHeld=>?_)
                    case dF=>exact fun p q h=>rfl
                    refine tk 0 ?_;refine tk 1 ?_;refine tk 2 ?_;refine tk 3 ?_;refine tk 4 ?_;refine tk 5 ?_;refine tk 6 ?_;refine tk 7 ?_;refine tk 8 ?_;refine tu 9 ?_;refine tk 10 ?_;refine tk 11 ?_;refine tu 12 ?_;refine tu 13 ?_;refine tu 14 ?_;refine tu 15 ?_;refine tu 16 ?_;refine tu 17 ?_;refine tk 18 ?_;refine tr 19 fun K hK=>?_;go_simp
                    (go_at_call 25;refine (dJ _ _ _).mono ?_;rintro e oh ⟨rfl,rfl⟩)
                    refine hK.out _ _ ?X4 (fun hHeld=>?_)
                    case X4=>(exact fun p q h=>rfl)
                    clear hK K
                    try simp only [Act.put,la,lz,ls]
                    refine tk 20 ?_;refine wpAnyH_done (by kernel_rfl) ?_ _;go_wp2;go_ret;exact ⟨bG (by rw [HZ2.out,if_pos (.inl (by unfold Sk.score;rw [if_pos HT.out];exact WA.out))];rfl),below_drewN yQ 1⟩
                  · have aiW:decide (s.s0<s.brk)=false:=decide_eq_false xU
                    have WA:=hide xU;clear xU
                    cases yfo
                    · go_upto_region 15 with (fail)
                      refine wp_region_held_drew (S:=(fun w':World=>∀ p q,p<wc.heap.size→w'.cell? ⟨p,q,none⟩=wc.cell? ⟨p,q,none⟩)) (by kernel_rfl) ?iK (fun hHeld=>?_)
                      case iK=>exact fun p q h=>rfl
                      refine tk 0 ?_;refine tk 1 ?_;refine tk 2 ?_;refine tk 3 ?_;refine tk 4 ?_;refine tk 5 ?_;refine tk 6 ?_;refine tk 7 ?_;refine tk 8 ?_;refine tk 9 ?_;refine tk 10 ?_;refine tk 11 ?_;refine tk 12 ?_;refine tk 13 ?_;refine wpAnyH_take (i:=14) (oi:=_) (v:=_) (ga rfl) (by kernel_rfl) (by kernel_rfl) (by kernel_rfl) (fun _ _ _ h=>h) (yieldsIf_load_mid (by rfl) _ _ (by rfl) _ _ (by rfl) _ _ hrG Tryz.underlying23 rfl (by kernel_rfl)) (by assumption) ?_
                      try simp only [Act.put,la,lz,ls]
                      refine wpAnyH_take (i:=15) (oi:=_) (v:=_) (ga rfl) (by kernel_rfl) (by kernel_rfl) (by kernel_rfl) (fun _ _ _ h=>h) (yieldsIf_load_mid (by rfl) _ _ (by rfl) _ _ (by rfl) _ _ xX Tryz.underlying26 rfl (by kernel_rfl)) (by assumption) ?_
                      try simp only [Act.put,la,lz,ls]
                      refine tr 16 fun K hK=>?_;go_simp
                      (go_at_fn gst;refine (HST.out _).mono ?_;rintro e w5 ⟨rfl,hb5⟩)
                      refine hK.out _ _ ?Jo (fun hHeld=>?_)
                      case Jo=>(exact fun p q h=>hb5.cell (p:=⟨p,q,none⟩) h)
                      clear hK K
                      try simp only [Act.put,la,lz,ls]
                      refine tk 17 ?_;refine tk 18 ?_;refine tr 19 fun K hK=>?_;go_simp
                      (go_at_call 25;refine (dJ _ _ _).mono ?_;rintro e oh ⟨rfl,rfl⟩)
                      refine hK.out _ _ ?X8 (fun hHeld=>?_)
                      case X8=>(exact fun p q h=>hb5.cell (p:=⟨p,q,none⟩) h)
                      clear hK K
                      try simp only [Act.put,la,lz,ls]
                      refine tk 20 ?_;refine wpAnyH_done (by kernel_rfl) ?_ _;go_wp2;go_ret;exact ⟨bG (by rw [HZ2.out];exact JR (by unfold Sk.score;rw [if_pos HT.out]) (by have h0:=WA.out;omega) Hg.out HYS.out),yQ.trans ((tN hb5).mono yQ.size)⟩
                    · go_upto_region 15 with (fail)
                      refine wp_region_held_drew (S:=(fun w':World=>∀ p q,p<wc.heap.size→w'.cell? ⟨p,q,none⟩=wc.cell? ⟨p,q,none⟩)) (by kernel_rfl) ?kN (fun hHeld=>?_)
                      case kN=>exact fun p q h=>rfl
                      refine tk 0 ?_;refine tk 1 ?_;refine tk 2 ?_;refine tk 3 ?_;refine tk 4 ?_;refine tk 5 ?_;refine tk 6 ?_;refine tk 7 ?_;refine tk 8 ?_;refine tk 9 ?_;refine tk 10 ?_;refine tk 11 ?_;refine tu 12 ?_;refine tu 13 ?_;refine tu 14 ?_;refine tu 15 ?_;refine tu 16 ?_;refine tu 17 ?_;refine tk 18 ?_;refine tr 19 fun K hK=>?_;go_simp
                      (go_at_call 25;refine (dJ _ _ _).mono ?_;rintro e oh ⟨rfl,rfl⟩)
                      refine hK.out _ _ ?Yd (fun hHeld=>?_)
                      case Yd=>(exact fun p q h=>rfl)
                      clear hK K
                      try simp only [Act.put,la,lz,ls]
                      refine tk 20 ?_;refine wpAnyH_done (by kernel_rfl) ?_ _;go_wp2;go_ret;exact ⟨bG (by rw [HZ2.out,if_pos (.inr (.inl Hg.out))];rfl),below_drewN yQ 1⟩
                · rw [ht] at q0
                  have HT:=hide ht;clear ht
                  by_cases xU:s.s1<s.brk
                  · have ai3:decide (s.s1<s.brk)=true:=decide_eq_true xU
                    have WA:=hide xU;clear xU
                    go_upto_region 15 with (fail)
                    refine wp_region_held_drew (S:=(fun w':World=>∀ p q,p<wc.heap.size→w'.cell? ⟨p,q,none⟩=wc.cell? ⟨p,q,none⟩)) (by kernel_rfl) ?oQ (fun hHeld=>?_)
                    case oQ=>exact fun p q h=>rfl
                    refine tk 0 ?_;refine tk 1 ?_;refine tk 2 ?_;refine tk 3 ?_;refine tk 4 ?_;refine tk 5 ?_;refine tk 6 ?_;refine tk 7 ?_;refine tk 8 ?_;refine tu 9 ?_;refine tk 10 ?_;refine tk 11 ?_;refine tu 12 ?_;refine tu 13 ?_;refine tu 14 ?_;refine tu 15 ?_;refine tu 16 ?_;refine tu 17 ?_;refine tk 18 ?_;refine tr 19 fun K hK=>?_;go_simp
                    (go_at_call 25;refine (dJ _ _ _).mono ?_;rintro e oh ⟨rfl,rfl⟩)
                    refine hK.out _ _ ?Ye (fun hHeld=>?_)
                    case Ye=>(exact fun p q h=>rfl)
                    clear hK K
                    try simp only [Act.put,la,lz,ls]
                    refine tk 20 ?_;refine wpAnyH_done (by kernel_rfl) ?_ _;go_wp2;go_ret;exact ⟨bG (by rw [HZ2.out,if_pos (.inl (by unfold Sk.score;rw [if_neg (by rw [HT.out];decide)];exact WA.out))];rfl),below_drewN yQ 1⟩
                  · have aiW:decide (s.s1<s.brk)=false:=decide_eq_false xU
                    have WA:=hide xU;clear xU
                    cases yfo
                    · go_upto_region 15 with (fail)
                      refine wp_region_held_drew (S:=(fun w':World=>∀ p q,p<wc.heap.size→w'.cell? ⟨p,q,none⟩=wc.cell? ⟨p,q,none⟩)) (by kernel_rfl) ?kP (fun hHeld=>?_)
                      case kP=>exact fun p q h=>rfl
                      refine tk 0 ?_;refine tk 1 ?_;refine tk 2 ?_;refine tk 3 ?_;refine tk 4 ?_;refine tk 5 ?_;refine tk 6 ?_;refine tk 7 ?_;refine tk 8 ?_;refine tk 9 ?_;refine tk 10 ?_;refine tk 11 ?_;refine tk 12 ?_;refine tk 13 ?_;refine wpAnyH_take (i:=14) (oi:=_) (v:=_) (ga rfl) (by kernel_rfl) (by kernel_rfl) (by kernel_rfl) (fun _ _ _ h=>h) (yieldsIf_load_mid (by rfl) _ _ (by rfl) _ _ (by rfl) _ _ hrG Tryz.underlying23 rfl (by kernel_rfl)) (by assumption) ?_
                      try simp only [Act.put,la,lz,ls]
                      refine wpAnyH_take (i:=15) (oi:=_) (v:=_) (ga rfl) (by kernel_rfl) (by kernel_rfl) (by kernel_rfl) (fun _ _ _ h=>h) (yieldsIf_load_mid (by rfl) _ _ (by rfl) _ _ (by rfl) _ _ xX Tryz.underlying26 rfl (by kernel_rfl)) (by assumption) ?_
                      try simp only [Act.put,la,lz,ls]
                      refine tr 16 fun K hK=>?_;go_simp
                      (go_at_fn gst;refine (HST.out _).mono ?_;rintro e w5 ⟨rfl,hb5⟩)
                      refine hK.out _ _ ?Jp (fun hHeld=>?_)
                      case Jp=>(exact fun p q h=>hb5.cell (p:=⟨p,q,none⟩) h)
                      clear hK K
                      try simp only [Act.put,la,lz,ls]
                      refine tk 17 ?_;refine tk 18 ?_;refine tr 19 fun K hK=>?_;go_simp
                      (go_at_call 25;refine (dJ _ _ _).mono ?_;rintro e oh ⟨rfl,rfl⟩)
                      refine hK.out _ _ ?Yf (fun hHeld=>?_)
                      case Yf=>(exact fun p q h=>hb5.cell (p:=⟨p,q,none⟩) h)
                      clear hK K
                      try simp only [Act.put,la,lz,ls]
                      refine tk 20 ?_;refine wpAnyH_done (by kernel_rfl) ?_ _;go_wp2;go_ret;exact ⟨bG (by rw [HZ2.out];exact JR (by unfold Sk.score;rw [if_neg (by rw [HT.out];decide)]) (by have h0:=WA.out;omega) Hg.out HYS.out),yQ.trans ((tN hb5).mono yQ.size)⟩
                    · go_upto_region 15 with (fail)
                      refine wp_region_held_drew (S:=(fun w':World=>∀ p q,p<wc.heap.size→w'.cell? ⟨p,q,none⟩=wc.cell? ⟨p,q,none⟩)) (by kernel_rfl) ?jF (fun hHeld=>?_)
                      case jF=>exact fun p q h=>rfl
                      refine tk 0 ?_;refine tk 1 ?_;refine tk 2 ?_;refine tk 3 ?_;refine tk 4 ?_;refine tk 5 ?_;refine tk 6 ?_;refine tk 7 ?_;refine tk 8 ?_;refine tk 9 ?_;refine tk 10 ?_;refine tk 11 ?_;refine tu 12 ?_;refine tu 13 ?_;refine tu 14 ?_;refine tu 15 ?_;refine tu 16 ?_;refine tu 17 ?_;refine tk 18 ?_;refine tr 19 fun K hK=>?_;go_simp
                      (go_at_call 25;refine (dJ _ _ _).mono ?_;rintro e oh ⟨rfl,rfl⟩)
                      refine hK.out _ _ ?Yi (fun hHeld=>?_)
                      case Yi=>(exact fun p q h=>rfl)
                      clear hK K
                      try simp only [Act.put,la,lz,ls]
                      refine tk 20 ?_;refine wpAnyH_done (by kernel_rfl) ?_ _;go_wp2;go_ret;exact ⟨bG (by rw [HZ2.out,if_pos (.inr (.inl Hg.out))];rfl),below_drewN yQ 1⟩
   · have hz':(Sk.eU g != 0)=true:=by simp [hz]
     have hck:Sk.bW g s=Sk.eU g:=by unfold Sk.bW;rw [if_pos hz]
     have uP:=hide hck;clear hz hck;go_wp2;go_ret;exact ⟨bG uP.out.symm,hB1.bw⟩
theorem jo (b:ByteArray):Sk.has [Sk.dB,Sk.dH,Sk.aX] b=decide (b=Sk.dB∨b=Sk.dH∨b=Sk.aX):=by
 unfold Sk.has
 rw [Bool.eq_iff_iff]
 simp only [List.any_cons,List.any_nil,Bool.or_false,Bool.or_eq_true,decide_eq_true_eq,eq_comm (b:=b)]
theorem I8 (g:Sk.Game) (b:ByteArray) (hit:Bool) (w:World):Calls Tryz.prog 136 #[rF g,.string b,.bool hit] w fun e w'=>e= .returned (.bool (Sk.fM g b hit))∧Below w.heap.size w w':=by
 go_enter Tryz.func136,Tryz.ntmps136
 go_upto_region 0 with (fail)
 go_cut [3,6] (fun v3 v6 wx=>v3=ptr w.heap.size∧v6= .bool false∧aC w wx [(dN g,23)])
 case first=>
  go_wp2;go_meet;exact ⟨rfl,rfl,((aC.nil w).new (by simp) (dN g) _)⟩
 case rest=>
  obtain ⟨rfl,rfl,hB⟩:=hcut;have hF:=hB.aj rfl;have k0:=hF.cell (j:=0) rfl
  by_cases h1:g.kind=Sk.aK
  · have TY:=wt h1
    by_cases h2:0<Sk.value b
    · have Ub:=(show decide (0<Sk.value b)=true from decide_eq_true h2)
      have HH:=hide (And.intro h1 (And.intro h2 trivial));clear h1 h2
      go_wp2_with (first | (go_at_call 137;refine (dS _ _).mono ?_;rintro e w1 ⟨rfl,hb1⟩;have hB1:=hB.call (by simp) hb1) | (go_at_call 59;refine (gZ (fun _=>True) _ 3 [Sk.dB,Sk.dH,Sk.aX] b _ (kF.lit wc 9 [Sk.dB,Sk.dH,Sk.aX] (by simp) _ trivial)).mono ?_;rintro e w2 ⟨rfl,rfl⟩;have hB1:=hB.alloc (by simp) (.cells ([Sk.dB,Sk.dH,Sk.aX].map Value.string).toArray 9)))
      go_ret;exact ⟨aI (by obtain ⟨h1,h2,_⟩:=HH.out;first | (simp [Sk.fM,jo,Sk.vals,h1,h2];done) | (simp [Sk.fM,jo,Sk.vals,h1,h2];omega) | (rw [Bool.eq_iff_iff];simp [Sk.fM,jo,Sk.vals,h1,h2];omega)),hB1.bw⟩
    · have Ua:=(show decide (0<Sk.value b)=false from decide_eq_false h2)
      by_cases h3:b=Sk.dB
      · have OA:=wt h3
        have HH:=hide (And.intro h1 (And.intro h2 (And.intro h3 trivial)));clear h1 h2 h3
        cases hit
        all_goals
         go_wp2_with (first | (go_at_call 137;refine (dS _ _).mono ?_;rintro e w1 ⟨rfl,hb1⟩;have hB1:=hB.call (by simp) hb1) | (go_at_call 59;refine (gZ (fun _=>True) _ 3 [Sk.dB,Sk.dH,Sk.aX] b _ (kF.lit wc 9 [Sk.dB,Sk.dH,Sk.aX] (by simp) _ trivial)).mono ?_;rintro e w2 ⟨rfl,rfl⟩;have hB1:=hB.alloc (by simp) (.cells ([Sk.dB,Sk.dH,Sk.aX].map Value.string).toArray 9)))
         go_ret;exact ⟨aI (by obtain ⟨h1,h2,h3,_⟩:=HH.out;first | (simp [Sk.fM,jo,Sk.vals,h1,h2,h3];done) | (simp [Sk.fM,jo,Sk.vals,h1,h2,h3];omega) | (rw [Bool.eq_iff_iff];simp [Sk.fM,jo,Sk.vals,h1,h2,h3];omega)),hB1.bw⟩
      · have Oz:=wf h3
        have HH:=hide (And.intro h1 (And.intro h2 (And.intro h3 trivial)));clear h1 h2 h3
        go_wp2_with (first | (go_at_call 137;refine (dS _ _).mono ?_;rintro e w1 ⟨rfl,hb1⟩;have hB1:=hB.call (by simp) hb1) | (go_at_call 59;refine (gZ (fun _=>True) _ 3 [Sk.dB,Sk.dH,Sk.aX] b _ (kF.lit wc 9 [Sk.dB,Sk.dH,Sk.aX] (by simp) _ trivial)).mono ?_;rintro e w2 ⟨rfl,rfl⟩;have hB1:=hB.alloc (by simp) (.cells ([Sk.dB,Sk.dH,Sk.aX].map Value.string).toArray 9)))
        go_ret;exact ⟨aI (by obtain ⟨h1,h2,h3,_⟩:=HH.out;first | (simp [Sk.fM,jo,Sk.vals,h1,h2,h3];done) | (simp [Sk.fM,jo,Sk.vals,h1,h2,h3];omega) | (rw [Bool.eq_iff_iff];simp [Sk.fM,jo,Sk.vals,h1,h2,h3];omega)),hB1.bw⟩
  · have TW:=wf h1
    have HH:=hide (And.intro h1 trivial);clear h1
    go_wp2_with (first | (go_at_call 137;refine (dS _ _).mono ?_;rintro e w1 ⟨rfl,hb1⟩;have hB1:=hB.call (by simp) hb1) | (go_at_call 59;refine (gZ (fun _=>True) _ 3 [Sk.dB,Sk.dH,Sk.aX] b _ (kF.lit wc 9 [Sk.dB,Sk.dH,Sk.aX] (by simp) _ trivial)).mono ?_;rintro e w2 ⟨rfl,rfl⟩;have hB1:=hB.alloc (by simp) (.cells ([Sk.dB,Sk.dH,Sk.aX].map Value.string).toArray 9)))
    go_ret;exact ⟨aI (by obtain ⟨h1,_⟩:=HH.out;first | (simp [Sk.fM,jo,Sk.vals,h1];done) | (simp [Sk.fM,jo,Sk.vals,h1];omega) | (rw [Bool.eq_iff_iff];simp [Sk.fM,jo,Sk.vals,h1];omega)),hB1.bw⟩
theorem Ef (g:Sk.Game) (hit:Bool) (l:List ByteArray) (w:World) (D H:Nat) (hD:Held w D (dN g) 23) (hH:Held w H [.bool hit] 4):Says 135 #[ptr D,ptr H] l (fun b=>Sk.fM g b hit=false) w:=by
 refine ⟨enters_of Tryz.func135 (by kernel_rfl) rfl,fun W x _ hb=>?_⟩;have hG:=hD.below hb;have hK:=(hH.below hb).cell (j:=0) rfl;have hI:=fun W=>I8 g x hit W
 have hdec:decide (Sk.fM g x hit=false)= !Sk.fM g x hit:=by cases Sk.fM g x hit <;> rfl
 show Calls Tryz.prog 135 #[.string x,ptr D,ptr H] W fun e w'=>e= .returned (.bool (decide (Sk.fM g x hit=false)))∧Below w.heap.size w w'
 rw [hdec];obtain ⟨y,hy⟩:∃ y,Sk.fM g x hit=y:=⟨_,rfl⟩
 simp only [hy] at hI ⊢
 have HI:=hide hI;clear hI hy hdec
 go_enter Tryz.func135,Tryz.ntmps135
 go_wp2_with (first | ((with_reducible refine dh 23 1 ?_);refine dO (hG) Tryz.underlying23 fG ?_) | (go_at_call 136;refine (HI.out _).mono ?_;rintro e w1 ⟨rfl,hb1⟩))
 go_ret;exact ⟨rfl,hb.trans (hb1.mono hb.size)⟩
theorem Dl (S:Nat→Prop) (g:Sk.Game) (hit:Bool) (l:List ByteArray) (A:Option Addr) (c:Nat) (w:World) (D:Nat) (hD:Held w D (dN g) 23) (hl:kF w S A c l):Calls Tryz.prog 133 #[.slice A l.length c,.bool hit,ptr D] w fun e w'=>e= .returned (.bool (l.any (fun b=>Sk.fM g b hit=false)))∧Below w.heap.size w w':=by
 have hb0:Below w.heap.size w (w.alloc (.cells #[.bool hit] 4)):=(Below.refl _ _).alloc (Nat.le_refl _) _;have hS:=Ef g hit l (w.alloc (.cells #[.bool hit] 4)) D w.heap.size (hD.below hb0) (Held.new w [.bool hit] 4);have hC:=og S A c l _ _ _ _ (hl.below hb0) hS;have HC:=hide hC;clear hC hS
 go_enter Tryz.func133,Tryz.ntmps133
 go_wp2_with (go_at_call 134;refine (HC.out).mono ?_;rintro e w1 ⟨rfl,hb1⟩)
 go_ret;exact ⟨aI (by congr 1;funext b;cases Sk.fM g b hit <;> rfl),hb0.trans (hb1.mono hb0.size)⟩
theorem Lp (w:World):Calls Tryz.prog 132 #[] w fun e w'=>e= .returned (.slice (some ⟨w.heap.size,0,none⟩) 4 4)∧w.alloc (.cells ([Sk.dW,Sk.kK,Sk.mQ,Sk.jg].map Value.string).toArray 9)=w':=by
 go_enter Tryz.func132,Tryz.ntmps132
 go_wp2;go_ret;exact ⟨rfl,rfl⟩
end Go.Proofs.YtcbmedfongiojaaGreatDoor
