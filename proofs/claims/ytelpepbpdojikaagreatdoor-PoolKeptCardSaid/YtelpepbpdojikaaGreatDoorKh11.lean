/- Parts of the proofs about chapter 5 (pool), joined by program. -/
import Derived.Test.YtelpepbpdojikaaGreatDoorKg31
import Derived.Test.YtelpepbpdojikaaGreatDoorKh10
import Derived.Test.YtelpepbpdojikaaGreatDoorKh8
import Derived.Test.YtelpepbpdojikaaGreatDoorKh9
set_option linter.unusedVariables false
set_option linter.unusedSimpArgs false
namespace Go.Proofs.YtelpepbpdojikaaGreatDoor
open Go.RowKit
structure ad1 (W0:World) (r:M.Rules) (l:List Sh) (Al:Option Addr) (cl:Nat) (v1 v2:Value) (W:World):Prop where
 e1:v1= .slice Al l.length cl
 e2:v2=ptr W0.heap.size
 h2:Held W W0.heap.size [.string r.game,.int .i64 r.target,.int .i64 r.aY] 23
 rl:wG W (fun _=>True) Al cl l
 pl:∀ e∈l,e.x.aA.length*16≤140737488355328
 ll:l.length*80≤140737488355328
 bw:Below W0.heap.size W0 W
theorem ad1.below {W0 W W':World} {r:M.Rules} {l:List Sh} {Al:Option Addr} {cl:Nat} {v1 v2:Value} (h:ad1 W0 r l Al cl v1 v2 W) (hb:Below W.heap.size W W'):ad1 W0 r l Al cl v1 v2 W':=
 ⟨h.e1,h.e2,h.h2.below hb,h.rl.below hb,h.pl,h.ll,VY h.bw hb⟩
def agf (W0:World) (r:M.Rules) (l:List Sh) (Al:Option Addr) (cl:Nat) (v1 v2 v5 v6:Value) (W:World):Prop:=
 ad1 W0 r l Al cl v1 v2 W∧∃ B5 A6 c6 l',v5=ptr B5∧Held W B5 [.string r.game,.int .i64 r.target,.int .i64 r.aY] 25∧v6= .slice A6 l'.length c6∧plain l'=plain l∧wG W (fun _=>True) A6 c6 l'
theorem agf.below {W0 W W':World} {r:M.Rules} {l:List Sh} {Al:Option Addr} {cl:Nat} {v1 v2 v5 v6:Value} (h:agf W0 r l Al cl v1 v2 v5 v6 W) (hb:Below W.heap.size W W'):agf W0 r l Al cl v1 v2 v5 v6 W':=by
 obtain ⟨h1,B5,A6,c6,l',e5,h5,e6,hp,h6⟩:=h
 exact ⟨h1.below hb,B5,A6,c6,l',e5,h5.below hb,e6,hp,h6.below hb⟩
def acH (s:M.State) (t:TypeId) (v:Value) (W:World):Prop:=∃ B A c,v=ptr B∧Held W B (aW s A c) t∧bD W (fun _=>True) A c s.ay
theorem acH.below {s:M.State} {t:TypeId} {v:Value} {W W':World} (h:acH s t v W) (hb:Below W.heap.size W W'):acH s t v W':=by
 obtain ⟨B,A,c,h1,h2,h3⟩:=h
 exact ⟨B,A,c,h1,h2.below hb,h3.below hb⟩
theorem acH.new {s:M.State} {t:TypeId} {A:Option Addr} {c:Nat} {S:Nat→Prop} {w1:World} (hr:bD w1 S A c s.ay) (hbx:Held (w1.alloc (.cells aj.toArray t)) w1.heap.size aj t):
 acH s t (ptr w1.heap.size) ((w1.alloc (.cells aj.toArray t)).setCells w1.heap.size 0 (aW s A c))∧Below w1.heap.size w1 ((w1.alloc (.cells aj.toArray t)).setCells w1.heap.size 0 (aW s A c)):=by
 have hb:Below w1.heap.size w1 ((w1.alloc (.cells aj.toArray t)).setCells w1.heap.size 0 (aW s A c)):=below_setCells _ (Nat.le_refl _) _ _ _ _ ((Below.refl _ _).alloc (Nat.le_refl _) _)
 exact ⟨⟨w1.heap.size,A,c,rfl,hbx.whole _ rfl,bD.more (hr.below hb) (fun _ _ _=>trivial)⟩,hb⟩
theorem afK:(Tryz.prog.info? 25).map (·.size)=some 3:=by kernel_rfl
theorem wG.aiB {w6 X:World} {S:Nat→Prop} {A:Option Addr} {c g o:Nat} {l:List Sh} {v:List Value} (h:wG w6 S A c l) (hb:Below w6.heap.size w6 X) (hg:∀ b,b<w6.heap.size→S b→b≠g):wG (X.setCells g o v) S A c l:=
 h.keep (by rw [setCells_size];exact hb.size) fun b i hs hl=>(kN _ _ _ _ (hg b hl hs)).trans (hb.cell (p:=⟨b,i,none⟩) hl)
theorem ahD {a b:Int} (h:aU [a,b]=0):a=0∧b=0:=by
 unfold aU at h
 split at h
 · next h1=>exact absurd h h1
 · next h1=>
   have ha:a=0:=by simpa using h1
   refine ⟨ha,?_⟩
   unfold aU at h
   split at h
   · next h2=>exact absurd h h2
   · next h2=>simpa using h2
structure ain (r:M.Rules) (l:List Sh) (n:Nat):Prop where
 len:l.length≤n
 rules:M.aH r=0
 log:M.je (plain l)=0
structure StA (W0:World) (r:M.Rules) (s:M.State) (x:Sh) (As:Option Addr) (cs:Nat) (v3 v4 v5:Value) (W:World):Prop where
 e3:v3=ptr W0.heap.size
 e4:v4=ptr (W0.heap.size+1)
 e5:v5=ptr (W0.heap.size+2)
 h3:Held W W0.heap.size [.string r.game,.int .i64 r.target,.int .i64 r.aY] 23
 h4:Held W (W0.heap.size+1) (aW s As cs) 33
 h5:Held W (W0.heap.size+2) (au x) 66
 rs:bD W (fun _=>True) As cs s.ay
 rx:jl W (fun _=>True) x.a x.c x.x.aA
 fit:x.x.aA.length*16≤140737488355328
 bw:Below W0.heap.size W0 W
theorem StA.below {W0 W W':World} {r:M.Rules} {s:M.State} {x:Sh} {As:Option Addr} {cs:Nat} {v3 v4 v5:Value} (h:StA W0 r s x As cs v3 v4 v5 W) (hb:Below W.heap.size W W'):StA W0 r s x As cs v3 v4 v5 W':=
 ⟨h.e3,h.e4,h.e5,h.h3.below hb,h.h4.below hb,h.h5.below hb,h.rs.below hb,Reads.below h.rx hb,h.fit,VY h.bw hb⟩
def StB (W0:World) (r:M.Rules) (s:M.State) (x:Sh) (As:Option Addr) (cs:Nat) (v3 v4 v5 v7 v8 v9:Value) (W:World):Prop:=
 StA W0 r s x As cs v3 v4 v5 W∧∃ B7 B8 B9 A9 c9,v7=ptr B7∧Held W B7 [.string r.game,.int .i64 r.target,.int .i64 r.aY] 25∧v8=ptr B8∧Held W B8 (aW s As cs) 42∧v9=ptr B9∧Held W B9 (au ⟨x.x,A9,c9⟩) 69∧jl W (fun _=>True) A9 c9 x.x.aA
theorem StB.below {W0 W W':World} {r:M.Rules} {s:M.State} {x:Sh} {As:Option Addr} {cs:Nat} {v3 v4 v5 v7 v8 v9:Value} (h:StB W0 r s x As cs v3 v4 v5 v7 v8 v9 W) (hb:Below W.heap.size W W'):StB W0 r s x As cs v3 v4 v5 v7 v8 v9 W':=by
 obtain ⟨h1,B7,B8,B9,A9,c9,e7,h7,e8,h8,e9,h9,hp⟩:=h
 exact ⟨h1.below hb,B7,B8,B9,A9,c9,e7,h7.below hb,e8,h8.below hb,e9,h9.below hb,Reads.below hp hb⟩
theorem aeQ:(Tryz.prog.info? 25).map (·.size)=some 3:=by kernel_rfl
theorem afD:(Tryz.prog.info? 69).map (·.size)=some 7:=by kernel_rfl
theorem ac9 (S:Nat→Prop) (r:M.Rules) (s:M.State) (A:Option Addr) (c:Nat) (w:World) (hp:bD w S A c s.ay):
 Calls Tryz.prog 43 #[jM r,wF s A c] w fun e w'=>e= .returned (.int .i64 (M.jf r s))∧Below w.heap.size w w':=by
 by_cases h:M.dw r s=0
 · obtain ⟨g,tg,fo⟩:=r
   have ho:=Om h
   by_cases hg:s.group=0
   · exact ZO S g tg fo s A c w hp ho (by simpa using hg)
   · have he:g=M.aQ:=ho.game.resolve_left hg
     subst he
     exact ZH S tg fo s A c w hp ho (by simpa using hg)
 · have:=Z4 r s A c w hp.bd.2.2 h
   have hck:M.jf r s=M.dw r s:=by unfold M.jf;rw [if_pos h]
   rw [hck]
   exact this
theorem jl.aiI {w6 X:World} {S:Nat→Prop} {A:Option Addr} {c g7 g8 g9 o7 o8 o9:Nat} {l:List M.rD} {v7 v8 v9:List Value} (h:jl w6 S A c l) (hb:Below w6.heap.size w6 X) (hg:∀ b,b<w6.heap.size→S b→b≠g7∧b≠g8∧b≠g9):jl (((X.setCells g7 o7 v7).setCells g8 o8 v8).setCells g9 o9 v9) S A c l:=
 Reads.keep h (by rw [setCells_size,setCells_size,setCells_size];exact hb.size) fun b i hs hl=>(kN _ _ _ _ (hg b hl hs).2.2).trans ((kN _ _ _ _ (hg b hl hs).2.1).trans ((kN _ _ _ _ (hg b hl hs).1).trans (hb.cell (p:=⟨b,i,none⟩) hl)))
theorem ahi {P:Program} {md:Region.Mode} {ops:Array Oper} {Q:Exit→Act→World→Prop} {S:World→Prop} {n:Nat} {l:Array Bool} {a:Act} {w:World} (h:∀ f:Nat→Array Bool→Act→World→Prop,f=wpAnyH P md ops Q S→f n l a w):wpAnyH P md ops Q S n l a w:=h _ rfl
theorem afR {X:World} {g7 g8 g9:Nat} {z7 z8 z9 v7 v8 v9:List Value} {t7 t8 t9:TypeId} (h7:Held X g7 z7 t7) (h8:Held X g8 z8 t8) (h9:Held X g9 z9 t9) (n78:g7≠g8) (n79:g7≠g9) (n89:g8≠g9) (l7:z7.length=v7.length) (l8:z8.length=v8.length) (l9:z9.length=v9.length):
 Held (((X.setCells g7 0 v7).setCells g8 0 v8).setCells g9 0 v9) g7 v7 t7∧Held (((X.setCells g7 0 v7).setCells g8 0 v8).setCells g9 0 v9) g8 v8 t8∧Held (((X.setCells g7 0 v7).setCells g8 0 v8).setCells g9 0 v9) g9 v9 t9:=
 ⟨Held.others n79 _ _ _ (Held.others n78 _ _ _ (h7.whole _ l7)),Held.others n89 _ _ _ ((Held.others n78.symm _ _ _ h8).whole _ l8),(Held.others n89.symm _ _ _ (Held.others n79.symm _ _ _ h9)).whole _ l9⟩
end Go.Proofs.YtelpepbpdojikaaGreatDoor
