/- Parts of a proof. -/
import Derived.Test.YtcjglfbpjkdgiaaGreatDoorKk13
import Derived.Test.YtcjglfbpjkdgiaaGreatDoorKk5
set_option maxHeartbeats 800000
set_option maxRecDepth 100000
set_option linter.unusedVariables false
set_option linter.unusedSimpArgs false
namespace Go.Proofs.YtcjglfbpjkdgiaaGreatDoor
open Go.RowKit
structure Glob (w:World):Prop where
 n:∃ m,w.cell? ⟨1,0,none⟩=some (.int .i64 m)
 es:∃ tp p,w.var? Tryz.prog "strconv.ErrSyntax" =some #[.iface tp p]
 er:∃ tp p,w.var? Tryz.prog "strconv.ErrRange" =some #[.iface tp p]
 tab:Lib.TabIs Tryz.prog w "internal/strconv.uint64pow10" .u64 Lib.pow10Tab
theorem uS {P:Program} {w w':World} {n:String} {cs:Array Value} (h:w.var? P n=some cs) (hb:Below w.heap.size w w'):w'.var? P n=some cs:=by
 unfold World.var? at h ⊢
 cases hg:P.globalNamed n with
 | none=>rw [hg] at h;cases h
 | some g=>
   rw [hg] at h
   simp only [Option.bind_some] at h ⊢
   cases ho:w.heap[g]? with
   | none=>rw [ho] at h;cases h
   | some o=>
     have hlt:g<w.heap.size:=(Array.getElem?_eq_some_iff.1 ho).1;rw [hb.block g hlt];exact h
theorem Glob.below {w w':World} (h:Glob w) (hb:Below w.heap.size w w'):Glob w':=by
 obtain ⟨m,hm⟩:=h.n;obtain ⟨t1,p1,h1⟩:=h.es;obtain ⟨t2,p2,h2⟩:=h.er;have hlt:1<w.heap.size:=Lib.lt_of_cell hm;exact ⟨⟨m,(hb.cell (p:=⟨1,0,none⟩) hlt).trans hm⟩,⟨t1,p1,uS h1 hb⟩,⟨t2,p2,uS h2 hb⟩,uS h.tab hb⟩
theorem oO {n:Nat} (h:n<100):Lib.decDigits n=M.dec n:=by
 unfold M.dec
 by_cases h1:n<10
 · rw [if_pos (by omega),Lib.decDigits,dif_pos h1];rfl
 · rw [if_neg (by omega),Lib.decDigits,dif_neg h1,Lib.decDigits,dif_pos (by omega)];rfl
theorem D8 (n:Nat):1≤(Lib.decDigits n).length:=by
 rw [Lib.decDigits];split <;> simp
theorem BO {n:Nat} (h:100≤n):3≤(Lib.decDigits n).length:=by
 rw [Lib.decDigits,dif_neg (by omega),Lib.decDigits,dif_neg (by omega)]
 have:=D8 (n / 10 / 10)
 simp
 omega
theorem IJ {n:Int} (h0:0≤n) (h1:n≤99):Lib.itoa n=M.dec n:=by
 obtain ⟨k,rfl⟩:=Int.eq_ofNat_of_zero_le h0
 unfold Lib.itoa
 rw [if_neg (by omega)];exact oO (by omega)
theorem SN:∀ n:Fin 100,Lib.atoiAll (M.dec (n.val:Int))= .ok (n.val:Int):=by decide
theorem C9 {l:List UInt8} {v:Int} (h:M.num l=some v):Lib.atoiAll l= .ok v∧l.length≤2∧Lib.itoa v=l∧0≤v:=by
 obtain ⟨rfl,h0,h1⟩:=M.XB h;obtain ⟨k,rfl⟩:=Int.eq_ofNat_of_zero_le h0;exact ⟨SN ⟨k,by omega⟩,M.ig _,IJ h0 h1,h0⟩
theorem SQ {l:List UInt8} {v:Int} (h2:l.length≤2) (h3:Lib.itoa v=l) (h4:0≤v):M.num l=some v:=by
 obtain ⟨k,rfl⟩:=Int.eq_ofNat_of_zero_le h4
 have hk:k<100:=by
  rcases Nat.lt_or_ge k 100 with h | h
  · exact h
  · have:=BO h
    unfold Lib.itoa at h3
    rw [if_neg (by omega)] at h3
    have:Lib.decDigits k=l:=h3
    rw [← this] at h2
    omega
 rw [← h3,IJ h4 (by omega)];exact M.Bh h4 (by omega)
theorem Nk {l:List UInt8} {v:Int} (h:Lib.atoiAll l= .ok v):(M.num l).isSome=decide (l.length≤2∧Lib.itoa v=l∧0≤v):=by
 by_cases hc:l.length≤2∧Lib.itoa v=l∧0≤v
 · rw [SQ hc.1 hc.2.1 hc.2.2];simp [hc]
 · rw [decide_eq_false hc]
   cases hn:M.num l with
   | none=>rfl
   | some u=>
     obtain ⟨h1,h2⟩:=C9 hn;rw [h] at h1
     injection h1 with h1
     subst h1;exact absurd h2 hc
theorem Jj {l:List UInt8} (h:∀ v,Lib.atoiAll l≠ .ok v):M.num l=none:=by
 cases hn:M.num l with
 | none=>rfl
 | some u=>exact absurd (C9 hn).1 (h u)
theorem Yt {l:List UInt8} {v u:Int} (h:Lib.atoiAll l= .ok v) (hu:M.num l=some u):u=v:=by
 have:=(C9 hu).1
 rw [h] at this
 injection this with this
 exact this.symm
theorem Fa (c:UInt8) (a b:Int) (w:World) (ha:0≤a∧a≤99) (hb:0≤b∧b≤99):Calls Tryz.prog 42 #[.string ⟨#[c]⟩,.int .i64 a,.int .i64 b] w fun e w'=>e= .returned (.string ⟨(M.bV c a b).toArray⟩)∧w'=w:=by
 obtain ⟨i,rfl⟩:=Int.eq_ofNat_of_zero_le ha.1;obtain ⟨j,rfl⟩:=Int.eq_ofNat_of_zero_le hb.1;have l1:=M.ig (i:Int);have l2:=M.ig (j:Int)
 have h1:∀ W,Calls Tryz.prog 43 #[.int .i64 (i:Int)] W fun e w'=>e= .returned (.string ⟨(M.dec (i:Int)).toArray⟩)∧w'=W:=fun W=>by
  have:=Tryz.strconv_Itoa_small i (by omega) W
  rwa [oO (by omega)] at this
 have h2:∀ W,Calls Tryz.prog 43 #[.int .i64 (j:Int)] W fun e w'=>e= .returned (.string ⟨(M.dec (j:Int)).toArray⟩)∧w'=W:=fun W=>by
  have:=Tryz.strconv_Itoa_small j (by omega) W
  rwa [oO (by omega)] at this
 have H1:=hide h1;have H2:=hide h2;clear h1 h2
 go_enter Tryz.func42,Tryz.ntmps42
 go_wp2_with (first | (go_at_call 43;refine (H1.out _).mono ?_;rintro e w' ⟨rfl,rfl⟩;clear H1) | (go_at_call 43;refine (H2.out _).mono ?_;rintro e w' ⟨rfl,rfl⟩;clear H2))
 go_ret;refine ⟨?_,rfl⟩;exact congrArg (fun b=>Ending.returned (.string b)) (by simp only [FD];simp [M.bV])
theorem qy {w w':World} (h:∃ k os,w'=Go.Sort.grow (w.drewN k) os):Below w.heap.size w w':=by
 obtain ⟨k,os,rfl⟩:=h;refine ⟨rfl,rfl,rfl,?_,fun b hb=>?_⟩
 · show w.heap.size≤(w.heap++os).size
   rw [Array.size_append];omega
 · show (w.heap++os)[b]? =_
   exact Array.getElem?_append_left hb
theorem lC {w w':World} {e:TypeId} (h:w'=w∨∃ t,w'=Lib.bytesWorld w e t):Below w.heap.size w w':=by
 rcases h with rfl | ⟨t,rfl⟩
 · exact Below.refl _ _
 · exact Lib.bytesWorld_below _ _ _
theorem wF (l:List UInt8) (w:World) (hg:Glob w) (hl:l.length≤4096):Calls Tryz.prog 88 #[.string ⟨l.toArray⟩] w fun e w'=>
 ∃ v,e= .returned (.tuple #[.int .i64 v,.bool (M.num l).isSome])∧(∀ u,M.num l=some u→v=u)∧Below w.heap.size w w':=by
 have hsz:(ByteArray.mk l.toArray).size=l.length:=iM l;have hdl:(ByteArray.mk l.toArray).data.toList=l:=rfl
 rcases hat:Lib.atoiAll l with v | _ | _
 · skip
   have hb:=Lib.atoiAll_bounds hat;have hA:=Tryz.strconv_Atoi_ok ⟨l.toArray⟩ (by omega) v hat;have HA:=hide hA;have HI:=hide (fun W (h:Glob W)=>Tryz.strconv_Itoa v hb.1 hb.2 W h.tab);have HS:=hide (Nk hat);have HV:=hide (fun u (h:M.num l=some u)=>(Yt hat h).symm);obtain ⟨rr,hrr⟩:∃ b,(M.num l).isSome=b:=⟨_,rfl⟩;rw [hrr];rw [hrr] at HS;clear hA hat hrr
   by_cases h2:l.length≤2
   · by_cases h3:Lib.itoa v=l
     · have f3:((ByteArray.mk (Lib.itoa v).toArray).toList == (ByteArray.mk l.toArray).toList)=true:=by rw [h3];simp
       by_cases h4:0≤v
       · have hr:rr=true:=by rw [HS.out];simp [h2,h3,h4]
         subst hr;clear h3
         go_enter Tryz.func88,Tryz.ntmps88
         go_wp2_with (first | (go_at_call 151;refine (HA.out _).mono ?_;rintro e w1 ⟨rfl,hw1⟩;have hb1:=lC hw1) | (go_at_call 43;refine (HI.out _ (hg.below hb1)).mono ?_;rintro e w2 ⟨rfl,hw2⟩;have hb2:=hb1.trans ((qy hw2).mono hb1.size)))
         all_goals go_ret2
         all_goals refine ⟨v,?_,HV.out,hb2⟩
         all_goals first | rfl | (show Ending.returned (Value.tuple #[Value.int IntKind.i64 v,Value.bool (decide (0≤v))])=_;rw [decide_eq_false (by omega)]) | (exfalso;omega) | (exfalso;simp_all;done)
       · have hr:rr=false:=by rw [HS.out];simp [h4]
         subst hr;clear h3
         go_enter Tryz.func88,Tryz.ntmps88
         go_wp2_with (first | (go_at_call 151;refine (HA.out _).mono ?_;rintro e w1 ⟨rfl,hw1⟩;have hb1:=lC hw1) | (go_at_call 43;refine (HI.out _ (hg.below hb1)).mono ?_;rintro e w2 ⟨rfl,hw2⟩;have hb2:=hb1.trans ((qy hw2).mono hb1.size)))
         all_goals go_ret2
         all_goals refine ⟨v,?_,HV.out,hb2⟩
         all_goals first | rfl | (show Ending.returned (Value.tuple #[Value.int IntKind.i64 v,Value.bool (decide (0≤v))])=_;rw [decide_eq_false (by omega)]) | (exfalso;omega) | (exfalso;simp_all;done)
     · have f3:((ByteArray.mk (Lib.itoa v).toArray).toList == (ByteArray.mk l.toArray).toList)=false:=by rw [beq_eq_false_iff_ne];simpa using h3
       have hr:rr=false:=by rw [HS.out];simp [h3]
       subst hr;clear h3
       go_enter Tryz.func88,Tryz.ntmps88
       go_wp2_with (first | (go_at_call 151;refine (HA.out _).mono ?_;rintro e w1 ⟨rfl,hw1⟩;have hb1:=lC hw1) | (go_at_call 43;refine (HI.out _ (hg.below hb1)).mono ?_;rintro e w2 ⟨rfl,hw2⟩;have hb2:=hb1.trans ((qy hw2).mono hb1.size)))
       all_goals go_ret2
       all_goals refine ⟨v,?_,HV.out,hb2⟩
       all_goals first | rfl | (show Ending.returned (Value.tuple #[Value.int IntKind.i64 v,Value.bool (decide (0≤v))])=_;rw [decide_eq_false (by omega)]) | (exfalso;omega) | (exfalso;simp_all;done)
   · have hr:rr=false:=by rw [HS.out];simp [h2]
     subst hr
     go_enter Tryz.func88,Tryz.ntmps88
     go_wp2_with (first | (go_at_call 151;refine (HA.out _).mono ?_;rintro e w1 ⟨rfl,hw1⟩;have hb1:=lC hw1) | (go_at_call 43;refine (HI.out _ (hg.below hb1)).mono ?_;rintro e w2 ⟨rfl,hw2⟩;have hb2:=hb1.trans ((qy hw2).mono hb1.size)))
     all_goals go_ret2
     all_goals refine ⟨v,?_,HV.out,hb1⟩
     all_goals first | rfl | (show Ending.returned (Value.tuple #[Value.int IntKind.i64 v,Value.bool (decide (0≤v))])=_;rw [decide_eq_false (by omega)]) | (exfalso;omega) | (exfalso;simp_all;done)
 · skip
   rw [Jj (fun v h=>by rw [hat] at h;cases h)];obtain ⟨tp,p,he⟩:=hg.es;have hA:=fun W (h:Below w.heap.size w W)=>Tryz.strconv_Atoi_syntax_var ⟨l.toArray⟩ (by omega) (hat.trans rfl) tp p W (uS he h);have HA:=hide hA;clear hA hat he
   go_enter Tryz.func88,Tryz.ntmps88
   go_wp2_with (go_at_call 151;refine (HA.out _ (Below.refl _ _)).mono ?_;rintro e w1 ⟨N,rfl,hN,_,hb1⟩)
   go_ret2;exact ⟨0,rfl,fun u h=>(by cases h),hb1⟩
 · skip
   rw [Jj (fun v h=>by rw [hat] at h;cases h)];obtain ⟨tp,p,he⟩:=hg.er;have hA:=fun W (h:Below w.heap.size w W)=>Tryz.strconv_Atoi_range_var ⟨l.toArray⟩ (by omega) hat tp p W (uS he h);have HA:=hide hA;clear hA hat he
   go_enter Tryz.func88,Tryz.ntmps88
   go_wp2_with (go_at_call 151;refine (HA.out _ (Below.refl _ _)).mono ?_;rintro e w1 ⟨N,rfl,hN,_,hb1⟩)
   go_ret2;exact ⟨_,rfl,fun u h=>(by cases h),hb1⟩
end Go.Proofs.YtcjglfbpjkdgiaaGreatDoor
