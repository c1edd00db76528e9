/- Parts of a proof. -/
import Derived.Lib.SplitLaws
import Derived.Test.YtcjglfbpjkdgiaaGreatDoorKk14
set_option maxHeartbeats 800000
set_option maxRecDepth 100000
set_option linter.unusedVariables false
set_option linter.unusedSimpArgs false
namespace Go.Proofs.YtcjglfbpjkdgiaaGreatDoor
open Go.RowKit
theorem Gj (c:UInt8):∀ l:List UInt8,(M.cutAt c l=none∧Lib.indexByte l c= -1)∨∃ a b,M.cutAt c l=some (a,b)∧l=a++c::b∧Lib.indexByte l c=(a.length:Int)
 | []=> .inl ⟨rfl,rfl⟩
 | d::l=>by
   by_cases h:d=c
   · exact .inr ⟨[],l,by rw [M.cutAt,if_pos h],by rw [h];rfl,by rw [Lib.indexByte,if_pos (by simp [h])];rfl⟩
   · rcases Gj c l with ⟨h1,h2⟩ | ⟨a,b,h1,h2,h3⟩
     · exact .inl ⟨by rw [M.cutAt,if_neg h,h1];rfl,by rw [Lib.indexByte,if_neg (by simp [h]),h2];rfl⟩
     · refine .inr ⟨d::a,b,by rw [M.cutAt,if_neg h,h1];rfl,by rw [h2];rfl,?_⟩
       rw [Lib.indexByte,if_neg (by simp [h]),if_neg (by rw [h3];simp <;> omega),h3,List.length_cons]
       push_cast
       rfl
theorem OU (c:UInt8) (l:List UInt8):Lib.cut l [c]=match M.cutAt c l with | none=>(l,[],false) | some p=>(p.1,p.2,true):=by
 unfold Lib.cut
 rw [Lib.index_one]
 rcases Gj c l with ⟨h1,h2⟩ | ⟨a,b,h1,h2,h3⟩
 · rw [h1,h2];rfl
 · rw [h1,h3,if_pos (by omega)]
   have:((a.length:Int)).toNat=a.length:=by omega
   simp only [this,h2,List.length_singleton]
   rw [List.take_left,show a.length+1=(a++[c]).length by simp,show a++c::b=(a++[c])++b by simp,List.drop_left]
theorem OD (c a:UInt8) (l:List UInt8):Lib.hasPrefix (a::l) [c]=decide (a=c):=by
 unfold Lib.hasPrefix
 simp [List.isPrefixOf]
 rw [Bool.eq_iff_iff]
 simp
 exact eq_comm
theorem KN (c a:UInt8) (l:List UInt8):Lib.trimPrefix (a::l) [c]=if a=c then l else a::l:=by
 unfold Lib.trimPrefix
 rw [OD]
 by_cases h:a=c <;> simp [h]
def jD (c:UInt8) (l:List UInt8):List UInt8:=Lib.trimPrefix l [c]
def qY (c:UInt8) (l:List UInt8):List UInt8 × List UInt8 × Bool:=Lib.cut (jD c l) [47]
theorem GR (c:UInt8) (l:List UInt8):(M.dQ c l).isSome=(Lib.hasPrefix l [c] && (qY c l).2.2 && (M.num (qY c l).1).isSome && (M.num (qY c l).2.1).isSome)∧
 ∀ p,M.dQ c l=some p→M.num (qY c l).1=some p.1∧M.num (qY c l).2.1=some p.2:=by
 cases l with
 | nil=>exact ⟨rfl,fun p h=>by cases h⟩
 | cons a l=>
   unfold qY jD
   rw [uO,OD,KN]
   by_cases h:a=c
   · simp only [h,if_true,decide_true,Bool.true_and]
     rw [OU]
     cases hc:M.cutAt 47 l with
     | none=>exact ⟨rfl,fun p h=>by cases h⟩
     | some q=>
       simp only [Bool.true_and]
       refine ⟨KW _ _,fun p h=>?_⟩
       cases h1:M.num q.1 with
       | none=>rw [h1] at h;cases h
       | some i=>
         cases h2:M.num q.2 with
         | none=>rw [h1,h2] at h;cases h
         | some j=>rw [h1,h2] at h;injection h with h;rw [← h];exact ⟨rfl,rfl⟩
   · simp only [h,if_false,decide_false,Bool.false_and]
     exact ⟨rfl,fun p h=>by cases h⟩
theorem XA (l:List UInt8) (c:UInt8):(Lib.cut l [c]).1.length≤l.length∧(Lib.cut l [c]).2.1.length≤l.length:=by
 rw [OU]
 cases h:M.cutAt c l with
 | none=>simp
 | some p=>
   obtain ⟨a,b⟩:=p;obtain ⟨e,_⟩:=M.wC h;rw [e]
   simp
   omega
theorem Ku (c:UInt8) (l:List UInt8):(jD c l).length≤l.length:=by
 unfold jD Lib.trimPrefix
 split
 · simp
 · exact Nat.le_refl _
theorem both_any (c:UInt8) (l:List UInt8) (w:World) (hg:Glob w) (hl:l.length≤4096):Calls Tryz.prog 87 #[.string ⟨l.toArray⟩,.string ⟨#[c]⟩] w fun e w'=>
 ∃ v1 v2,e= .returned (.tuple #[.int .i64 v1,.int .i64 v2,.bool (M.dQ c l).isSome])∧(∀ p,M.dQ c l=some p→v1=p.1∧v2=p.2)∧Below w.heap.size w w':=by
 obtain ⟨hp,hq⟩:=GR c l;rw [hp];have r1:=Ku c l;have r2:=XA (jD c l) 47;have c1:∀ W,Calls Tryz.prog 149 #[.string ⟨l.toArray⟩,.string ⟨#[c]⟩] W fun e w'=>e= .returned (.tuple #[.string ⟨(jD c l).toArray⟩,.bool (Lib.hasPrefix l [c])])∧w'=W:=fun W=>Tryz.strings_CutPrefix ⟨l.toArray⟩ ⟨#[c]⟩ W;obtain ⟨m,hm⟩:=hg.n;have hlt:1<w.heap.size:=Lib.lt_of_cell hm
 have c2:Calls Tryz.prog 150 #[.string ⟨(jD c l).toArray⟩,.string ⟨#[47]⟩] w fun e w'=>e= .returned (.tuple #[.string ⟨(qY c l).1.toArray⟩,.string ⟨(qY c l).2.1.toArray⟩,.bool (qY c l).2.2])∧∃ n,w'=w.drewN n:=
  Tryz.strings_Cut ⟨(jD c l).toArray⟩ ⟨#[47]⟩ m w (by rw [iM];omega) hm
 have r3:(qY c l).1.length≤4096:=by unfold qY;omega
 have r4:(qY c l).2.1.length≤4096:=by unfold qY;omega
 obtain ⟨b1,e1⟩:∃ b,Lib.hasPrefix l [c]=b:=⟨_,rfl⟩;obtain ⟨q,e2⟩:∃ q,qY c l=q:=⟨_,rfl⟩;obtain ⟨A,B,b2⟩:=q;rw [e1] at c1 ⊢;rw [e2] at c2 r3 r4 hq ⊢
 simp only at c2 r3 r4 hq ⊢
 obtain ⟨b3,e3⟩:∃ b,(M.num A).isSome=b:=⟨_,rfl⟩;have d1:=fun W h=>wF A W h r3;have d2:=fun W h=>wF B W h r4;rw [e3] at d1 ⊢;have C1:=hide c1;have C2:=hide c2;have D1:=hide d1;have D2:=hide d2;have HQ:=hide hq;clear c1 c2 d1 d2 hq hp e1 e2 e3 hm
 cases b1 <;> cases b2 <;> cases b3
 all_goals
  go_enter Tryz.func87,Tryz.ntmps87
  go_wp2_with (first | (go_at_call 149;refine (C1.out _).mono ?_;rintro e w1 ⟨rfl,rfl⟩) | (go_at_call 150;refine C2.out.mono ?_;rintro e w2 ⟨rfl,n,rfl⟩;have g2:=hg.below (below_drewN (Below.refl _ _) n)) | (go_at_call 88;refine (D1.out _ g2).mono ?_;rintro e w3 ⟨v1,rfl,hv1,hb3⟩;have hbb:=(below_drewN (Below.refl _ _) n).trans hb3;have g3:=hg.below hbb;clear D1) | (go_at_call 88;refine (D2.out _ g3).mono ?_;rintro e w4 ⟨v2,rfl,hv2,hb4⟩;have hbc:=hbb.trans (hb4.mono hbb.size)))
  all_goals go_ret3
  all_goals exact ⟨v1,v2,rfl,fun p h=>⟨hv1 _ (HQ.out p h).1,hv2 _ (HQ.out p h).2⟩,hbc⟩
theorem Ju:(Tryz.prog.info? 71).map (fun i=>(i.zero,i.size,i.bytes))=some (some (.agg #[.int .i64 0,.int .i64 0]),2,16):=by kernel_rfl
theorem yc:∀ (k:Nat) (l:List UInt8),l.count 32≤k→Lib.splitK [32] 0 k l=M.words l
 | 0,l,h=>by
   have h0:(32:UInt8) ∉ l:=List.count_eq_zero.1 (by omega);rw [Lib.splitK]
   unfold M.words
   have:=M.jH l h0 [] []
   rw [List.append_nil,List.nil_append] at this;rw [this];rfl
 | k+1,l,h=>by
   rw [Lib.splitK,Lib.index_one]
   rcases Gj 32 l with ⟨h1,h2⟩ | ⟨a,b,h1,h2,h3⟩
   · rw [if_pos (by rw [h2];rfl)]
     have h0:(32:UInt8) ∉ l:=M.wB.1 h1
     unfold M.words
     have:=M.jH l h0 [] []
     rw [List.append_nil,List.nil_append] at this;rw [this];rfl
   · obtain ⟨_,h0⟩:=M.wC h1
     have ha:((a.length:Int)).toNat=a.length:=by omega
     rw [if_neg (by rw [h3];simp <;> omega),h3,ha,h2]
     have hc:b.count 32≤k:=by
      rw [h2,List.count_append,List.count_cons_self,List.count_eq_zero.2 h0] at h
      omega
     rw [Nat.add_zero,List.take_left,show a.length+[(32:UInt8)].length=(a++[32]).length by simp,show a++32::b=(a++[32])++b by simp,List.drop_left,yc k b hc]
     unfold M.words
     rw [List.append_assoc,M.jH a h0,List.singleton_append,M.dW,if_pos rfl,List.nil_append]
theorem pF:∀ (l cur:List UInt8),(M.dW cur l).length=l.count 32+1
 | [],cur=>by simp [M.dW]
 | c::l,cur=>by
   rw [M.dW]
   by_cases h:c=32
   · subst h
     rw [if_pos rfl,List.length_cons,pF l,List.count_cons_self]
   · rw [if_neg h,pF l,List.count_cons_of_ne h]
theorem NK (l:List UInt8) (w:World) (hg:Glob w) (hl:l.length≤4096):Calls Tryz.prog 45 #[.string ⟨l.toArray⟩,.string ⟨#[32]⟩] w fun e w'=>
 e= .returned (.slice (some ⟨w.heap.size,0,none⟩) (M.words l).length (M.words l).length)∧w'=w.alloc (.cells ((M.words l).map jG).toArray 9):=by
 obtain ⟨m,hm⟩:=hg.n;have h:=Tryz.strings_Split ⟨l.toArray⟩ ⟨#[32]⟩ m w (by rw [iM];omega) hm (Nat.le_refl 1);have hc:Lib.countB ⟨l.toArray⟩ ⟨#[32]⟩=l.count 32:=Lib.count_one 32 l
 have hw:(Lib.splitB ⟨#[32]⟩ 0 (Lib.countB ⟨l.toArray⟩ ⟨#[32]⟩) ⟨l.toArray⟩).map (·.data.toList)=M.words l:=by
  rw [Lib.splitB_data,hc];exact yc _ l (Nat.le_refl _)
 have hw2:(Lib.splitB ⟨#[32]⟩ 0 (Lib.countB ⟨l.toArray⟩ ⟨#[32]⟩) ⟨l.toArray⟩).map Value.string=(M.words l).map jG:=by
  rw [← hw,List.map_map];apply List.map_congr_left;intro b _
  rfl
 have hn:(M.words l).length=Lib.countB ⟨l.toArray⟩ ⟨#[32]⟩+1:=by rw [hc];exact pF l []
 rw [hw2, ← hn] at h;exact h
def fQ (x:M.aV) (p:Nat) (l:List UInt8):Int × M.aV:=
 if p=0 then (if l=[97] then (1,{x with aG:=0 }) else if l=[98] then (1,{x with aG:=1 }) else (-1,x))
 else if p=1 then (if M.jy l then (2,{x with kind:=⟨l.toArray⟩ }) else (-1,x))
 else match M.read x p l with | some q=>((q.2:Int),q.1) | none=>(-1,x)
end Go.Proofs.YtcjglfbpjkdgiaaGreatDoor
