/- Parts of a proof. -/
import Derived.Laws.DeepStrings4
import Derived.Test.YtcjglfbpjkdgiaaGreatDoorKk2
set_option maxHeartbeats 800000
set_option maxRecDepth 100000
set_option linter.unusedVariables false
set_option linter.unusedSimpArgs false
namespace Go.Proofs.YtcjglfbpjkdgiaaGreatDoor
open Go.RowKit
def pY (l:List UInt8):Int:=(M.num l).getD 0
def pI (l:List UInt8):Bool:=(M.num l).isSome
theorem WV (a:UInt8):(a.toNat:Int)≤255:=by have:=a.toNat_lt;omega
theorem uM {c:UInt8}:M.lI c=false↔((c.toNat:Int)<48∨57<(c.toNat:Int)):=by
 rw [← Bool.not_eq_true,M.qj];omega
theorem FX {c:UInt8}:M.lI c=true↔48≤(c.toNat:Int)∧(c.toNat:Int)≤57:=by rw [M.qj];omega
theorem OZ (a:UInt8):M.num [a]=if M.lI a then some ((a.toNat:Int) - 48) else none:=rfl
theorem Bj (a b:UInt8):M.num [a,b]=if M.lI a=true∧M.lI b=true∧a≠48 then some (10*((a.toNat:Int) - 48)+((b.toNat:Int) - 48)) else none:=rfl
theorem Nl (a:UInt8) (w:World):Calls Tryz.prog 107 #[.string ⟨#[a]⟩] w fun e w'=>e= .returned (.tuple #[.int .i64 (pY [a]),.bool (pI [a])])∧w=w':=by
 have ua:=WV a
 cases ha:M.lI a
 · have hd:=uM.1 ha
   have e1:pY [a]=0∧pI [a]=false:=by unfold pY pI;rw [OZ,ha];exact ⟨rfl,rfl⟩
   rw [e1.1,e1.2];clear ha e1
   go_enter Tryz.func107,Tryz.ntmps107
   go_wp2
   go_loop [4,5] (fun n i=>n= .int .i64 0∧i= .int .i64 0) (fun n i=>2 - (intOf i).toNat)
   case atStart=>exact ⟨rfl,rfl⟩
   case round=>
    obtain ⟨rfl,rfl⟩:=hrel
    rcases hd with hd | hd
    · have hd1:(((⟨#[a]⟩:ByteArray)[0]'(Nat.zero_lt_succ _)).toNat:Int)<48:=hd
      go_wp2;go_ret2;exact ⟨rfl,rfl⟩
    · have hd1:57<(((⟨#[a]⟩:ByteArray)[0]'(Nat.zero_lt_succ _)).toNat:Int):=hd
      have hd2:¬ (((⟨#[a]⟩:ByteArray)[0]'(Nat.zero_lt_succ _)).toNat:Int)<48:=by omega
      go_wp2;go_ret2;exact ⟨rfl,rfl⟩
 · have hd:=FX.1 ha
   have e1:pY [a]=(a.toNat:Int) - 48∧pI [a]=true:=by unfold pY pI;rw [OZ,ha];exact ⟨rfl,rfl⟩
   rw [e1.1,e1.2];obtain ⟨d1,d2⟩:=hd;clear ha e1;have f1:48≤(((⟨#[a]⟩:ByteArray)[0]'(Nat.zero_lt_succ _)).toNat:Int):=d1;have f2:(((⟨#[a]⟩:ByteArray)[0]'(Nat.zero_lt_succ _)).toNat:Int)≤57:=d2
   go_enter Tryz.func107,Tryz.ntmps107
   go_wp2
   go_loop [4,5] (fun n i=>(n= .int .i64 0∧i= .int .i64 0)∨(n= .int .i64 ((a.toNat:Int) - 48)∧i= .int .i64 1)) (fun n i=>2 - (intOf i).toNat)
   case atStart=>exact .inl ⟨rfl,rfl⟩
   case round=>
    rcases hrel with ⟨rfl,rfl⟩ | ⟨rfl,rfl⟩
    · go_wp2
      go_round
      case rel=>refine .inr ⟨?_,rfl⟩;first | rfl | (congr 1;omega)
      case measure=>simp [intOf]
    · go_wp2
      go_ret2;exact ⟨rfl,rfl⟩
theorem Np (a b:UInt8) (w:World):Calls Tryz.prog 107 #[.string ⟨#[a,b]⟩] w fun e w'=>e= .returned (.tuple #[.int .i64 (pY [a,b]),.bool (pI [a,b])])∧w=w':=by
 have ua:=WV a;have ub:=WV b
 by_cases h48:a=48
 · have e1:pY [a,b]=0∧pI [a,b]=false:=by unfold pY pI;rw [Bj,if_neg (by rintro ⟨_,_,h⟩;exact h h48)];exact ⟨rfl,rfl⟩
   rw [e1.1,e1.2]
   have f0:((((⟨#[a,b]⟩:ByteArray)[0]'(Nat.zero_lt_succ _)).toNat:Int) == 48)=true:=by rw [h48];rfl
   go_enter Tryz.func107,Tryz.ntmps107
   go_wp2;go_ret2;exact ⟨rfl,rfl⟩
 have f0:((((⟨#[a,b]⟩:ByteArray)[0]'(Nat.zero_lt_succ _)).toNat:Int) == 48)=false:=by
  rw [beq_eq_false_iff_ne];intro e;have e:(a.toNat:Int)=48:=e;exact h48 (UInt8.toNat_inj.1 (by rw [show (48:UInt8).toNat=48 from rfl];omega))
 cases ha:M.lI a
 · have hd:=uM.1 ha
   have e1:pY [a,b]=0∧pI [a,b]=false:=by unfold pY pI;rw [Bj,if_neg (by rintro ⟨h,_⟩;rw [ha] at h;cases h)];exact ⟨rfl,rfl⟩
   rw [e1.1,e1.2];clear ha e1
   go_enter Tryz.func107,Tryz.ntmps107
   go_wp2
   go_loop [4,5] (fun n i=>n= .int .i64 0∧i= .int .i64 0) (fun n i=>2 - (intOf i).toNat)
   case atStart=>exact ⟨rfl,rfl⟩
   case round=>
    obtain ⟨rfl,rfl⟩:=hrel
    rcases hd with hd | hd
    · have hd1:(((⟨#[a,b]⟩:ByteArray)[0]'(Nat.zero_lt_succ _)).toNat:Int)<48:=hd
      go_wp2;go_ret2;exact ⟨rfl,rfl⟩
    · have hd1:57<(((⟨#[a,b]⟩:ByteArray)[0]'(Nat.zero_lt_succ _)).toNat:Int):=hd
      have hd2:¬ (((⟨#[a,b]⟩:ByteArray)[0]'(Nat.zero_lt_succ _)).toNat:Int)<48:=by omega
      go_wp2;go_ret2;exact ⟨rfl,rfl⟩
 obtain ⟨d1,d2⟩:=FX.1 ha;have f1:48≤(((⟨#[a,b]⟩:ByteArray)[0]'(Nat.zero_lt_succ _)).toNat:Int):=d1;have f2:(((⟨#[a,b]⟩:ByteArray)[0]'(Nat.zero_lt_succ _)).toNat:Int)≤57:=d2
 cases hb:M.lI b
 · have hd:=uM.1 hb
   have e1:pY [a,b]=0∧pI [a,b]=false:=by unfold pY pI;rw [Bj,if_neg (by rintro ⟨_,h,_⟩;rw [hb] at h;cases h)];exact ⟨rfl,rfl⟩
   rw [e1.1,e1.2];clear ha hb e1
   go_enter Tryz.func107,Tryz.ntmps107
   go_wp2
   go_loop [4,5] (fun n i=>(n= .int .i64 0∧i= .int .i64 0)∨(n= .int .i64 ((a.toNat:Int) - 48)∧i= .int .i64 1)) (fun n i=>2 - (intOf i).toNat)
   case atStart=>exact .inl ⟨rfl,rfl⟩
   case round=>
    rcases hrel with ⟨rfl,rfl⟩ | ⟨rfl,rfl⟩
    · go_wp2
      go_round
      case rel=>refine .inr ⟨?_,rfl⟩;first | rfl | (congr 1;omega)
      case measure=>simp [intOf]
    · rcases hd with hd | hd
      · have hd1:(((⟨#[a,b]⟩:ByteArray)[1]'(Nat.lt_succ_self 1)).toNat:Int)<48:=hd
        go_wp2;go_ret2;exact ⟨rfl,rfl⟩
      · have hd1:57<(((⟨#[a,b]⟩:ByteArray)[1]'(Nat.lt_succ_self 1)).toNat:Int):=hd
        have hd2:¬ (((⟨#[a,b]⟩:ByteArray)[1]'(Nat.lt_succ_self 1)).toNat:Int)<48:=by omega
        go_wp2;go_ret2;exact ⟨rfl,rfl⟩
 · obtain ⟨d3,d4⟩:=FX.1 hb
   have f3:48≤(((⟨#[a,b]⟩:ByteArray)[1]'(Nat.lt_succ_self 1)).toNat:Int):=d3;have f4:(((⟨#[a,b]⟩:ByteArray)[1]'(Nat.lt_succ_self 1)).toNat:Int)≤57:=d4
   have e1:pY [a,b]=10*((a.toNat:Int) - 48)+((b.toNat:Int) - 48)∧pI [a,b]=true:=by unfold pY pI;rw [Bj,if_pos ⟨ha,hb,h48⟩];exact ⟨rfl,rfl⟩
   rw [e1.1,e1.2];clear ha hb e1
   go_enter Tryz.func107,Tryz.ntmps107
   go_wp2
   go_loop [4,5] (fun n i=>(n= .int .i64 0∧i= .int .i64 0)∨(n= .int .i64 ((a.toNat:Int) - 48)∧i= .int .i64 1)∨(n= .int .i64 (10*((a.toNat:Int) - 48)+((b.toNat:Int) - 48))∧i= .int .i64 2)) (fun n i=>3 - (intOf i).toNat)
   case atStart=>exact .inl ⟨rfl,rfl⟩
   case round=>
    rcases hrel with ⟨rfl,rfl⟩ | ⟨rfl,rfl⟩ | ⟨rfl,rfl⟩
    · go_wp2
      go_round
      case rel=>refine .inr (.inl ⟨?_,rfl⟩);first | rfl | (congr 1;omega)
      case measure=>simp [intOf]
    · go_wp2
      go_round
      case rel=>refine .inr (.inr ⟨?_,rfl⟩);first | rfl | (congr 1;omega)
      case measure=>simp [intOf]
    · go_wp2
      go_ret2;exact ⟨rfl,rfl⟩
theorem wM (l:List UInt8) (w:World) (hl:l.length≤17592186044416):Calls Tryz.prog 107 #[.string ⟨l.toArray⟩] w fun e w'=>e= .returned (.tuple #[.int .i64 (pY l),.bool (pI l)])∧w=w':=by
 match l,hl with
 | [],_=>
   go_enter Tryz.func107,Tryz.ntmps107
   go_wp2;go_ret2;exact ⟨rfl,rfl⟩
 | [a],_=>exact Nl a w
 | [a,b],_=>exact Np a b w
 | a::b::c::l,hl=>
   have hs:3≤(ByteArray.mk (a::b::c::l).toArray).size:=by show 3≤(a::b::c::l).toArray.size;simp
   go_enter Tryz.func107,Tryz.ntmps107
   go_wp2;go_ret2;exact ⟨rfl,rfl⟩
theorem BD (l:List UInt8) (i j:Nat):(ByteArray.mk l.toArray).extract i j=⟨((l.drop i).take (j - i)).toArray⟩:=by
 apply ByteArray.ext;rw [ByteArray.data_extract]
 simp [List.extract_toArray,List.extract_eq_take_drop]
theorem iM (l:List UInt8):(ByteArray.mk l.toArray).size=l.length:=by show l.toArray.size=_;simp
def uQ (l:List UInt8):Int × Int:=match M.cutAt 47 l with | none=>(0,0) | some p=>(pY p.1,pY p.2)
def wR (l:List UInt8):Bool:=match M.cutAt 47 l with | none=>false | some p=>pI p.1 && pI p.2
def zX (c:UInt8):List UInt8→Int × Int
 | []=>(0,0)
 | a::l=>if a=c then uQ l else (0,0)
def Dt (c:UInt8):List UInt8→Bool
 | []=>false
 | a::l=>if a=c then wR l else false
theorem KW (a b:Option Int):(M.two a b).isSome=(a.isSome && b.isSome):=by cases a <;> cases b <;> rfl
theorem uO (c a:UInt8) (l:List UInt8):M.dQ c (a::l)=if a=c then (match M.cutAt 47 l with | none=>none | some p=>M.two (M.num p.1) (M.num p.2)) else none:=rfl
theorem wO (c a:UInt8) (l:List UInt8):Dt c (a::l)=if a=c then wR l else false:=rfl
theorem wP (c a:UInt8) (l:List UInt8):zX c (a::l)=if a=c then uQ l else (0,0):=rfl
theorem Jm (c:UInt8) (l:List UInt8):Dt c l=(M.dQ c l).isSome:=by
 cases l with
 | nil=>rfl
 | cons a l=>
   rw [wO,uO]
   unfold wR
   by_cases h:a=c
   · rw [if_pos h,if_pos h]
     cases M.cutAt 47 l with
     | none=>rfl
     | some p=>simp only [KW];rfl
   · rw [if_neg h,if_neg h];rfl
theorem Jo {c:UInt8} {l:List UInt8} {a b:Int} (h:M.dQ c l=some (a,b)):zX c l=(a,b):=by
 cases l with
 | nil=>cases h
 | cons d l=>
   rw [wP];rw [uO] at h
   unfold uQ pY
   by_cases e:d=c
   · rw [if_pos e]
     rw [if_pos e] at h
     cases hq:M.cutAt 47 l with
     | none=>rw [hq] at h;cases h
     | some p=>
       rw [hq] at h
       simp only at h ⊢
       cases h1:M.num p.1 with
       | none=>rw [h1] at h;cases h
       | some i=>
         cases h2:M.num p.2 with
         | none=>rw [h1,h2] at h;cases h
         | some j=>rw [h1,h2] at h;injection h with h
   · rw [if_neg e] at h;cases h
theorem Ti {l:List UInt8} {k:Nat} (hk:k<l.length) (h:(47:UInt8) ∉ l.take k) (e:l[k]=47):M.cutAt 47 l=some (l.take k,l.drop (k+1)):=by
 conv=>lhs;rw [← List.take_append_drop k l,List.drop_eq_getElem_cons hk,e]
 exact M.BN _ h
theorem Tj {l:List UInt8} (h:(47:UInt8) ∉ l):M.cutAt 47 l=none:=M.wB.2 h
theorem O8 {a b:UInt8}:((a.toNat:Int) == (b.toNat:Int))=decide (a=b):=by
 rw [Bool.eq_iff_iff,beq_iff_eq,decide_eq_true_eq];exact ⟨fun h=>UInt8.toNat_inj.1 (by omega),fun h=>by rw [h]⟩
theorem Jp (c:UInt8) (l:List UInt8) (w:World) (hl:l.length≤17592186044416):Calls Tryz.prog 106 #[.int .u8 (c.toNat:Int),.string ⟨l.toArray⟩] w fun e w'=>e= .returned (.tuple #[.int .i64 (zX c l).1,.int .i64 (zX c l).2,.bool (Dt c l)])∧w=w':=by
 match l,hl with
 | [],_=>
   go_enter Tryz.func106,Tryz.ntmps106
   go_wp2
   go_ret3
   exact ⟨rfl,rfl⟩
 | a::l,hl=>
   have hsz:(ByteArray.mk (a::l).toArray).size=l.length+1:=by rw [iM,List.length_cons]
   have hll:l.length+1≤17592186044416:=hl
   have h0:0<(ByteArray.mk (a::l).toArray).size:=by omega
   have hz:((l.length:Int)+1 == 0)=false:=by rw [beq_eq_false_iff_ne];omega
   by_cases hac:a=c
   · have f0:((((ByteArray.mk (a::l).toArray)[0]'h0).toNat:Int) != (c.toNat:Int))=false:=show ((a.toNat:Int) != (c.toNat:Int))=false by rw [hac];simp
     have e1:zX c (a::l)=uQ l∧Dt c (a::l)=wR l:=⟨by rw [wP,if_pos hac],by rw [wO,if_pos hac]⟩;rw [e1.1,e1.2];clear e1 hac
     generalize hV1:(uQ l).1=V1
     generalize hV2:(uQ l).2=V2
     generalize hB:wR l=B
     have HV:=hide (And.intro hV1 (And.intro hV2 hB));clear hV1 hV2 hB
     go_enter Tryz.func106,Tryz.ntmps106
     go_wp2
     go_loop [7] (fun i=>∃ j:Nat,j≤l.length+1∧i= .int .i64 j∧1≤j∧(47:UInt8) ∉ l.take (j - 1)) (fun i=>l.length+1 - (intOf i).toNat)
     case atStart=>exact ⟨1,by omega,rfl,by omega,by simp⟩
     case round=>
      obtain ⟨j,hk,rfl,h1j,hn⟩:=hrel;obtain ⟨k,rfl⟩:∃ k,j=k+1:=⟨j - 1,by omega⟩;rw [Nat.add_sub_cancel] at hn
      by_cases hlt:k<l.length
      · have hlt1:k+1<(ByteArray.mk (a::l).toArray).size:=by omega
        by_cases h47:l[k]=47
        · have f1:((((ByteArray.mk (a::l).toArray)[k+1]'hlt1).toNat:Int) == 47)=true:=show (((l[k]).toNat:Int) == 47)=true by rw [h47];rfl
          have e1:=Ti hlt hn h47
          have e2:V1=pY (l.take k)∧V2=pY (l.drop (k+1))∧B=(pI (l.take k) && pI (l.drop (k+1))):=by
           obtain ⟨h1,h2,h3⟩:=HV.out;rw [← h1, ← h2, ← h3];unfold uQ wR;rw [e1];exact ⟨rfl,rfl,rfl⟩
          obtain ⟨rfl,rfl,rfl⟩:=e2
          have hN1:Calls Tryz.prog 107 #[.string ((ByteArray.mk (a::l).toArray).extract 1 (k+1))] w fun e w'=>e= .returned (.tuple #[.int .i64 (pY (l.take k)),.bool (pI (l.take k))])∧w=w':=by
           rw [BD];exact wM _ w (by simp;omega)
          have hN2:Calls Tryz.prog 107 #[.string ((ByteArray.mk (a::l).toArray).extract (k+2) (l.length+1))] w fun e w'=>e= .returned (.tuple #[.int .i64 (pY (l.drop (k+1))),.bool (pI (l.drop (k+1)))])∧w=w':=by
           rw [BD]
           have:((a::l).drop (k+2)).take (l.length+1 - (k+2))=l.drop (k+1):=by rw [List.drop_succ_cons,List.take_of_length_le (by simp)]
           rw [this];exact wM _ w (by simp;omega)
          have t1:((k:Int)+1).toNat=k+1:=by omega
          have t2:((k:Int)+1+1).toNat=k+2:=by omega
          clear e1 hn h47 HV
          rcases Bool.eq_false_or_eq_true (pI (l.take k)) with hB1 | hB1
          all_goals
           rw [hB1] at hN1;have HB1:=hide hB1;have HN1:=hide hN1;have HN2:=hide hN2;clear hB1 hN1 hN2
           go_wp2_with (first | (go_at_call 107;refine HN1.out.mono ?_;rintro e w' ⟨rfl,rfl⟩;clear HN1) | (go_at_call 107;refine HN2.out.mono ?_;rintro e w' ⟨rfl,rfl⟩;clear HN2))
           go_ret3
           refine ⟨?_,rfl⟩;rw [HB1.out]
           rfl
        · have f1:((((ByteArray.mk (a::l).toArray)[k+1]'hlt1).toNat:Int) == 47)=false:=show (((l[k]).toNat:Int) == 47)=false from (O8 (b:=47)).trans (by simp [h47])
          go_wp2
          go_round
          case rel=>
           refine ⟨k+2,by omega,by go_num,by omega,?_⟩;rw [show k+2 - 1=k+1 from rfl,List.take_succ_eq_append_getElem hlt,List.mem_append,List.mem_singleton,not_or];exact ⟨hn,fun e=>h47 e.symm⟩
          case measure=>simp [intOf];omega
      · have hke:k=l.length:=by omega
        have e2:V1=0∧V2=0∧B=false:=by
         rw [List.take_of_length_le (by omega)] at hn;obtain ⟨h1,h2,h3⟩:=HV.out;rw [← h1, ← h2, ← h3];unfold uQ wR;rw [Tj hn];exact ⟨rfl,rfl,rfl⟩
        obtain ⟨rfl,rfl,rfl⟩:=e2;go_wp2
        go_ret3
        exact ⟨rfl,rfl⟩
   · have f0:((((ByteArray.mk (a::l).toArray)[0]'h0).toNat:Int) != (c.toNat:Int))=true:=show ((a.toNat:Int) != (c.toNat:Int))=true by rw [bne,O8];simp [hac]
     have e1:zX c (a::l)=(0,0)∧Dt c (a::l)=false:=⟨by rw [wP,if_neg hac],by rw [wO,if_neg hac]⟩;rw [e1.1,e1.2];clear e1
     go_enter Tryz.func106,Tryz.ntmps106
     go_wp2
     go_ret3
     exact ⟨rfl,rfl⟩
def jG (l:List UInt8):Value:= .string ⟨l.toArray⟩
theorem Ai:(Tryz.prog.info? 9).map (fun i=>(i.zero,i.size,i.bytes))=some (some (.string ByteArray.empty),1,16):=by kernel_rfl
def kC (l:List UInt8) (ws:List (List UInt8)) (f k:Nat):Prop:=
 (k≤l.length∧f≤k∧M.words l=ws++M.dW ((l.take k).drop f) (l.drop k))∨(k=l.length+1∧ws=M.words l)
theorem kC.zero (l:List UInt8):kC l [] 0 0:= .inl ⟨Nat.zero_le _,Nat.le_refl _,by simp [M.words]⟩
theorem kC.fin {l:List UInt8} {ws:List (List UInt8)} {f:Nat} (h:kC l ws f l.length):kC l (ws++[(l.drop f).take (l.length - f)]) (l.length+1) (l.length+1):=by
 rcases h with ⟨_,h1,h2⟩ | ⟨h1,_⟩
 · refine .inr ⟨rfl,?_⟩
   rw [h2,List.take_length,List.drop_length,M.dW,List.take_of_length_le (by simp)]
 · omega
theorem kC.blank {l:List UInt8} {ws:List (List UInt8)} {f k:Nat} (h:kC l ws f k) (hk:k<l.length) (h32:l[k]=32):kC l (ws++[(l.drop f).take (k - f)]) (k+1) (k+1):=by
 rcases h with ⟨_,h1,h2⟩ | ⟨h1,_⟩
 · refine .inl ⟨by omega,Nat.le_refl _,?_⟩
   rw [h2,List.drop_eq_getElem_cons hk,M.dW,if_pos h32,List.append_assoc,List.singleton_append,List.drop_take,List.drop_of_length_le (l:=l.take (k+1)) (by simp;omega)]
 · omega
theorem kC.more {l:List UInt8} {ws:List (List UInt8)} {f k:Nat} (h:kC l ws f k) (hk:k<l.length) (h32:l[k]≠32):kC l ws f (k+1):=by
 rcases h with ⟨_,h1,h2⟩ | ⟨h1,_⟩
 · refine .inl ⟨by omega,by omega,?_⟩
   rw [h2,List.drop_eq_getElem_cons hk,M.dW,if_neg h32,List.take_succ_eq_append_getElem hk,List.drop_append_of_le_length (by simp;omega)]
 · omega
theorem Ry (l:List UInt8) (w:World) (hl:l.length≤4096):Calls Tryz.prog 105 #[.string ⟨l.toArray⟩] w fun e w'=>
 ∃ A c,e= .returned (.slice A (M.words l).length c)∧Reads w' (fun b=>w.heap.size≤b) 1 A (M.words l).length c ((M.words l).map jG)∧Below w.heap.size w w':=by
 obtain ⟨i0,hi,hz0,hz1,hz2⟩:=info_parts Ai;have hsz:(ByteArray.mk l.toArray).size=l.length:=iM l
 go_enter Tryz.func105,Tryz.ntmps105
 go_wp2
 go_loopw [3,4,5] (fun v fr i wr=>∃ (k f:Nat) (ws:List (List UInt8)),kC l ws f k∧ws.length≤k∧k≤l.length+1∧f≤k∧i= .int .i64 k∧fr= .int .i64 f∧(∃ A c,v= .slice A ws.length c)∧wr.ownsRow w.heap.size 9 1 v ws.length (ws.map jG)∧Below w.heap.size w wr)
  (fun _ _ i _=>l.length+1 - (intOf i).toNat)
 case atStart=>exact ⟨0,0,[],kC.zero l,by simp,by omega,by omega,rfl,rfl,⟨_,_,rfl⟩,World.ownsRow_nil _ _ _ _,Below.refl _ _⟩
 case round=>
  obtain ⟨k,f,ws,hat,hws,hk,hf,rfl,rfl,⟨A,c,rfl⟩,hown,hb⟩:=hrel;have hbs:=hb.size;have HAT:=hide hat;clear hat
  by_cases hlt:k<l.length
  · have hke:((k:Int) == (l.length:Int))=false:=by rw [beq_eq_false_iff_ne];omega
    have hlt1:k<(ByteArray.mk l.toArray).size:=by omega
    by_cases h32:l[k]=32
    · have f1:((((ByteArray.mk l.toArray)[k]'hlt1).toNat:Int) == 32)=true:=show (((l[k]).toNat:Int) == 32)=true by rw [h32];rfl
      have hnew:=HAT.out.blank hlt h32;have HN:=hide hnew;clear hnew h32
      go_wp2_with (at_builtin;go_loud (refine wpList_append_lies _ rfl _ _ _ rfl (w.heap.size) 9 i0 (.string ByteArray.empty) 1 16 Tryz.underlying112 hi hz0 hz1 hz2 rfl (by omega) _ _ _ rfl (hown.alloc _) ⟨wr.heap.size,0,none⟩ 1 1 [.string ((ByteArray.mk l.toArray).extract f k)] rfl rfl (xW _ _ _) ?c1 (by omega) ?c2 ?c3 ?c4 (wr.heap.size+1) (by simp) ?_))
      case c1=>simp [Value.oneCell']
      case c2=>simp only [maxLen];omega
      case c3=>omega
      case c4=>simp;omega
      intro g1 cap w1 hown1 hgrow _ _;have hbd:Below w.heap.size (wr.alloc (.cells #[.string ((ByteArray.mk l.toArray).extract f k)] 9)) w1:=eX (hown.alloc _) hgrow (by omega) (by simp;omega);have hb1:=(hb.alloc (by omega) _).trans hbd
      have hown2:w1.ownsRow w.heap.size 9 1 (.slice (some ⟨g1,0,none⟩) (ws++[(l.drop f).take (k - f)]).length cap) (ws++[(l.drop f).take (k - f)]).length ((ws++[(l.drop f).take (k - f)]).map jG):=by
       rw [BD] at hown1;rw [List.map_append,List.length_append]
       simpa [jG] using hown1
      clear hown hgrow hown1 hbd hb;go_wp2
      go_roundw
      case rel=>exact ⟨k+1,k+1,_,HN.out,by simp;omega,by omega,by omega,by go_num,by go_num,⟨some ⟨g1,0,none⟩,cap,by simp⟩,by simpa using hown2,hb1⟩
      case measure=>simp [intOf] <;> omega
    · have f1:((((ByteArray.mk l.toArray)[k]'hlt1).toNat:Int) == 32)=false:=show (((l[k]).toNat:Int) == 32)=false from (O8 (b:=32)).trans (by simp [h32])
      have hnew:=HAT.out.more hlt h32;have HN:=hide hnew;clear hnew h32;go_wp2
      go_roundw
      case rel=>exact ⟨k+1,f,ws,HN.out,by omega,by omega,by omega,by go_num,rfl,⟨_,_,rfl⟩,hown,hb⟩
      case measure=>simp [intOf] <;> omega
  · by_cases hke:k=l.length
    · subst hke
      have hnew:=HAT.out.fin;have HN:=hide hnew;clear hnew hlt hk
      go_wp2_with (at_builtin;go_loud (refine wpList_append_lies _ rfl _ _ _ rfl (w.heap.size) 9 i0 (.string ByteArray.empty) 1 16 Tryz.underlying112 hi hz0 hz1 hz2 rfl (by omega) _ _ _ rfl (hown.alloc _) ⟨wr.heap.size,0,none⟩ 1 1 [.string ((ByteArray.mk l.toArray).extract f l.length)] rfl rfl (xW _ _ _) ?d1 (by omega) ?d2 ?d3 ?d4 (wr.heap.size+1) (by simp) ?_))
      case d1=>simp [Value.oneCell']
      case d2=>simp only [maxLen];omega
      case d3=>omega
      case d4=>simp;omega
      intro g1 cap w1 hown1 hgrow _ _;have hbd:Below w.heap.size (wr.alloc (.cells #[.string ((ByteArray.mk l.toArray).extract f l.length)] 9)) w1:=eX (hown.alloc _) hgrow (by omega) (by simp;omega);have hb1:=(hb.alloc (by omega) _).trans hbd
      have hown2:w1.ownsRow w.heap.size 9 1 (.slice (some ⟨g1,0,none⟩) (ws++[(l.drop f).take (l.length - f)]).length cap) (ws++[(l.drop f).take (l.length - f)]).length ((ws++[(l.drop f).take (l.length - f)]).map jG):=by
       rw [BD] at hown1;rw [List.map_append,List.length_append]
       simpa [jG] using hown1
      clear hown hgrow hown1 hbd hb;go_wp2
      go_roundw
      case rel=>exact ⟨l.length+1,l.length+1,_,HN.out,by simp;omega,by omega,by omega,by go_num,by go_num,⟨some ⟨g1,0,none⟩,cap,by simp⟩,by simpa using hown2,hb1⟩
      case measure=>simp [intOf] <;> omega
    · have hke2:k=l.length+1:=by omega
      have hw:ws=M.words l:=by
       rcases HAT.out with ⟨h1,_⟩ | ⟨_,h2⟩
       · omega
       · exact h2
      subst hw;subst hke2;go_wp2;go_ret;exact ⟨A,c,rfl,Reads.je hown (fun b h=>h) (by omega),hb⟩
end Go.Proofs.YtcjglfbpjkdgiaaGreatDoor
