/- Parts of the proofs about chapter 5 (pool), joined by program. -/
import Derived.Test.YtelpepbpdojikaaGreatDoorKg24
import Derived.Test.YtelpepbpdojikaaGreatDoorKg27
set_option maxHeartbeats 4000000
set_option maxRecDepth 100000
set_option linter.unusedVariables false
set_option linter.unusedSimpArgs false
namespace Go.Proofs.YtelpepbpdojikaaGreatDoor
open Go.RowKit
theorem M.Ir (l:List UInt8):(M.parse l).1.aA.length≤16:=by
 unfold M.parse
 split
 · exact Nat.zero_le _
 · split
   · exact Nat.zero_le _
   · next x _=>
     split
     · exact Nat.zero_le _
     · next h=>exact (M.uw (Classical.not_not.1 h)).few
theorem yw:(Tryz.prog.info? 66).map (fun i=>(i.zero,i.size,i.bytes))=some (some (.agg #[.int .i64 0,.string ⟨#[]⟩,.int .i64 0,.int .i64 0,.int .i64 0,.bool false,.slice none 0 0]),7,80):=by kernel_rfl
theorem zF (S:Nat→Prop) (ts:List (List UInt8)) (A:Option Addr) (c:Nat) (w:World) (hp:Reads w S 1 A ts.length c (ts.map jJ)) (hl:ts.length≤1000) (hts:∀ s∈ts,s.length≤1000):
 Calls Tryz.prog 62 #[.slice A ts.length c] w fun e w'=>∃ l' A' c',plain l'=M.jr ts∧e= .returned (.slice A' l'.length c')∧jR 66 w.heap.size l' A' c' w'∧Below w.heap.size w w':=by
 obtain ⟨b1,b2,b3⟩:=hp.bd
 obtain ⟨i0,hi0,hz0,hz1,hz2⟩:=info_parts yw
 go_enter Tryz.func62,Tryz.ntmps62
 go_wp2
 go_loopw [3,11] (fun v i wr=>∃ (k:Nat) (l':List Sh) (A':Option Addr) (c':Nat),k≤ts.length∧i= .int .i64 k∧v= .slice A' l'.length c'∧l'.length=k∧Aside (plain l'=M.jr (ts.take k))∧jR 66 w.heap.size l' A' c' wr∧Below w.heap.size w wr) (fun _ i=>fun _=>ts.length - (intOf i).toNat)
 case atStart=>exact ⟨0,[],none,0,Nat.zero_le _,rfl,rfl,rfl,rfl,jR.nil _ _ _,Below.refl _ _⟩
 case round=>
  obtain ⟨k,l',A',c',hk,rfl,rfl,hlk,hpk,st,hbw⟩:=hrel
  have VQ:=hide hpk
  have DX:=hbw.size
  by_cases hlt:k<ts.length
  · obtain ⟨b,o,rfl,_,hbl,hcs⟩:=Reads.at_ (hp.below hbw) (by omega)
    have h00:=hcs k (jJ ts[k]) (by rw [List.getElem?_map,List.getElem?_eq_getElem hlt];rfl)
    obtain ⟨s,hs⟩:∃ s,ts[k]=s:=⟨_,rfl⟩
    rw [hs] at h00
    have h00:wr.cell? ⟨b,o+k,none⟩=some (.string ⟨s.toArray⟩):=h00
    have hpa:=fun W=>Dk s W (by have:=hts s (by rw [← hs];exact List.getElem_mem hlt);omega)
    have hfew:=M.Ir s
    have hsx:M.jr (ts.take (k+1))=M.jr (ts.take k)++[(M.parse s).1]:=by
     rw [List.take_succ_eq_append_getElem hlt,hs];unfold M.jr;rw [List.map_append];rfl
    obtain ⟨X,hX⟩:∃ X,(M.parse s).1=X:=⟨_,rfl⟩
    obtain ⟨at_,RV⟩:∃ X,(M.parse s).2.1=X:=⟨_,rfl⟩
    obtain ⟨YR,Sj⟩:∃ X,(M.parse s).2.2=X:=⟨_,rfl⟩
    rw [hX] at hfew hsx
    rw [hX,RV,Sj] at hpa
    have WY:=hide hpa
    have Xg:=hide hsx
    have i1:(0:Int)≤(k:Int):=by omega
    have i2:(k:Int)<(ts.length:Int):=by omega
    have hl1:l'.length<ts.length:=by omega
    have WU:=hide hlk
    clear hlk hpa hsx hX RV Sj hs hcs hpk
    go_upto_region 6 with (first | (go_at_call 32;refine (WY.out _).mono ?_;rintro e w2 ⟨A2,c2,rfl,hr2,hb2⟩;have hbx:=Held.new w2 JB 69) | (refine aO 69 (.tmp 6) (.tmp 18) rfl ?_;refine aF hbx (au ⟨X,A2,c2⟩) rfl dB (uq _ _ _) rfl (.tmp 6) (.tmp 18) rfl rfl rfl ?_))
    obtain ⟨W2,hW2⟩:∃ W2,(w2.alloc (.cells #[.int .i64 0,.string ⟨#[]⟩,.int .i64 0,.int .i64 0,.int .i64 0,.bool false,.slice none 0 0] 69)).setCells w2.heap.size 0 (au ⟨X,A2,c2⟩)=W2:=⟨_,rfl⟩
    have RY:Below w2.heap.size w2 W2:=by rw [← hW2];exact below_setCells _ (Nat.le_refl _) _ _ _ _ ((Below.refl _ _).alloc (Nat.le_refl _) _)
    have hby:Held W2 w2.heap.size (au ⟨X,A2,c2⟩) 69:=by rw [← hW2];exact hbx.whole (au ⟨X,A2,c2⟩) rfl
    have hbb:Below wr.heap.size wr W2:=hb2.trans (RY.mono hb2.size)
    rw [hW2]
    have hpg:=zG (fun b=>wr.heap.size≤b) X A2 c2 W2 (Reads.below hr2 RY) (by omega)
    have hst2:=st.below hbb
    have W9:=hide hpg
    have hzz:=hbb.size
    clear hpg hW2 hbx h00 hr2
    go_wp2_with (first | (refine aN 69 (.tmp 6) rfl ?_;refine aG hby Tryz.underlying69 rfl dB rfl (.tmp 6) rfl rfl ?_) | (go_at_call 109;refine W9.out.mono ?_;rintro e w3 ⟨A3,c3,rfl,hr3,hb3⟩) | (at_builtin;refine wpList_append_lies _ rfl _ _ _ rfl w.heap.size 66 i0 (.agg #[.int .i64 0,.string ⟨#[]⟩,.int .i64 0,.int .i64 0,.int .i64 0,.bool false,.slice none 0 0]) 7 80 Tryz.underlying24 hi0 hz0 hz1 hz2 rfl (by omega) _ _ _ rfl ((hst2.below hb3).own.alloc _) ⟨w3.heap.size,0,none⟩ 1 1 (au ⟨X,A3,c3⟩) rfl rfl (dK _ _ _ _ (by simp)) (uq _ _ _) (by omega) (by simp only [maxLen];omega) (by omega) (by have:=hb3.size;simp;omega) (w3.heap.size+1) (by simp) ?_))
    intro g1 cap w4 hown4 hgrow hat _
    have SE:=hst2.append (x:=⟨X,A3,c3⟩) hb3 (by omega) hr3 hgrow hown4 hat
    have hb4:Below w.heap.size w w4:=(((hbw.trans (hbb.mono DX)).trans (hb3.mono (by omega))).alloc (by have:=hb3.size;omega) _).trans (dX ((hst2.below hb3).own.alloc _) hgrow (by omega) (by have:=hb3.size;simp;omega))
    have HST:=hide SE
    clear SE hgrow hown4
    go_wp2
    go_roundw
    case rel=>exact ⟨k+1,l'++[⟨X,A3,c3⟩],some ⟨g1,0,none⟩,cap,by omega,by go_num,by simp,by simp [WU.out],by rw [Xg.out, ← VQ.out];simp [plain,Aside],HST.out,hb4⟩
    case measure=>simp [intOf] <;> omega
  · have hke:k=ts.length:=by omega
    have hpk':plain l'=M.jr ts:=by rw [VQ.out,hke,List.take_length]
    have HP:=hide hpk'
    clear hlk hke hpk' hpk
    go_wp2
    go_ret
    exact ⟨l',A',c',HP.out,rfl,st,hbw⟩
end Go.Proofs.YtelpepbpdojikaaGreatDoor
