/- Parts of a proof. -/
import Derived.ChangeKeysEq
import Derived.Maps.AppendAt
import Derived.Test.YtcbmedfongiojaaGreatDoorKa5
set_option maxHeartbeats 3200000
set_option maxRecDepth 100000
set_option linter.unusedVariables false
set_option linter.unusedSimpArgs false
namespace Go.Proofs.YtcbmedfongiojaaGreatDoor
open Go.RowKit
section
variable {P:Program} (w:World)
theorem al3 (t ty e:TypeId) (i:TypeInfo) (ht:P.underlying t=some (.slice e)) (hi:P.info? e=some i) (B A:Option Addr) (n c d:Nat) (hn:n≤c):
 (Builtin.append_ #[t,t] ty #[.slice B n c,.slice A 0 d]).run P w= .ok (.slice B n c) w:=by
 unfold Builtin.append_
 cases B <;> cases A <;> simp [Sem.run_bind,run_underlying ht,run_sizeOf w hi,Builtin.lenOf,Builtin.firstCells,hn] <;> rfl
theorem ai4 (t ty:TypeId) (base:Nat) (e:TypeId) (i:TypeInfo) (z:Value) (bytes:Nat) (ht:P.underlying t=some (.slice e)) (hi:P.info? e=some i) (hz:i.zero=some z)
 (hsize:i.size=1) (hby:i.bytes=bytes) (hzs:z.cells.size=1) (B:Option Addr) (d:Nat) (n:Nat) (xs:List Value) (hown:w.ownsRow base e 1 (.slice B n d) n xs)
 (S:Nat→Prop) (A:Option Addr) (c:Nat) (l:List ByteArray) (hl:kF w S A c l) (h63:n+l.length≤maxLen) (hbytes:(n+l.length)*bytes≤140737488355328) (hbase:base≤w.heap.size):
 ∃ B' d' w',(Builtin.append_ #[t,t] ty #[.slice B n d,.slice A l.length c]).run P w= .ok (.slice B' (n+l.length) d') w'∧
  w'.ownsRow base e 1 (.slice B' (n+l.length) d') (n+l.length) (xs++l.map Value.string)∧w.grownBy w' (Value.slice B n d).ownBlock:=by
 by_cases h0:l.length=0
 · obtain rfl:l=[]:=List.length_eq_zero_iff.1 h0
   have hnd:n≤d:=by
    rcases hown.2 with ⟨hv,h⟩ | ⟨g,cap,cur,hv,hb,hg,hge,_⟩
    · omega
    · cases hv;exact hge
   refine ⟨B,d,w,al3 w t ty e i ht hi B A n d c hnd,?_,World.grownBy.refl _ _⟩
   simpa using hown
 · obtain ⟨b,o,rfl,_,_,hc⟩:=hl.at_ 0 (by omega)
   obtain ⟨g,cap,w',hr,h2,h3,_,_⟩:=run_append_lies (P:=P) w t ty base e i z 1 bytes ht hi hz hsize hby hzs (by omega) _ n xs hown ⟨b,o,none⟩ l.length c (l.map Value.string) (by simp) (fun j u hu=>by
    rw [List.getElem?_map] at hu;obtain ⟨x,hx,rfl⟩:=Option.map_eq_some_iff.1 hu;have hj:=(List.getElem?_eq_some_iff.1 hx);have h:=hc j hj.1;rw [hj.2] at h;rw [qB]
    exact h) (by simp [Value.oneCell']) (by omega) h63 hbytes hbase _ rfl
   exact ⟨_,_,w',hr,h2,h3⟩
theorem aez {ops:Array Oper} {o:Oper} {a:Act} {K:Act→World→Prop} {Q:Exit→Act→World→Prop} {E:Prop} (hgd:o.guard=none) (s x:Operand) (t:TypeId)
 (ho:o.op= .call {callee:= .builtin .append,args:= #[s,x],argTypes:= #[t,t] })
 (base:Nat) (e:TypeId) (i:TypeInfo) (z:Value) (bytes:Nat) (ht:P.underlying t=some (.slice e)) (hi:P.info? e=some i) (hz:i.zero=some z)
 (hsize:i.size=1) (hby:i.bytes=bytes) (hzs:z.cells.size=1) (B:Option Addr) (d:Nat) (n:Nat) (xs:List Value) (hs:a.eval s= .slice B n d) (hown:w.ownsRow base e 1 (.slice B n d) n xs)
 (S:Nat→Prop) (A:Option Addr) (c:Nat) (l:List ByteArray) (hx:a.eval x= .slice A l.length c) (hl:kF w S A c l) (h63:n+l.length≤maxLen) (hbytes:(n+l.length)*bytes≤140737488355328) (hbase:base≤w.heap.size) (m:Nat) (hm:n+l.length=m) (ys:List Value) (hys:xs++l.map Value.string=ys)
 (h:∀ B' d' w',w'.ownsRow base e 1 (.slice B' m d') m ys→w.grownBy w' (Value.slice B n d).ownBlock→K (a.put o.dst (.slice B' m d')) w'):
 if Region.wanted o (yielded ops a.tmps)=true then Oper.wp P o a w K Q else E:=by
 subst hm hys
 have hw:Region.wanted o (yielded ops a.tmps)=true:=by simp [Region.wanted,hgd]
 rw [if_pos hw];obtain ⟨B',d',w',hr,h2,h3⟩:=ai4 (P:=P) w t o.type base e i z bytes ht hi hz hsize hby hzs B d n xs hown S A c l hl h63 hbytes hbase
 unfold Oper.wp execOp
 simp only [ho,resolve,invoke,builtin,Sem.run_bind,Sem.run_pure,Result.andThen_ok,List.map_toArray,List.map_cons,List.map_nil,hs,hx,hr]
 exact h B' d' w' h2 h3
end
def ay4 (e:Ending):Prop:=∃ b:Bool,e= .returned (.bool b)
theorem agL (b:Bool):ay4 (.returned (.bool b)):=⟨b,rfl⟩
theorem auG:(Tryz.prog.info? 9).map (fun i=>(i.zero,i.size,i.bytes))=some (some (.string ⟨#[]⟩),1,16):=by kernel_rfl
theorem acz (S:Nat→Prop) (e:En) (w:World) (he:je w S e):Calls Tryz.prog 12 #[wC e] w fun e_ w'=>ay4 e_∧Below w.heap.size w w':=by
 obtain ⟨b1,b2,b3⟩:=he.hits.bd;obtain ⟨b4,b5,b6⟩:=he.aV.bd;obtain ⟨i0,hi0,hz0,hz1,hz2⟩:=info_parts auG
 go_enter Tryz.func12,Tryz.ntmps12
 go_upto_region 0 with (fail)
 go_cut [1,2] (fun v1 v2 wx=>v1=ptr (w.heap.size)∧v2= .bool false∧Bx w wx [(w.heap.size,fC e,45)])
 case first=>
  go_wp2;go_meet;exact ⟨rfl,rfl,Bx.of ((aC.nil w).new (by simp) (fC e) 45) _ rfl⟩
 case rest=>
  obtain ⟨rfl,rfl,hL⟩:=hcut;have k0:=(hL.get 0 rfl).cell (j:=0) rfl;have k1:=(hL.get 0 rfl).cell (j:=1) rfl;have k2:=(hL.get 0 rfl).cell (j:=2) rfl;have k3:=(hL.get 0 rfl).cell (j:=3) rfl
  go_upto_region 1 with (fail)
  go_cut [26] from 5 to 27 (fun v26 wx=>∃ b,v26= .bool b∧(b=false→e.x.hits.length≤24∧e.x.aV.length≤24)∧Bx w wx [(w.heap.size,fC e,45)])
  case first=>
   rcases ha0:(decide (20<(e.x.kind.size:Int))) with _ | _
   · rcases ha1:(decide (20<(e.x.called.size:Int))) with _ | _
     · rcases ha2:(decide (24<(e.x.hits.length:Int))) with _ | _
       · rcases rH:(decide (24<(e.x.aV.length:Int))) with _ | _
         · go_wp2
           go_meet;exact ⟨false,rfl,fun _=>⟨by have:=of_decide_eq_false ha2;omega,by have:=of_decide_eq_false rH;omega⟩,hL⟩
         · go_wp2
           go_meet;exact ⟨true,rfl,fun h=>(nomatch h),hL⟩
       · go_wp2
         go_meet;exact ⟨true,rfl,fun h=>(nomatch h),hL⟩
     · go_wp2
       go_meet;exact ⟨true,rfl,fun h=>(nomatch h),hL⟩
   · go_wp2
     go_meet;exact ⟨true,rfl,fun h=>(nomatch h),hL⟩
  case rest=>
   obtain ⟨b,rfl,hle,hL⟩:=hcut;clear k0 k1 k2 k3
   cases b
   rotate_left
   · clear hle
     go_wp2;go_ret;exact ⟨agL _,hL.bw⟩
   · obtain ⟨hl1,hl2⟩:=hle rfl
     clear hle;have hlt0:=hL.lt
     go_upto_region 3 with (fail)
     go_cut [3] from 27 to 34 (fun v3 wx=>∃ B d,v3= .slice B (e.x.hits.length+e.x.aV.length) d∧Reads wx (fun _=>True) 1 B (e.x.hits.length+e.x.aV.length) d ((e.x.hits++e.x.aV).map Value.string)∧Bx w wx [(w.heap.size,fC e,45)])
     case first=>
      have hL:=hL.drew;refine wp_region_held_drew (S:=(fun w':World=>Hs w' [(w.heap.size,fC e,45)]∧w'.cell? ⟨w.heap.size,2,none⟩=some (.slice e.A e.x.hits.length e.a)∧w'.cell? ⟨w.heap.size,3,none⟩=some (.slice e.B e.x.aV.length e.b))) (by kernel_rfl) ?bU (fun hHeld=>?_)
      case bU=>exact ⟨hL.hs,(hL.hs.get 0 rfl).cell (j:=2) rfl,(hL.hs.get 0 rfl).cell (j:=3) rfl⟩
      refine tk 1 ?_;refine tk 2 ?_;refine tk 4 ?_;refine tk 5 ?_;refine tr 0 fun K hK=>?_;go_simp;refine hK.out _ _ ?aBl (fun hHeld=>?_)
      case aBl=>(exact ⟨(hL.alloc (.cells #[] 9)).hs,((hL.alloc (.cells #[] 9)).get 0 rfl).cell (j:=2) rfl,((hL.alloc (.cells #[] 9)).get 0 rfl).cell (j:=3) rfl⟩)
      clear hK K
      try simp only [Act.put,la,lz,ls]
      refine tr 3 fun K hK=>?_;refine aez _ (by rfl) _ _ _ (by rfl) wc.heap.size 9 i0 (.string ⟨#[]⟩) 16 Tryz.underlying39 hi0 hz0 hz1 hz2 (by rfl) _ _ _ _ (by rfl) (World.ownsRow_made wc.drew #[] 0 (Nat.le_refl _) (by decide) rfl) S _ _ e.x.hits (by rfl) (he.hits.below (hL.alloc _).bw) (by simp only [maxLen];omega) (by omega) (by simp) e.x.hits.length (by omega) (e.x.hits.map Value.string) (by simp) ?_;intro B3 d3 w3 hown3 hgrow3;have hL3:=(hL.alloc (.cells #[] 9)).grown (D:=wc.heap.size) hL.bw.size hlt0 hgrow3 (fun b h=>by cases h;exact Nat.le_refl _);refine hK.out _ _ ?Gu (fun hHeld=>?_)
      case Gu=>(exact ⟨hL3.hs,(hL3.get 0 rfl).cell (j:=2) rfl,(hL3.get 0 rfl).cell (j:=3) rfl⟩)
      clear hK K
      try simp only [Act.put,la,lz,ls]
      refine tr 6 fun K hK=>?_;refine aez _ (by rfl) _ _ _ (by rfl) wc.heap.size 9 i0 (.string ⟨#[]⟩) 16 Tryz.underlying39 hi0 hz0 hz1 hz2 (by rfl) _ _ _ _ (by rfl) hown3 S _ _ e.x.aV (by rfl) (he.aV.below hL3.bw) (by simp only [maxLen];omega) (by omega) (by have:=hgrow3.size;simp at this;omega) (e.x.hits.length+e.x.aV.length) (by omega) ((e.x.hits++e.x.aV).map Value.string) (by simp) ?_;intro B6 d6 w6 hown6 hgrow6;have hL6:=hL3.grown (D:=wc.heap.size) hL.bw.size hlt0 hgrow6 (fun b h=>(hown3.lt b h).1);refine hK.out _ _ ?abn (fun hHeld=>?_)
      case abn=>(exact ⟨hL6.hs,(hL6.get 0 rfl).cell (j:=2) rfl,(hL6.get 0 rfl).cell (j:=3) rfl⟩)
      clear hK K
      try simp only [Act.put,la,lz,ls]
      refine tk 7 ?_;refine wpAnyH_done (by kernel_rfl) ?_ _;go_wp2;go_meet;exact ⟨B6,d6,rfl,Reads.more (Reads.Jd hown6 (fun b h=>h) (by omega)) (fun _ _ _=>trivial),hL6⟩
     case rest=>
      obtain ⟨B,d,rfl,hR,hL⟩:=hcut
      have hlen:(e.x.hits++e.x.aV).length=e.x.hits.length+e.x.aV.length:=by simp
      rw [← hlen] at hR ⊢;have hR:kF _ (fun _=>True) B d (e.x.hits++e.x.aV):=hR;obtain ⟨l,hl⟩:∃ q,e.x.hits++e.x.aV=q:=⟨_,rfl⟩;rw [hl] at hR ⊢;clear hl hlen;obtain ⟨c1,c2,c3⟩:=hR.bd;have hbw:=hL.bw;clear hL;go_wp2
      go_loop [4] (fun i=>∃ k:Nat,k≤l.length∧i= .int .i64 k) (fun i=>l.length - (intOf i).toNat)
      case atStart=>exact ⟨0,Nat.zero_le _,rfl⟩
      case round=>
       obtain ⟨k,hk,rfl⟩:=hrel
       by_cases hlt:k<l.length
       · obtain ⟨b,o,rfl,_,hbl,hc⟩:=hR.at_ k hlt
         have hck:=hc k hlt;clear hc
         rcases h1:decide (20<(l[k].size:Int)) with _ | _
         · go_wp2
           go_round
           case rel=>exact ⟨k+1,by omega,by go_num⟩
           case measure=>simp [intOf];omega
         · go_wp2
           go_ret;exact ⟨agL _,hbw⟩
       · go_wp2
         go_ret;exact ⟨agL _,hbw⟩
theorem adq (S:Nat→Prop) (A:Option Addr) (c:Nat) (l:List En) (n:Int) (w:World) (hp:wF w S A c l):Calls Tryz.prog 10 #[.slice A l.length c,.int .i64 n] w fun e_ w'=>ay4 e_∧Below w.heap.size w w':=by
 obtain ⟨b1,b2,b3⟩:=hp.bd
 go_enter Tryz.func10,Tryz.ntmps10
 go_upto_region 1 with (fail)
 go_cut [19] from 6 to 20 (fun v19 wx=>∃ b,v19= .bool b∧Below w.heap.size w wx)
 case first=>
  rcases ha0:(decide (n<(l.length:Int))) with _ | _
  · rcases ha1:(decide (1002<(l.length:Int))) with _ | _
    · go_wp2
      go_meet;exact ⟨_,rfl,Below.refl _ _⟩
    · go_wp2
      go_meet;exact ⟨_,rfl,Below.refl _ _⟩
  · rcases ha1:(decide ((l.length:Int)≤1000)) with _ | _
    · rcases ha2:(decide (1002<(l.length:Int))) with _ | _
      · go_wp2
        go_meet;exact ⟨_,rfl,Below.refl _ _⟩
      · go_wp2
        go_meet;exact ⟨_,rfl,Below.refl _ _⟩
    · go_wp2
      go_meet;exact ⟨_,rfl,Below.refl _ _⟩
 case rest=>
  obtain ⟨b,rfl,hbw0⟩:=hcut
  cases b
  rotate_left
  · go_wp2
    go_ret;exact ⟨agL _,hbw0⟩
  go_wp2
  go_loopw [5] (fun i wr=>∃ k:Nat,k≤l.length∧i= .int .i64 k∧Below w.heap.size w wr) (fun i _=>l.length - (intOf i).toNat)
  case atStart=>exact ⟨0,Nat.zero_le _,rfl,hbw0⟩
  case round=>
   obtain ⟨k,hk,rfl,hbw⟩:=hrel
   by_cases hlt:k<l.length
   · have heg:=hp.ent k hlt
     obtain ⟨b,o,rfl,_,hbl,_⟩:=(hp.below hbw).at_ k hlt;have h00:=Oc hp hlt hbw rfl
     go_upto_region 6 with (fail)
     go_cut [5,31] from 26 to 32 (fun v5 v31 wx=>v5= .int .i64 k∧∃ b,v31= .bool b∧Below w.heap.size w wx)
     case first=>
      go_wp2_with (first | ((with_reducible (refine dA 45 (.tmp 28) ?lx ?_));(case lx=>rfl);refine iJ (g:=b) (o:=o+k*5) h00 Tryz.underlying45 rfl ald rfl (.tmp 28) rfl rfl ?_) | (go_at_call 12;refine (acz S l[k] _ (heg.below hbw)).mono ?_;rintro e w3 ⟨⟨bb,rfl⟩,hb3⟩;have hbw:=hbw.trans (hb3.mono hbw.size)))
      go_meet;exact ⟨rfl,_,rfl,hbw⟩
     case rest=>
     obtain ⟨rfl,bb,rfl,hbw⟩:=hcut
     cases bb
     rotate_left
     · go_wp2
       go_ret;exact ⟨agL _,hbw⟩
     · go_wp2
       go_roundw
       case rel=>exact ⟨k+1,by omega,by go_num,hbw⟩
       case measure=>simp [intOf];omega
   · go_wp2
     go_ret;exact ⟨agL _,hbw⟩
end Go.Proofs.YtcbmedfongiojaaGreatDoor
