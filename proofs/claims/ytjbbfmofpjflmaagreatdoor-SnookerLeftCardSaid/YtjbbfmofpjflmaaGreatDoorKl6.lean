/- Parts of a proof. -/
import Derived.Lib.ItoaNum
import Derived.Test.YtjbbfmofpjflmaaGreatDoorKb20
import Derived.Test.YtjbbfmofpjflmaaGreatDoorKl4
set_option maxHeartbeats 2000000
set_option maxRecDepth 100000
set_option linter.unusedVariables false
set_option linter.unusedSimpArgs false
namespace Go.Proofs.YtjbbfmofpjflmaaGreatDoor
open Go.RowKit
theorem ahm:∀ n:Fin 10,(ByteArray.mk #[48,49,50,51,52,53,54,55,56,57]).extract n.val (n.val+1)=⟨#[UInt8.ofNat (48+n.val)]⟩:=by decide
theorem afy {k:Nat} (h:k<10):(ByteArray.mk #[48,49,50,51,52,53,54,55,56,57]).extract k (k+1)=⟨#[UInt8.ofNat (48+k)]⟩:=ahm ⟨k,h⟩
theorem ac5 {k:Nat} (h:k<10):Lib.decDigits k=[UInt8.ofNat (48+k)]:=by rw [Lib.decDigits,dif_pos h]
theorem afH {k:Nat} (h:¬ k<10):Lib.decDigits k=Lib.decDigits (k / 10)++[UInt8.ofNat (48+k % 10)]:=by rw [Lib.decDigits,dif_neg h]
theorem afP {n:Int}:(Tryz.prog.info? 3).map (fun i=>(i.zero,i.size,i.bytes))=some (some (.int .i64 0),1,8):=by kernel_rfl
theorem ab1 (n:Nat) (h0:0<n) (h1:n≤99999) (w:World):Calls Tryz.prog 216 #[.int .i64 n,.int .i64 1] w fun e w'=>e= .returned (.string ⟨(Lib.decDigits n).toArray⟩)∧w=w':=by
 go_enter Tryz.func216,Tryz.ntmps216
 go_wp2
 go_loop [0,5] (fun v0 v5=>∃ (k:Nat) (l:List UInt8),v0= .int .i64 k∧v5= .string ⟨l.toArray⟩∧k≤99999∧(l.length≤100000 - k)∧Aside ((k=0∧l=Lib.decDigits n∧l≠[])∨(0<k∧Lib.decDigits k++l=Lib.decDigits n))) (fun v0 _=>(intOf v0).toNat)
 case atStart=>exact ⟨n,[],rfl,rfl,h1,by simp,hide (.inr ⟨h0,by simp⟩)⟩
 case round=>
  obtain ⟨k,l,rfl,rfl,hk,hl,hx⟩:=hrel
  by_cases hk0:0<k
  · obtain ⟨m,hm⟩:∃ m,k % 10=m:=⟨_,rfl⟩
    obtain ⟨q,hq⟩:∃ q,k / 10=q:=⟨_,rfl⟩
    have d1:Int.tdiv (k:Int) 10=(q:Int):=by rw [← hq];rfl
    have d2:Int.tmod (k:Int) 10=(m:Int):=by rw [← hm];rfl
    have hm9:m<10:=by omega
    have hqk:q<k:=by omega
    have hd:decide (0<(k:Int))=true:=decide_eq_true (by omega)
    have e1:((m:Int)+1).toNat=m+1:=by omega
    have hlb:¬ (9223372036854775807<1+l.length):=by omega
    have HC:=hide (afy hm9)
    have HN:=hide (show (q=0∧UInt8.ofNat (48+m)::l=Lib.decDigits n∧UInt8.ofNat (48+m)::l≠[])∨(0<q∧Lib.decDigits q++(UInt8.ofNat (48+m)::l)=Lib.decDigits n) by
     rcases hx.out with ⟨h,_⟩ | ⟨_,h⟩
     · omega
     · by_cases h10:k<10
       · left
         rw [ac5 h10] at h
         have:m=k:=by omega
         rw [this];exact ⟨by omega,h,by simp⟩
       · right
         rw [afH h10,hq,hm,List.append_assoc] at h
         exact ⟨by omega,h⟩)
    have HL:=hide (show (UInt8.ofNat (48+m)::l).length≤100000 - q by rw [List.length_cons];omega)
    have hq9:q≤99999:=by omega
    clear hx hm hq hl;go_wp2
    go_round
    case rel=>
     refine ⟨q,UInt8.ofNat (48+m)::l,by go_num,?_,hq9,HL.out,HN⟩;rw [HC.out];exact congrArg Value.string (sV [_] l)
    case measure=>simp [intOf];omega
  · have hz:k=0:=by omega
    subst hz
    have hll:l=Lib.decDigits n∧l≠[]:=by
     rcases hx.out with ⟨_,h⟩ | ⟨h,_⟩
     · exact h
     · omega
    have hlp:0<l.length:=List.length_pos_iff.2 hll.2;have hd:decide ((l.length:Int)<1)=false:=decide_eq_false (by omega);have HLL:=hide hll.1;clear hx hll;go_wp2;go_ret;exact ⟨by rw [← HLL.out];rfl,rfl⟩
theorem adF (S:Nat→Prop) (A:Option Addr) (c:Nat) (l:List Int) (hl:l=[]∨∃ n,l=[n]∧n≠0) (w:World) (h:jV w S A c l):Calls Tryz.prog 252 #[.slice A l.length c] w fun e w'=>e= .returned (.slice A l.length c)∧w=w':=by
 obtain ⟨b1,b2,b3⟩:=Reads.bd h
 go_enter Tryz.func252,Tryz.ntmps252
 go_wp2
 go_loop [0] (fun v=>v= .slice A l.length c) (fun _=>0)
 case atStart=>exact rfl
 case round=>
  subst hrel
  rcases hl with rfl | ⟨n,rfl,hn⟩
  · go_wp2
    go_ret;exact ⟨rfl,rfl⟩
  · obtain ⟨b,o,rfl,_,hbl,hc⟩:=Reads.at_ h (by simp)
    have hk:=hc 0 _ rfl;rw [Nat.add_zero] at hk
    have hn0:(n == 0)=false:=by simpa using hn
    go_wp2;go_ret;exact ⟨rfl,rfl⟩
theorem aat:(Tryz.prog.info? 216).map (·.size)=some 2:=by kernel_rfl
theorem acG (S:Nat→Prop) (A:Option Addr) (c:Nat) (l:List Int) (hl:l=[]∨∃ n,l=[n]∧n≠0) (w:World) (h:jV w S A c l):Calls Tryz.prog 217 #[.bool false,.slice A l.length c] w fun e w'=>e= .returned (.agg #[.bool false,.slice A l.length c])∧Below w.heap.size w w':=by
 go_enter Tryz.func217,Tryz.ntmps217
 go_upto_region 0 with (fail)
 go_cut [4] (fun v4 wx=>v4=ptr w.heap.size∧Bx w wx [(w.heap.size,[.bool false,.slice none 0 0],216)])
 case first=>
  go_wp2;go_meet;exact ⟨rfl,Bx.of ((aJ.nil w).new (by simp) [.bool false,.slice none 0 0] 216) _ rfl⟩
 case rest=>
  obtain ⟨rfl,hL⟩:=hcut;have hZ:=hL.put [.bool false,.slice A l.length c] rfl
  have hone:∀ x∈[Value.bool false,.slice A l.length c],x.oneCell'=true:=by simp [Value.oneCell']
  go_wp2_with (first | (go_at_call 252;refine (adF S A c l hl _ (Reads.below h hL.bw)).mono ?_;rintro e w1 ⟨rfl,rfl⟩) | ((with_reducible (refine aH 216 (.tmp 4) (.tmp 14) ?lx ?_));(case lx=>rfl);refine aC (hL.get 0 rfl) ([.bool false,.slice A l.length c]) rfl aat hone rfl (.tmp 4) (.tmp 14) rfl rfl rfl ?_))
  refine bodyPost_ret (aX (p:=4) (hZ.get 0 rfl) Tryz.underlying216 rfl aat rfl _ rfl) rfl ⟨?_,hZ.bw⟩
  rfl
def wdL (n:Nat):List Int:=if n=0 then [] else [(n:Int)]
theorem acX (n:Nat) (h1:n≤99999) (w:World):Calls Tryz.prog 180 #[.int .i64 n] w fun e w'=>∃ A c,e= .returned (.agg #[.bool false,.slice A (wdL n).length c])∧jV w' (fun b=>w.heap.size≤b) A c (wdL n)∧Below w.heap.size w w':=by
 obtain ⟨i0,hi0,hz0,hz1,hz2⟩:=info_parts (afP (n:=0))
 go_enter Tryz.func180,Tryz.ntmps180
 go_upto_region 0 with (fail)
 go_cut [2] (fun v2 wx=>v2=ptr w.heap.size∧Bx w wx [(w.heap.size,[.bool false,.slice none 0 0],216)])
 case first=>
  go_wp2;go_meet;exact ⟨rfl,Bx.of ((aJ.nil w).new (by simp) [.bool false,.slice none 0 0] 216) _ rfl⟩
 case rest=>
  obtain ⟨rfl,hL⟩:=hcut;have hd1:decide ((n:Int)<0)=false:=decide_eq_false (by omega)
  have t1:Int.tmod (n:Int) 1000000000=(n:Int):=by rw [Int.tmod_eq_emod_of_nonneg (by omega)];omega
  have t2:Int.tdiv (n:Int) 1000000000=0:=by rw [Int.tdiv_eq_ediv_of_nonneg (by omega)];omega
  go_wp2
  go_loopw [0,3,5] (fun v0 v3 _ wr=>∃ (k:Nat) (A:Option Addr) (c:Nat) (l:List Int),v0= .int .i64 k∧v3= .slice A l.length c∧Aside ((k=n∧l=[])∨(k=0∧l=[(n:Int)]∧n≠0))∧l.length≤1∧Bx w wr [(w.heap.size,[.bool false,.slice none 0 0],216)]∧wr.ownsRow w.heap.size 3 1 (.slice A l.length c) l.length (l.map (Value.int .i64))) (fun v0 _ _ _=>(intOf v0).toNat)
  case atStart=>exact ⟨n,none,0,[],rfl,rfl,hide (.inl ⟨rfl,rfl⟩),by simp,hL,World.ownsRow_nil _ _ _ _⟩
  case round=>
   obtain ⟨k,A,c,l,rfl,rfl,hx,hl1,hL,hO⟩:=hrel
   by_cases hk:k=0
   · subst hk
     have hll:l=wdL n∧(l=[]∨∃ m,l=[m]∧m≠0):=by
      rcases hx.out with ⟨a1,a2⟩ | ⟨_,a2,a3⟩
      · unfold wdL;rw [if_pos a1.symm];exact ⟨a2,.inl a2⟩
      · unfold wdL;rw [if_neg a3];exact ⟨a2,.inr ⟨_,a2,by omega⟩⟩
     have HRD:=hide (Reads.Aw hO (S:=fun b=>w.heap.size≤b) (fun b h=>h) (by omega));have HLL:=hide hll;have hZ:=hL.put [.bool false,.slice A l.length c] rfl
     have hone:∀ x∈[Value.bool false,.slice A l.length c],x.oneCell'=true:=by simp [Value.oneCell']
     have HO:=hide hO;clear hx hO hll hl1
     go_wp2_with (first | (go_at_call 217;refine (acG _ A c l HLL.out.2 _ HRD.out).mono ?_;rintro e w1 ⟨rfl,hb1⟩;have hL:=hL.call hb1;have hO2:=adV HO.out hb1) | ((with_reducible (refine aH 216 (.tmp 2) (.tmp 24) ?lx ?_));(case lx=>rfl);refine aC (hL.get 0 rfl) ([.bool false,.slice A l.length c]) rfl aat hone rfl (.tmp 2) (.tmp 24) rfl rfl rfl ?_))
     have hZ:=hL.put [.bool false,.slice A l.length c] rfl;have hO3:=afi hO2 (own_ne hO2 (hL.get 0 rfl) (by decide)) [.bool false,.slice A l.length c] 0;refine bodyPost_ret (aX (p:=2) (hZ.get 0 rfl) Tryz.underlying216 rfl aat rfl _ rfl) rfl ⟨A,c,?_,?_,hZ.bw⟩
     · rw [← HLL.out.1]
     · rw [← HLL.out.1]
       exact Reads.Aw hO3 (S:=fun b=>w.heap.size≤b) (fun b h=>h) (by have:=HLL.out.2;rcases this with h | ⟨m,h,_⟩ <;> rw [h] <;> simp)
   · have hkn:k=n∧l=[]:=by
      rcases hx.out with h | ⟨h,_⟩
      · exact h
      · exact absurd h hk
     obtain ⟨rfl,rfl⟩:=hkn
     have hd:((k:Int) != 0)=true:=by simp;omega
     have auY:=hL.bw.size;replace hO:wr.ownsRow w.heap.size 3 1 (.slice A 0 c) 0 []:=hO;have HK:=hide hk;clear hx hl1 hk
     go_wp2_with (first | (at_builtin;refine wpList_append_lies _ rfl _ _ _ rfl w.heap.size 3 i0 (.int .i64 0) 1 8 Tryz.underlying50 hi0 hz0 hz1 hz2 rfl (by omega) _ _ _ rfl (hO.alloc _) ⟨wr.heap.size,0,none⟩ 1 1 [.int .i64 k] rfl rfl (jW _ _ _ _ (by simp)) (by simp [Value.oneCell']) (by omega) (by simp only [maxLen];omega) (by omega) (by simp;omega) (wr.heap.size+1) (by simp) ?_))
     intro g1 cap w4 hown4 hgrow hat _;have hL4:=(hL.alloc _).ahu (hO.alloc _) hgrow (by simp);have HO:=hide hown4;have HL:=hide hL4;clear hown4 hgrow hL hO hL4;go_wp2
     go_roundw
     case rel=>exact ⟨0,_,_,[(k:Int)],rfl,rfl,hide (.inr ⟨rfl,rfl,HK.out⟩),by simp,HL.out,HO.out⟩
     case measure=>simp [intOf];have:=HK.out;omega
theorem adx (S:Nat→Prop) (n:Nat) (h1:n≤99999) (A:Option Addr) (c:Nat) (w:World) (h:jV w S A c (wdL n)):Calls Tryz.prog 179 #[.agg #[.bool false,.slice A (wdL n).length c]] w fun e w'=>e= .returned (.string ⟨(Lib.itoa n).toArray⟩)∧Below w.heap.size w w':=by
 have hi:Lib.itoa (n:Int)=Lib.decDigits n:=by unfold Lib.itoa;rw [if_neg (by omega)];rfl
 rw [hi];clear hi
 by_cases h0:n=0
 · subst h0
   rw [show wdL 0=[] from rfl] at h ⊢
   go_enter Tryz.func179,Tryz.ntmps179
   go_upto_region 0 with (fail)
   go_cut [1,2] (fun v1 v2 wx=>v1=ptr w.heap.size∧v2= .string ⟨#[]⟩∧Bx w wx [(w.heap.size,[.bool false,.slice A 0 c],216)])
   case first=>
    go_wp2;go_meet;exact ⟨rfl,rfl,Bx.of ((aJ.nil w).new (by simp) [.bool false,.slice A 0 c] 216) _ rfl⟩
   case rest=>
    obtain ⟨rfl,rfl,hL⟩:=hcut;have k1:=(hL.get 0 rfl).cell (j:=1) rfl;have HD:=hide (ac5 (k:=0) (by omega));go_wp2;go_ret;exact ⟨by rw [HD.out];rfl,hL.bw⟩
 · rw [show wdL n=[(n:Int)] by unfold wdL;rw [if_neg h0]] at h ⊢
   obtain ⟨b,o,rfl,_,hbl,hc⟩:=Reads.at_ h (by simp);have hk:=hc 0 _ rfl;rw [Nat.add_zero] at hk;obtain ⟨q1,q2,q3⟩:=Reads.bd h;have hdc:=fun W=>ab1 n (by omega) h1 W;have HDC:=hide hdc;clear hdc hc
   go_enter Tryz.func179,Tryz.ntmps179
   go_upto_region 0 with (fail)
   go_cut [1,2] (fun v1 v2 wx=>v1=ptr w.heap.size∧v2= .string ⟨#[]⟩∧Bx w wx [(w.heap.size,[.bool false,.slice (some ⟨b,o,none⟩) 1 c],216)])
   case first=>
    go_wp2;go_meet;exact ⟨rfl,rfl,Bx.of ((aJ.nil w).new (by simp) [.bool false,.slice (some ⟨b,o,none⟩) 1 c] 216) _ rfl⟩
   case rest=>
    obtain ⟨rfl,rfl,hL⟩:=hcut;have k0:=(hL.get 0 rfl).cell (j:=0) rfl;have k1:=(hL.get 0 rfl).cell (j:=1) rfl;have hk2:=(hL.bw.cell (p:=⟨b,o,none⟩) hbl).trans hk
    go_wp2_with ((go_at_call 216;refine (HDC.out _).mono ?_;rintro e w1 ⟨rfl,rfl⟩))
    go_loop [3,4] (fun v3 v4=>v3= .string ⟨(Lib.decDigits n).toArray⟩∧v4= .int .i64 (-1)) (fun _ _=>0)
    case atStart=>exact ⟨rfl,rfl⟩
    case round=>
     obtain ⟨rfl,rfl⟩:=hrel;go_wp2;go_ret;exact ⟨rfl,hL.bw⟩
theorem ab9 (n:Nat) (h1:n≤99999) (w:World):Calls Tryz.prog 132 #[.int .i64 n] w fun e w'=>e= .returned (.string ⟨(Lib.itoa n).toArray⟩)∧Below w.heap.size w w':=by
 go_enter Tryz.func132,Tryz.ntmps132
 go_wp2_with (first | (go_at_call 180;refine (acX n h1 _).mono ?_;rintro e w1 ⟨A,c,rfl,hR,hb1⟩) | (go_at_call 179;refine (adx _ n h1 A c _ hR).mono ?_;rintro e w2 ⟨rfl,hb2⟩))
 go_ret;exact ⟨rfl,hb1.trans (hb2.mono hb1.size)⟩
theorem aad (n:Int) (h0:0≤n) (h1:n≤99999) (w:World):Calls Tryz.prog 78 #[.int .i64 n] w fun e w'=>e= .returned (.string ⟨(Lib.itoa n).toArray⟩)∧Below w.heap.size w w':=by
 obtain ⟨k,rfl⟩:=Int.eq_ofNat_of_zero_le h0
 go_enter Tryz.func78,Tryz.ntmps78
 go_wp2_with ((go_at_call 132;refine (ab9 k (by omega) _).mono ?_;rintro e w2 ⟨rfl,hb2⟩))
 go_ret;exact ⟨rfl,hb2⟩
theorem af7 (a:List UInt8) (p:ByteArray) (b d:List UInt8):(ByteArray.mk a.toArray)++p++(ByteArray.mk b.toArray)++(ByteArray.mk d.toArray)=⟨(a++p.toList++b++d).toArray⟩:=by
 have h:p=⟨p.toList.toArray⟩:=by rw [ByteArray.toList_eq]
 obtain ⟨q,hq⟩:∃ q,p.toList=q:=⟨_,rfl⟩;rw [hq] at h ⊢;rw [h,sV,sV,sV]
theorem adp (g:Sk.Game) (s:Sk.State) (w:World) (hok:Sk.Ok g s):Calls Tryz.prog 40 #[lZ g,kW s] w fun e w'=>e= .returned (.string ⟨(Jj g s).toArray⟩)∧Below w.heap.size w w':=by
 have hs0:=hok.inr.s0;have hs1:=hok.inr.s1;have hwn:=hok.inr.aB;have htn:=hok.inr.turn;have hcl:=hok.inr.colour
 have hrd:0≤s.bI∧s.bI≤15:=by
  have h1:=hok.inr.bI
  rcases Sk.iM hok.game with ⟨_,a,_⟩ | ⟨_,a,_⟩ | ⟨_,a,_⟩ <;> omega
 have H0:=hide (fun W=>aad s.s0 hs0.1 hs0.2 W);have H1:=hide (fun W=>aad s.s1 hs1.1 hs1.2 W);have l0:=ny (n:=s.s0) (by omega) (by omega);have l1:=ny (n:=s.s1) (by omega) (by omega);have la:=XA hs0 hs1;obtain ⟨OT,hOT⟩:∃ q,nY s++[32]=q:=⟨_,rfl⟩
 have hlo:OT.length≤24:=by rw [← hOT,List.length_append];simp;omega
 have HA:=hide hOT;have HOK:=hide hok;clear hOT hok
 go_enter Tryz.func40,Tryz.ntmps40
 go_upto_region 0 with (fail)
 go_cut [2,3,4] (fun v2 v3 v4 wx=>v2=ptr (w.heap.size)∧v3=ptr (w.heap.size+1)∧v4= .string ⟨#[]⟩∧Bx w wx [(w.heap.size,bT g,28),(w.heap.size+1,aO s,39)])
 case first=>
  go_wp2;go_meet;exact ⟨rfl,rfl,rfl,Bx.of (((aJ.nil w).new (by simp) (bT g) 28).new (by simp) (aO s) 39) _ rfl⟩
 case rest=>
  obtain ⟨rfl,rfl,rfl,hL⟩:=hcut
  have y0:¬ (9223372036854775807<(Lib.itoa s.s0).length+1):=by omega
  have y1:¬ (9223372036854775807<(Lib.itoa s.s0).length+1+(Lib.itoa s.s1).length):=by omega
  have y2:¬ (9223372036854775807<(Lib.itoa s.s0).length+1+(Lib.itoa s.s1).length+1):=by omega
  have z0:(ByteArray.mk (Lib.itoa s.s0).toArray).size≤11:=by rw [jC];exact l0
  have z1:(ByteArray.mk (Lib.itoa s.s1).toArray).size≤11:=by rw [jC];exact l1
  go_upto_region 1 with (fail)
  go_cut [5] from 6 to 17 (fun v5 wx=>v5= .string ⟨OT.toArray⟩∧Bx w wx [(w.heap.size,bT g,28),(w.heap.size+1,aO s,39)])
  case first=>
   have hL:=hL.drew;refine wp_region_held_drew (S:=(fun w':World=>Bx w w' [(w.heap.size,bT g,28),(w.heap.size+1,aO s,39)]∧w'.cell? ⟨w.heap.size+1,1,none⟩=some (.int .i64 s.s0)∧w'.cell? ⟨w.heap.size+1,2,none⟩=some (.int .i64 s.s1))) (by kernel_rfl) ?bW (fun hHeld=>?_)
   case bW=>exact ⟨hL,(hL.get 1 rfl).cell (j:=1) rfl,(hL.get 1 rfl).cell (j:=2) rfl⟩
   refine tk 0 ?_;refine tk 1 ?_;refine tk 2 ?_;refine tk 5 ?_;refine tk 6 ?_;refine tk 7 ?_;refine tr 3 fun K hK=>?_;go_simp
   (go_at_call 78;refine (H0.out _).mono ?_;rintro e w1a ⟨rfl,OC⟩)
   have hL:=hL.call OC;refine hK.out _ _ ?Gx (fun hHeld=>?_)
   case Gx=>(exact ⟨hL,(hL.get 1 rfl).cell (j:=1) rfl,(hL.get 1 rfl).cell (j:=2) rfl⟩)
   clear hK K
   try simp only [Act.put,la,lz,ls]
   refine tk 4 ?_;refine tr 8 fun K hK=>?_;go_simp
   (go_at_call 78;refine (H1.out _).mono ?_;rintro e YK ⟨rfl,OD⟩)
   have hL:=hL.call OD;refine hK.out _ _ ?aik (fun hHeld=>?_)
   case aik=>(exact ⟨hL,(hL.get 1 rfl).cell (j:=1) rfl,(hL.get 1 rfl).cell (j:=2) rfl⟩)
   clear hK K
   try simp only [Act.put,la,lz,ls]
   refine tk 9 ?_;refine tk 10 ?_;refine tk 11 ?_;refine wpAnyH_done (by kernel_rfl) ?_ _;go_wp2;go_meet;exact ⟨congrArg Value.string (by simp only [sV];rw [← HA.out];simp [nY]),hL⟩
  case rest=>
   obtain ⟨rfl,hL⟩:=hcut;clear y0 y1 y2 z0 z1 l0 l1 la;have k12:=(hL.get 1 rfl).cell (j:=12) rfl
   have u0:¬ (9223372036854775807<OT.length+5):=by omega
   have z9:(ByteArray.mk OT.toArray).size=OT.length:=jC _
   by_cases h2:s.aB=2
   · have hd2:(s.aB == 2)=true:=by simp [h2]
     have HM:=hide (show Jj g s=nY s++([32,100,114,97,119,110]) by unfold Jj;simp only [h2,if_true,if_false,reduceIte,ne_eq,not_true_eq_false,not_false_eq_true];try rfl);clear h2;go_wp2;go_ret;exact ⟨congrArg (fun x=>Ending.returned (Value.string x)) (by rw [HM.out, ← HA.out];simp only [sV];simp),hL.bw⟩
   · have hd2:(s.aB == 2)=false:=by simp [h2]
     by_cases hw:0≤s.aB
     · have hdw:decide (0≤s.aB)=true:=decide_eq_true hw
       have HM:=hide (show Jj g s=nY s++([32,119,111,110,32]++Lib.itoa s.aB) by unfold Jj;simp only [h2,hw,if_true,if_false,reduceIte,ne_eq,not_true_eq_false,not_false_eq_true];try rfl);clear h2;have HI:=hide (fun W=>aad s.aB (by omega) (by omega) W);have l2:=ny (n:=s.aB) (by omega) (by omega)
       have u1:¬ (9223372036854775807<OT.length+4):=by omega
       have u2:¬ (9223372036854775807<OT.length+4+(Lib.itoa s.aB).length):=by omega
       have z1:(ByteArray.mk OT.toArray).size=OT.length:=jC _;have z2:(ByteArray.mk (Lib.itoa s.aB).toArray).size=(Lib.itoa s.aB).length:=jC _;have kk:_=some (Value.int .i64 s.aB):=(hL.get 1 rfl).cell (j:=12) rfl
       go_wp2_with (go_at_call 78;refine (HI.out _).mono ?_;rintro e w4 ⟨rfl,hb4⟩;have hL:=hL.call hb4)
       go_ret;exact ⟨congrArg (fun x=>Ending.returned (Value.string x)) (by rw [HM.out, ← HA.out];simp only [sV];simp),hL.bw⟩
     · have hdw:decide (0≤s.aB)=false:=decide_eq_false hw
       have kg:=(hL.get 0 rfl).cell (j:=0) rfl
       by_cases hg:g.kind=Sk.aW
       · have hg1:=wt hg
         have hg2:(g.kind.toList != [115,110,111,111,107,101,114])=false:=by rw [bne,hg1];rfl
         have kp:=(hL.get 1 rfl).cell (j:=4) rfl
         by_cases hp:s.phase=Sk.dG
         · have hp1:=wt hp
           have HM:=hide (show Jj g s=nY s++([32,102,105,110,97,108,32]++Lib.itoa s.colour) by unfold Jj;simp only [h2,hw,hg,hp,if_true,if_false,reduceIte,ne_eq,not_true_eq_false,not_false_eq_true];try rfl);clear h2 hw hg hp;have HI:=hide (fun W=>aad s.colour (by omega) (by omega) W);have l2:=ny (n:=s.colour) (by omega) (by omega)
           have u1:¬ (9223372036854775807<OT.length+6):=by omega
           have u2:¬ (9223372036854775807<OT.length+6+(Lib.itoa s.colour).length):=by omega
           have z1:(ByteArray.mk OT.toArray).size=OT.length:=jC _;have z2:(ByteArray.mk (Lib.itoa s.colour).toArray).size=(Lib.itoa s.colour).length:=jC _;have kk:_=some (Value.int .i64 s.colour):=(hL.get 1 rfl).cell (j:=6) rfl
           go_wp2_with (go_at_call 78;refine (HI.out _).mono ?_;rintro e w4 ⟨rfl,hb4⟩;have hL:=hL.call hb4)
           go_ret;exact ⟨congrArg (fun x=>Ending.returned (Value.string x)) (by rw [HM.out, ← HA.out];simp only [sV];simp),hL.bw⟩
         · have hp1:=wf hp
           have HM:=hide (show Jj g s=nY s++(32::s.phase.toList++32::Lib.itoa s.bI) by unfold Jj;simp only [h2,hw,hg,hp,if_true,if_false,reduceIte,ne_eq,not_true_eq_false,not_false_eq_true];try rfl)
           have hps:s.phase.size≤6:=by rcases Sk.Gm HOK.out hg with ⟨h,_⟩ | ⟨h,_⟩ | ⟨h,_⟩ <;> rw [h] <;> decide
           clear h2 hw hg hp;have HI:=hide (fun W=>aad s.bI (by omega) (by omega) W);have l2:=ny (n:=s.bI) (by omega) (by omega)
           have v1:¬ (9223372036854775807<OT.length+s.phase.size):=by omega
           have v2:¬ (9223372036854775807<OT.length+s.phase.size+1):=by omega
           have v3:¬ (9223372036854775807<OT.length+s.phase.size+1+(Lib.itoa s.bI).length):=by omega
           have z2:(ByteArray.mk (Lib.itoa s.bI).toArray).size≤11:=by rw [jC];exact l2
           go_upto_region 10 with (fail)
           have hL:=hL.drew;refine wp_region_held_drew (S:=(fun w':World=>Bx w w' [(w.heap.size,bT g,28),(w.heap.size+1,aO s,39)]∧w'.cell? ⟨w.heap.size+1,4,none⟩=some (.string s.phase)∧w'.cell? ⟨w.heap.size+1,5,none⟩=some (.int .i64 s.bI))) (by kernel_rfl) ?dI (fun hHeld=>?_)
           case dI=>exact ⟨hL,(hL.get 1 rfl).cell (j:=4) rfl,(hL.get 1 rfl).cell (j:=5) rfl⟩
           refine tk 0 ?_;refine tk 1 ?_;refine tk 2 ?_;refine tk 3 ?_;refine tk 4 ?_;refine tk 5 ?_;refine tk 6 ?_;refine tr 7 fun K hK=>?_;go_simp
           (go_at_call 78;refine (HI.out _).mono ?_;rintro e ajg ⟨rfl,ahC⟩)
           have hL:=hL.call ahC;refine hK.out _ _ ?ae2 (fun hHeld=>?_)
           case ae2=>(exact ⟨hL,(hL.get 1 rfl).cell (j:=4) rfl,(hL.get 1 rfl).cell (j:=5) rfl⟩)
           clear hK K
           try simp only [Act.put,la,lz,ls]
           refine tk 8 ?_;refine tk 9 ?_;refine wpAnyH_done (by kernel_rfl) ?_ _;go_wp2;go_ret;exact ⟨congrArg (fun x=>Ending.returned (Value.string x)) (by rw [HM.out, ← HA.out];exact (af7 _ _ [32] _).trans (by simp)),hL.bw⟩
       · have hg1:=wf hg
         have hg2:(g.kind.toList != [115,110,111,111,107,101,114])=true:=by rw [bne,hg1];rfl
         have HM:=hide (show Jj g s=nY s++([32,116,117,114,110,32]++Lib.itoa s.turn) by unfold Jj;simp only [h2,hw,hg,if_true,if_false,reduceIte,ne_eq,not_true_eq_false,not_false_eq_true];try rfl);clear h2 hw hg;have HI:=hide (fun W=>aad s.turn (by omega) (by omega) W);have l2:=ny (n:=s.turn) (by omega) (by omega)
         have u1:¬ (9223372036854775807<OT.length+5):=by omega
         have u2:¬ (9223372036854775807<OT.length+5+(Lib.itoa s.turn).length):=by omega
         have z1:(ByteArray.mk OT.toArray).size=OT.length:=jC _;have z2:(ByteArray.mk (Lib.itoa s.turn).toArray).size=(Lib.itoa s.turn).length:=jC _;have kk:_=some (Value.int .i64 s.turn):=(hL.get 1 rfl).cell (j:=0) rfl
         go_wp2_with (go_at_call 78;refine (HI.out _).mono ?_;rintro e w4 ⟨rfl,hb4⟩;have hL:=hL.call hb4)
         go_ret;exact ⟨congrArg (fun x=>Ending.returned (Value.string x)) (by rw [HM.out, ← HA.out];simp only [sV];simp),hL.bw⟩
end Go.Proofs.YtjbbfmofpjflmaaGreatDoor
