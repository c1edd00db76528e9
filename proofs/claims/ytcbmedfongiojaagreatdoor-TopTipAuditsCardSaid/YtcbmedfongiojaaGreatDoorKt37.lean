/- Parts of a proof. -/
import Derived.Test.YtcbmedfongiojaaGreatDoorKt33
set_option maxHeartbeats 8000000
set_option maxRecDepth 100000
set_option linter.unusedVariables false
set_option linter.unusedSimpArgs false
namespace Go.Proofs.YtcbmedfongiojaaGreatDoor
open Go.RowKit
def Na:Nm.Pl:=(bM,dn)
def EI:List Nm.Pl:=[(bM,dn)]
def oZ (p:Nm.Pl):Nm.iq:=if p.1=bM then (⟨50,1⟩,⟨25,1⟩) else (⟨1,1⟩,⟨0,1⟩)
theorem Ib (S S':Nat→Prop) (A B:Option Addr) (c c':Nat) (w:World) (hg:Glob w) (hs:Reads w S 2 A 1 c (EI.flatMap jl)) (hb:Reads w S' 2 B 1 c' (EI.flatMap jl)):
 Calls Tryz.prog 48 #[.slice A 1 c,.slice B 1 c',.int .i64 0,plV (s1,s0),.string s2] w fun e w'=>e= .returned (.int .i64 0)∧Below w.heap.size w w':=by
 have HS:=hide (fun W (h:Below w.heap.size w W)=>uU S A c EI W (hg.below h) (hs.below h) (fun p hp=>by simp only [EI,List.mem_cons,List.not_mem_nil,or_false] at hp;subst hp;exact ⟨tq,wz⟩));have HB:=hide (fun W (h:Below w.heap.size w W)=>uU S' B c' EI W (hg.below h) (hb.below h) (fun p hp=>by simp only [EI,List.mem_cons,List.not_mem_nil,or_false] at hp;subst hp;exact ⟨tq,wz⟩));have HP:=hide (fun W (h:Below w.heap.size w W)=>kH s1 s0 W (hg.below h) SE SC);have HC:=hide (fun W (h:Below w.heap.size w W)=>Yw W (hg.below h));have HF:=hide (fun W (h:Below w.heap.size w W)=>Y9 W (hg.below h));have HN:=hide (fun W=>jE ⟨2,1⟩ W)
 have heq:∀ W,(binOp .eql 66 (.agg #[.string s1,.string s0]) (.agg #[.string s0,.string s0])).run Tryz.prog W= .ok (.bool false) W:=fun W=>by kernel_rfl
 clear hs hb
 go_enter Tryz.func48,Tryz.ntmps48
 go_upto_region 0 with (fail)
 go_cut [8,10] (fun v8 v10 wx=>v8=ptr (w.heap.size)∧v10= .int .i64 0∧Bx w wx [(w.heap.size,jl (s1,s0),66)])
 case first=>
  go_wp2;go_meet;exact ⟨rfl,rfl,Bx.of ((aC.nil w).new (by simp) (jl (s1,s0)) 66) _ rfl⟩
 case rest=>
  obtain ⟨rfl,rfl,hL⟩:=hcut
  go_upto_region 1 with (fail)
  go_cut [11] from 11 to 45 (fun v11 wx=>v11= .int .i64 0∧Bx w wx [(w.heap.size,jl (s1,s0),66)])
  case first=>
   have CO:∀ W:World,Bx w W [(w.heap.size,jl (s1,s0),66)]→W.rangeAt (w.heap.size) 0 ([.string s1,.string s0]):=fun W h=>h.rng 0 rfl 0 _ rfl;have hL:=hL.drew;refine wp_region_held_drew (S:=(fun w':World=>Bx w w' [(w.heap.size,jl (s1,s0),66)])) (by kernel_rfl) ?bU (fun hHeld=>?_)
   case bU=>exact hL
   refine aA 0 ?_;refine aA 1 ?_;refine aA 2 ?_;refine aA 4 ?_;refine aA 5 ?_;refine aA 6 ?_;refine aA 13 ?_;refine aA 15 ?_;refine aA 17 ?_;refine aA 18 ?_;refine aA 19 ?_;refine aA 20 ?_;refine bP 23 CO Tryz.underlying66 ?_;refine bP 25 CO Tryz.underlying66 ?_;refine aA 26 ?_;refine aA 27 ?_;refine aA 29 ?_;refine aB 3 fun K hK=>?_;go_simp
   (go_at_call 25;refine (dJ false 12 _).mono ?_;rintro e YW ⟨rfl,rfl⟩)
   refine au hK (hL) fun hHeld=>?_;clear hK K;refine aA 7 ?_;refine aA 8 ?_;refine aA 9 ?_;refine aA 10 ?_;refine aA 11 ?_;refine aB 12 fun K hK=>?_;go_simp
   (go_at_call 25;refine (dJ false 5 _).mono ?_;rintro e YA ⟨rfl,rfl⟩)
   refine au hK (hL) fun hHeld=>?_;clear hK K;refine aB 14 fun K hK=>?_;go_simp
   (go_at_call 87;refine (HS.out _ hL.bw).mono ?_;rintro e w1c ⟨rfl,DV⟩)
   have hL:=hL.call DV;refine au hK (hL) fun hHeld=>?_;clear hK K;refine aB 16 fun K hK=>?_;go_simp
   (go_at_call 87;refine (HB.out _ hL.bw).mono ?_;rintro e w1d ⟨rfl,ahY⟩)
   have hL:=hL.call ahY;refine au hK (hL) fun hHeld=>?_;clear hK K;refine aB 21 fun K hK=>?_;go_simp
   (go_at_call 30;refine (jG 0 0 0 _).mono ?_;rintro e w1e ⟨rfl,rfl⟩)
   refine au hK (hL) fun hHeld=>?_;clear hK K;refine aB 22 fun K hK=>?_;go_simp
   (go_at_call 25;refine (dJ false 10 _).mono ?_;rintro e w1f ⟨rfl,rfl⟩)
   refine au hK (hL) fun hHeld=>?_;clear hK K;refine aB 24 fun K hK=>?_;go_simp
   (go_at_call 42;refine (HP.out _ hL.bw).mono ?_;rintro e w1g ⟨rfl,ah5⟩)
   have hL:=hL.call ah5;refine au hK (hL) fun hHeld=>?_;clear hK K;refine aB 28 fun K hK=>?_;go_simp
   (go_at_call 25;refine (dJ false 6 _).mono ?_;rintro e w1h ⟨rfl,rfl⟩)
   refine au hK (hL) fun hHeld=>?_;clear hK K;refine aB 30 fun K hK=>?_;go_simp
   (go_at_call 88;refine (HC.out _ hL.bw).mono ?_;rintro e w1i ⟨rfl,aic⟩)
   have hL:=hL.call aic;refine au hK (hL) fun hHeld=>?_;clear hK K;refine aB 31 fun K hK=>?_;go_simp;have hL:=hL.alloc (.cells #[.int .i64 0,.int .i64 0,.int .i64 0,.int .i64 0,.int .i64 0,.int .i64 0,.int .i64 0,.int .i64 0] 31);refine au hK (hL) fun hHeld=>?_;clear hK K;refine aB 32 fun K hK=>?_;go_simp
   (go_at_call 23;refine (iO (fun _=>True) _ _ [0,0,0,0,0,0,0,0] _ (kX.row _ _ [0,0,0,0,0,0,0,0] (by simp) _ trivial)).mono ?_;rintro e w1j ⟨rfl,rfl⟩)
   refine au hK (hL) fun hHeld=>?_;clear hK K;refine aA 33 ?_;refine wpAnyH_done (by kernel_rfl) ?_ _;go_wp2;go_meet;exact ⟨by first | rfl | decide,hL⟩
  case rest=>
   obtain ⟨rfl,hL⟩:=hcut
   have hsg:Nm.nC (⟨2,1⟩:Nm.Fr).n=1:=by decide
   have hsd:decide (Nm.nC (⟨2,1⟩:Nm.Fr).n≤0)=false:=by decide
   go_wp2_with (first | (go_at_call 49;refine (HF.out _ hL.bw).mono ?_;rintro e w1 ⟨rfl,hb1⟩;have hL:=hL.call hb1) | (go_at_call 83;refine (HN.out _).mono ?_;rintro e w2 ⟨rfl,hb2⟩;have hL:=hL.call hb2) | (go_at_call 25;refine (dJ false 3 _).mono ?_;rintro e oh ⟨rfl,rfl⟩))
   go_ret;exact ⟨rfl,hL.bw⟩
theorem iI:(Tryz.prog.info? 78).map (·.size)=some 3:=by kernel_rfl
theorem jX (a b c:ByteArray):∀ v∈[Value.string a,.string b,.string c],v.oneCell'=true:=by simp [Value.oneCell']
def l9:List Value:=[.int .i64 0,.slice none 0 0,.int .i64 0,.slice none 0 0,.int .i64 0,.slice none 0 0,.int .i64 0,.slice none 0 0,.int .i64 0,.slice none 0 0,.int .i64 0,.slice none 0 0,.int .i64 0,.slice none 0 0,.int .i64 0,.slice none 0 0,.int .i64 0,.slice none 0 0,.int .i64 0,.slice none 0 0,.int .i64 0,.slice none 0 0,.int .i64 0,.slice none 0 0,.bool true]
theorem BR:∀ v∈l9,v.oneCell'=true:=by simp [l9,Value.oneCell']
def fZ:Nm.JL:=((⟨0,1⟩,⟨-1,1⟩,⟨4,1⟩),(⟨0,1⟩,⟨1,1⟩,⟨4,1⟩))
theorem JH:(EI.map fun b=>Nm.Wi (oZ Na) (oZ (s1,s0)) ⟨2,1⟩ (oZ b))=[fZ]:=by rfl
theorem uN:Hw EI oZ∧KL Na (oZ Na)∧KL (s1,s0) (oZ (s1,s0)):=by
 refine ⟨fun p hp=>?_,⟨vw,zf⟩,⟨WO,WM⟩⟩
 simp only [EI,List.mem_cons,List.not_mem_nil,or_false] at hp
 subst hp;exact ⟨vw,zf⟩
theorem Dh {p:Nm.Pl→Bool} (h1:p Na=true):∀ b∈EI,p b=true:=by
 intro b hb
 simp only [EI,List.mem_cons,List.not_mem_nil,or_false] at hb
 subst hb;exact h1
theorem GY:Nm.text ⟨0,1⟩=[48]:=by
 unfold Nm.text
 rw [if_pos rfl]
 show Lib.itoa 0=[48]
 unfold Lib.itoa
 rw [if_neg (by decide)]
 show Lib.decDigits 0=[48]
 rw [Lib.decDigits,dif_pos (by decide)]
 rfl
theorem G5:Nm.text ⟨4,1⟩=[52]:=by
 unfold Nm.text
 rw [if_pos rfl]
 show Lib.itoa 4=[52]
 unfold Lib.itoa
 rw [if_neg (by decide)]
 show Lib.decDigits 4=[52]
 rw [Lib.decDigits,dif_pos (by decide)]
 rfl
theorem GZ:Nm.text ⟨1,1⟩=[49]:=by
 unfold Nm.text
 rw [if_pos rfl]
 show Lib.itoa 1=[49]
 unfold Lib.itoa
 rw [if_neg (by decide)]
 show Lib.decDigits 1=[49]
 rw [Lib.decDigits,dif_pos (by decide)]
 rfl
theorem aad {W:World} {g:Nat} {cs:List Value} {t:TypeId} {d:TypeDesc} {fn:Func} {p u u2:Tmp} (h:Held W g cs t) (hu:Tryz.prog.underlying t=some d) (hd:d.isRow=true) (hi:(Tryz.prog.info? t).map (·.size)=some cs.length) (hr:fn.results= #[.tmp u,.cell p t,.tmp u2]) (tmps:Array Value) (hp:tmps.getD p undef= .pointer (some ⟨g,0,none⟩)):
 (results fn tmps).run Tryz.prog W= .ok (.tuple #[tmps.getD u undef,.agg cs.toArray,tmps.getD u2 undef]) W:=by
 have h0:=run_loadVar_row W g t t cs.toArray (0,0) d h hu (by cases d <;> first | rfl | cases hd) (by rw [jd rfl rfl];exact hi)
 have e:(results fn tmps).run Tryz.prog W=((asAddr (tmps.getD p undef)).run Tryz.prog W).andThen fun a w₁=>((loadVar t a).run Tryz.prog w₁).andThen fun v w₂=> .ok (.tuple #[tmps.getD u undef,v,tmps.getD u2 undef]) w₂:=by
  simp only [results,hr]
  simp [Sem.run_bind,Result.andThen]
 rw [e,hp]
 simp only [asAddr,Sem.run_pure,Result.andThen_ok,h0]
theorem Bx.ZU {w W1 W:World} {L1 L2:List (Nat × List Value × TypeId)} (h1:Bx w W1 L1) (h2:Bx W1 W L2):Bx w W (L2++L1):=by
 have h3:=h1.call h2.bw;refine ⟨h3.bw,fun p hp=>?_,List.pairwise_append.2 ⟨h2.nd,h1.nd,fun a ha b hb=>?_⟩⟩
 · rcases List.mem_append.1 hp with h | h
   · exact ⟨Nat.le_trans h1.bw.size (h2.bx p h).1,(h2.bx p h).2⟩
   · exact h3.bx p h
 · have e1:=(h2.bx a ha).1
   have e2:=h1.lt b hb
   omega
theorem MI (S S':Nat→Prop) (A B:Option Addr) (c c':Nat) (w:World) (hg:Glob w) (hs:Reads w S 2 A 1 c (EI.flatMap jl)) (hb:Reads w S' 2 B 1 c' (EI.flatMap jl)):
 Calls Tryz.prog 22 #[.slice A 1 c,.slice B 1 c',.int .i64 0,plV (s1,s0),.string s2] w fun e w'=>e= .returned (.tuple #[.int .i64 0,.agg #[.string s0,.string s1,.string s4],.int .i64 0])∧Below w.heap.size w w':=by
 have uP:=hide (fun W (h:Below w.heap.size w W)=>Ib S S' A B c c' W (hg.below h) (hs.below h) (hb.below h));have HD:=hide (fun W (h:Below w.heap.size w W)=>Y9 W (hg.below h));have HF:=hide (fun W (h:Below w.heap.size w W)=>Oq S' B c' EI oZ Na ⟨2,1⟩ W (hg.below h) (hb.below h) uN.1 uN.2.1 (Dh (p:=fun b=>Nm.TJ (oZ b) (oZ Na) ⟨2,1⟩) (by rfl)));obtain ⟨bs,os,rfl,_,hbs,hcs⟩:=Reads.at_ hs (by omega);have hsr:∀ W,Below w.heap.size w W→W.rangeAt bs os (jl Na):=fun W h j v hj=>(h.cell (p:=⟨bs,os+j,none⟩) hbs).trans (hcs j v (by simpa [EI,Na] using hj));have HB:=hide hb;have HOF:=hide (fun W (h:Below w.heap.size w W)=>GX bM dn ⟨50,1⟩ ⟨25,1⟩ W (hg.below h) vw zf);have HOA:=hide (fun W (h:Below w.heap.size w W)=>GX s1 s0 ⟨1,1⟩ ⟨0,1⟩ W (hg.below h) WO WM);have HLN:=hide (fun W (h:Below w.heap.size w W)=>PI S' B c' EI oZ (oZ Na) (oZ (s1,s0)) ⟨2,1⟩ W (hg.below h) (hb.below h) uN.1 (by decide) (by rfl) (by rfl) (by decide) (by rfl) (Dh (p:=fun b=>Nm.XO (oZ Na) (oZ (s1,s0)) ⟨2,1⟩ (oZ b)) (by rfl)));have HG:=hide hg;clear hs hb hg hcs
 go_enter Tryz.func22,Tryz.ntmps22
 go_upto_region 0 with (fail)
 go_cut [8,10,11,12] (fun v8 v10 v11 v12 wx=>v8=ptr (w.heap.size)∧v10= .int .i64 0∧v11=ptr (w.heap.size+1)∧v12= .int .i64 0∧Bx w wx [(w.heap.size,jl (s1,s0),66),(w.heap.size+1,[.string ⟨#[]⟩,.string ⟨#[]⟩,.string ⟨#[]⟩],78)])
 case first=>
  go_wp2;go_meet;exact ⟨rfl,rfl,rfl,rfl,Bx.of (((aC.nil w).new (by simp) (jl (s1,s0)) 66).new (by simp) ([.string ⟨#[]⟩,.string ⟨#[]⟩,.string ⟨#[]⟩]) 78) _ rfl⟩
 case rest=>
  obtain ⟨rfl,rfl,rfl,rfl,hL⟩:=hcut;go_wp2
  go_step3
  go_upto_region 4 with (first | ((with_reducible refine dh 66 8 ?_);refine dO (cs:=[.string s1,.string s0]) (hL.get 0 rfl) Tryz.underlying66 nD ?_) | (go_at_call 48;refine (uP.out _ hL.bw).mono ?_;rintro e w1 ⟨rfl,hb1⟩;have hL:=hL.call hb1))
  go_cut [14] (fun v14 wx=>∃ nR,v14=ptr nR∧Bx w wx [(nR,ah ⟨2,1⟩,109),(w.heap.size,jl (s1,s0),66),(w.heap.size+1,[.string ⟨#[]⟩,.string ⟨#[]⟩,.string ⟨#[]⟩],78)])
  case first=>
   go_wp2_with (first | (go_at_call 49;refine (HD.out _ hL.bw).mono ?_;rintro e w2 ⟨rfl,hb2⟩;have hL:=hL.call hb2) | ((with_reducible refine isS 109 14 35 ?_);refine iZ ((hL.add (ah ⟨0,0⟩) 109).head) (ah ⟨2,1⟩) aU (fE _) ?_))
   go_meet;exact ⟨_,rfl,(hL.add (ah ⟨0,0⟩) 109).put (ah ⟨2,1⟩) rfl⟩
  case rest=>
   obtain ⟨nR,rfl,hL⟩:=hcut
   go_upto_region 5 with (fail)
   go_cut [15] (fun v15 wx=>∃ tH,v15=ptr tH∧Bx w wx [(tH,[.string s0,.string s0,.string s0],78),(nR,ah ⟨2,1⟩,109),(w.heap.size,jl (s1,s0),66),(w.heap.size+1,[.string ⟨#[]⟩,.string ⟨#[]⟩,.string ⟨#[]⟩],78)])
   case first=>
    go_wp2_with (first | ((with_reducible refine isS 78 15 36 ?_);refine iZ ((hL.add ([.string ⟨#[]⟩,.string ⟨#[]⟩,.string ⟨#[]⟩]) 78).head) ([.string s0,.string s0,.string s0]) iI (jX _ _ _) ?_))
    go_meet;exact ⟨_,rfl,(hL.add ([.string ⟨#[]⟩,.string ⟨#[]⟩,.string ⟨#[]⟩]) 78).put ([.string s0,.string s0,.string s0]) rfl⟩
   case rest=>
    obtain ⟨tH,rfl,hL⟩:=hcut
    go_upto_region 6 with (fail)
    go_cut [43] from 37 to 44 (fun v wx=>v= .bool false∧Bx w wx [(tH,[.string s0,.string s0,.string s0],78),(nR,ah ⟨2,1⟩,109),(w.heap.size,jl (s1,s0),66),(w.heap.size+1,[.string ⟨#[]⟩,.string ⟨#[]⟩,.string ⟨#[]⟩],78)])
    case first=>
     have xW:∀ W:World,Bx w W [(tH,[.string s0,.string s0,.string s0],78),(nR,ah ⟨2,1⟩,109),(w.heap.size,jl (s1,s0),66),(w.heap.size+1,[.string ⟨#[]⟩,.string ⟨#[]⟩,.string ⟨#[]⟩],78)]→W.rangeAt (bs) os (jl Na):=fun W h=>(hsr W h.bw);have CP:∀ W:World,Bx w W [(tH,[.string s0,.string s0,.string s0],78),(nR,ah ⟨2,1⟩,109),(w.heap.size,jl (s1,s0),66),(w.heap.size+1,[.string ⟨#[]⟩,.string ⟨#[]⟩,.string ⟨#[]⟩],78)]→W.rangeAt (nR) 0 (ah ⟨2,1⟩):=fun W h=>h.rng 1 rfl 0 _ rfl;have hL:=hL.drew;refine wp_region_held_drew (S:=(fun w':World=>Bx w w' [(tH,[.string s0,.string s0,.string s0],78),(nR,ah ⟨2,1⟩,109),(w.heap.size,jl (s1,s0),66),(w.heap.size+1,[.string ⟨#[]⟩,.string ⟨#[]⟩,.string ⟨#[]⟩],78)])) (by kernel_rfl) ?cu (fun hHeld=>?_)
     case cu=>exact hL
     refine aA 0 ?_;refine aA 1 ?_;refine aA 2 ?_;refine bP 3 xW Tryz.underlying66 ?_;refine aA 4 ?_;refine bP 5 CP Tryz.underlying109 ?_;refine aB 6 fun K hK=>?_;go_simp
     (go_at_call 50;refine (HF.out _ hL.bw).mono ?_;rintro e YZ ⟨rfl,wQ⟩)
     have hL:=hL.call wQ;refine au hK (hL) fun hHeld=>?_;clear hK K;refine wpAnyH_done (by kernel_rfl) ?_ _;go_wp2;go_meet;exact ⟨by rfl,hL⟩
    case rest=>
     obtain ⟨rfl,hL⟩:=hcut;go_wp2
     go_loopw [48] (fun i wr=>∃ k:Nat,k≤1∧i= .int .i64 k∧Bx w wr [(tH,[.string s0,.string s0,.string s0],78),(nR,ah ⟨2,1⟩,109),(w.heap.size,jl (s1,s0),66),(w.heap.size+1,[.string ⟨#[]⟩,.string ⟨#[]⟩,.string ⟨#[]⟩],78)]) (fun i _=>1 - (intOf i).toNat)
     case atStart=>exact ⟨0,by omega,rfl,hL⟩
     case round=>
      clear hL;obtain ⟨k,hk,rfl,hL⟩:=hrel
      by_cases h0:k=0
      · subst h0
        go_upto_region 12 with (fail)
        go_cut [62] from 56 to 63 (fun v wx=>v= .bool false∧Bx w wx [(tH,[.string s0,.string s0,.string s0],78),(nR,ah ⟨2,1⟩,109),(w.heap.size,jl (s1,s0),66),(w.heap.size+1,[.string ⟨#[]⟩,.string ⟨#[]⟩,.string ⟨#[]⟩],78)])
        case first=>
         have Xu:∀ W:World,Bx w W [(tH,[.string s0,.string s0,.string s0],78),(nR,ah ⟨2,1⟩,109),(w.heap.size,jl (s1,s0),66),(w.heap.size+1,[.string ⟨#[]⟩,.string ⟨#[]⟩,.string ⟨#[]⟩],78)]→W.rangeAt (bs) os (jl Na):=fun W h=>(hsr W h.bw);have Xv:∀ W:World,Bx w W [(tH,[.string s0,.string s0,.string s0],78),(nR,ah ⟨2,1⟩,109),(w.heap.size,jl (s1,s0),66),(w.heap.size+1,[.string ⟨#[]⟩,.string ⟨#[]⟩,.string ⟨#[]⟩],78)]→W.rangeAt (nR) 0 (ah ⟨2,1⟩):=fun W h=>h.rng 1 rfl 0 _ rfl;have hL:=hL.drew;refine wp_region_held_drew (S:=(fun w':World=>Bx w w' [(tH,[.string s0,.string s0,.string s0],78),(nR,ah ⟨2,1⟩,109),(w.heap.size,jl (s1,s0),66),(w.heap.size+1,[.string ⟨#[]⟩,.string ⟨#[]⟩,.string ⟨#[]⟩],78)])) (by kernel_rfl) ?dF (fun hHeld=>?_)
         case dF=>exact hL
         refine aA 0 ?_;refine aA 1 ?_;refine aA 2 ?_;refine bP 3 Xu Tryz.underlying66 ?_;refine aA 4 ?_;refine bP 5 Xv Tryz.underlying109 ?_;refine aB 6 fun K hK=>?_;go_simp
         (go_at_call 50;refine (HF.out _ hL.bw).mono ?_;rintro e Yz ⟨rfl,OO⟩)
         have hL:=hL.call OO;refine au hK (hL) fun hHeld=>?_;clear hK K;refine wpAnyH_done (by kernel_rfl) ?_ _;go_wp2;go_meet;exact ⟨by rfl,hL⟩
        case rest=>
         obtain ⟨rfl,hL⟩:=hcut;go_wp2
         go_roundw
         case rel=>exact ⟨1,by omega,by go_num,hL⟩
         case measure=>simp [intOf]
      · obtain rfl:k=1:=by omega
        clear hk h0;rw [show ((1:Nat):Int)=1 from rfl]
        go_upto_region 15 with (fail)
        go_cut [18] from 66 to 76 (fun v wx=>∃ A2 c2,v= .slice A2 1 c2∧Bx w wx [(tH,[.string s0,.string s0,.string s0],78),(nR,ah ⟨2,1⟩,109),(w.heap.size,jl (s1,s0),66),(w.heap.size+1,[.string ⟨#[]⟩,.string ⟨#[]⟩,.string ⟨#[]⟩],78)]∧Reads wx (fun _=>True) 25 A2 1 c2 ([fZ].flatMap dV))
        case first=>
         have Xw:∀ W:World,Bx w W [(tH,[.string s0,.string s0,.string s0],78),(nR,ah ⟨2,1⟩,109),(w.heap.size,jl (s1,s0),66),(w.heap.size+1,[.string ⟨#[]⟩,.string ⟨#[]⟩,.string ⟨#[]⟩],78)]→W.rangeAt (bs) os (jl Na):=fun W h=>(hsr W h.bw);have Xx:∀ W:World,Bx w W [(tH,[.string s0,.string s0,.string s0],78),(nR,ah ⟨2,1⟩,109),(w.heap.size,jl (s1,s0),66),(w.heap.size+1,[.string ⟨#[]⟩,.string ⟨#[]⟩,.string ⟨#[]⟩],78)]→W.rangeAt (w.heap.size) 0 ([.string s1,.string s0]):=fun W h=>h.rng 2 rfl 0 _ rfl;have Xy:∀ W:World,Bx w W [(tH,[.string s0,.string s0,.string s0],78),(nR,ah ⟨2,1⟩,109),(w.heap.size,jl (s1,s0),66),(w.heap.size+1,[.string ⟨#[]⟩,.string ⟨#[]⟩,.string ⟨#[]⟩],78)]→W.rangeAt (nR) 0 (ah ⟨2,1⟩):=fun W h=>h.rng 1 rfl 0 _ rfl;have hL:=hL.drew;refine wp_region_held_drew (S:=(fun w':World=>Bx w w' [(tH,[.string s0,.string s0,.string s0],78),(nR,ah ⟨2,1⟩,109),(w.heap.size,jl (s1,s0),66),(w.heap.size+1,[.string ⟨#[]⟩,.string ⟨#[]⟩,.string ⟨#[]⟩],78)])) (by kernel_rfl) ?iK (fun hHeld=>?_)
         case iK=>exact hL
         refine aA 0 ?_;refine aA 1 ?_;refine aA 2 ?_;refine bP 3 Xw Tryz.underlying66 ?_;refine aA 5 ?_;refine bP 6 Xx Tryz.underlying66 ?_;refine bP 8 Xy Tryz.underlying109 ?_;refine aB 4 fun K hK=>?_;go_simp
         (go_at_call 52;refine (HOF.out _ hL.bw).mono ?_;rintro e au2 ⟨rfl,Zn⟩)
         have hL:=hL.call Zn;refine au hK (hL) fun hHeld=>?_;clear hK K;refine aB 7 fun K hK=>?_;go_simp
         (go_at_call 52;refine (HOA.out _ hL.bw).mono ?_;rintro e au9 ⟨rfl,Zo⟩)
         have hL:=hL.call Zo;refine au hK (hL) fun hHeld=>?_;clear hK K;refine aB 9 fun K hK=>?_;go_simp
         (go_at_call 51;refine (HLN.out _ hL.bw).mono ?_;rintro e avg ⟨A2,c2,rfl,J5,Zp⟩)
         have hL:=hL.call Zp;refine au hK (hL) fun hHeld=>?_;clear hK K;refine aA 10 ?_;refine wpAnyH_done (by kernel_rfl) ?_ _;go_wp2;go_meet;exact ⟨A2,c2,by rfl,hL,by have h9:=J5.more (S':=fun _=>True) (fun _ _ _=>trivial);rw [JH] at h9;exact h9⟩
        case rest=>
         obtain ⟨A2,c2,rfl,hL,J5⟩:=hcut
         rename World=>wl
         have hM:=Bx.nil wl;rename_i K9 hK9;refine hK9 _ _ ?_
         try dsimp only
         clear hK9
         go_upto_region 16 with (fail)
         go_cut [19] (fun v19 wx=>∃ Wx,v19=ptr Wx∧Bx wl wx [(Wx,l9,130)])
         case first=>
          go_wp2_with (first | ((with_reducible (refine fO 130 (.tmp 19) (.tmp 76) ?lx ?_));(case lx=>rfl);refine dP ((hM.add [.int .i64 0,.slice none 0 0,.int .i64 0,.slice none 0 0,.int .i64 0,.slice none 0 0,.int .i64 0,.slice none 0 0,.int .i64 0,.slice none 0 0,.int .i64 0,.slice none 0 0,.int .i64 0,.slice none 0 0,.int .i64 0,.slice none 0 0,.int .i64 0,.slice none 0 0,.int .i64 0,.slice none 0 0,.int .i64 0,.slice none 0 0,.int .i64 0,.slice none 0 0,.bool false] 130).head) (l9) rfl nZ BR rfl (.tmp 19) (.tmp 76) rfl rfl rfl ?_))
          go_meet;exact ⟨_,rfl,(hM.add [.int .i64 0,.slice none 0 0,.int .i64 0,.slice none 0 0,.int .i64 0,.slice none 0 0,.int .i64 0,.slice none 0 0,.int .i64 0,.slice none 0 0,.int .i64 0,.slice none 0 0,.int .i64 0,.slice none 0 0,.int .i64 0,.slice none 0 0,.int .i64 0,.slice none 0 0,.int .i64 0,.slice none 0 0,.int .i64 0,.slice none 0 0,.int .i64 0,.slice none 0 0,.bool false] 130).put l9 rfl⟩
         case rest=>
          obtain ⟨Wx,rfl,hM⟩:=hcut;rename_i K8 hK8;refine hK8 _ _ ?_
          try dsimp only
          clear hK8;go_wp2
          go_step3
          obtain ⟨b2,o2,rfl,_,hb2,hc2⟩:=Reads.at_ J5 (by omega);have FC:=hide J5;have HS2:Hid (∀ W,Calls Tryz.prog 53 #[fD ⟨0,1⟩,fD ⟨1,1⟩,fD ⟨4,1⟩] W fun e w'=>e= .returned (.int .i64 1)∧Below W.heap.size W w'):=hide (fun W=>xG ⟨0,1⟩ ⟨1,1⟩ ⟨4,1⟩ W (by rfl));have HO2:Hid (∀ W,Below wl.heap.size wl W→Calls Tryz.prog 54 #[.slice (some ⟨b2,o2,none⟩) 1 c2,sdV fZ.2] W fun e w'=>e= .returned (.bool true)∧Below W.heap.size W w'):=hide (fun W h=>JB _ _ c2 [fZ] fZ.2 W (FC.out.below h) (fun g hg=>by simp only [List.mem_cons,List.not_mem_nil,or_false] at hg;subst hg;rfl));have hr2:∀ W,Below wl.heap.size wl W→W.rangeAt b2 o2 (dV fZ):=fun W h j v hj=>(h.cell (p:=⟨b2,o2+j,none⟩) hb2).trans (hc2 j v (by rw [← Nat.zero_add j, ← Nat.zero_mul 25];exact xw (f:=dV) (n:=25) (fun _=>rfl) (l:=[fZ]) 0 (by decide) hj));clear J5 hc2;go_wp2
          go_loopw [79] (fun i wr=>∃ k:Nat,k≤1∧i= .int .i64 k∧((k<1∧Bx wl wr [(Wx,l9,130)])∨(k=1∧Bx wl wr [(Wx,dV fZ,130)]))) (fun i _=>1 - (intOf i).toNat)
          case atStart=>exact ⟨0,by omega,rfl,.inl ⟨by omega,hM⟩⟩
          case round=>
           clear hM;obtain ⟨k,hk,rfl,hM⟩:=hrel
           by_cases h0:k=0
           · subst h0
             replace hM:=(hM.resolve_right (by simp)).2;have O7:=hr2 _ hM.bw
             go_upto_region 19 with (fail)
             go_cut [21] from 81 to 83 (fun v21 wx=>∃ B21,v21=ptr B21∧Bx wl wx [(B21,dV fZ,130),(Wx,l9,130)])
             case first=>
              go_wp2_with (first | ((with_reducible (refine dA 130 (.tmp 81) ?lx ?_));(case lx=>rfl);refine iJ O7 Tryz.underlying130 rfl nZ rfl (.tmp 81) rfl rfl ?_) | ((with_reducible refine isS 130 21 82 ?_);refine iZ ((hM.add [.int .i64 0,.slice none 0 0,.int .i64 0,.slice none 0 0,.int .i64 0,.slice none 0 0,.int .i64 0,.slice none 0 0,.int .i64 0,.slice none 0 0,.int .i64 0,.slice none 0 0,.int .i64 0,.slice none 0 0,.int .i64 0,.slice none 0 0,.int .i64 0,.slice none 0 0,.int .i64 0,.slice none 0 0,.int .i64 0,.slice none 0 0,.int .i64 0,.slice none 0 0,.bool false] 130).head) (dV fZ) nZ (Ir _) ?_))
              go_meet;exact ⟨_,rfl,(hM.add [.int .i64 0,.slice none 0 0,.int .i64 0,.slice none 0 0,.int .i64 0,.slice none 0 0,.int .i64 0,.slice none 0 0,.int .i64 0,.slice none 0 0,.int .i64 0,.slice none 0 0,.int .i64 0,.slice none 0 0,.int .i64 0,.slice none 0 0,.int .i64 0,.slice none 0 0,.int .i64 0,.slice none 0 0,.int .i64 0,.slice none 0 0,.int .i64 0,.slice none 0 0,.bool false] 130).put (dV fZ) rfl⟩
             case rest=>
              obtain ⟨B21,rfl,hM⟩:=hcut;clear O7;have k24:=(hM.get 0 rfl).cell (j:=24) rfl
              go_upto_region 21 with (first | ((with_reducible refine dh 109 87 ?_);refine nI (hM.rn 0 12 (ah ⟨0,1⟩)) Tryz.underlying109 aU ?_) | ((with_reducible refine iV 109 87 ?_);refine nJ (hM.rn 0 12 (ah ⟨0,1⟩)) Tryz.underlying109 aU ?_) | ((with_reducible refine dh 109 90 ?_);refine nI (hM.rn 0 16 (ah ⟨1,1⟩)) Tryz.underlying109 aU ?_) | ((with_reducible refine iV 109 90 ?_);refine nJ (hM.rn 0 16 (ah ⟨1,1⟩)) Tryz.underlying109 aU ?_) | ((with_reducible refine dh 109 93 ?_);refine nI (hM.rn 0 20 (ah ⟨4,1⟩)) Tryz.underlying109 aU ?_) | ((with_reducible refine iV 109 93 ?_);refine nJ (hM.rn 0 20 (ah ⟨4,1⟩)) Tryz.underlying109 aU ?_) | ((with_reducible refine dh 128 100 ?_);refine nI (hM.rn 0 12 (aT fZ.2)) Tryz.underlying128 gQ ?_) | ((with_reducible refine iV 128 100 ?_);refine nJ (hM.rn 0 12 (aT fZ.2)) Tryz.underlying128 gQ ?_) | (go_at_call 53;refine (HS2.out _).mono ?_;rintro e w1 ⟨rfl,hb1⟩;have hM:=hM.call hb1) | (go_at_call 54;refine (HO2.out _ hM.bw).mono ?_;rintro e w2 ⟨rfl,hb2⟩;have hM:=hM.call hb2))
              have k19:=(hM.get 1 rfl).cell (j:=24) rfl
              go_wp2_with (first | ((with_reducible refine dh 128 105 ?_);refine nI (hM.rn 0 12 (aT fZ.2)) Tryz.underlying128 gQ ?_) | ((with_reducible refine iV 128 105 ?_);refine nJ (hM.rn 0 12 (aT fZ.2)) Tryz.underlying128 gQ ?_) | ((with_reducible refine dh 130 21 ?_);refine dO (hM.get 0 rfl) Tryz.underlying130 nZ ?_) | ((with_reducible refine isS 130 19 117 ?_);refine iZ (hM.swap.head) (dV fZ) nZ (Ir _) ?_))
              have hM:=hM.swap.put (dV fZ) rfl
              go_roundw
              case rel=>exact ⟨1,by omega,by go_num,.inr ⟨rfl,hM.swap.tail⟩⟩
              case measure=>simp [intOf]
           · obtain rfl:k=1:=by omega
             replace hM:=(hM.resolve_left (by simp)).2;clear hk h0 hr2
             go_upto_region 25 with (fail)
             go_cut [23] from 119 to 121 (fun v23 wx=>∃ SS,v23=ptr SS∧Bx wl wx [(SS,aT fZ.2,128),(Wx,dV fZ,130)])
             case first=>
              go_wp2_with (first | ((with_reducible refine dh 128 119 ?_);refine nI (hM.rn 0 12 (aT fZ.2)) Tryz.underlying128 gQ ?_) | ((with_reducible refine iV 128 119 ?_);refine nJ (hM.rn 0 12 (aT fZ.2)) Tryz.underlying128 gQ ?_) | ((with_reducible refine isS 128 23 120 ?_);refine iZ ((hM.add (aT (⟨0,0⟩,⟨0,0⟩,⟨0,0⟩)) 128).head) (aT fZ.2) gQ (Au _) ?_))
              go_meet;exact ⟨_,rfl,(hM.add (aT (⟨0,0⟩,⟨0,0⟩,⟨0,0⟩)) 128).put (aT fZ.2) rfl⟩
             case rest=>
              obtain ⟨SS,rfl,hM⟩:=hcut;have HL0:=hide (fun W=>qm ⟨0,1⟩ W (by rfl));have NG:=hide (fun W=>qm ⟨4,1⟩ W (by rfl));have HL2:=hide (fun W=>qm ⟨1,1⟩ W (by rfl));have tk1:=hide True.intro;have tk2:=hide True.intro
              go_upto_region 28 with (first | ((with_reducible refine dh 109 121 ?_);refine nI (hM.rn 0 0 (ah ⟨0,1⟩)) Tryz.underlying109 aU ?_) | ((with_reducible refine iV 109 121 ?_);refine nJ (hM.rn 0 0 (ah ⟨0,1⟩)) Tryz.underlying109 aU ?_) | ((with_reducible refine dh 109 125 ?_);refine nI (hM.rn 0 4 (ah ⟨1,1⟩)) Tryz.underlying109 aU ?_) | ((with_reducible refine iV 109 125 ?_);refine nJ (hM.rn 0 4 (ah ⟨1,1⟩)) Tryz.underlying109 aU ?_) | ((with_reducible refine dh 109 130 ?_);refine nI (hM.rn 0 8 (ah ⟨4,1⟩)) Tryz.underlying109 aU ?_) | ((with_reducible refine iV 109 130 ?_);refine nJ (hM.rn 0 8 (ah ⟨4,1⟩)) Tryz.underlying109 aU ?_) | (clear tk1;go_at_call 56;refine (HL0.out _).mono ?_;rintro e w1 ⟨rfl,hb1⟩;have hM:=hM.call hb1) | (clear tk2;go_at_call 56;refine (HL2.out _).mono ?_;rintro e w2 ⟨rfl,hb2⟩;have hM:=hM.call hb2) | (go_at_call 56;refine (NG.out _).mono ?_;rintro e w3 ⟨rfl,hb3⟩;have hM:=hM.call hb3))
              have HT4:Hid (∀ W,Glob W→Calls Tryz.prog 57 #[fD ⟨4,1⟩] W fun e w'=>e= .returned (.string s4)∧Below W.heap.size W w'):=hide (fun W h=>by have:=su ⟨4,1⟩ W h (by rfl);rwa [G5] at this);have HT0:Hid (∀ W,Glob W→Calls Tryz.prog 57 #[fD ⟨0,1⟩] W fun e w'=>e= .returned (.string s0)∧Below W.heap.size W w'):=hide (fun W h=>by have:=su ⟨0,1⟩ W h (by rfl);rwa [GY] at this);have HT1:Hid (∀ W,Glob W→Calls Tryz.prog 57 #[fD ⟨1,1⟩] W fun e w'=>e= .returned (.string s1)∧Below W.heap.size W w'):=hide (fun W h=>by have:=su ⟨1,1⟩ W h (by rfl);rwa [GZ] at this);have hL:=(Bx.ZU hL.tail.tail.tail hM.swap.tail).swap;have Xz:∀ W:World,Bx w W [(SS,aT fZ.2,128)]→W.rangeAt (SS) 0 (ah ⟨0,1⟩):=fun W h=>h.rng 0 rfl 0 _ rfl;have XA:∀ W:World,Bx w W [(SS,aT fZ.2,128)]→W.rangeAt (SS) 4 (ah ⟨1,1⟩):=fun W h=>h.rng 0 rfl 4 _ rfl;have XB:∀ W:World,Bx w W [(SS,aT fZ.2,128)]→W.rangeAt (SS) 8 (ah ⟨4,1⟩):=fun W h=>h.rng 0 rfl 8 _ rfl;have hL:=hL.drew;refine wp_region_held_drew (S:=(fun w':World=>Bx w w' [(SS,aT fZ.2,128)])) (by kernel_rfl) ?kN (fun hHeld=>?_)
              case kN=>exact hL.tail
              refine aA 0 ?_;refine aA 1 ?_;refine bP 2 Xz Tryz.underlying109 ?_;refine aA 4 ?_;refine bP 5 XA Tryz.underlying109 ?_;refine aA 7 ?_;refine bP 8 XB Tryz.underlying109 ?_;refine aB 3 fun K hK=>?_;go_simp
              (go_at_call 57;refine (HT0.out _ (HG.out.below hL.bw)).mono ?_;rintro e avn ⟨rfl,Zq⟩)
              have hL:=hL.call Zq;refine au hK (hL.tail) fun hHeld=>?_;clear hK K;refine aB 6 fun K hK=>?_;go_simp
              (go_at_call 57;refine (HT1.out _ (HG.out.below hL.bw)).mono ?_;rintro e avu ⟨rfl,Zr⟩)
              have hL:=hL.call Zr;refine au hK (hL.tail) fun hHeld=>?_;clear hK K;refine aB 9 fun K hK=>?_;go_simp
              (go_at_call 57;refine (HT4.out _ (HG.out.below hL.bw)).mono ?_;rintro e avC ⟨rfl,Zt⟩)
              have hL:=hL.call Zt;refine au hK (hL.tail) fun hHeld=>?_;clear hK K;refine aA 10 ?_;refine aA 11 ?_;refine aB 12 fun K hK=>?_;refine aG hL.head [.string s0,.string s1,.string s4] rfl iI (jX _ _ _) (.tmp 11) (.tmp 145) rfl rfl rfl ?_;have hL:=hL.put [.string s0,.string s1,.string s4] rfl;refine au hK (hL.tail) fun hHeld=>?_;clear hK K;refine aA 13 ?_;refine wpAnyH_done (by kernel_rfl) ?_ _;go_wp2
              try rw [Exit.noGoto_ret]
              exact bodyPost_ret (aad (p:=11) hL.head Tryz.underlying78 rfl iI rfl _ rfl) rfl ⟨rfl,hL.bw⟩
theorem Nc:Nm.text ⟨52,1⟩=[53,50]:=by
 unfold Nm.text
 rw [if_pos rfl]
 show Lib.itoa 52=[53,50]
 unfold Lib.itoa
 rw [if_neg (by decide)]
 show Lib.decDigits 52=[53,50]
 rw [Lib.decDigits,dif_neg (by decide),Lib.decDigits,dif_pos (by decide)]
 rfl
theorem Nb:Nm.text ⟨25,1⟩=[50,53]:=by
 unfold Nm.text
 rw [if_pos rfl]
 show Lib.itoa 25=[50,53]
 unfold Lib.itoa
 rw [if_neg (by decide)]
 show Lib.decDigits 25=[50,53]
 rw [Lib.decDigits,dif_neg (by decide),Lib.decDigits,dif_pos (by decide)]
 rfl
abbrev EW:ByteArray:=⟨#[53,50]⟩
theorem BO (w:World) (hg:Glob w):Calls Tryz.prog 47 #[pO (⟨52,1⟩,⟨25,1⟩)] w fun e w'=>e= .returned (.tuple #[.agg #[.string EW,.string dn],.int .i64 0])∧Below w.heap.size w w':=by
 have NG:=hide (fun W=>qm ⟨52,1⟩ W (by rfl));have HL2:=hide (fun W=>qm ⟨25,1⟩ W (by rfl));have HT1:Hid (∀ W,Glob W→Calls Tryz.prog 57 #[fD ⟨52,1⟩] W fun e w'=>e= .returned (.string EW)∧Below W.heap.size W w'):=hide (fun W h=>by have:=su ⟨52,1⟩ W h (by rfl);rwa [Nc] at this);have HT2:Hid (∀ W,Glob W→Calls Tryz.prog 57 #[fD ⟨25,1⟩] W fun e w'=>e= .returned (.string dn)∧Below W.heap.size W w'):=hide (fun W h=>by have:=su ⟨25,1⟩ W h (by rfl);rwa [Nb] at this);have HG:=hide hg;clear hg
 go_enter Tryz.func47,Tryz.ntmps47
 go_upto_region 0 with (fail)
 go_cut [1,2,3] (fun v1 v2 v3 wx=>v1=ptr (w.heap.size)∧v2=ptr (w.heap.size+1)∧v3= .int .i64 0∧Bx w wx [(w.heap.size,aN (⟨52,1⟩,⟨25,1⟩),111),(w.heap.size+1,[.string ⟨#[]⟩,.string ⟨#[]⟩],66)])
 case first=>
  go_wp2;go_meet;exact ⟨rfl,rfl,rfl,Bx.of (((aC.nil w).new (by simp) (aN (⟨52,1⟩,⟨25,1⟩)) 111).new (by simp) ([.string ⟨#[]⟩,.string ⟨#[]⟩]) 66) _ rfl⟩
 case rest=>
  obtain ⟨rfl,rfl,rfl,hL⟩:=hcut;have tk1:=hide True.intro
  go_upto_region 3 with (first | ((with_reducible refine dh 109 4 ?_);refine nI (hL.rn 0 0 ([.int .i64 52,.slice none 0 0,.int .i64 1,.slice none 0 0])) Tryz.underlying109 aU ?_) | ((with_reducible refine iV 109 4 ?_);refine nJ (hL.rn 0 0 ([.int .i64 52,.slice none 0 0,.int .i64 1,.slice none 0 0])) Tryz.underlying109 aU ?_) | ((with_reducible refine dh 109 8 ?_);refine nI (hL.rn 0 4 ([.int .i64 25,.slice none 0 0,.int .i64 1,.slice none 0 0])) Tryz.underlying109 aU ?_) | ((with_reducible refine iV 109 8 ?_);refine nJ (hL.rn 0 4 ([.int .i64 25,.slice none 0 0,.int .i64 1,.slice none 0 0])) Tryz.underlying109 aU ?_) | (clear tk1;go_at_call 56;refine (NG.out _).mono ?_;rintro e w1 ⟨rfl,hb1⟩;have hL:=hL.call hb1) | (go_at_call 56;refine (HL2.out _).mono ?_;rintro e w2 ⟨rfl,hb2⟩;have hL:=hL.call hb2))
  have hL:=hL.swap;have ZG:∀ W:World,Bx w W [(w.heap.size,aN (⟨52,1⟩,⟨25,1⟩),111)]→W.rangeAt (w.heap.size) 0 ([.int .i64 52,.slice none 0 0,.int .i64 1,.slice none 0 0]):=fun W h=>h.rng 0 rfl 0 _ rfl;have ZH:∀ W:World,Bx w W [(w.heap.size,aN (⟨52,1⟩,⟨25,1⟩),111)]→W.rangeAt (w.heap.size) 4 ([.int .i64 25,.slice none 0 0,.int .i64 1,.slice none 0 0]):=fun W h=>h.rng 0 rfl 4 _ rfl;have hL:=hL.drew;refine wp_region_held_drew (S:=(fun w':World=>Bx w w' [(w.heap.size,aN (⟨52,1⟩,⟨25,1⟩),111)])) (by kernel_rfl) ?iK (fun hHeld=>?_)
  case iK=>exact hL.tail
  refine tk 0 ?_;refine wpAnyH_take (i:=1) (oi:=_) (v:=_) (ga rfl) (by kernel_rfl) (by kernel_rfl) (by kernel_rfl) (fun _ _ _ h=>h) (yieldsIf_load_mid (by rfl) _ _ (by rfl) _ _ (by rfl) _ _ ZG Tryz.underlying109 rfl (by kernel_rfl)) (by assumption) ?_
  try simp only [Act.put,la,lz,ls]
  refine tk 3 ?_;refine wpAnyH_take (i:=4) (oi:=_) (v:=_) (ga rfl) (by kernel_rfl) (by kernel_rfl) (by kernel_rfl) (fun _ _ _ h=>h) (yieldsIf_load_mid (by rfl) _ _ (by rfl) _ _ (by rfl) _ _ ZH Tryz.underlying109 rfl (by kernel_rfl)) (by assumption) ?_
  try simp only [Act.put,la,lz,ls]
  refine tr 2 fun K hK=>?_;go_simp
  (go_at_call 57;refine (HT1.out _ (HG.out.below hL.bw)).mono ?_;rintro e w3a ⟨rfl,aiB⟩)
  have hL:=hL.call aiB;refine hK.out _ _ ?QA (fun hHeld=>?_)
  case QA=>(exact hL.tail)
  clear hK K
  try simp only [Act.put,la,lz,ls]
  refine tr 5 fun K hK=>?_;go_simp
  (go_at_call 57;refine (HT2.out _ (HG.out.below hL.bw)).mono ?_;rintro e w3b ⟨rfl,aiI⟩)
  have hL:=hL.call aiI;refine hK.out _ _ ?QB (fun hHeld=>?_)
  case QB=>(exact hL.tail)
  clear hK K
  try simp only [Act.put,la,lz,ls]
  refine tk 6 ?_;refine tr 7 fun K hK=>?_;refine aG hL.head ([.string EW,.string dn]) rfl jh (Ac _ _) (.tmp 2) (.tmp 19) rfl rfl rfl ?_;have hL:=hL.put ([.string EW,.string dn]) rfl;refine hK.out _ _ ?QC (fun hHeld=>?_)
  case QC=>(exact hL.tail)
  clear hK K
  try simp only [Act.put,la,lz,ls]
  refine tk 8 ?_;refine wpAnyH_done (by kernel_rfl) ?_ _;go_wp2;exact bodyPost_ret (jW (p:=2) (u:=3) hL.head Tryz.underlying66 rfl jh rfl _ rfl) rfl ⟨rfl,hL.bw⟩
theorem AV (A B:Option Addr) (c d:Nat) (S S2:Nat→Prop) (P:Option Addr) (n:Nat) (w:World) (hg:Glob w) (hc:oG w S A c corners) (h:Reads w S2 3 P 1 n [.string iR,.string bM,.string dn]) (hS:Reads w S 3 B 1 d [.string iL,.string bM,.string dn]):
 Calls Tryz.prog 21 #[rZ A c B d,.slice P 1 n,.string iL,.agg #[.string s1,.string s0]] w fun e w'=>e= .returned (.tuple #[.agg #[.string EW,.string dn],.int .i64 0])∧Below w.heap.size w w':=by
 have hG:=hide hg;have HL:=hide (fun W (hbw:Below w.heap.size w W)=>yN A B c d S S2 P n W (hg.below hbw) (hc.below hbw) (h.below hbw) (hS.below hbw));have HS:=hide (fun W (hbw:Below w.heap.size w W)=>Sm S A B c d W (hg.below hbw) (hS.below hbw));have HO:=hide (fun (p:Nm.Vec) (ok:UZ p=true) W (hbw:Below w.heap.size w W)=>KJ S A B c d p W (hc.below hbw) ok);have HC:=hide (fun (p:Nm.Vec) (ok:qC (⟨50,1⟩,⟨25,1⟩) p=true) W (hbw:Below w.heap.size w W)=>DF A B c d p iR S2 P n W (hg.below hbw) ok (h.below hbw));have HOF:=hide (fun W (hbw:Below w.heap.size w W)=>Gi s1 s0 ⟨1,1⟩ ⟨0,1⟩ W (hg.below hbw) WO WM);clear hg hc hS
 go_enter Tryz.func21,Tryz.ntmps21
 go_upto_region 0 with (fail)
 go_cut [4,7,8,9] (fun v4 v7 v8 v9 wx=>v4=ptr (w.heap.size)∧v7=ptr (w.heap.size+1)∧v8=ptr (w.heap.size+2)∧v9= .int .i64 0∧Bx w wx [(w.heap.size,aZ A c B d,72),(w.heap.size+1,[.string s1,.string s0],66),(w.heap.size+2,[.string ⟨#[]⟩,.string ⟨#[]⟩],66)])
 case first=>
  go_wp2;go_meet;exact ⟨rfl,rfl,rfl,rfl,Bx.of ((((aC.nil w).new (by simp) (aZ A c B d) 72).new (by simp) ([.string s1,.string s0]) 66).new (by simp) ([.string ⟨#[]⟩,.string ⟨#[]⟩]) 66) _ rfl⟩
 case rest=>
  obtain ⟨rfl,rfl,rfl,rfl,hL⟩:=hcut;go_wp2
  go_step3
  go_upto_region 4 with (first | ((with_reducible refine dh 72 4 ?_);refine nI (hL.rn 0 0 ([.slice A 4 c,.int .i64 1,.slice none 0 0,.slice B 1 d])) Tryz.underlying72 iP ?_) | ((with_reducible refine iV 72 4 ?_);refine nJ (hL.rn 0 0 ([.slice A 4 c,.int .i64 1,.slice none 0 0,.slice B 1 d])) Tryz.underlying72 iP ?_) | (go_at_call 38;refine (HL.out _ hL.bw).mono ?_;rintro e' w1 ⟨rfl,hb1⟩;have hL:=hL.call hb1))
  go_cut [11,12] from 10 to 28 (fun v11 v12 wx=>∃ B11,v11=ptr B11∧v12= .bool true∧Bx w wx [(B11,(aN (⟨50,1⟩,⟨25,1⟩)),111),(w.heap.size,aZ A c B d,72),(w.heap.size+1,[.string s1,.string s0],66),(w.heap.size+2,[.string ⟨#[]⟩,.string ⟨#[]⟩],66)])
  case first=>
   go_wp2_with (first | ((with_reducible refine dh 72 4 ?_);refine nI (hL.rn 0 0 ([.slice A 4 c,.int .i64 1,.slice none 0 0,.slice B 1 d])) Tryz.underlying72 iP ?_) | ((with_reducible refine iV 72 4 ?_);refine nJ (hL.rn 0 0 ([.slice A 4 c,.int .i64 1,.slice none 0 0,.slice B 1 d])) Tryz.underlying72 iP ?_) | (go_at_call 39;refine (HS.out _ hL.bw).mono ?_;rintro e' w2 ⟨rfl,hb2⟩;have hL:=hL.call hb2) | ((with_reducible refine isS 111 11 26 ?_);refine iZ ((hL.add (aN (⟨0,0⟩,⟨0,0⟩)) 111).head) ((aN (⟨50,1⟩,⟨25,1⟩))) eP (qZ _) ?_))
   go_meet;exact ⟨_,rfl,rfl,(hL.add (aN (⟨0,0⟩,⟨0,0⟩)) 111).put (aN (⟨50,1⟩,⟨25,1⟩)) rfl⟩
  case rest=>
   obtain ⟨B11,rfl,rfl,hL⟩:=hcut
   have hne:∀ W,(binOp .eql 66 (.agg #[.string s1,.string s0]) (.agg #[.string ⟨#[48]⟩,.string ⟨#[48]⟩])).run Tryz.prog W= .ok (.bool false) W:=fun _=>by kernel_rfl
   go_upto_region 5 with (fail)
   go_cut [13] from 28 to 39 (fun v13 wx=>v13= .int .i64 0∧Bx w wx [(B11,(aN (⟨50,1⟩,⟨25,1⟩)),111),(w.heap.size,aZ A c B d,72),(w.heap.size+1,[.string s1,.string s0],66),(w.heap.size+2,[.string ⟨#[]⟩,.string ⟨#[]⟩],66)])
   case first=>
    have VY:∀ W:World,Bx w W [(B11,(aN (⟨50,1⟩,⟨25,1⟩)),111),(w.heap.size,aZ A c B d,72),(w.heap.size+1,[.string s1,.string s0],66),(w.heap.size+2,[.string ⟨#[]⟩,.string ⟨#[]⟩],66)]→W.rangeAt (w.heap.size+1) 0 ([.string s1,.string s0]):=fun W h=>h.rng 2 rfl 0 _ rfl;have hL:=hL.drew;refine wp_region_held_drew (S:=(fun w':World=>Bx w w' [(B11,(aN (⟨50,1⟩,⟨25,1⟩)),111),(w.heap.size,aZ A c B d,72),(w.heap.size+1,[.string s1,.string s0],66),(w.heap.size+2,[.string ⟨#[]⟩,.string ⟨#[]⟩],66)])) (by kernel_rfl) ?dF (fun hHeld=>?_)
    case dF=>exact hL
    refine tk 0 ?_;refine tk 1 ?_;refine wpAnyH_take (i:=3) (oi:=_) (v:=_) (ga rfl) (by kernel_rfl) (by kernel_rfl) (by kernel_rfl) (fun _ _ _ h=>h) (yieldsIf_load_mid (by rfl) _ _ (by rfl) _ _ (by rfl) _ _ VY Tryz.underlying66 rfl (by kernel_rfl)) (by assumption) ?_
    try simp only [Act.put,la,lz,ls]
    refine wpAnyH_take (i:=5) (oi:=_) (v:=_) (ga rfl) (by kernel_rfl) (by kernel_rfl) (by kernel_rfl) (fun _ _ _ h=>h) (yieldsIf_load_mid (by rfl) _ _ (by rfl) _ _ (by rfl) _ _ VY Tryz.underlying66 rfl (by kernel_rfl)) (by assumption) ?_
    try simp only [Act.put,la,lz,ls]
    refine tk 6 ?_;refine tk 7 ?_;refine tr 2 fun K hK=>?_;go_simp
    (go_at_call 41;refine (iT _ _).mono ?_;rintro e w5a ⟨rfl,rfl⟩)
    refine hK.out _ _ ?Gv (fun hHeld=>?_)
    case Gv=>(exact hL)
    clear hK K
    try simp only [Act.put,la,lz,ls]
    refine tr 4 fun K hK=>?_;go_simp
    (go_at_call 42;refine (kH s1 s0 _ (hG.out.below hL.bw) SE SC).mono ?_;rintro e w5b ⟨rfl,IB⟩)
    have hL:=hL.call IB;refine hK.out _ _ ?Ah (fun hHeld=>?_)
    case Ah=>(exact hL)
    clear hK K
    try simp only [Act.put,la,lz,ls]
    refine tr 8 fun K hK=>?_;go_simp
    (go_at_call 41;refine (iT _ _).mono ?_;rintro e w5c ⟨rfl,rfl⟩)
    refine hK.out _ _ ?acg (fun hHeld=>?_)
    case acg=>(exact hL)
    clear hK K
    try simp only [Act.put,la,lz,ls]
    refine tr 9 fun K hK=>?_;go_simp;have hL:=hL.alloc (.cells #[.int .i64 0,.int .i64 0,.int .i64 0] 31);refine hK.out _ _ ?Gw (fun hHeld=>?_)
    case Gw=>(exact hL)
    clear hK K
    try simp only [Act.put,la,lz,ls]
    refine tr 10 fun K hK=>?_;go_simp
    (go_at_call 40;refine (wo _ _ rfl).mono ?_;rintro e w5d ⟨rfl,rfl⟩)
    refine hK.out _ _ ?uH (fun hHeld=>?_)
    case uH=>(exact hL)
    clear hK K
    try simp only [Act.put,la,lz,ls]
    refine tk 11 ?_;refine wpAnyH_done (by kernel_rfl) ?_ _;go_wp2;go_meet;exact ⟨rfl,hL⟩
   case rest=>
    obtain ⟨rfl,hL⟩:=hcut;clear hne
    go_upto_region 8 with (fail)
    go_cut [14] from 39 to 45 (fun v14 wx=>∃ nR,v14=ptr nR∧Bx w wx [(B11,(aN (⟨50,1⟩,⟨25,1⟩)),111),(nR,(aN (⟨1,1⟩,⟨0,1⟩)),111),(w.heap.size,aZ A c B d,72),(w.heap.size+1,[.string s1,.string s0],66),(w.heap.size+2,[.string ⟨#[]⟩,.string ⟨#[]⟩],66)])
    case first=>
     go_wp2_with (first | ((with_reducible refine dh 66 7 ?_);refine nI (hL.rn 2 0 ([.string s1,.string s0])) Tryz.underlying66 jh ?_) | ((with_reducible refine iV 66 7 ?_);refine nJ (hL.rn 2 0 ([.string s1,.string s0])) Tryz.underlying66 jh ?_) | (go_at_call 43;refine (HOF.out _ hL.bw).mono ?_;rintro e' w2 ⟨rfl,hb2⟩;have hL:=hL.call hb2) | ((with_reducible refine isS 111 14 44 ?_);refine iZ ((hL.add (aN (⟨0,0⟩,⟨0,0⟩)) 111).head) ((aN (⟨1,1⟩,⟨0,1⟩))) eP (qZ _) ?_))
     go_meet;exact ⟨_,rfl,((hL.add (aN (⟨0,0⟩,⟨0,0⟩)) 111).put (aN (⟨1,1⟩,⟨0,1⟩)) rfl).swap⟩
    case rest=>
     obtain ⟨nR,rfl,hL⟩:=hcut;go_wp2
     go_step3
     go_wp2
     go_loopw [45] (fun i wr=>∃ k:Nat,i= .int .i64 (k:Int)∧((k=0∧Bx w wr [(B11,(aN (⟨50,1⟩,⟨25,1⟩)),111),(nR,(aN (⟨1,1⟩,⟨0,1⟩)),111),(w.heap.size,aZ A c B d,72),(w.heap.size+1,[.string s1,.string s0],66),(w.heap.size+2,[.string ⟨#[]⟩,.string ⟨#[]⟩],66)])∨(k=1∧Bx w wr [(B11,(aN (⟨51,1⟩,⟨25,1⟩)),111),(nR,(aN (⟨1,1⟩,⟨0,1⟩)),111),(w.heap.size,aZ A c B d,72),(w.heap.size+1,[.string s1,.string s0],66),(w.heap.size+2,[.string ⟨#[]⟩,.string ⟨#[]⟩],66)])∨(k=2∧Bx w wr [(B11,(aN (⟨52,1⟩,⟨25,1⟩)),111),(nR,(aN (⟨1,1⟩,⟨0,1⟩)),111),(w.heap.size,aZ A c B d,72),(w.heap.size+1,[.string s1,.string s0],66),(w.heap.size+2,[.string ⟨#[]⟩,.string ⟨#[]⟩],66)]))) (fun i _=>3 - (intOf i).toNat)
     case atStart=>exact ⟨0,rfl,.inl ⟨rfl,hL⟩⟩
     case round=>
      clear hL;obtain ⟨k,rfl,⟨rfl,hL⟩ | ⟨rfl,hL⟩ | ⟨rfl,hL⟩⟩:=hrel
      · have o1:decide (yR (⟨50,1⟩,⟨25,1⟩) 4<0)=false:=by decide
        have o2:tY (⟨50,1⟩,⟨25,1⟩)=true:=by decide
        rw [show ((0:Nat):Int)=0 from rfl]
        go_wp2_with (first | ((with_reducible refine dh 72 4 ?_);refine nI (hL.rn 2 0 ([.slice A 4 c,.int .i64 1,.slice none 0 0,.slice B 1 d])) Tryz.underlying72 iP ?_) | ((with_reducible refine iV 72 4 ?_);refine nJ (hL.rn 2 0 ([.slice A 4 c,.int .i64 1,.slice none 0 0,.slice B 1 d])) Tryz.underlying72 iP ?_) | ((with_reducible refine dh 111 11 ?_);refine nI (hL.rn 0 0 ([.int .i64 ((⟨50,1⟩,⟨25,1⟩):Nm.Vec).1.n,.slice none 0 0,.int .i64 ((⟨50,1⟩,⟨25,1⟩):Nm.Vec).1.d,.slice none 0 0,.int .i64 ((⟨50,1⟩,⟨25,1⟩):Nm.Vec).2.n,.slice none 0 0,.int .i64 ((⟨50,1⟩,⟨25,1⟩):Nm.Vec).2.d,.slice none 0 0])) Tryz.underlying111 eP ?_) | ((with_reducible refine iV 111 11 ?_);refine nJ (hL.rn 0 0 ([.int .i64 ((⟨50,1⟩,⟨25,1⟩):Nm.Vec).1.n,.slice none 0 0,.int .i64 ((⟨50,1⟩,⟨25,1⟩):Nm.Vec).1.d,.slice none 0 0,.int .i64 ((⟨50,1⟩,⟨25,1⟩):Nm.Vec).2.n,.slice none 0 0,.int .i64 ((⟨50,1⟩,⟨25,1⟩):Nm.Vec).2.d,.slice none 0 0])) Tryz.underlying111 eP ?_) | ((with_reducible refine dh 111 14 ?_);refine nI (hL.rn 1 0 ([.int .i64 ((⟨1,1⟩,⟨0,1⟩):Nm.Vec).1.n,.slice none 0 0,.int .i64 ((⟨1,1⟩,⟨0,1⟩):Nm.Vec).1.d,.slice none 0 0,.int .i64 ((⟨1,1⟩,⟨0,1⟩):Nm.Vec).2.n,.slice none 0 0,.int .i64 ((⟨1,1⟩,⟨0,1⟩):Nm.Vec).2.d,.slice none 0 0])) Tryz.underlying111 eP ?_) | ((with_reducible refine iV 111 14 ?_);refine nJ (hL.rn 1 0 ([.int .i64 ((⟨1,1⟩,⟨0,1⟩):Nm.Vec).1.n,.slice none 0 0,.int .i64 ((⟨1,1⟩,⟨0,1⟩):Nm.Vec).1.d,.slice none 0 0,.int .i64 ((⟨1,1⟩,⟨0,1⟩):Nm.Vec).2.n,.slice none 0 0,.int .i64 ((⟨1,1⟩,⟨0,1⟩):Nm.Vec).2.d,.slice none 0 0])) Tryz.underlying111 eP ?_) | (go_at_call 44;refine (HO.out (⟨50,1⟩,⟨25,1⟩) (by rfl) _ hL.bw).mono ?_;rintro e' w2 ⟨rfl,hb2⟩;have hL:=hL.call hb2) | (go_at_call 45;refine (HC.out (⟨50,1⟩,⟨25,1⟩) (by rfl) _ hL.bw).mono ?_;rintro e' w3 ⟨rfl,hb3⟩;have hL:=hL.call hb3) | (go_at_call 46;refine (Di (⟨50,1⟩,⟨25,1⟩) (⟨1,1⟩,⟨0,1⟩) _ (by rfl) (by rfl)).mono ?_;rintro e' w4 ⟨rfl,hb4⟩;have hL:=hL.call hb4) | ((with_reducible refine isS 111 11 61 ?_);refine iZ (hL.head) ((aN (⟨51,1⟩,⟨25,1⟩))) eP (qZ _) ?_))
        have hL:=hL.put (aN (⟨51,1⟩,⟨25,1⟩)) rfl
        go_roundw
        case rel=>exact ⟨1,by go_num,.inr (.inl ⟨rfl,hL⟩)⟩
        case measure=>simp [intOf]
      · have o1:decide (yR (⟨51,1⟩,⟨25,1⟩) 4<0)=false:=by decide
        have o2:tY (⟨51,1⟩,⟨25,1⟩)=true:=by decide
        rw [show ((1:Nat):Int)=1 from rfl]
        go_wp2_with (first | ((with_reducible refine dh 72 4 ?_);refine nI (hL.rn 2 0 ([.slice A 4 c,.int .i64 1,.slice none 0 0,.slice B 1 d])) Tryz.underlying72 iP ?_) | ((with_reducible refine iV 72 4 ?_);refine nJ (hL.rn 2 0 ([.slice A 4 c,.int .i64 1,.slice none 0 0,.slice B 1 d])) Tryz.underlying72 iP ?_) | ((with_reducible refine dh 111 11 ?_);refine nI (hL.rn 0 0 ([.int .i64 ((⟨51,1⟩,⟨25,1⟩):Nm.Vec).1.n,.slice none 0 0,.int .i64 ((⟨51,1⟩,⟨25,1⟩):Nm.Vec).1.d,.slice none 0 0,.int .i64 ((⟨51,1⟩,⟨25,1⟩):Nm.Vec).2.n,.slice none 0 0,.int .i64 ((⟨51,1⟩,⟨25,1⟩):Nm.Vec).2.d,.slice none 0 0])) Tryz.underlying111 eP ?_) | ((with_reducible refine iV 111 11 ?_);refine nJ (hL.rn 0 0 ([.int .i64 ((⟨51,1⟩,⟨25,1⟩):Nm.Vec).1.n,.slice none 0 0,.int .i64 ((⟨51,1⟩,⟨25,1⟩):Nm.Vec).1.d,.slice none 0 0,.int .i64 ((⟨51,1⟩,⟨25,1⟩):Nm.Vec).2.n,.slice none 0 0,.int .i64 ((⟨51,1⟩,⟨25,1⟩):Nm.Vec).2.d,.slice none 0 0])) Tryz.underlying111 eP ?_) | ((with_reducible refine dh 111 14 ?_);refine nI (hL.rn 1 0 ([.int .i64 ((⟨1,1⟩,⟨0,1⟩):Nm.Vec).1.n,.slice none 0 0,.int .i64 ((⟨1,1⟩,⟨0,1⟩):Nm.Vec).1.d,.slice none 0 0,.int .i64 ((⟨1,1⟩,⟨0,1⟩):Nm.Vec).2.n,.slice none 0 0,.int .i64 ((⟨1,1⟩,⟨0,1⟩):Nm.Vec).2.d,.slice none 0 0])) Tryz.underlying111 eP ?_) | ((with_reducible refine iV 111 14 ?_);refine nJ (hL.rn 1 0 ([.int .i64 ((⟨1,1⟩,⟨0,1⟩):Nm.Vec).1.n,.slice none 0 0,.int .i64 ((⟨1,1⟩,⟨0,1⟩):Nm.Vec).1.d,.slice none 0 0,.int .i64 ((⟨1,1⟩,⟨0,1⟩):Nm.Vec).2.n,.slice none 0 0,.int .i64 ((⟨1,1⟩,⟨0,1⟩):Nm.Vec).2.d,.slice none 0 0])) Tryz.underlying111 eP ?_) | (go_at_call 44;refine (HO.out (⟨51,1⟩,⟨25,1⟩) (by rfl) _ hL.bw).mono ?_;rintro e' w2 ⟨rfl,hb2⟩;have hL:=hL.call hb2) | (go_at_call 45;refine (HC.out (⟨51,1⟩,⟨25,1⟩) (by rfl) _ hL.bw).mono ?_;rintro e' w3 ⟨rfl,hb3⟩;have hL:=hL.call hb3) | (go_at_call 46;refine (Di (⟨51,1⟩,⟨25,1⟩) (⟨1,1⟩,⟨0,1⟩) _ (by rfl) (by rfl)).mono ?_;rintro e' w4 ⟨rfl,hb4⟩;have hL:=hL.call hb4) | ((with_reducible refine isS 111 11 61 ?_);refine iZ (hL.head) ((aN (⟨52,1⟩,⟨25,1⟩))) eP (qZ _) ?_))
        have hL:=hL.put (aN (⟨52,1⟩,⟨25,1⟩)) rfl
        go_roundw
        case rel=>exact ⟨2,by go_num,.inr (.inr ⟨rfl,hL⟩)⟩
        case measure=>simp [intOf]
      · have o1:decide (yR (⟨52,1⟩,⟨25,1⟩) 4<0)=false:=by decide
        have o2:tY (⟨52,1⟩,⟨25,1⟩)=false:=by decide
        rw [show ((2:Nat):Int)=2 from rfl]
        go_wp2_with (first | ((with_reducible refine dh 72 4 ?_);refine nI (hL.rn 2 0 ([.slice A 4 c,.int .i64 1,.slice none 0 0,.slice B 1 d])) Tryz.underlying72 iP ?_) | ((with_reducible refine iV 72 4 ?_);refine nJ (hL.rn 2 0 ([.slice A 4 c,.int .i64 1,.slice none 0 0,.slice B 1 d])) Tryz.underlying72 iP ?_) | ((with_reducible refine dh 111 11 ?_);refine nI (hL.rn 0 0 ([.int .i64 ((⟨52,1⟩,⟨25,1⟩):Nm.Vec).1.n,.slice none 0 0,.int .i64 ((⟨52,1⟩,⟨25,1⟩):Nm.Vec).1.d,.slice none 0 0,.int .i64 ((⟨52,1⟩,⟨25,1⟩):Nm.Vec).2.n,.slice none 0 0,.int .i64 ((⟨52,1⟩,⟨25,1⟩):Nm.Vec).2.d,.slice none 0 0])) Tryz.underlying111 eP ?_) | ((with_reducible refine iV 111 11 ?_);refine nJ (hL.rn 0 0 ([.int .i64 ((⟨52,1⟩,⟨25,1⟩):Nm.Vec).1.n,.slice none 0 0,.int .i64 ((⟨52,1⟩,⟨25,1⟩):Nm.Vec).1.d,.slice none 0 0,.int .i64 ((⟨52,1⟩,⟨25,1⟩):Nm.Vec).2.n,.slice none 0 0,.int .i64 ((⟨52,1⟩,⟨25,1⟩):Nm.Vec).2.d,.slice none 0 0])) Tryz.underlying111 eP ?_) | ((with_reducible refine dh 111 14 ?_);refine nI (hL.rn 1 0 ([.int .i64 ((⟨1,1⟩,⟨0,1⟩):Nm.Vec).1.n,.slice none 0 0,.int .i64 ((⟨1,1⟩,⟨0,1⟩):Nm.Vec).1.d,.slice none 0 0,.int .i64 ((⟨1,1⟩,⟨0,1⟩):Nm.Vec).2.n,.slice none 0 0,.int .i64 ((⟨1,1⟩,⟨0,1⟩):Nm.Vec).2.d,.slice none 0 0])) Tryz.underlying111 eP ?_) | ((with_reducible refine iV 111 14 ?_);refine nJ (hL.rn 1 0 ([.int .i64 ((⟨1,1⟩,⟨0,1⟩):Nm.Vec).1.n,.slice none 0 0,.int .i64 ((⟨1,1⟩,⟨0,1⟩):Nm.Vec).1.d,.slice none 0 0,.int .i64 ((⟨1,1⟩,⟨0,1⟩):Nm.Vec).2.n,.slice none 0 0,.int .i64 ((⟨1,1⟩,⟨0,1⟩):Nm.Vec).2.d,.slice none 0 0])) Tryz.underlying111 eP ?_) | (go_at_call 44;refine (HO.out (⟨52,1⟩,⟨25,1⟩) (by rfl) _ hL.bw).mono ?_;rintro e' w2 ⟨rfl,hb2⟩;have hL:=hL.call hb2) | (go_at_call 45;refine (HC.out (⟨52,1⟩,⟨25,1⟩) (by rfl) _ hL.bw).mono ?_;rintro e' w3 ⟨rfl,hb3⟩;have hL:=hL.call hb3) | (go_at_call 47;refine (BO _ (hG.out.below hL.bw)).mono ?_;rintro e' w4 ⟨rfl,hb4⟩;have hL:=hL.call hb4;have hQ:=hL.get 4 rfl) | ((with_reducible refine isS 66 8 64 ?_);refine iZ (hQ) ([.string EW,.string dn]) jh (Ac _ _) ?_))
        try rw [Exit.noGoto_ret]
        exact bodyPost_ret (jW (p:=8) (u:=9) (hQ.whole [.string EW,.string dn] rfl) Tryz.underlying66 rfl jh rfl _ rfl) rfl ⟨rfl,below_setCells _ (by omega) [.string EW,.string dn] 0 _ _ hL.bw⟩
end Go.Proofs.YtcbmedfongiojaaGreatDoor
