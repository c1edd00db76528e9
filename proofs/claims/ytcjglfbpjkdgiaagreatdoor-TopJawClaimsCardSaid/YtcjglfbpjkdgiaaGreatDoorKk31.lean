/- Parts of a proof. -/
import Derived.Test.YtcjglfbpjkdgiaaGreatDoorKk27
import Derived.Test.YtcjglfbpjkdgiaaGreatDoorKk30
set_option maxHeartbeats 4000000
set_option maxRecDepth 100000
set_option linter.unusedVariables false
set_option linter.unusedSimpArgs false
namespace Go.Proofs.YtcjglfbpjkdgiaaGreatDoor
open Go.RowKit
theorem M.Qx (l:List UInt8):(M.parse l).1.aC.length≤16:=by
 unfold M.parse
 split
 · exact Nat.zero_le _
 · split
   · exact Nat.zero_le _
   · next x _=>
     split
     · exact Nat.zero_le _
     · next h=>exact (M.lV (Classical.not_not.1 h)).few
theorem zZ:(Tryz.prog.info? 27).map (fun i=>(i.zero,i.size,i.bytes))=some (some (.agg #[.int .i64 0,.string ⟨#[]⟩,.int .i64 0,.int .i64 0,.int .i64 0,.bool false,.slice none 0 0]),7,80):=by kernel_rfl
structure Xi (tr ts tp:TypeId) (w:World) (src:List Value) (x:M.aV) (k:Nat) (A:Option Addr) (c:Nat) (W:World):Prop where
 src:Held W w.heap.size src tr
 bx:Held W (w.heap.size+1) (aA ⟨zo x k,A,c⟩) ts
 own:W.ownsRow (w.heap.size+2) tp 2 (.slice A k c) k (bZ (x.aC.take k))
 bw:Below w.heap.size w W
 sz:w.heap.size+2≤W.heap.size
theorem Xi.append {tr ts tp:TypeId} {w W W0 w4:World} {src:List Value} {x:M.aV} {k:Nat} {A:Option Addr} {c g1 cap:Nat} {o:Obj} (h:Xi tr ts tp w src x k A c W0) (hb:Below W0.heap.size W0 W) (hk:k<x.aC.length) (hgrow:(W.alloc o).grownBy w4 (Value.slice A k c).ownBlock)
 (hown4:w4.ownsRow (w.heap.size+2) tp 2 (.slice (some ⟨g1,0,none⟩) (k+1) cap) (k+1) (bZ (x.aC.take k)++[.int .i64 x.aC[k].aT,.int .i64 x.aC[k].aP])):
 Held w4 (w.heap.size+1) (aA ⟨zo x k,A,c⟩) ts∧Xi tr ts tp w src x (k+1) (some ⟨g1,0,none⟩) cap (w4.setCell ⟨w.heap.size+1,6,none⟩ (.slice (some ⟨g1,0,none⟩) (k+1) cap)):=by
 have hs0:=h.sz;have hs:=hb.size
 have hno:∀ b,b<w.heap.size+2→some b≠(Value.slice A k c).ownBlock:=fun b hb e=>by have:=(dh h.own e.symm).1;omega
 have hH:∀ {b:Nat} {cs:List Value} {t:TypeId},b<w.heap.size+2→Held W0 b cs t→Held w4 b cs t:=fun hlt hb0=>(hgrow.block _ (by have:=hb0.lt;simp;omega) (hno _ hlt)).trans ((hb0.below hb).alloc o);have uw:=hH (by omega) h.bx;have hb4:Below w.heap.size w w4:=(((h.bw.trans (hb.mono (by omega))).alloc (by omega) o).trans (eX ((dV h.own (fun g hg=>hb.block g (Array.getElem?_eq_some_iff.1 (dh h.own hg).2.choose_spec.1).1)).alloc o) hgrow (by omega) (by simp;omega)))
 have hpc:bZ (x.aC.take (k+1))=bZ (x.aC.take k)++[.int .i64 x.aC[k].aT,.int .i64 x.aC[k].aP]:=by
  rw [List.take_succ_eq_append_getElem hk];unfold bZ;rw [List.flatMap_append];rfl
 refine ⟨uw,(hH (by omega) h.src).other (by omega) _ _,?_,?_,hb4.setCell (p:=⟨w.heap.size+1,6,none⟩) (by show w.heap.size≤w.heap.size+1;omega) _,?_⟩
 · have hl1:(x.aC.take k).length=k:=by rw [List.length_take];omega
   have hl2:(x.aC.take (k+1)).length=k+1:=by rw [List.length_take];omega
   have he:aA ⟨zo x (k+1),some ⟨g1,0,none⟩,cap⟩=(aA ⟨zo x k,A,c⟩).set 6 (.slice (some ⟨g1,0,none⟩) (k+1) cap):=by simp [aA,zo,hl1,hl2]
   rw [he];exact uw.set 6 _
 · rw [hpc]
   exact dV hown4 (fun g hg=>Below.heap_setCell w4 _ _ g (fun e=>by have:=(dh hown4 hg).1;have e:g=w.heap.size+1:=e;omega))
 · have:=hgrow.size
   simp [World.setCell] at this ⊢
   omega
theorem MP (S:Nat→Prop) (l:List Sh) (A:Option Addr) (c:Nat) (w:World) (hp:jQ w S A c l) (hl:l.length*80≤140737488355328) (hpl:∀ e∈l,e.x.aC.length*16≤140737488355328):
 Calls Tryz.prog 5 #[.slice A l.length c] w fun e w'=>∃ l' A' c',plain l'=plain l∧e= .returned (.slice A' l'.length c')∧jQ w' (fun b=>w.heap.size≤b) A' c' l'∧Below w.heap.size w w':=by
 obtain ⟨b1,b2,b3⟩:=hp.bd;obtain ⟨i0,hi0,hz0,hz1,hz2⟩:=info_parts Kw
 go_enter Tryz.func5,Tryz.ntmps5
 go_wp2
 go_loopw [3,11] (fun v i wr=>∃ (k:Nat) (l':List Sh) (A':Option Addr) (c':Nat),k≤l.length∧i= .int .i64 k∧v= .slice A' l'.length c'∧l'.length=k∧Aside (plain l'=plain (l.take k))∧qw 36 w.heap.size l' A' c' wr∧Below w.heap.size w wr) (fun _ i=>fun _=>l.length - (intOf i).toNat)
 case atStart=>exact ⟨0,[],none,0,Nat.zero_le _,rfl,rfl,rfl,rfl,qw.nil _ _ _,Below.refl _ _⟩
 case round=>
  rename World=>wo
  obtain ⟨k,l',A',c',hk,rfl,rfl,hlk,hpk,st,hbw⟩:=hrel;have HPK:=hide hpk;have Gh:=hbw.size
  by_cases hlt:k<l.length
  · obtain ⟨b,o,rfl,_,hbl,hcs⟩:=Reads.at_ (hp.below hbw).1 (by omega)
    have h00:wo.rangeAt b (o+k*7) (aA l[k]):=fun j v hj=>by
     have hj7:j<7:=(List.getElem?_eq_some_iff.1 hj).1;rw [Nat.add_assoc];exact hcs _ _ ((fU l k hlt j hj7).trans hj)
    have hpo:=(hp.below hbw).aC k hlt;have ath:=hpl _ (List.getElem_mem hlt)
    have i1:(0:Int)≤(k:Int):=by omega
    have i2:(k:Int)<(l.length:Int):=by omega
    have hl1:l'.length<l.length:=by omega
    have HSX:Aside (plain (l.take (k+1))=plain (l.take k)++[l[k].x]):=by
     show plain (l.take (k+1))=_
     rw [List.take_succ_eq_append_getElem hlt];unfold plain;rw [List.map_append];rfl
    obtain ⟨X,P,d,hX⟩:∃ X P d,l[k]=⟨X,P,d⟩:=⟨l[k].x,l[k].a,l[k].c,rfl⟩;rw [hX] at h00 hpo ath HSX;have HSX:=hide HSX;have HLK:=hide hlk;clear hlk hcs hpk hX;have hbx:=Held.new wo Zu 27
    go_upto_region 5 with (first | (refine aB 27 (.tmp 13) rfl ?_;refine dH (g:=b) (o:=o+k*7) h00 Tryz.underlying27 rfl bG rfl (.tmp 13) rfl rfl ?_) | (refine aO 27 (.tmp 5) (.tmp 14) rfl ?_;refine aF hbx (aA ⟨X,P,d⟩) rfl bG (uf _ _ _) rfl (.tmp 5) (.tmp 14) rfl rfl rfl ?_))
    obtain ⟨W2,hW2⟩:∃ W2,(wo.alloc (.cells #[.int .i64 0,.string ⟨#[]⟩,.int .i64 0,.int .i64 0,.int .i64 0,.bool false,.slice none 0 0] 27)).setCells wo.heap.size 0 (aA ⟨X,P,d⟩)=W2:=⟨_,rfl⟩
    have MG:Below wo.heap.size wo W2:=by rw [← hW2];exact below_setCells _ (Nat.le_refl _) _ _ _ _ ((Below.refl _ _).alloc (Nat.le_refl _) _)
    have hby:Held W2 wo.heap.size (aA ⟨X,P,d⟩) 27:=by rw [← hW2];exact hbx.whole (aA ⟨X,P,d⟩) rfl
    have Ud:W2.heap.size=wo.heap.size+1:=by rw [← hW2,setCells_size];simp
    rw [hW2];have TT:=hbw;clear hW2 hbx h00;obtain ⟨j0,hj0,hy0,hy1,hy2⟩:=info_parts Og;have hsb:=MG.size;have s0:=hby.cell (j:=0) rfl;have sf0:=hby.frozen 0;have s1:=hby.cell (j:=1) rfl;have sf1:=hby.frozen 1;have s2:=hby.cell (j:=2) rfl;have sf2:=hby.frozen 2;have s3:=hby.cell (j:=3) rfl;have sf3:=hby.frozen 3;have s4:=hby.cell (j:=4) rfl;have sf4:=hby.frozen 4;have s5:=hby.cell (j:=5) rfl;have sf5:=hby.frozen 5;have s6:=hby.cell (j:=6) rfl;have sf6:=hby.frozen 6;have hone:=uf (zo X 0) none 0;have hzb:=Held.newAt W2 Zu 36 Ud
    try dsimp only [Act.put]
    go_cut [6] from 15 to 27 (fun v6 wx=>v6=ptr (wo.heap.size+1)∧Xi 27 36 72 wo (aA ⟨X,P,d⟩) X 0 none 0 wx)
    case first=>
     go_wp2_with (first | (refine aO 36 (.tmp 6) (.tmp 27) rfl ?_;refine aF hzb (aA ⟨zo X 0,none,0⟩) rfl Ae hone rfl (.tmp 6) (.tmp 27) rfl rfl rfl ?_))
     go_meet;have hbz:=below_setCells (wo.heap.size+1) (Nat.le_of_eq Ud) (aA ⟨zo X 0,none,0⟩) 0 _ _ ((Below.refl W2.heap.size W2).alloc (Nat.le_refl _) (.cells (Zu).toArray 36));exact ⟨rfl,⟨hby.below hbz,hzb.whole _ rfl,World.ownsRow_nil _ _ _ _,MG.trans (hbz.mono MG.size),by rw [setCells_size];simp;omega⟩⟩
    case rest=>
     obtain ⟨rfl,ct0⟩:=hcut
     rename World=>W3
     clear s0 sf0 s1 sf1 s2 sf2 s3 sf3 s4 sf4 s5 sf5 s6 sf6 hzb hby;have k6:=ct0.src.cell (j:=6) rfl;have kf6:=ct0.src.frozen 6
     go_upto_region 7 with (fail)
     clear k6 kf6
     go_loopw [31] (fun i wr=>∃ (q:Nat) (A3:Option Addr) (c3:Nat),q≤X.aC.length∧i= .int .i64 q∧Xi 27 36 72 wo (aA ⟨X,P,d⟩) X q A3 c3 wr) (fun i _=>X.aC.length - (intOf i).toNat)
     case atStart=>exact ⟨0,none,0,Nat.zero_le _,rfl,ct0⟩
     case round=>
      obtain ⟨q,A3,c3,hq,rfl,ct⟩:=hrel
      have hlq:(X.aC.take q).length=q:=by rw [List.length_take];omega
      by_cases hlt2:q<X.aC.length
      · obtain ⟨b5,o5,rfl,_,ar0,hc5⟩:=fP.at_ (Reads.below hpo ct.bw) q hlt2
        obtain ⟨hck1,sZ⟩:=hc5 q hlt2;clear hc5;have m6:wr.cell? ⟨wo.heap.size+1,6,none⟩=some (.slice A3 q c3):=(ct.bx.cell (j:=6) rfl).trans (by show some (Value.slice A3 (X.aC.take q).length c3)=_;rw [hlq]);have mf6:=ct.bx.frozen 6;have TY:=ct.bx.lt
        have i1:(0:Int)≤(q:Int):=by omega
        have i2:(q:Int)<(X.aC.length:Int):=by omega
        go_wp2_with (first | (at_builtin;refine wpList_append_lies _ rfl _ _ _ rfl (wo.heap.size+2) 72 j0 (.agg #[.int .i64 0,.int .i64 0]) 2 16 Tryz.underlying34 hj0 hy0 hy1 hy2 rfl (by omega) _ _ _ rfl ((ct.own.alloc _).alloc _) ⟨wr.heap.size+1,0,none⟩ 1 1 [.int .i64 X.aC[q].aT,.int .i64 X.aC[q].aP] rfl rfl (dJ _ _ _ _ (by simp)) (by simp [Value.oneCell']) (by omega) (by simp only [maxLen];omega) (by omega) (by have:=ct.sz;simp;omega) (wr.heap.size+1+1) (by simp) ?_))
        intro g1 cap w4 hown4 hgrow _ _;obtain ⟨uw,hct⟩:=Xi.append ct ((Below.refl _ _).alloc (Nat.le_refl _) _) hlt2 hgrow hown4;have n6:=uw.frozen 6;have c6:=uw.cell (j:=6) rfl;have Sr:=hide hct;clear hct hgrow hown4;go_wp2
        go_roundw
        case rel=>exact ⟨q+1,_,_,by omega,by go_num,Sr.out⟩
        case measure=>simp [intOf] <;> omega
      · have hke:q=X.aC.length:=by omega
        subst hke;have hx:=ct.bx;rw [KA] at hx;have hx:Held wr (wo.heap.size+1) [.int .i64 X.aG,.string X.kind,.int .i64 X.aT,.int .i64 X.aP,.int .i64 X.first,.bool X.cO,.slice A3 X.aC.length c3] 36:=hx;have hown:=ct.own;rw [List.take_length] at hown;have hrd:fP wr (fun b=>wo.heap.size≤b) A3 c3 X.aC:=Reads.more (Reads.je hown (fun b h=>h) (by omega)) (fun b _ h=>by have h:wo.heap.size+2≤b:=h;show wo.heap.size≤b;omega);have hsw:=TT.size;have hsr:=ct.sz;clear hown hlq
        go_wp2_with (first | (refine aB 36 (.tmp 6) rfl ?_;refine ak hx Tryz.underlying36 rfl Ae rfl (.tmp 6) rfl rfl ?_) | (at_builtin;refine wpList_append_lies _ rfl _ _ _ rfl w.heap.size 36 i0 (.agg #[.int .i64 0,.string ⟨#[]⟩,.int .i64 0,.int .i64 0,.int .i64 0,.bool false,.slice none 0 0]) 7 80 Tryz.underlying30 hi0 hz0 hz1 hz2 rfl (by omega) _ _ _ rfl ((st.below ct.bw).own.alloc _) ⟨wr.heap.size,0,none⟩ 1 1 [.int .i64 X.aG,.string X.kind,.int .i64 X.aT,.int .i64 X.aP,.int .i64 X.first,.bool X.cO,.slice A3 X.aC.length c3] rfl rfl (dJ _ _ _ _ (by simp)) (uf _ _ _) (by omega) (by simp only [maxLen];omega) (by omega) (by simp;omega) (wr.heap.size+1) (by simp) ?_))
        intro g1 cap w4 hown4 hgrow hat _;have Uc:=st.append (x:=⟨X,A3,c3⟩) ct.bw (by omega) hrd hgrow hown4 hat;have hb4:Below w.heap.size w w4:=((TT.trans (ct.bw.mono hsw)).alloc (by omega) _).trans (eX ((st.below ct.bw).own.alloc _) hgrow (by omega) (by simp;omega));have HST:=hide Uc;clear Uc hgrow hown4;go_wp2
        go_roundw
        case rel=>exact ⟨k+1,l'++[⟨X,A3,c3⟩],some ⟨g1,0,none⟩,cap,by omega,by go_num,by simp,by simp [HLK.out],by rw [HSX.out, ← HPK.out];simp [plain,Aside],HST.out,hb4⟩
        case measure=>simp [intOf] <;> omega
  · have hke:k=l.length:=by omega
    have hrd:=st.read (by omega)
    have hpk':plain l'=plain l:=by rw [HPK.out,hke,List.take_length]
    have HP:=hide hpk';clear hlk hke hpk';go_wp2;go_ret;exact ⟨l',A',c',HP.out,rfl,hrd,hbw⟩
theorem Gm (S:Nat→Prop) (ts:List (List UInt8)) (A:Option Addr) (c:Nat) (w:World) (hp:Reads w S 1 A ts.length c (ts.map jG)) (hl:ts.length≤1000) (hts:∀ s∈ts,s.length≤1000):
 Calls Tryz.prog 25 #[.slice A ts.length c] w fun e w'=>∃ l' A' c',plain l'=M.oU ts∧e= .returned (.slice A' l'.length c')∧qw 27 w.heap.size l' A' c' w'∧Below w.heap.size w w':=by
 obtain ⟨b1,b2,b3⟩:=hp.bd;obtain ⟨i0,hi0,hz0,hz1,hz2⟩:=info_parts zZ
 go_enter Tryz.func25,Tryz.ntmps25
 go_wp2
 go_loopw [3,14] (fun v i wr=>∃ (k:Nat) (l':List Sh) (A':Option Addr) (c':Nat),k≤ts.length∧i= .int .i64 k∧v= .slice A' l'.length c'∧l'.length=k∧Aside (plain l'=M.oU (ts.take k))∧qw 27 w.heap.size l' A' c' wr∧Below w.heap.size w wr) (fun _ i=>fun _=>ts.length - (intOf i).toNat)
 case atStart=>exact ⟨0,[],none,0,Nat.zero_le _,rfl,rfl,rfl,rfl,qw.nil _ _ _,Below.refl _ _⟩
 case round=>
  rename World=>wo
  obtain ⟨k,l',A',c',hk,rfl,rfl,hlk,hpk,st,hbw⟩:=hrel;have HPK:=hide hpk;have Gh:=hbw.size
  by_cases hlt:k<ts.length
  · obtain ⟨b,o,rfl,_,hbl,hcs⟩:=Reads.at_ (hp.below hbw) (by omega)
    have h00:=hcs k (jG ts[k]) (by rw [List.getElem?_map,List.getElem?_eq_getElem hlt];rfl);obtain ⟨s,hs⟩:∃ s,ts[k]=s:=⟨_,rfl⟩;rw [hs] at h00;have h00:wo.cell? ⟨b,o+k,none⟩=some (.string ⟨s.toArray⟩):=h00;have hpa:=fun W=>G5 s W (by have:=hts s (by rw [← hs];exact List.getElem_mem hlt);omega);have hfew:=M.Qx s
    have hsx:M.oU (ts.take (k+1))=M.oU (ts.take k)++[(M.parse s).1]:=by
     rw [List.take_succ_eq_append_getElem hlt,hs];unfold M.oU;rw [List.map_append];rfl
    obtain ⟨X,hX⟩:∃ X,(M.parse s).1=X:=⟨_,rfl⟩;obtain ⟨at_,aiB⟩:∃ X,(M.parse s).2.1=X:=⟨_,rfl⟩;obtain ⟨er_,ajv⟩:∃ X,(M.parse s).2.2=X:=⟨_,rfl⟩;rw [hX] at hfew hsx;rw [hX,aiB,ajv] at hpa;have HPA:=hide hpa;have HSX:=hide hsx
    have i1:(0:Int)≤(k:Int):=by omega
    have i2:(k:Int)<(ts.length:Int):=by omega
    have hl1:l'.length<ts.length:=by omega
    have HLK:=hide hlk;clear hlk hpa hsx hX aiB ajv hs hcs hpk
    go_upto_region 6 with (first | (go_at_call 51;refine (HPA.out _).mono ?_;rintro e w2 ⟨A2,c2,rfl,hr2,hb2⟩;have hbx:=Held.new w2 Zu 36) | (refine aO 36 (.tmp 6) (.tmp 21) rfl ?_;refine aF hbx (aA ⟨X,A2,c2⟩) rfl eG (uf _ _ _) rfl (.tmp 6) (.tmp 21) rfl rfl rfl ?_))
    obtain ⟨W2,hW2⟩:∃ W2,(w2.alloc (.cells #[.int .i64 0,.string ⟨#[]⟩,.int .i64 0,.int .i64 0,.int .i64 0,.bool false,.slice none 0 0] 36)).setCells w2.heap.size 0 (aA ⟨X,A2,c2⟩)=W2:=⟨_,rfl⟩
    have MG:Below w2.heap.size w2 W2:=by rw [← hW2];exact below_setCells _ (Nat.le_refl _) _ _ _ _ ((Below.refl _ _).alloc (Nat.le_refl _) _)
    have hby:Held W2 w2.heap.size (aA ⟨X,A2,c2⟩) 36:=by rw [← hW2];exact hbx.whole (aA ⟨X,A2,c2⟩) rfl
    have Ud:W2.heap.size=w2.heap.size+1:=by rw [← hW2,setCells_size];simp
    rw [hW2];have hpo:fP w2 _ A2 c2 X.aC:=hr2;have TT:=hbw.trans (hb2.mono Gh);have st:=st.below hb2;have hhz:=hb2.size;clear hW2 hbx h00 hr2;obtain ⟨j0,hj0,hy0,hy1,hy2⟩:=info_parts Ju;have hsb:=MG.size;have s0:=hby.cell (j:=0) rfl;have sf0:=hby.frozen 0;have s1:=hby.cell (j:=1) rfl;have sf1:=hby.frozen 1;have s2:=hby.cell (j:=2) rfl;have sf2:=hby.frozen 2;have s3:=hby.cell (j:=3) rfl;have sf3:=hby.frozen 3;have s4:=hby.cell (j:=4) rfl;have sf4:=hby.frozen 4;have s5:=hby.cell (j:=5) rfl;have sf5:=hby.frozen 5;have s6:=hby.cell (j:=6) rfl;have sf6:=hby.frozen 6;have hone:=uf (zo X 0) none 0;have hzb:=Held.newAt W2 Zu 27 Ud
    try dsimp only [Act.put]
    go_cut [9] from 24 to 36 (fun v9 wx=>v9=ptr (w2.heap.size+1)∧Xi 36 27 71 w2 (aA ⟨X,A2,c2⟩) X 0 none 0 wx)
    case first=>
     go_wp2_with (first | (refine aO 27 (.tmp 9) (.tmp 36) rfl ?_;refine aF hzb (aA ⟨zo X 0,none,0⟩) rfl bG hone rfl (.tmp 9) (.tmp 36) rfl rfl rfl ?_))
     go_meet;have hbz:=below_setCells (w2.heap.size+1) (Nat.le_of_eq Ud) (aA ⟨zo X 0,none,0⟩) 0 _ _ ((Below.refl W2.heap.size W2).alloc (Nat.le_refl _) (.cells (Zu).toArray 27));exact ⟨rfl,⟨hby.below hbz,hzb.whole _ rfl,World.ownsRow_nil _ _ _ _,MG.trans (hbz.mono MG.size),by rw [setCells_size];simp;omega⟩⟩
    case rest=>
     obtain ⟨rfl,ct0⟩:=hcut
     rename World=>W3
     clear s0 sf0 s1 sf1 s2 sf2 s3 sf3 s4 sf4 s5 sf5 s6 sf6 hzb hby;have k6:=ct0.src.cell (j:=6) rfl;have kf6:=ct0.src.frozen 6
     go_upto_region 8 with (fail)
     clear k6 kf6
     go_loopw [40] (fun i wr=>∃ (q:Nat) (A3:Option Addr) (c3:Nat),q≤X.aC.length∧i= .int .i64 q∧Xi 36 27 71 w2 (aA ⟨X,A2,c2⟩) X q A3 c3 wr) (fun i _=>X.aC.length - (intOf i).toNat)
     case atStart=>exact ⟨0,none,0,Nat.zero_le _,rfl,ct0⟩
     case round=>
      obtain ⟨q,A3,c3,hq,rfl,ct⟩:=hrel
      have hlq:(X.aC.take q).length=q:=by rw [List.length_take];omega
      by_cases hlt2:q<X.aC.length
      · obtain ⟨b5,o5,rfl,_,ar0,hc5⟩:=fP.at_ (Reads.below hpo ct.bw) q hlt2
        obtain ⟨hck1,sZ⟩:=hc5 q hlt2;clear hc5;have m6:wr.cell? ⟨w2.heap.size+1,6,none⟩=some (.slice A3 q c3):=(ct.bx.cell (j:=6) rfl).trans (by show some (Value.slice A3 (X.aC.take q).length c3)=_;rw [hlq]);have mf6:=ct.bx.frozen 6;have TY:=ct.bx.lt
        have i1:(0:Int)≤(q:Int):=by omega
        have i2:(q:Int)<(X.aC.length:Int):=by omega
        go_wp2_with (first | (at_builtin;refine wpList_append_lies _ rfl _ _ _ rfl (w2.heap.size+2) 71 j0 (.agg #[.int .i64 0,.int .i64 0]) 2 16 Tryz.underlying25 hj0 hy0 hy1 hy2 rfl (by omega) _ _ _ rfl ((ct.own.alloc _).alloc _) ⟨wr.heap.size+1,0,none⟩ 1 1 [.int .i64 X.aC[q].aT,.int .i64 X.aC[q].aP] rfl rfl (dJ _ _ _ _ (by simp)) (by simp [Value.oneCell']) (by omega) (by simp only [maxLen];omega) (by omega) (by have:=ct.sz;simp;omega) (wr.heap.size+1+1) (by simp) ?_))
        intro g1 cap w4 hown4 hgrow _ _;obtain ⟨uw,hct⟩:=Xi.append ct ((Below.refl _ _).alloc (Nat.le_refl _) _) hlt2 hgrow hown4;have n6:=uw.frozen 6;have c6:=uw.cell (j:=6) rfl;have Sr:=hide hct;clear hct hgrow hown4;go_wp2
        go_roundw
        case rel=>exact ⟨q+1,_,_,by omega,by go_num,Sr.out⟩
        case measure=>simp [intOf] <;> omega
      · have hke:q=X.aC.length:=by omega
        subst hke;have hx:=ct.bx;rw [KA] at hx;have hx:Held wr (w2.heap.size+1) [.int .i64 X.aG,.string X.kind,.int .i64 X.aT,.int .i64 X.aP,.int .i64 X.first,.bool X.cO,.slice A3 X.aC.length c3] 27:=hx;have hown:=ct.own;rw [List.take_length] at hown;have hrd:fP wr (fun b=>w2.heap.size≤b) A3 c3 X.aC:=Reads.more (Reads.je hown (fun b h=>h) (by omega)) (fun b _ h=>by have h:w2.heap.size+2≤b:=h;show w2.heap.size≤b;omega);have hsw:=TT.size;have hsr:=ct.sz;clear hown hlq
        go_wp2_with (first | (refine aB 27 (.tmp 9) rfl ?_;refine ak hx Tryz.underlying27 rfl bG rfl (.tmp 9) rfl rfl ?_) | (at_builtin;refine wpList_append_lies _ rfl _ _ _ rfl w.heap.size 27 i0 (.agg #[.int .i64 0,.string ⟨#[]⟩,.int .i64 0,.int .i64 0,.int .i64 0,.bool false,.slice none 0 0]) 7 80 Tryz.underlying24 hi0 hz0 hz1 hz2 rfl (by omega) _ _ _ rfl ((st.below ct.bw).own.alloc _) ⟨wr.heap.size,0,none⟩ 1 1 [.int .i64 X.aG,.string X.kind,.int .i64 X.aT,.int .i64 X.aP,.int .i64 X.first,.bool X.cO,.slice A3 X.aC.length c3] rfl rfl (dJ _ _ _ _ (by simp)) (uf _ _ _) (by omega) (by simp only [maxLen];omega) (by omega) (by simp;omega) (wr.heap.size+1) (by simp) ?_))
        intro g1 cap w4 hown4 hgrow hat _;have Uc:=st.append (x:=⟨X,A3,c3⟩) ct.bw (by omega) hrd hgrow hown4 hat;have hb4:Below w.heap.size w w4:=((TT.trans (ct.bw.mono hsw)).alloc (by omega) _).trans (eX ((st.below ct.bw).own.alloc _) hgrow (by omega) (by simp;omega));have HST:=hide Uc;clear Uc hgrow hown4;go_wp2
        go_roundw
        case rel=>exact ⟨k+1,l'++[⟨X,A3,c3⟩],some ⟨g1,0,none⟩,cap,by omega,by go_num,by simp,by simp [HLK.out],by rw [HSX.out, ← HPK.out];simp [plain,Aside],HST.out,hb4⟩
        case measure=>simp [intOf] <;> omega
  · have hke:k=ts.length:=by omega
    have hpk':plain l'=M.oU ts:=by rw [HPK.out,hke,List.take_length]
    have HP:=hide hpk';clear hlk hke hpk' hpk;go_wp2;go_ret;exact ⟨l',A',c',HP.out,rfl,st,hbw⟩
end Go.Proofs.YtcjglfbpjkdgiaaGreatDoor
