/- Parts of the proofs about chapter 5 (pool), joined by program. -/
import Derived.WalkMore
import Derived.Test.YtelpepbpdojikaaGreatDoorKe15
import Derived.Test.YtelpepbpdojikaaGreatDoorKe29
import Derived.Test.YtelpepbpdojikaaGreatDoorKe35
set_option linter.unusedVariables false
set_option linter.unusedSimpArgs false
namespace Go.Proofs.YtelpepbpdojikaaGreatDoor
open Go.RowKit
def zShot : List Value := [.int .i64 0, .string ⟨#[]⟩, .int .i64 0, .int .i64 0, .int .i64 0, .bool false, .slice none 0 0]
theorem turn_below {X : Nat → Prop} {B : Nat} {w W W' : World} (h : Below B w W) (ht : Turn X W W') (hX : ∀ b, X b → B ≤ b) (hB : B ≤ W.heap.size) : Below B w W' :=
  ⟨ht.os.trans h.os, ht.tape.trans h.tape, ht.output.trans h.output, Nat.le_trans h.size ht.size, fun b hb => (ht.block b (Nat.lt_of_lt_of_le hb hB) (fun hx => by have := hX b hx; omega)).trans (h.block b hb)⟩
theorem readS_range (x : M.Shot) (p : Nat) (w : List UInt8) : ((readS x p w).1 = -1 ∨ (1 ≤ (readS x p w).1 ∧ (readS x p w).1 ≤ 5)) ∧ (readS x p w).2.pots.length ≤ x.pots.length + 1 := by
  unfold readS
  split
  · split
    · exact ⟨.inr ⟨by simp, by simp⟩, by simp⟩
    · split
      · exact ⟨.inr ⟨by simp, by simp⟩, by simp⟩
      · exact ⟨.inl rfl, by simp⟩
  · split
    · split
      · exact ⟨.inr ⟨by simp, by simp⟩, by simp⟩
      · exact ⟨.inl rfl, by simp⟩
    · cases hr : M.read x p w with
      | none => exact ⟨.inl rfl, by simp⟩
      | some q =>
        have hq := read_place hr
        refine ⟨.inr ⟨by simp only; omega, by simp only; omega⟩, ?_⟩
        simp only
        unfold M.read at hr
        split at hr
        · injection hr with hr; subst hr; simp
        · split at hr
          · injection hr with hr; subst hr; simp
          · split at hr
            · injection hr with hr; subst hr; simp
            · split at hr
              · injection hr with hr; subst hr; simp
              · cases hr
structure PaSt (w : World) (ws : List (List UInt8)) (x : M.Shot) (A : Option Addr) (c : Nat) (W : World) : Prop where
  z : Held W w.heap.size zShot 66
  bx : Held W (w.heap.size + 1) (shCells ⟨x, A, c⟩) 66
  ws : Held W (w.heap.size + 2) (ws.map strV) 9
  own : W.ownsRow (w.heap.size + 3) 107 2 (.slice A x.pots.length c) x.pots.length (potCells x.pots)
  bw : Below w.heap.size w W
  sz : w.heap.size + 3 ≤ W.heap.size
theorem PaSt.read {w W W' : World} {ws : List (List UInt8)} {x x' : M.Shot} {A A' : Option Addr} {c c' : Nat} (h : PaSt w ws x A c W) (hr : RdSt W (w.heap.size + 1) (w.heap.size + 3) (shCells ⟨x', A', c'⟩) (.slice A' x'.pots.length c') x'.pots.length (potCells x'.pots) (.slice A x.pots.length c) W') : PaSt w ws x' A' c' W' := by
  have hno : ∀ b, b < w.heap.size + 3 → b ≠ w.heap.size + 1 → ¬ (b = w.heap.size + 1 ∨ (Value.slice A x.pots.length c).ownBlock = some b) := by
    rintro b hb hn (h1 | h1)
    · exact hn h1
    · have := (owns_lt h.own h1).1; omega
  exact ⟨(hr.turn.block _ h.z.lt (hno _ (by omega) (by omega))).trans h.z, hr.held, (hr.turn.block _ h.ws.lt (hno _ (by omega) (by omega))).trans h.ws, hr.own,
    turn_below h.bw hr.turn (by
      rintro b (h1 | h1)
      · omega
      · have := (owns_lt h.own h1).1; omega) (by have := h.sz; omega), Nat.le_trans h.sz hr.turn.size⟩
theorem shot_one' (x : M.Shot) (A : Option Addr) (c : Nat) : ∀ v ∈ shCells ⟨x, A, c⟩, v.oneCell' = true := by simp [shCells, Value.oneCell']
set_option maxRecDepth 100000 in
set_option maxHeartbeats 4000000 in
theorem pparse_any (l : List UInt8) (w : World) (hg : Glob w) (hl : l.length ≤ 17592186044416) :
    Calls Tryz.prog 29 #[.string ⟨l.toArray⟩] w fun e w' => ∃ A c, e = .returned (.tuple #[shotV (M.parse l).1 A c, .int .i64 (M.parse l).2.1, .int .i64 (M.parse l).2.2]) ∧ RdP w' (fun b => w.heap.size ≤ b) A c (M.parse l).1.pots ∧ Below w.heap.size w w' := by
  have hsz : (ByteArray.mk l.toArray).size = l.length := ba_size l
  by_cases hlong : 4096 < l.length
  · have hr : M.parse l = (M.blank, 0, 26) := by unfold M.parse; rw [if_pos hlong]
    rw [hr]
    go_enter Tryz.func29, Tryz.ntmps29
    go_upto_region 0 with (fail)
    go_cut [2, 3, 4] (fun v2 v3 v4 wx => v2 = ptr w.heap.size ∧ v3 = .int .i64 0 ∧ v4 = .int .i64 0 ∧ Blks w wx [(zShot, 66)])
    case first =>
      go_wp2
      go_meet
      exact ⟨rfl, rfl, rfl, (Blks.nil w).new (by simp) zShot _⟩
    case rest =>
      obtain ⟨rfl, rfl, rfl, hB⟩ := hcut
      go_wp2
      go_step3
      go_wp2_with (first | (refine is_store 66 (.tmp 2) (.tmp 15) rfl ?_; refine next_store (hB.get0 rfl) zShot rfl shot_info (shot_one' M.blank none 0) rfl (.tmp 2) (.tmp 15) rfl rfl rfl ?_))
      have hF := (hB.get0 rfl).whole zShot rfl
      try rw [Exit.noGoto_ret]
      refine bodyPost_ret (held_ret3 (p := 2) hF Tryz.underlying66 rfl shot_info rfl _ rfl) rfl ⟨none, 0, rfl, Reads.none_ _ _ _, below_setCells _ (Nat.le_refl _) _ _ _ _ ?_⟩
      exact hB.bw
  · have hr := parse_loop l hlong
    rw [hr]
    clear hr
    have hsp := psplit_any l
    obtain ⟨ws, hws⟩ : ∃ ws, M.words l = ws := ⟨_, rfl⟩
    have hwl := words_plain_len l
    have hwc : (M.words l).length = l.count 32 + 1 := words_count l []
    have hcl : l.count 32 ≤ l.length := List.count_le_length
    rw [hws] at hsp hwl hwc ⊢
    have HSP := hide (fun W h => hsp W h (by omega))
    have HWL := hide hwl
    have hwn : ws.length ≤ 4097 := by omega
    obtain ⟨rr, hrr⟩ : ∃ r, endP (loopP M.blank 0 0 ws) = r := ⟨_, rfl⟩
    rw [hrr]
    have HRR := hide hrr
    clear hsp hws hwl hwc hcl hrr
    go_enter Tryz.func29, Tryz.ntmps29
    go_upto_region 0 with (fail)
    go_cut [2, 3, 4] (fun v2 v3 v4 wx => v2 = ptr w.heap.size ∧ v3 = .int .i64 0 ∧ v4 = .int .i64 0 ∧ Blks w wx [(zShot, 66)] ∧ wx.heap.size = w.heap.size + 1)
    case first =>
      go_wp2
      go_meet
      exact ⟨rfl, rfl, rfl, (Blks.nil w).new (by simp) zShot _, by simp⟩
    case rest =>
      obtain ⟨rfl, rfl, rfl, hB, hs1⟩ := hcut
      go_wp2
      go_step3
      go_upto_region 3 with (fail)
      go_cut [5] (fun v5 wx => v5 = ptr (w.heap.size + 1) ∧ Blks w wx [(zShot, 66), (zShot, 66)] ∧ wx.heap.size = w.heap.size + 2)
      case first =>
        go_wp2
        go_meet
        exact ⟨rfl, hB.new (by simpa using hs1) zShot _, by simp [hs1]⟩
      case rest =>
        obtain ⟨rfl, hB2, hs2⟩ := hcut
        go_wp2_with (go_at_call 76; refine (HSP.out _ (hg.below hB2.bw)).mono ?_; rintro e w1 ⟨rfl, rfl⟩)
        go_step3
        go_wp2
        rename_i K1 hK1
        have J : ∀ (x : M.Shot) (p n : Int) (A : Option Addr) (c : Nat) (z1 z3 z4 z7 z9 z10 z11 z12 z13 z14 z15 z16 z17 z18 z19 z20 z21 z22 z23 z24 z25 z26 z27 z28 z29 z30 z31 z32 z33 z34 z35 z36 z37 z38 z39 z40 z41 z42 z43 z44 z45 z46 z47 z48 z49 z50 z51 : Value) (wx : World), PaSt w ws x A c wx → x.pots.length ≤ 4098 → 0 ≤ n → n ≤ 4098 → -1 ≤ p → p ≤ 5 → endP (x, p, n) = rr → K1 { tmps := #[.string ⟨l.toArray⟩, z1, ptr w.heap.size, z3, z4, ptr (w.heap.size + 1), .int .i64 p, z7, .int .i64 n, z9, z10, z11, z12, z13, z14, z15, z16, z17, z18, z19, z20, z21, z22, z23, z24, z25, z26, z27, z28, z29, z30, z31, z32, z33, z34, z35, z36, z37, z38, z39, z40, z41, z42, z43, z44, z45, z46, z47, z48, z49, z50, z51], defers := [] } wx := by
          intro x p n A c z1 z3 z4 z7 z9 z10 z11 z12 z13 z14 z15 z16 z17 z18 z19 z20 z21 z22 z23 z24 z25 z26 z27 z28 z29 z30 z31 z32 z33 z34 z35 z36 z37 z38 z39 z40 z41 z42 z43 z44 z45 z46 z47 z48 z49 z50 z51 wx st hpl hn0 hn1 hp0 hp1 hend
          refine hK1 _ _ ?_
          try dsimp only
          unfold endP at hend
          simp only at hend
          have HEND := hide hend
          clear hend hK1
          by_cases h1 : p < 0
          · have e1 : rr = (M.blank, n, 25) := by rw [← HEND.out, if_pos h1]
            subst e1
            go_wp2_with (first | (refine is_store 66 (.tmp 2) (.tmp 37) rfl ?_; refine next_store (st.z) zShot rfl shot_info (shot_one' M.blank none 0) rfl (.tmp 2) (.tmp 37) rfl rfl rfl ?_))
            have hF := (st.z).whole zShot rfl
            try rw [Exit.noGoto_ret]
            refine bodyPost_ret (held_ret3 (p := 2) hF Tryz.underlying66 rfl shot_info rfl _ rfl) rfl ⟨none, 0, rfl, Reads.none_ _ _ _, below_setCells _ (Nat.le_refl _) _ _ _ _ ?_⟩
            exact st.bw
          · by_cases h2 : p = 1
            · have e1 : rr = (M.blank, n + 1, 25) := by rw [← HEND.out, if_neg h1, if_pos h2]
              subst e1
              subst h2
              go_wp2_with (first | (refine is_store 66 (.tmp 2) (.tmp 42) rfl ?_; refine next_store (st.z) zShot rfl shot_info (shot_one' M.blank none 0) rfl (.tmp 2) (.tmp 42) rfl rfl rfl ?_))
              have hF := (st.z).whole zShot rfl
              try rw [Exit.noGoto_ret]
              refine bodyPost_ret (held_ret3 (p := 2) hF Tryz.underlying66 rfl shot_info rfl _ rfl) rfl ⟨none, 0, rfl, Reads.none_ _ _ _, below_setCells _ (Nat.le_refl _) _ _ _ _ ?_⟩
              exact st.bw
            · have h2' : (p == 1) = false := by rw [beq_eq_false_iff_ne]; exact h2
              have hrd0 : RdP wx (fun b => w.heap.size + 3 ≤ b) A c x.pots := Reads.of_own st.own (fun b h => h) (by omega)
              have hrd : RdP wx (fun b => w.heap.size ≤ b) A c x.pots := Reads.more hrd0 (fun b _ h => by omega)
              have hck := fun W (hb : Below wx.heap.size wx W) => ckShot_any (fun b => w.heap.size ≤ b) x A c W (Reads.below hrd hb)
              obtain ⟨E, hE⟩ : ∃ E, M.ckShot x = E := ⟨_, rfl⟩
              rw [hE] at hck
              have HCK := hide hck
              have HRD := hide hrd0
              have hend := HEND.out
              rw [if_neg h1, if_neg h2, hE] at hend
              clear hck hE hrd hrd0
              by_cases h3 : E = 0
              · have e1 : rr = (x, 0, 0) := by rw [← hend, if_neg (by simp [h3])]
                have h3' : (E != 0) = false := by simp [h3]
                subst e1
                clear hend h3
                go_wp2_with (first | (refine is_load 66 (.tmp 5) rfl ?_; refine next_load (st.bx) Tryz.underlying66 rfl shot_info rfl (.tmp 5) rfl rfl ?_) | (go_at_call 35; refine (HCK.out _ (Below.refl _ _)).mono ?_; rintro e w5 ⟨rfl, hb5⟩; have hz5 := st.z.below hb5; have hx5 := st.bx.below hb5) | (refine is_load 66 (.tmp 5) rfl ?_; refine next_load (hx5) Tryz.underlying66 rfl shot_info rfl (.tmp 5) rfl rfl ?_) | (refine is_store 66 (.tmp 2) (.tmp 51) rfl ?_; refine next_store (hz5) (shCells ⟨x, A, c⟩) rfl shot_info (shot_one' x A c) rfl (.tmp 2) (.tmp 51) rfl rfl rfl ?_))
                have hF := hz5.whole (shCells ⟨x, A, c⟩) rfl
                try rw [Exit.noGoto_ret]
                refine bodyPost_ret (held_ret3 (p := 2) hF Tryz.underlying66 rfl shot_info rfl _ rfl) rfl ⟨A, c, rfl, ?_, below_setCells _ (Nat.le_refl _) _ _ _ _ (st.bw.trans (hb5.mono st.bw.size))⟩
                exact Reads.more (Reads.keep (Reads.below HRD.out hb5) (by rw [setCells_size]; exact Nat.le_refl _) (fun b o hb hlt => World.cell?_of_block (Held.blk_sets (g := w.heap.size) (b := b) (by have hb : w.heap.size + 3 ≤ b := hb; omega) _ _ _))) (fun b _ h => by have h : w.heap.size + 3 ≤ b := h; show w.heap.size ≤ b; omega)
              · have e1 : rr = (M.blank, 0, E) := by rw [← hend, if_pos (by simpa using h3)]
                have h3' : (E != 0) = true := by simp [h3]
                subst e1
                clear hend h3
                go_wp2_with (first | (refine is_load 66 (.tmp 5) rfl ?_; refine next_load (st.bx) Tryz.underlying66 rfl shot_info rfl (.tmp 5) rfl rfl ?_) | (go_at_call 35; refine (HCK.out _ (Below.refl _ _)).mono ?_; rintro e w5 ⟨rfl, hb5⟩; have hz5 := st.z.below hb5; have hx5 := st.bx.below hb5) | (refine is_store 66 (.tmp 2) (.tmp 49) rfl ?_; refine next_store (hz5) zShot rfl shot_info (shot_one' M.blank none 0) rfl (.tmp 2) (.tmp 49) rfl rfl rfl ?_))
                have hF := (hz5).whole zShot rfl
                try rw [Exit.noGoto_ret]
                refine bodyPost_ret (held_ret3 (p := 2) hF Tryz.underlying66 rfl shot_info rfl _ rfl) rfl ⟨none, 0, rfl, Reads.none_ _ _ _, below_setCells _ (Nat.le_refl _) _ _ _ _ ?_⟩
                exact st.bw.trans (hb5.mono st.bw.size)
        have HJ := hide J
        clear J hK1
        have hst0 : PaSt w ws M.blank none 0 (wc.alloc (.cells (ws.map strV).toArray 9)) :=
          ⟨(hB2.get0 rfl).alloc _, (hB2.get 1 rfl).alloc _, Held.newAt _ _ _ hs2, World.ownsRow_nil _ _ _ _, hB2.bw.alloc (by omega) _, by simp [hs2]⟩
        go_loopw [6, 8, 20] (fun pl at_ i wr => ∃ (k pn : Nat) (x : M.Shot) (A : Option Addr) (c : Nat), k ≤ ws.length ∧ i = .int .i64 k ∧ at_ = .int .i64 k ∧ pl = .int .i64 pn ∧ pn ≤ 5 ∧ loopP x pn k (ws.drop k) = loopP M.blank 0 0 ws ∧ x.pots.length ≤ k ∧ PaSt w ws x A c wr) (fun _ _ i _ => ws.length - (intOf i).toNat)
        case atStart => exact ⟨0, 0, M.blank, none, 0, Nat.zero_le _, rfl, rfl, rfl, by omega, rfl, Nat.le_refl _, hst0⟩
        case round =>
          obtain ⟨k, pn, x, A, c, hk, rfl, rfl, rfl, hpn, hlp, hpl, st⟩ := hrel
          by_cases hlt : k < ws.length
          · rw [List.drop_eq_getElem_cons hlt, loopP] at hlp
            have hwl := HWL.out _ (List.getElem_mem hlt)
            have hcell := st.ws.cell (j := k) (v := strV ws[k]) (by rw [List.getElem?_map, List.getElem?_eq_getElem hlt]; rfl)
            obtain ⟨wk, hwk⟩ : ∃ q, ws[k] = q := ⟨_, rfl⟩
            rw [hwk] at hlp hwl hcell
            unfold strV at hcell
            clear hwk
            by_cases hwe : wk = []
            · subst hwe
              rw [if_pos rfl] at hlp
              have HLP := hide hlp
              clear hlp
              go_wp2
              exact HJ.out x (-1) ((k : Int) + 1) A c _ _ _ _ _ _ _ _ _ _ _ _ _ _ _ _ _ _ _ _ _ _ _ _ _ _ _ _ _ _ _ _ _ _ _ _ _ _ _ _ _ _ _ _ _ _ _ _ st (by omega) (by omega) (by omega) (by omega) (by omega) (by rw [HLP.out]; exact HRR.out)
            · have hrd := read_any x pn wk (w.heap.size + 1) (w.heap.size + 3) A c wr (hg.below st.bw) (by omega) hwe hpn st.bx st.own st.sz (by omega) (by omega)
              rw [if_neg hwe, Int.toNat_natCast] at hlp
              have hrange := readS_range x pn wk
              have e2 : (wk == []) = false := by simpa using hwe
              obtain ⟨q, hq⟩ : ∃ q, readS x pn wk = q := ⟨_, rfl⟩
              rw [hq] at hrd hlp hrange
              obtain ⟨p', x'⟩ := q
              simp only at hrd hlp hrange
              have HRD := hide hrd
              have HRG := hide hrange
              clear hrd hq hwe hrange
              by_cases hp' : p' < 0
              · rw [if_pos hp'] at hlp
                have HLP := hide hlp
                clear hlp
                go_wp2_with (go_at_call 77; refine HRD.out.mono ?_; rintro e w5 ⟨A', c', rfl, hr⟩)
                exact HJ.out x' p' ((k : Int) + 1) A' c' _ _ _ _ _ _ _ _ _ _ _ _ _ _ _ _ _ _ _ _ _ _ _ _ _ _ _ _ _ _ _ _ _ _ _ _ _ _ _ _ _ _ _ _ _ _ _ _ (st.read hr) (by have := HRG.out; omega) (by omega) (by omega) (by have := HRG.out; omega) (by omega) (by rw [HLP.out]; exact HRR.out)
              · rw [if_neg hp'] at hlp
                obtain ⟨pn', rfl⟩ := Int.eq_ofNat_of_zero_le (show 0 ≤ p' by omega)
                have HLP := hide hlp
                have hpn' : pn' ≤ 5 := by have := HRG.out; omega
                clear hlp hp'
                go_wp2_with (go_at_call 77; refine HRD.out.mono ?_; rintro e w5 ⟨A', c', rfl, hr⟩)
                go_roundw
                case rel => exact ⟨k + 1, pn', x', A', c', by omega, by go_num, by go_num, rfl, hpn', by rw [← HLP.out]; congr 1, by have := HRG.out; omega, st.read hr⟩
                case measure => simp [intOf] <;> omega
          · have hke : k = ws.length := by omega
            subst hke
            rw [List.drop_length, loopP] at hlp
            have HLP := hide hlp
            clear hlp
            go_wp2
            exact HJ.out x pn (ws.length : Int) A c _ _ _ _ _ _ _ _ _ _ _ _ _ _ _ _ _ _ _ _ _ _ _ _ _ _ _ _ _ _ _ _ _ _ _ _ _ _ _ _ _ _ _ _ _ _ _ _ st (by omega) (by omega) (by omega) (by omega) (by omega) (by rw [HLP.out]; exact HRR.out)
end Go.Proofs.YtelpepbpdojikaaGreatDoor
namespace Go.Proofs.YtelpepbpdojikaaGreatDoor
open Go.RowKit
theorem lib_join (a : List UInt8) (l : List (List UInt8)) : Lib.join (a :: l) [32] = M.join (a :: l) := by
  rw [Lib.join_cons, M.join, Lib.joinTail, List.flatMap_def]
  rfl
def pc0 (x : M.Shot) : List (List UInt8) := [M.letter x.player, x.kind.toList]
def pc1 (x : M.Shot) : List (List UInt8) := pc0 x ++ if x.ball ≠ 0 then [M.pairText 99 x.ball x.pocket] else []
def pc2 (x : M.Shot) : List (List UInt8) := pc1 x ++ if x.first ≠ 0 then [102 :: M.dec x.first] else []
def pc3 (x : M.Shot) : List (List UInt8) := pc2 x ++ if x.cushion = true then [[43]] else []
def pcK (x : M.Shot) (k : Nat) : List (List UInt8) := pc3 x ++ (x.pots.take k).map fun p => M.pairText 112 p.ball p.pocket
theorem pcK_zero (x : M.Shot) : pcK x 0 = pc3 x := by simp [pcK]
theorem pcK_succ (x : M.Shot) (k : Nat) (h : k < x.pots.length) : pcK x (k + 1) = pcK x k ++ [M.pairText 112 x.pots[k].ball x.pots[k].pocket] := by
  unfold pcK
  rw [List.take_succ_eq_append_getElem h, List.map_append, List.append_assoc]
  rfl
theorem pcK_all (x : M.Shot) : pcK x x.pots.length = M.pieces x := by
  unfold pcK pc3 pc2 pc1 pc0 M.pieces
  rw [List.take_length, M.tail_assoc]
  simp only [List.append_assoc, List.cons_append, List.nil_append]
theorem pc_len (x : M.Shot) : (pc0 x).length = 2 ∧ (pc1 x).length ≤ 3 ∧ (pc2 x).length ≤ 4 ∧ (pc3 x).length ≤ 5 := by
  have h0 : (pc0 x).length = 2 := rfl
  have h1 : (pc1 x).length ≤ 3 := by unfold pc1; rw [List.length_append, h0]; split <;> simp
  have h2 : (pc2 x).length ≤ 4 := by unfold pc2; rw [List.length_append]; split <;> simp <;> omega
  have h3 : (pc3 x).length ≤ 5 := by unfold pc3; rw [List.length_append]; split <;> simp <;> omega
  exact ⟨h0, h1, h2, h3⟩
theorem pcK_len (x : M.Shot) (k : Nat) (h : k ≤ x.pots.length) : (pcK x k).length ≤ 5 + k := by
  have := (pc_len x).2.2.2
  unfold pcK
  rw [List.length_append, List.length_map, List.length_take]
  omega
theorem join_own (l : List (List UInt8)) (hne : l ≠ []) (A : Option Addr) (c D : Nat) (w : World) (h : w.ownsRow D 9 1 (.slice A l.length c) l.length (l.map strV)) (hlen : (M.join l).length ≤ 1000) (hn : l.length ≤ 100000) :
    Calls Tryz.prog 75 #[.slice A l.length c, .string ⟨#[32]⟩] w fun e w' => e = .returned (.string ⟨(M.join l).toArray⟩) ∧ Below w.heap.size w w' := by
  obtain ⟨a, r, rfl⟩ := List.exists_cons_of_ne_nil hne
  have hr := Reads.of_own (S := fun _ => True) h (fun _ _ => trivial) (by omega)
  obtain ⟨b, o, rfl, _, hb, hc⟩ := hr.at_ (by simp)
  have hm : (((a :: r).map fun q => ByteArray.mk q.toArray).map (·.data.toList)) = a :: r := by
    rw [List.map_map]
    conv => rhs; rw [← List.map_id (a :: r)]
    exact List.map_congr_left fun q _ => by simp
  have := Tryz.strings_Join b o c ((a :: r).map fun q => ⟨q.toArray⟩) ⟨#[32]⟩ w (fun j x hj => by
    rw [List.getElem?_map] at hj
    cases hq : (a :: r)[j]? with
    | none => rw [hq] at hj; cases hj
    | some q =>
      rw [hq] at hj
      obtain rfl : ByteArray.mk q.toArray = x := Option.some.inj hj
      exact hc j _ (by rw [List.getElem?_map, hq]; rfl)) hb (by rw [List.length_map]; omega) (by rw [List.length_map]; exact hr.bd.1) (by rw [hm, show (ByteArray.mk #[32]).data.toList = [32] from rfl, lib_join]; omega)
  rw [hm, List.length_map, show (ByteArray.mk #[32]).data.toList = [32] from rfl, lib_join] at this
  exact this
set_option maxRecDepth 100000 in
set_option maxHeartbeats 4000000 in
theorem pprint_any (S : Nat → Prop) (x : M.Shot) (P : Option Addr) (d : Nat) (w : World) (hp : RdP w S P d x.pots) :
    Calls Tryz.prog 28 #[shotV x P d] w fun e w' => e = .returned (.tuple #[.string (if M.ckShot x = 0 then ⟨(M.print x).toArray⟩ else ⟨#[]⟩), .int .i64 (M.ckShot x)]) ∧ Below w.heap.size w w' := by
  obtain ⟨b1, b2, b3⟩ := hp.bd
  obtain ⟨i0, hi, hz0, hz1, hz2⟩ := info_parts string_info
  have hck := fun W (hb : Below w.heap.size w W) => ckShot_any S x P d W (Reads.below hp hb)
  obtain ⟨E, hE⟩ : ∃ E, M.ckShot x = E := ⟨_, rfl⟩
  rw [hE] at hck ⊢
  have HCK := hide hck
  clear hck
  by_cases h0 : E = 0
  · subst h0
    rw [if_pos rfl]
    have hx := M.shotOk hE
    obtain ⟨x1, x2⟩ := hx.ball
    obtain ⟨x3, x4⟩ := hx.pocket
    obtain ⟨x5, x6⟩ := hx.first
    have y2 : x.ball ≤ 99 := by omega
    have y4 : x.pocket ≤ 99 := by omega
    have hpots := hide hx.pots
    have hfew := hx.few
    have hpl := hx.player
    have l1 := M.dec_length x.first
    have hit : ∀ W, Calls Tryz.prog 74 #[.int .i64 x.first] W fun e w' => e = .returned (.string ⟨(M.dec x.first).toArray⟩) ∧ w' = W := fun W => by
      obtain ⟨i, hi⟩ := Int.eq_ofNat_of_zero_le x5
      rw [hi]
      have := Tryz.strconv_Itoa_small i (by omega) W
      rwa [decDigits_dec (by omega)] at this
    have HIT := hide hit
    have HX := hide hx
    clear hit hx hE
    go_enter Tryz.func28, Tryz.ntmps28
    go_upto_region 1 with (fail)
    go_cut [4] from 8 to 10 (fun v4 wx => v4 = .int .i64 0 ∧ Held wx w.heap.size (shCells ⟨x, P, d⟩) 66 ∧ Below w.heap.size w wx)
    case first =>
      have hB := (Blks.nil w).new (by simp) (shCells ⟨x, P, d⟩) 66
      go_wp2_with (first | (refine is_load 66 (.tmp 1) rfl ?_; refine next_load (hB.get0 rfl) Tryz.underlying66 rfl shot_info rfl (.tmp 1) rfl rfl ?_) | (go_at_call 35; refine (HCK.out _ hB.bw).mono ?_; rintro e w5 ⟨rfl, hb5⟩))
      go_meet
      exact ⟨rfl, (hB.get0 rfl).below hb5, hB.bw.trans (hb5.mono hB.bw.size)⟩
    case rest =>
      obtain ⟨rfl, hx0, hbw⟩ := hcut
      go_upto_region 4 with (fail)
      have hlt0 := hx0.lt
      go_cut [5] from 13 to 22 (fun v5 wx => ∃ A c, v5 = .slice A (pc0 x).length c ∧ Held wx w.heap.size (shCells ⟨x, P, d⟩) 66 ∧ wx.ownsRow (w.heap.size + 1) 9 1 (.slice A (pc0 x).length c) (pc0 x).length ((pc0 x).map strV) ∧ Below w.heap.size w wx)
      case first =>
        rcases hpl with hpp | hpp
        · have k0 : wc.cell? ⟨w.heap.size, 0, none⟩ = some (.int .i64 0) := (hx0.cell (j := 0) rfl).trans (by rw [hpp])
          have k1 := hx0.cell (j := 1) rfl
          have hwr : IntKind.i64.wrap 1 = 1 := IntWalk.i64_in _ (by decide)
          refine wp_region_held_drew (S := (fun w' : World => ∀ q, w'.cell? ⟨w.heap.size, q, none⟩ = wc.cell? ⟨w.heap.size, q, none⟩)) (by kernel_rfl) ?q1xstart (fun hHeld => ?_)
          case q1xstart => first | exact fun q => rfl | exact fun q => World.cell?_alloc_lt _ _ ⟨_, q, none⟩ hlt0
          refine wpAnyH_take (i := 0) (oi := _) (v := ?q1xv0) (ga rfl) (by kernel_rfl) (by kernel_rfl) (by kernel_rfl) (fun _ _ _ h => h) (Or.inl ⟨by rfl, ?q1xy0⟩) (by assumption) ?_
          case q1xy0 => (intro w hSw; (try dsimp only at hSw); go_simp; try with_reducible rfl)
          try simp only [Act.put, la, lz, ls]
          refine wpAnyH_take (i := 1) (oi := _) (v := ?q1xv1) (ga rfl) (by kernel_rfl) (by kernel_rfl) (by kernel_rfl) (fun _ _ _ h => h) (Or.inl ⟨by rfl, ?q1xy1⟩) (by assumption) ?_
          case q1xy1 => (intro w hSw; (try dsimp only at hSw); go_simp; try with_reducible rfl)
          try simp only [Act.put, la, lz, ls]
          refine wpAnyH_take (i := 2) (oi := _) (v := ?q1xv2) (ga rfl) (by kernel_rfl) (by kernel_rfl) (by kernel_rfl) (fun _ _ _ h => h) (Or.inl ⟨by rfl, ?q1xy2⟩) (by assumption) ?_
          case q1xy2 => (intro w hSw; (try dsimp only at hSw); go_simp; try with_reducible rfl)
          try simp only [Act.put, la, lz, ls]
          refine wpAnyH_take (i := 3) (oi := _) (v := ?q1xv3) (ga rfl) (by kernel_rfl) (by kernel_rfl) (by kernel_rfl) (fun _ _ _ h => h) (Or.inl ⟨by rfl, ?q1xy3⟩) (by assumption) ?_
          case q1xy3 => (intro w hSw; (try dsimp only at hSw); go_simp; try with_reducible rfl)
          try simp only [Act.put, la, lz, ls]
          refine wpAnyH_take (i := 4) (oi := _) (v := ?q1xv4) (ga rfl) (by kernel_rfl) (by kernel_rfl) (by kernel_rfl) (fun _ _ _ h => h) (Or.inl ⟨by rfl, ?q1xy4⟩) (by assumption) ?_
          case q1xy4 => (intro w hSw; (try dsimp only at hSw); go_simp; try with_reducible rfl)
          try simp only [Act.put, la, lz, ls]
          refine wpAnyH_take (i := 5) (oi := _) (v := ?q1xv5) (ga rfl) (by kernel_rfl) (by kernel_rfl) (by kernel_rfl) (fun _ _ _ h => h) (Or.inl ⟨by rfl, ?q1xy5⟩) (by assumption) ?_
          case q1xy5 => (intro w hSw; (try dsimp only at hSw); go_simp; try with_reducible rfl)
          try simp only [Act.put, la, lz, ls]
          refine wpAnyH_take (i := 6) (oi := _) (v := ?q1xv6) (ga rfl) (by kernel_rfl) (by kernel_rfl) (by kernel_rfl) (fun _ _ _ h => h) (Or.inl ⟨by rfl, ?q1xy6⟩) (by assumption) ?_
          case q1xy6 => (intro w hSw; (try dsimp only at hSw); go_simp; try with_reducible rfl)
          try simp only [Act.put, la, lz, ls]
          refine wpAnyH_take (i := 7) (oi := _) (v := ?q1xv7) (ga rfl) (by kernel_rfl) (by kernel_rfl) (by kernel_rfl) (fun _ _ _ h => h) (Or.inl ⟨by rfl, ?q1xy7⟩) (by assumption) ?_
          case q1xy7 => (intro w hSw; (try dsimp only at hSw); go_simp; try with_reducible rfl)
          try simp only [Act.put, la, lz, ls]
          refine wpAnyH_ready (rs := [8]) (by kernel_rfl) (by simp) ?_
          refine AllReadyH.cons (o := _) (ga rfl) (fun K hK => ?_) AllReadyH.nil
          go_simp
          refine hK.out _ _ ?q1xh8 (fun hHeld => ?_)
          case q1xh8 => (first | (first | exact fun q => rfl | exact fun q => World.cell?_alloc_lt _ _ ⟨_, q, none⟩ hlt0) | (dsimp only; first | exact fun q => rfl | exact fun q => World.cell?_alloc_lt _ _ ⟨_, q, none⟩ hlt0))
          clear hK K
          try simp only [Act.put, la, lz, ls]
          refine wpAnyH_take (i := 9) (oi := _) (v := ?q1xv9) (ga rfl) (by kernel_rfl) (by kernel_rfl) (by kernel_rfl) (fun _ _ _ h => h) (Or.inl ⟨by rfl, ?q1xy9⟩) (by assumption) ?_
          case q1xy9 => (intro w hSw; (try dsimp only at hSw); go_simp; try with_reducible rfl)
          try simp only [Act.put, la, lz, ls]
          refine wpAnyH_done (by kernel_rfl) ?_ _
          go_wp2
          go_meet
          have e0 : M.letter x.player = [97] := by rw [hpp]; rfl
          have hl := World.ownsRow_lit (base := w.heap.size + 1) (e := 9) (size := 1) wc #[.string ⟨#[97]⟩, .string x.kind] 2 (by have := hlt0; show _ ≤ wc.heap.size; omega) (by decide) rfl
          have ee : (ByteArray.mk #[97, 98]).extract 0 1 = ⟨#[97]⟩ := by decide
          rw [ee]
          have em : (pc0 x).map strV = [.string ⟨#[97]⟩, .string x.kind] := by
            unfold pc0 strV
            rw [e0, List.map_cons, List.map_cons, List.map_nil, ← ba_kind]
          refine ⟨some ⟨wc.heap.size, 0, none⟩, 2, rfl, (hx0.alloc _).drew, ?_, (hbw.alloc hbw.size _).drew⟩
          rw [em]
          exact hl
        · have k0 : wc.cell? ⟨w.heap.size, 0, none⟩ = some (.int .i64 1) := (hx0.cell (j := 0) rfl).trans (by rw [hpp])
          have k1 := hx0.cell (j := 1) rfl
          have hwr : IntKind.i64.wrap 2 = 2 := IntWalk.i64_in _ (by decide)
          refine wp_region_held_drew (S := (fun w' : World => ∀ q, w'.cell? ⟨w.heap.size, q, none⟩ = wc.cell? ⟨w.heap.size, q, none⟩)) (by kernel_rfl) ?q2xstart (fun hHeld => ?_)
          case q2xstart => first | exact fun q => rfl | exact fun q => World.cell?_alloc_lt _ _ ⟨_, q, none⟩ hlt0
          refine wpAnyH_take (i := 0) (oi := _) (v := ?q2xv0) (ga rfl) (by kernel_rfl) (by kernel_rfl) (by kernel_rfl) (fun _ _ _ h => h) (Or.inl ⟨by rfl, ?q2xy0⟩) (by assumption) ?_
          case q2xy0 => (intro w hSw; (try dsimp only at hSw); go_simp; try with_reducible rfl)
          try simp only [Act.put, la, lz, ls]
          refine wpAnyH_take (i := 1) (oi := _) (v := ?q2xv1) (ga rfl) (by kernel_rfl) (by kernel_rfl) (by kernel_rfl) (fun _ _ _ h => h) (Or.inl ⟨by rfl, ?q2xy1⟩) (by assumption) ?_
          case q2xy1 => (intro w hSw; (try dsimp only at hSw); go_simp; try with_reducible rfl)
          try simp only [Act.put, la, lz, ls]
          refine wpAnyH_take (i := 2) (oi := _) (v := ?q2xv2) (ga rfl) (by kernel_rfl) (by kernel_rfl) (by kernel_rfl) (fun _ _ _ h => h) (Or.inl ⟨by rfl, ?q2xy2⟩) (by assumption) ?_
          case q2xy2 => (intro w hSw; (try dsimp only at hSw); go_simp; try with_reducible rfl)
          try simp only [Act.put, la, lz, ls]
          refine wpAnyH_take (i := 3) (oi := _) (v := ?q2xv3) (ga rfl) (by kernel_rfl) (by kernel_rfl) (by kernel_rfl) (fun _ _ _ h => h) (Or.inl ⟨by rfl, ?q2xy3⟩) (by assumption) ?_
          case q2xy3 => (intro w hSw; (try dsimp only at hSw); go_simp; try with_reducible rfl)
          try simp only [Act.put, la, lz, ls]
          refine wpAnyH_take (i := 4) (oi := _) (v := ?q2xv4) (ga rfl) (by kernel_rfl) (by kernel_rfl) (by kernel_rfl) (fun _ _ _ h => h) (Or.inl ⟨by rfl, ?q2xy4⟩) (by assumption) ?_
          case q2xy4 => (intro w hSw; (try dsimp only at hSw); go_simp; try with_reducible rfl)
          try simp only [Act.put, la, lz, ls]
          refine wpAnyH_take (i := 5) (oi := _) (v := ?q2xv5) (ga rfl) (by kernel_rfl) (by kernel_rfl) (by kernel_rfl) (fun _ _ _ h => h) (Or.inl ⟨by rfl, ?q2xy5⟩) (by assumption) ?_
          case q2xy5 => (intro w hSw; (try dsimp only at hSw); go_simp; try with_reducible rfl)
          try simp only [Act.put, la, lz, ls]
          refine wpAnyH_take (i := 6) (oi := _) (v := ?q2xv6) (ga rfl) (by kernel_rfl) (by kernel_rfl) (by kernel_rfl) (fun _ _ _ h => h) (Or.inl ⟨by rfl, ?q2xy6⟩) (by assumption) ?_
          case q2xy6 => (intro w hSw; (try dsimp only at hSw); go_simp; try with_reducible rfl)
          try simp only [Act.put, la, lz, ls]
          refine wpAnyH_take (i := 7) (oi := _) (v := ?q2xv7) (ga rfl) (by kernel_rfl) (by kernel_rfl) (by kernel_rfl) (fun _ _ _ h => h) (Or.inl ⟨by rfl, ?q2xy7⟩) (by assumption) ?_
          case q2xy7 => (intro w hSw; (try dsimp only at hSw); go_simp; try with_reducible rfl)
          try simp only [Act.put, la, lz, ls]
          refine wpAnyH_ready (rs := [8]) (by kernel_rfl) (by simp) ?_
          refine AllReadyH.cons (o := _) (ga rfl) (fun K hK => ?_) AllReadyH.nil
          go_simp
          refine hK.out _ _ ?q2xh8 (fun hHeld => ?_)
          case q2xh8 => (first | (first | exact fun q => rfl | exact fun q => World.cell?_alloc_lt _ _ ⟨_, q, none⟩ hlt0) | (dsimp only; first | exact fun q => rfl | exact fun q => World.cell?_alloc_lt _ _ ⟨_, q, none⟩ hlt0))
          clear hK K
          try simp only [Act.put, la, lz, ls]
          refine wpAnyH_take (i := 9) (oi := _) (v := ?q2xv9) (ga rfl) (by kernel_rfl) (by kernel_rfl) (by kernel_rfl) (fun _ _ _ h => h) (Or.inl ⟨by rfl, ?q2xy9⟩) (by assumption) ?_
          case q2xy9 => (intro w hSw; (try dsimp only at hSw); go_simp; try with_reducible rfl)
          try simp only [Act.put, la, lz, ls]
          refine wpAnyH_done (by kernel_rfl) ?_ _
          go_wp2
          go_meet
          have e0 : M.letter x.player = [98] := by rw [hpp]; rfl
          have hl := World.ownsRow_lit (base := w.heap.size + 1) (e := 9) (size := 1) wc #[.string ⟨#[98]⟩, .string x.kind] 2 (by have := hlt0; show _ ≤ wc.heap.size; omega) (by decide) rfl
          have ee : (ByteArray.mk #[97, 98]).extract 1 2 = ⟨#[98]⟩ := by decide
          rw [ee]
          have em : (pc0 x).map strV = [.string ⟨#[98]⟩, .string x.kind] := by
            unfold pc0 strV
            rw [e0, List.map_cons, List.map_cons, List.map_nil, ← ba_kind]
          refine ⟨some ⟨wc.heap.size, 0, none⟩, 2, rfl, (hx0.alloc _).drew, ?_, (hbw.alloc hbw.size _).drew⟩
          rw [em]
          exact hl
      case rest =>
        obtain ⟨A, c, hrel⟩ := hcut
        obtain ⟨wx, hwx⟩ : ∃ v, wc = v := ⟨_, rfl⟩
        rw [hwx] at hrel ⊢
        clear hwx hx0 hbw hlt0
        obtain ⟨n0, n1, n2, n3⟩ := pc_len x
        go_upto_region 5 with (fail)
        rename_i K3 hK3 K9 hK9
        have J1 : ∀ (A : Option Addr) (c : Nat) (v5 : Value) (z2 z3 z4 z6 z7 z8 z9 z10 z11 z12 z13 z14 z15 z16 z17 z18 z19 z20 z21 z22 z23 z24 z25 z26 z27 z28 z29 z30 z31 z32 z33 z34 z35 z36 z37 z38 z39 z40 z41 z42 z43 z44 z45 z46 z47 z48 z49 z50 z51 z52 z53 z54 z55 z56 z57 z58 z59 z60 z61 z62 z63 z64 z65 : Value) (wx : World), (v5 = .slice A (pc1 x).length c ∧ Held wx w.heap.size (shCells ⟨x, P, d⟩) 66 ∧ wx.ownsRow (w.heap.size + 1) 9 1 (.slice A (pc1 x).length c) (pc1 x).length ((pc1 x).map strV) ∧ Below w.heap.size w wx) → K3 { tmps := #[shotV x P d, ptr w.heap.size, z2, z3, z4, v5, z6, z7, z8, z9, z10, z11, z12, z13, z14, z15, z16, z17, z18, z19, z20, z21, z22, z23, z24, z25, z26, z27, z28, z29, z30, z31, z32, z33, z34, z35, z36, z37, z38, z39, z40, z41, z42, z43, z44, z45, z46, z47, z48, z49, z50, z51, z52, z53, z54, z55, z56, z57, z58, z59, z60, z61, z62, z63, z64, z65], defers := [] } wx := by
          intro A c v5 z2 z3 z4 z6 z7 z8 z9 z10 z11 z12 z13 z14 z15 z16 z17 z18 z19 z20 z21 z22 z23 z24 z25 z26 z27 z28 z29 z30 z31 z32 z33 z34 z35 z36 z37 z38 z39 z40 z41 z42 z43 z44 z45 z46 z47 z48 z49 z50 z51 z52 z53 z54 z55 z56 z57 z58 z59 z60 z61 z62 z63 z64 z65 wx hrel
          refine hK3 _ _ ?_
          try dsimp only
          go_upto_region 7 with (fail)
          rename_i K2 hK2 K9 hK9
          have J2 : ∀ (A : Option Addr) (c : Nat) (v5 : Value) (z2 z3 z4 z6 z7 z8 z9 z10 z11 z12 z13 z14 z15 z16 z17 z18 z19 z20 z21 z22 z23 z24 z25 z26 z27 z28 z29 z30 z31 z32 z33 z34 z35 z36 z37 z38 z39 z40 z41 z42 z43 z44 z45 z46 z47 z48 z49 z50 z51 z52 z53 z54 z55 z56 z57 z58 z59 z60 z61 z62 z63 z64 z65 : Value) (wx : World), (v5 = .slice A (pc2 x).length c ∧ Held wx w.heap.size (shCells ⟨x, P, d⟩) 66 ∧ wx.ownsRow (w.heap.size + 1) 9 1 (.slice A (pc2 x).length c) (pc2 x).length ((pc2 x).map strV) ∧ Below w.heap.size w wx) → K2 { tmps := #[shotV x P d, ptr w.heap.size, z2, z3, z4, v5, z6, z7, z8, z9, z10, z11, z12, z13, z14, z15, z16, z17, z18, z19, z20, z21, z22, z23, z24, z25, z26, z27, z28, z29, z30, z31, z32, z33, z34, z35, z36, z37, z38, z39, z40, z41, z42, z43, z44, z45, z46, z47, z48, z49, z50, z51, z52, z53, z54, z55, z56, z57, z58, z59, z60, z61, z62, z63, z64, z65], defers := [] } wx := by
            intro A c v5 z2 z3 z4 z6 z7 z8 z9 z10 z11 z12 z13 z14 z15 z16 z17 z18 z19 z20 z21 z22 z23 z24 z25 z26 z27 z28 z29 z30 z31 z32 z33 z34 z35 z36 z37 z38 z39 z40 z41 z42 z43 z44 z45 z46 z47 z48 z49 z50 z51 z52 z53 z54 z55 z56 z57 z58 z59 z60 z61 z62 z63 z64 z65 wx hrel
            refine hK2 _ _ ?_
            try dsimp only
            go_upto_region 9 with (fail)
            rename_i K1 hK1 K9 hK9
            have J3 : ∀ (A : Option Addr) (c : Nat) (v5 : Value) (z2 z3 z4 z6 z7 z8 z9 z10 z11 z12 z13 z14 z15 z16 z17 z18 z19 z20 z21 z22 z23 z24 z25 z26 z27 z28 z29 z30 z31 z32 z33 z34 z35 z36 z37 z38 z39 z40 z41 z42 z43 z44 z45 z46 z47 z48 z49 z50 z51 z52 z53 z54 z55 z56 z57 z58 z59 z60 z61 z62 z63 z64 z65 : Value) (wx : World), (v5 = .slice A (pc3 x).length c ∧ Held wx w.heap.size (shCells ⟨x, P, d⟩) 66 ∧ wx.ownsRow (w.heap.size + 1) 9 1 (.slice A (pc3 x).length c) (pc3 x).length ((pc3 x).map strV) ∧ Below w.heap.size w wx) → K1 { tmps := #[shotV x P d, ptr w.heap.size, z2, z3, z4, v5, z6, z7, z8, z9, z10, z11, z12, z13, z14, z15, z16, z17, z18, z19, z20, z21, z22, z23, z24, z25, z26, z27, z28, z29, z30, z31, z32, z33, z34, z35, z36, z37, z38, z39, z40, z41, z42, z43, z44, z45, z46, z47, z48, z49, z50, z51, z52, z53, z54, z55, z56, z57, z58, z59, z60, z61, z62, z63, z64, z65], defers := [] } wx := by
              intro A c v5 z2 z3 z4 z6 z7 z8 z9 z10 z11 z12 z13 z14 z15 z16 z17 z18 z19 z20 z21 z22 z23 z24 z25 z26 z27 z28 z29 z30 z31 z32 z33 z34 z35 z36 z37 z38 z39 z40 z41 z42 z43 z44 z45 z46 z47 z48 z49 z50 z51 z52 z53 z54 z55 z56 z57 z58 z59 z60 z61 z62 z63 z64 z65 wx hrel
              refine hK1 _ _ ?_
              try dsimp only
              obtain ⟨rfl, hx0, hown, hbw⟩ := hrel
              have k6 := hx0.cell (j := 6) rfl
              rw [← pcK_zero] at hown ⊢
              go_wp2
              go_loopw [5, 51] (fun v5 i wr => ∃ (k : Nat) (A : Option Addr) (c : Nat), k ≤ x.pots.length ∧ i = .int .i64 k ∧ v5 = .slice A (pcK x k).length c ∧ Held wr w.heap.size (shCells ⟨x, P, d⟩) 66 ∧ wr.ownsRow (w.heap.size + 1) 9 1 (.slice A (pcK x k).length c) (pcK x k).length ((pcK x k).map strV) ∧ Below w.heap.size w wr) (fun _ i _ => x.pots.length - (intOf i).toNat)
              case atStart => exact ⟨0, _, _, Nat.zero_le _, rfl, rfl, hx0, hown, hbw⟩
              case round =>
                obtain ⟨k, A1, c1, hk, rfl, rfl, hx1, hown1, hb1⟩ := hrel
                have hszr := hb1.size
                have hltr := hx1.lt
                have hkl := pcK_len x k hk
                by_cases hlt : k < x.pots.length
                · obtain ⟨b, o, rfl, hS, hb, hc⟩ := (hp.below hb1).at_ k hlt
                  obtain ⟨c1', c2'⟩ := hc k hlt
                  clear hc
                  obtain ⟨⟨p1, p2⟩, p3, p4⟩ := hpots.out _ (List.getElem_mem hlt)
                  have hnx := pcK_succ x k hlt
                  obtain ⟨pb, hpb⟩ : ∃ q, x.pots[k].ball = q := ⟨_, rfl⟩
                  obtain ⟨pp, hpp⟩ : ∃ q, x.pots[k].pocket = q := ⟨_, rfl⟩
                  rw [hpb, hpp] at hnx
                  rw [hpb] at p1 p2 c1'
                  rw [hpp] at p3 p4 c2'
                  have HNX := hide hnx
                  clear hnx hpb hpp
                  have p5 : pb ≤ 99 := by omega
                  have p6 : pp ≤ 99 := by omega
                  have p7 : 0 ≤ pp := by omega
                  have p8 : 0 ≤ pb := by omega
                  have i1 : (0 : Int) ≤ (k : Int) := by omega
                  have i2 : (k : Int) < (x.pots.length : Int) := by omega
                  go_wp2_with (first | (go_at_call 73; refine (ppair_any 112 pb pp _ ⟨by assumption, by assumption⟩ ⟨by assumption, by assumption⟩).mono ?_; rintro e w3 ⟨rfl, hw3⟩; obtain rfl := hw3.symm) | (at_builtin; refine wpList_append_lies _ rfl _ _ _ rfl (w.heap.size + 1) 9 i0 (.string ByteArray.empty) 1 16 Tryz.underlying143 hi hz0 hz1 hz2 rfl (by omega) _ _ _ rfl ((hown1.alloc _).alloc _) ⟨(wr.heap.size + 1), 0, none⟩ 1 1 [.string ⟨(M.pairText 112 pb pp).toArray⟩] rfl rfl (cells_new _ _ _ _ (by simp)) (by simp [strV, Value.oneCell']) (by omega) (by simp only [maxLen]; omega) (by omega) (by first | omega | (simp; omega)) ((wr.heap.size + 1) + 1) (by simp) ?_))
                  intro g1 cap w4 hown4 hgrow _ _
                  have hv : (.string ⟨(M.pairText 112 pb pp).toArray⟩) = strV (M.pairText 112 pb pp) := rfl
                  rw [hv] at hown4 hgrow
                  have hgb : Below (w.heap.size + 1) _ w4 := below_own ((hown1.alloc _).alloc _) hgrow (by omega) (by simp; omega)
                  have hx4 := ((hx1.alloc _).alloc _).upto hgb (by omega)
                  have hb4 := ((hb1.alloc (by omega) _).alloc (by simp; omega) _).trans (hgb.mono (by omega))
                  go_wp2
                  have hown5 : w4.ownsRow (w.heap.size + 1) 9 1 (.slice (some ⟨g1, 0, none⟩) (pcK x (k + 1)).length cap) (pcK x (k + 1)).length ((pcK x (k + 1)).map strV) := by
                    rw [HNX.out, List.length_append, List.length_singleton, List.map_append]
                    exact hown4
                  go_roundw
                  case rel => exact ⟨k + 1, some ⟨g1, 0, none⟩, cap, by omega, by go_num, by rw [HNX.out, List.length_append, List.length_singleton], hx4, hown5, hb4⟩
                  case measure => simp [intOf] <;> omega
                · have hke : k = x.pots.length := by omega
                  subst hke
                  have hjn := join_own (M.pieces x) (by unfold M.pieces; simp) A1 c1 (w.heap.size + 1) wr (by rw [← pcK_all]; exact hown1) (by have := prK_len HX.out x.pots.length; rw [prK_print] at this; unfold M.print at this; omega) (by rw [← pcK_all]; omega)
                  rw [pcK_all]
                  go_wp2_with (go_at_call 75; refine hjn.mono ?_; rintro e w5 ⟨rfl, hb5⟩)
                  go_ret2
                  exact ⟨rfl, hb1.trans (hb5.mono hb1.size)⟩
            clear hK1
            have HJ3 := hide J3
            clear J3
            obtain ⟨rfl, hx0, hown, hbw⟩ := hrel
            have hszw := hbw.size
            have hlt0 := hx0.lt
            have k5 := hx0.cell (j := 5) rfl
            by_cases hc : x.cushion = true
            · have hb : x.cushion = true := hc
              have HC := hide hc
              clear hc
              go_wp2_with (first  | (at_builtin; refine wpList_append_lies _ rfl _ _ _ rfl (w.heap.size + 1) 9 i0 (.string ByteArray.empty) 1 16 Tryz.underlying143 hi hz0 hz1 hz2 rfl (by omega) _ _ _ rfl (hown.alloc _) ⟨wx.heap.size, 0, none⟩ 1 1 [.string ⟨#[43]⟩] rfl rfl (one_new _ _ _) (by simp [strV, Value.oneCell']) (by omega) (by simp only [maxLen]; omega) (by omega) (by first | omega | (simp; omega)) (wx.heap.size + 1) (by simp) ?_))
              intro g1 cap w4 hown4 hgrow _ _
              have hv : (.string ⟨#[43]⟩) = strV ([43]) := rfl
              rw [hv] at hown4 hgrow
              have hgb : Below (w.heap.size + 1) _ w4 := below_own (hown.alloc _) hgrow (by omega) (by simp; omega)
              have hx4 : Held w4 w.heap.size (shCells ⟨x, P, d⟩) 66 := (hx0.alloc _).upto hgb (by omega)
              have hb4 := (hbw.alloc (by omega) _).trans (hgb.mono (by omega))
              have e2 : pc3 x = pc2 x ++ [[43]] := by unfold pc3; rw [if_pos HC.out]
              go_wp2
              have hown5 : w4.ownsRow (w.heap.size + 1) 9 1 (.slice (some ⟨g1, 0, none⟩) (pc3 x).length cap) (pc3 x).length ((pc3 x).map strV) := by
                rw [e2, List.length_append, List.length_singleton, List.map_append]
                exact hown4
              exact HJ3.out (some ⟨g1, 0, none⟩) cap _ _ _ _ _ _ _ _ _ _ _ _ _ _ _ _ _ _ _ _ _ _ _ _ _ _ _ _ _ _ _ _ _ _ _ _ _ _ _ _ _ _ _ _ _ _ _ _ _ _ _ _ _ _ _ _ _ _ _ _ _ _ _ _ _ ⟨by rw [e2, List.length_append, List.length_singleton] <;> try (rw [n0]), hx4, hown5, hb4⟩
            · have hb : x.cushion = false := by simpa using hc
              have e2 : pc3 x = pc2 x := by unfold pc3; rw [if_neg hc, List.append_nil]
              clear hc
              go_wp2
              exact HJ3.out A c _ _ _ _ _ _ _ _ _ _ _ _ _ _ _ _ _ _ _ _ _ _ _ _ _ _ _ _ _ _ _ _ _ _ _ _ _ _ _ _ _ _ _ _ _ _ _ _ _ _ _ _ _ _ _ _ _ _ _ _ _ _ _ _ wx (by rw [e2]; exact ⟨rfl, hx0, hown, hbw⟩)
          clear hK2
          have HJ2 := hide J2
          clear J2
          obtain ⟨rfl, hx0, hown, hbw⟩ := hrel
          have hszw := hbw.size
          have hlt0 := hx0.lt
          have k4 := hx0.cell (j := 4) rfl
          by_cases hc : x.first ≠ 0
          · have hb : 0 < x.first := by omega
            have HC := hide hc
            clear hc
            go_wp2_with (first | (go_at_call 74; refine (HIT.out _).mono ?_; rintro e w3 ⟨rfl, hw3⟩; obtain rfl : wx = w3 := hw3.symm) | (at_builtin; refine wpList_append_lies _ rfl _ _ _ rfl (w.heap.size + 1) 9 i0 (.string ByteArray.empty) 1 16 Tryz.underlying143 hi hz0 hz1 hz2 rfl (by omega) _ _ _ rfl (hown.alloc _) ⟨wx.heap.size, 0, none⟩ 1 1 [.string (⟨#[102]⟩ ++ ⟨(M.dec x.first).toArray⟩)] rfl rfl (one_new _ _ _) (by simp [strV, Value.oneCell']) (by omega) (by simp only [maxLen]; omega) (by omega) (by first | omega | (simp; omega)) (wx.heap.size + 1) (by simp) ?_))
            intro g1 cap w4 hown4 hgrow _ _
            have hv : (.string (⟨#[102]⟩ ++ ⟨(M.dec x.first).toArray⟩)) = strV (102 :: M.dec x.first) := congrArg Value.string (ba_app [102] _)
            rw [hv] at hown4 hgrow
            have hgb : Below (w.heap.size + 1) _ w4 := below_own (hown.alloc _) hgrow (by omega) (by simp; omega)
            have hx4 : Held w4 w.heap.size (shCells ⟨x, P, d⟩) 66 := (hx0.alloc _).upto hgb (by omega)
            have hb4 := (hbw.alloc (by omega) _).trans (hgb.mono (by omega))
            have e2 : pc2 x = pc1 x ++ [102 :: M.dec x.first] := by unfold pc2; rw [if_pos HC.out]
            go_wp2
            have hown5 : w4.ownsRow (w.heap.size + 1) 9 1 (.slice (some ⟨g1, 0, none⟩) (pc2 x).length cap) (pc2 x).length ((pc2 x).map strV) := by
              rw [e2, List.length_append, List.length_singleton, List.map_append]
              exact hown4
            exact HJ2.out (some ⟨g1, 0, none⟩) cap _ _ _ _ _ _ _ _ _ _ _ _ _ _ _ _ _ _ _ _ _ _ _ _ _ _ _ _ _ _ _ _ _ _ _ _ _ _ _ _ _ _ _ _ _ _ _ _ _ _ _ _ _ _ _ _ _ _ _ _ _ _ _ _ _ ⟨by rw [e2, List.length_append, List.length_singleton] <;> try (rw [n0]), hx4, hown5, hb4⟩
          · have hb : ¬ 0 < x.first := by omega
            have e2 : pc2 x = pc1 x := by unfold pc2; rw [if_neg hc, List.append_nil]
            clear hc
            go_wp2
            exact HJ2.out A c _ _ _ _ _ _ _ _ _ _ _ _ _ _ _ _ _ _ _ _ _ _ _ _ _ _ _ _ _ _ _ _ _ _ _ _ _ _ _ _ _ _ _ _ _ _ _ _ _ _ _ _ _ _ _ _ _ _ _ _ _ _ _ _ wx (by rw [e2]; exact ⟨rfl, hx0, hown, hbw⟩)
        clear hK3
        have HJ1 := hide J1
        clear J1
        obtain ⟨rfl, hx0, hown, hbw⟩ := hrel
        have hszw := hbw.size
        have hlt0 := hx0.lt
        have k2 := hx0.cell (j := 2) rfl
        have k3 := hx0.cell (j := 3) rfl
        by_cases hc : x.ball ≠ 0
        · have hb : 0 < x.ball := by omega
          have HC := hide hc
          clear hc
          go_wp2_with (first | (go_at_call 73; refine (ppair_any 99 x.ball x.pocket _ ⟨by assumption, by assumption⟩ ⟨by assumption, by assumption⟩).mono ?_; rintro e w3 ⟨rfl, hw3⟩; obtain rfl : wx = w3 := hw3.symm) | (at_builtin; refine wpList_append_lies _ rfl _ _ _ rfl (w.heap.size + 1) 9 i0 (.string ByteArray.empty) 1 16 Tryz.underlying143 hi hz0 hz1 hz2 rfl (by omega) _ _ _ rfl (hown.alloc _) ⟨wx.heap.size, 0, none⟩ 1 1 [.string ⟨(M.pairText 99 x.ball x.pocket).toArray⟩] rfl rfl (one_new _ _ _) (by simp [strV, Value.oneCell']) (by omega) (by simp only [maxLen]; omega) (by omega) (by first | omega | (simp; omega)) (wx.heap.size + 1) (by simp) ?_))
          intro g1 cap w4 hown4 hgrow _ _
          have hv : (.string ⟨(M.pairText 99 x.ball x.pocket).toArray⟩) = strV (M.pairText 99 x.ball x.pocket) := rfl
          rw [hv] at hown4 hgrow
          have hgb : Below (w.heap.size + 1) _ w4 := below_own (hown.alloc _) hgrow (by omega) (by simp; omega)
          have hx4 : Held w4 w.heap.size (shCells ⟨x, P, d⟩) 66 := (hx0.alloc _).upto hgb (by omega)
          have hb4 := (hbw.alloc (by omega) _).trans (hgb.mono (by omega))
          have e2 : pc1 x = pc0 x ++ [M.pairText 99 x.ball x.pocket] := by unfold pc1; rw [if_pos HC.out]
          go_wp2
          have hown5 : w4.ownsRow (w.heap.size + 1) 9 1 (.slice (some ⟨g1, 0, none⟩) (pc1 x).length cap) (pc1 x).length ((pc1 x).map strV) := by
            rw [e2, List.length_append, List.length_singleton, List.map_append]
            exact hown4
          exact HJ1.out (some ⟨g1, 0, none⟩) cap _ _ _ _ _ _ _ _ _ _ _ _ _ _ _ _ _ _ _ _ _ _ _ _ _ _ _ _ _ _ _ _ _ _ _ _ _ _ _ _ _ _ _ _ _ _ _ _ _ _ _ _ _ _ _ _ _ _ _ _ _ _ _ _ _ ⟨by rw [e2, List.length_append, List.length_singleton] <;> try (rw [n0]), hx4, hown5, hb4⟩
        · have hb : ¬ 0 < x.ball := by omega
          have e2 : pc1 x = pc0 x := by unfold pc1; rw [if_neg hc, List.append_nil]
          clear hc
          go_wp2
          exact HJ1.out A c _ _ _ _ _ _ _ _ _ _ _ _ _ _ _ _ _ _ _ _ _ _ _ _ _ _ _ _ _ _ _ _ _ _ _ _ _ _ _ _ _ _ _ _ _ _ _ _ _ _ _ _ _ _ _ _ _ _ _ _ _ _ _ _ wx (by rw [e2]; exact ⟨rfl, hx0, hown, hbw⟩)
  · rw [if_neg h0]
    have hb0 : (E == 0) = false := by simpa using h0
    go_enter Tryz.func28, Tryz.ntmps28
    go_upto_region 1 with (fail)
    go_cut [4] from 8 to 10 (fun v4 wx => v4 = .int .i64 E ∧ Held wx w.heap.size (shCells ⟨x, P, d⟩) 66 ∧ Below w.heap.size w wx)
    case first =>
      have hB := (Blks.nil w).new (by simp) (shCells ⟨x, P, d⟩) 66
      go_wp2_with (first | (refine is_load 66 (.tmp 1) rfl ?_; refine next_load (hB.get0 rfl) Tryz.underlying66 rfl shot_info rfl (.tmp 1) rfl rfl ?_) | (go_at_call 35; refine (HCK.out _ hB.bw).mono ?_; rintro e w5 ⟨rfl, hb5⟩))
      go_meet
      exact ⟨rfl, (hB.get0 rfl).below hb5, hB.bw.trans (hb5.mono hB.bw.size)⟩
    case rest =>
      obtain ⟨rfl, hx0, hbw⟩ := hcut
      have hb1 : (E != 0) = true := by simp [h0]
      go_wp2
      go_ret2
      exact ⟨rfl, hbw⟩
end Go.Proofs.YtelpepbpdojikaaGreatDoor
