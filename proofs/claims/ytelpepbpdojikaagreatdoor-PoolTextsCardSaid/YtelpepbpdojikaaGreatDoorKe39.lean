/- Parts of the proofs about chapter 5 (pool), joined by program. -/
import Derived.Test.YtelpepbpdojikaaGreatDoorKe0
import Derived.Test.YtelpepbpdojikaaGreatDoorKe29
set_option linter.unusedVariables false
set_option linter.unusedSimpArgs false
namespace Go.Proofs.YtelpepbpdojikaaGreatDoor
open Go.RowKit
def noteCells (l : List M.Note) : List Value := l.flatMap fun x => [.int .i64 x.number, .int .i64 x.player, .int .i64 x.rule, .int .i64 x.foul, .int .i64 x.points, .bool x.turn]
theorem noteCells_append (a b : List M.Note) : noteCells (a ++ b) = noteCells a ++ noteCells b := by simp [noteCells]
theorem ent_bef (r : M.Rules) (k : Nat) (e : Sh) (s t : M.State) (A A' : Option Addr) (c c' : Nat) (ru : Int) : ∀ j v, (frameCells r s A c)[j]? = some v → (entCells r ⟨k, e, s, A, c, t, A', c', ru⟩)[7 + j]? = some v := by
  intro j v hj
  have hl : j < 18 := (List.getElem?_eq_some_iff.1 hj).1
  unfold entCells
  rw [List.getElem?_append_left (by simp [shCells, frameCells]; omega), List.getElem?_append_left (by simp [shCells, frameCells]; omega), List.getElem?_append_right (by simp [shCells]), show 7 + j - (shCells e).length = j by simp [shCells]]
  exact hj
theorem ent_shot (r : M.Rules) (k : Nat) (e : Sh) (s t : M.State) (A A' : Option Addr) (c c' : Nat) (ru : Int) : ∀ j v, (shCells e)[j]? = some v → (entCells r ⟨k, e, s, A, c, t, A', c', ru⟩)[0 + j]? = some v := by
  intro j v hj
  have hl : j < 7 := (List.getElem?_eq_some_iff.1 hj).1
  unfold entCells
  rw [Nat.zero_add, List.getElem?_append_left (by simp [shCells, frameCells]; omega), List.getElem?_append_left (by simp [shCells, frameCells]; omega), List.getElem?_append_left (by simp [shCells]; omega)]
  exact hj
def zeroNote : List Value := [.int .i64 0, .int .i64 0, .int .i64 0, .int .i64 0, .int .i64 0, .bool false]
@[reducible] def note6 (k : Nat) (p ru f n : Int) (tu : Bool) : List Value := [.int .i64 ((k : Int) + 1), .int .i64 p, .int .i64 ru, .int .i64 f, .int .i64 n, .bool tu]
theorem note_one (k : Nat) (p ru f n : Int) (tu : Bool) : ∀ v ∈ note6 k p ru f n tu, v.oneCell' = true := by simp [note6, Value.oneCell']
theorem note_size : (Tryz.prog.info? 54).map (·.size) = some 6 := by kernel_rfl
def notesR (r : M.Rules) (l : List Sh) : List M.Note := if logE r l = 0 then M.notes r (M.start r) 1 (plain l) else []
theorem note_info : (Tryz.prog.info? 54).map (fun i => (i.zero, i.size, i.bytes)) = some (some (.agg #[.int .i64 0, .int .i64 0, .int .i64 0, .int .i64 0, .int .i64 0, .bool false]), 6, 48) := by kernel_rfl
def notesTo (r : M.Rules) (l : List Sh) (k : Nat) : List M.Note := M.notes r (M.start r) 1 (plain (l.take k))
theorem notesTo_len (r : M.Rules) (l : List Sh) (k : Nat) (hk : k ≤ l.length) : (notesTo r l k).length = k := by
  have go : ∀ (l2 : List M.Shot) (s : M.State) (n : Int), (M.notes r s n l2).length = l2.length := by
    intro l2
    induction l2 with
    | nil => intro s n; rfl
    | cons y l2 ih => intro s n; rw [M.notes, List.length_cons, ih, List.length_cons]
  unfold notesTo
  rw [go, plain_length, List.length_take]
  omega
theorem notesTo_succ (r : M.Rules) (l : List Sh) (k : Nat) (hk : k < l.length) : notesTo r l (k + 1) = notesTo r l k ++ [M.note r (stAt r l k) ((k : Int) + 1) l[k].x] := by
  have go : ∀ (l2 : List M.Shot) (s : M.State) (n : Int) (x : M.Shot), M.notes r s n (l2 ++ [x]) = M.notes r s n l2 ++ [M.note r (M.final r s l2) (n + l2.length) x] := by
    intro l2
    induction l2 with
    | nil => intro s n x; simp [M.notes, M.final]
    | cons y l2 ih =>
      intro s n x
      rw [List.cons_append, M.notes, M.notes, ih, List.cons_append]
      simp only [M.final, List.foldl_cons, List.length_cons]
      rw [show n + 1 + (l2.length : Int) = n + ((l2.length + 1 : Nat) : Int) by push_cast; omega]
  unfold notesTo stAt
  rw [List.take_succ_eq_append_getElem hk]
  unfold plain
  rw [List.map_append, List.map_cons, List.map_nil, go]
  congr 3
  simp only [List.length_map, List.length_take, Nat.min_eq_left (Nat.le_of_lt hk)]
  rw [Int.add_comm]
set_option maxRecDepth 100000 in
set_option maxHeartbeats 4000000 in
theorem notes_any (S : Nat → Prop) (r : M.Rules) (l : List Sh) (A : Option Addr) (c : Nat) (w : World) (hp : RdS w S A c l) :
    Calls Tryz.prog 19 #[rulesV r, .slice A l.length c] w fun e w' => ∃ A2 c2, e = .returned (.tuple #[.slice A2 (notesR r l).length c2, .int .i64 (logE r l)]) ∧ Reads w' (fun b => w.heap.size ≤ b) 6 A2 (notesR r l).length c2 (noteCells (notesR r l)) ∧ Below w.heap.size w w' := by
  refine callsIn_wide.1 (callsIn_of_wp_marks (F := Fence.wide) (n := 5) Tryz.func19 rfl trivial ?_ rfl)
  simp only [Tryz.ntmps19, List.size_toArray, List.length_cons, List.length_nil, Nat.reduceAdd, Nat.reduceSub, Array.replicate_succ,
     Array.replicate_zero, List.push_toArray, List.append_toArray, List.nil_append, List.cons_append]
  refine wpIn_wide.2 ?_
  generalize hQ' : bodyPostM Fence.wide 5 Tryz.prog _ _ = Q'
  have hck := fun W h => check_any S r l A c W h
  obtain ⟨E, hE⟩ : ∃ E, firstOf [M.ckRules r, M.ckLog (plain l)] = E := ⟨_, rfl⟩
  rw [hE] at hck
  have hE' : logE r l = E := hE
  have HCK := hide hck
  have HE := hide hE'
  have HQ := hide hQ'
  clear hck hE hE' hQ'
  go_upto_region 0 with (fail)
  go_cut [2] from 2 to 5 (fun v2 wx => v2 = ptr w.heap.size ∧ Blks w wx [([.string r.game, .int .i64 r.target, .int .i64 r.fouls], 23)])
  case first =>
    go_wp2
    go_meet
    exact ⟨rfl, ((Blks.nil w).new (by simp) ([.string r.game, .int .i64 r.target, .int .i64 r.fouls]) _)⟩
  case rest =>
    obtain ⟨rfl, hB⟩ := hcut
    have k0 := (hB.get0 rfl).cell (j := 0) rfl
    have kf0 := (hB.get0 rfl).frozen 0
    have k1 := (hB.get0 rfl).cell (j := 1) rfl
    have kf1 := (hB.get0 rfl).frozen 1
    have k2 := (hB.get0 rfl).cell (j := 2) rfl
    have kf2 := (hB.get0 rfl).frozen 2
    by_cases h0 : E = 0
    · have h0' : (E != 0) = false := by simp [h0]
      obtain ⟨hr, hl⟩ := log_parts (HE.out.trans h0)
      have hrs : notesR r l = M.notes r (M.start r) 1 (plain l) := by
        have := HE.out
        unfold notesR; rw [if_pos (by rw [this]; exact h0)]
      have HRS := hide hrs
      have HR := hide hr
      have HL := hide hl
      have HLS := hide (log_short (HE.out.trans h0))
      go_upto_region 4 with (first | (go_at_call 63; refine (HCK.out _ (hp.below hB.bw)).mono ?_; rintro e w1 ⟨rfl, hb1⟩; have hB1 := hB.call (by simp) hb1))
      clear h0' hrs hr hl k0 kf0 k1 kf1 k2 kf2
      have j0 := (hB1.get0 rfl).cell (j := 0) rfl
      have jf0 := (hB1.get0 rfl).frozen 0
      have j1 := (hB1.get0 rfl).cell (j := 1) rfl
      have jf1 := (hB1.get0 rfl).frozen 1
      have j2 := (hB1.get0 rfl).cell (j := 2) rfl
      have jf2 := (hB1.get0 rfl).frozen 2
      have hsz0 : w.heap.size + 1 ≤ w1.heap.size := by simpa using hB1.size (by simp)
      have hsz1 : w.heap.size < w1.heap.size := by omega
      go_wp2_with (go_at_call 65; refine (entries_any r _ _ _ _).mono ?_; rintro e w3 ⟨rfl, hC⟩)
      rename_i KQ hKQ
      have hD3 : w1.heap.size + 3 ≤ w3.heap.size := by
        have := hC.size (by simp)
        simp only [List.length_cons, List.length_nil, World.size_alloc] at this
        omega
      have hb3 := (hB1.bw.trans (((Below.refl _ _).alloc (Nat.le_refl _) _).mono (by omega))).trans (hC.bw.mono (by simp; omega))
      have hRul : Held w3 (w1.heap.size + 1) [.string r.game, .int .i64 r.target, .int .i64 r.fouls] 23 := by simpa using hC.get0 rfl
      have hLst : Held w3 (w1.heap.size + 1 + 1) [.slice A l.length c] 24 := by simpa using hC.get 1 rfl
      have hK3 : ∀ b, (b = w1.heap.size + 1 ∨ b = w1.heap.size + 2 ∨ (S b ∧ b < w.heap.size)) → b < w3.heap.size := by rintro b (h | h | ⟨_, h⟩) <;> omega
      have hLK : RdS w3 (fun b => b = w1.heap.size + 1 ∨ b = w1.heap.size + 2 ∨ (S b ∧ b < w.heap.size)) A c l := (hp.more (S' := (fun b => b = w1.heap.size + 1 ∨ b = w1.heap.size + 2 ∨ (S b ∧ b < w.heap.size))) (fun b hb h => .inr (.inr ⟨h, hb⟩))).below hb3
      have hA3 : Held w3 w1.heap.size [.slice none 0 0] 38 := (Held.new w1 [.slice none 0 0] 38).upto hC.bw (by simp)
      refine (wpIn_wide (n := 5)).1 ?_
      refine wpIn_rangeFunc_told (F := Fence.wide) rfl (by decide) rfl trivial (fun _ _ => rfl) (entries1_told r l A c (fun b => b = w1.heap.size + 1 ∨ b = w1.heap.size + 2 ∨ (S b ∧ b < w.heap.size)) _ _ 4 w3 (by decide) HR.out HL.out HLS.out hK3 hRul (.inl rfl) hLst (.inr (.inl rfl)) hLK) hK3 (Below.refl _ _) (fun _ => rfl) (RL1 54 38 6 w w1.heap.size w3.heap.size (fun k => (notesTo r l k).length) (fun k => noteCells (notesTo r l k))) (fun _ _ _ _ => False) (RL1.abides (by omega) (by omega)) (fun _ _ _ _ _ _ _ h _ _ _ => h)
        (fun X Y pre W lp o o' h hlp hl ho => h.putObj (by omega) hlp hl ho o') (fun _ _ _ _ _ _ _ h _ _ _ => h) (fun X Y pre x W lp o o' h hlp hl ho => h.putObj hl ho o') ?h0 (fun x a W => ∃ Be v0 v1 v2 v3 v4 v5 v6 v10 v11 v12 v13 v14 v15 v16 v17 v18 v19 v20 v21 v22 v23 v24 v25 v26 v27 v28 v29 v30 v31 v32 v33 v34 v35 v36 v37 v38 v39 v40 v41 v42 v43 v44 v45 v46 v47 v48 v49 v50 v51 v52 v53 v54 v55 v56 v57 v58 v59 v60 v61 v62 v63 v64 v65 v66 v67 v68 v69, a = { tmps := #[v0, v1, v2, v3, v4, v5, v6, ptr w1.heap.size, .int .i64 (x.i : Int), ptr Be, v10, v11, v12, v13, v14, v15, v16, v17, v18, v19, v20, v21, v22, v23, v24, v25, v26, v27, v28, v29, v30, v31, v32, v33, v34, v35, v36, v37, v38, v39, v40, v41, v42, v43, v44, v45, v46, v47, v48, v49, v50, v51, v52, v53, v54, v55, v56, v57, v58, v59, v60, v61, v62, v63, v64, v65, v66, v67, v68, v69], defers := [] } ∧ w3.heap.size ≤ Be ∧ Held W Be (entCells r x) 133) ?assign ?ap ?body ?done ?stop
      case h0 =>
        intro W hW
        exact ⟨(hb3.trans (hW.mono (by omega))), hW.size, fun b h => h.elim (fun h => h.elim) (fun h => h.elim), ⟨.slice none 0 0, hA3.below hW, World.ownsRow_nil _ _ _ _, fun g hg => by cases hg⟩⟩
      case ap =>
        rintro x a' W lp o o' ⟨Be, v0, v1, v2, v3, v4, v5, v6, v10, v11, v12, v13, v14, v15, v16, v17, v18, v19, v20, v21, v22, v23, v24, v25, v26, v27, v28, v29, v30, v31, v32, v33, v34, v35, v36, v37, v38, v39, v40, v41, v42, v43, v44, v45, v46, v47, v48, v49, v50, v51, v52, v53, v54, v55, v56, v57, v58, v59, v60, v61, v62, v63, v64, v65, v66, v67, v68, v69, e2, h1, h2⟩ hlp hl ho
        exact ⟨Be, v0, v1, v2, v3, v4, v5, v6, v10, v11, v12, v13, v14, v15, v16, v17, v18, v19, v20, v21, v22, v23, v24, v25, v26, v27, v28, v29, v30, v31, v32, v33, v34, v35, v36, v37, v38, v39, v40, v41, v42, v43, v44, v45, v46, v47, v48, v49, v50, v51, v52, v53, v54, v55, v56, v57, v58, v59, v60, v61, v62, v63, v64, v65, v66, v67, v68, v69, e2, h1, h2.putObj hl ho _⟩
      case stop => exact fun _ _ _ _ _ _ _ h _ => h.elim
      case assign =>
        intro lp X Y pre x W K' hi ht hk hXY
        have hb := ((Below.refl W.heap.size W).alloc (Nat.le_refl _) (.cells zeroEnt.toArray 133))
        have hb' := below_setCells W.heap.size (Nat.le_refl _) (entCells r x) 0 _ _ hb
        have hE0 := Held.new W zeroEnt 133
        have hsz := hi.sz
        have fin : ∀ v0 v1 v2 v3 v4 v5 v6 v10 v11 v12 v13 v14 v15 v16 v17 v18 v19 v20 v21 v22 v23 v24 v25 v26 v27 v28 v29 v30 v31 v32 v33 v34 v35 v36 v37 v38 v39 v40 v41 v42 v43 v44 v45 v46 v47 v48 v49 v50 v51 v52 v53 v54 v55 v56 v57 v58 v59 v60 v61 v62 v63 v64 v65 v66 v67 v68 v69 : Value, K' { tmps := #[v0, v1, v2, v3, v4, v5, v6, ptr w1.heap.size, .int .i64 (x.i : Int), ptr W.heap.size, v10, v11, v12, v13, v14, v15, v16, v17, v18, v19, v20, v21, v22, v23, v24, v25, v26, v27, v28, v29, v30, v31, v32, v33, v34, v35, v36, v37, v38, v39, v40, v41, v42, v43, v44, v45, v46, v47, v48, v49, v50, v51, v52, v53, v54, v55, v56, v57, v58, v59, v60, v61, v62, v63, v64, v65, v66, v67, v68, v69], defers := [] } ((W.alloc (.cells zeroEnt.toArray 133)).setCells W.heap.size 0 (entCells r x)) := fun _ _ _ _ _ _ _ _ _ _ _ _ _ _ _ _ _ _ _ _ _ _ _ _ _ _ _ _ _ _ _ _ _ _ _ _ _ _ _ _ _ _ _ _ _ _ _ _ _ _ _ _ _ _ _ _ _ _ _ _ _ _ _ _ _ _ _ =>
          hk _ _ ⟨hb'.size, fun k o hk hl _ => (hb'.block k (Array.getElem?_eq_some_iff.1 hl).1).trans hl⟩
            ⟨hb'.size, fun b h => hb'.block b (hXY b h), fun b h => hb'.block b (Nat.lt_of_lt_of_le (hK3 b h) hsz)⟩
            (RL1.abides (by omega) (by omega) _ _ _ _ _ _ _ hi (Turn.of_below hb') (fun b h => .inl h) (fun b h => .inl h))
            ⟨ht.i, ht.lt, ht.e, ht.s, ht.t, ht.rule, ht.a.below hb', ht.b.below hb', ht.xy⟩
            ⟨W.heap.size, _, _, _, _, _, _, _, _, _, _, _, _, _, _, _, _, _, _, _, _, _, _, _, _, _, _, _, _, _, _, _, _, _, _, _, _, _, _, _, _, _, _, _, _, _, _, _, _, _, _, _, _, _, _, _, _, _, _, _, _, _, _, _, _, _, _, _, rfl, hsz, hE0.whole _ rfl⟩
        have FIN := hide fin
        clear hk fin hb hb' hi ht hXY hsz
        simp [encEnt]
        apply wpIn_seq_k
        intro K1 hK1
        refine wpIn_region_round' (by kernel_rfl) (by rintro ⟨_, _, h⟩; exact h) ?_
        go_wp2
        refine wpIn_region_round' (by kernel_rfl) (by rintro ⟨_, _, h⟩; exact h) ?_
        go_wp2_with (refine is_store 133 (.tmp 9) (.tmp 21) rfl ?_; refine next_store hE0 (entCells r x) rfl ent_info (ent_one _ _) rfl (.tmp 9) (.tmp 21) rfl rfl rfl ?_)
        exact FIN.out _ _ _ _ _ _ _ _ _ _ _ _ _ _ _ _ _ _ _ _ _ _ _ _ _ _ _ _ _ _ _ _ _ _ _ _ _ _ _ _ _ _ _ _ _ _ _ _ _ _ _ _ _ _ _ _ _ _ _ _ _ _ _ _ _ _ _
      case body =>
        rintro lp X Y pre x a' W hi ht ⟨Be, v0, v1, v2, v3, v4, v5, v6, v10, v11, v12, v13, v14, v15, v16, v17, v18, v19, v20, v21, v22, v23, v24, v25, v26, v27, v28, v29, v30, v31, v32, v33, v34, v35, v36, v37, v38, v39, v40, v41, v42, v43, v44, v45, v46, v47, v48, v49, v50, v51, v52, v53, v54, v55, v56, v57, v58, v59, v60, v61, v62, v63, v64, v65, v66, v67, v68, v69, rfl, hBe, hE⟩ hlt hXY hWs
        obtain ⟨v, hV, hOwn⟩ := hi.a
        have hl0 : 0 ≤ x.rule := by rw [ht.rule]; exact legal_nonneg _ _ _
        have hle : l[pre.length] = x.e := by have := ht.e; rw [List.getElem?_eq_getElem hlt] at this; exact Option.some.inj this
        have hsz := hi.sz
        have hbw := hi.bw
        have hti := ht.i
        have HT := hide ht
        have HSEP := hide hi.sep
        have HX := hide hXY
        have HLE := hide hle
        have HLS2 := HLS.out
        have HOwn := hide hOwn
        clear hXY hi ht hle hOwn
        have e0 := hE.cell (j := 0) rfl
        have e43 := hE.cell (j := 43) rfl
        have hBlt := hE.lt
        have hN0 := Held.new W zeroNote 54
        apply wpIn_block
        apply wpIn_seq_k
        intro K1 hK1
        refine wpIn_region_round' (by kernel_rfl) (by rintro ⟨_, _, h⟩; exact h) ?_
        go_wp2_with (refine is_store 54 (.tmp 10) (.tmp 29) rfl ?_; refine next_store hN0 (note6 pre.length x.e.x.player x.rule 0 0 false) rfl note_size (note_one _ _ _ _ _ _) rfl (.tmp 10) (.tmp 29) rfl rfl rfl ?_)
        apply wpIn_seq_k
        intro K3 hK3
        have go : ∀ (W5 : World) (p ru f n : Int) (tu : Bool) (z0 z1 z2 z3 z4 z5 z6 z8 z9 z11 z12 z13 z14 z15 z16 z17 z18 z19 z20 z21 z22 z23 z24 z25 z26 z27 z28 z29 z30 z31 z32 z33 z34 z35 z36 z37 z38 z39 z40 z41 z42 z43 z44 z45 z46 z47 z48 z49 z50 z51 z52 z53 z54 z55 z56 z57 z58 z59 z60 z61 z62 z63 z64 z65 z66 z67 z68 z69 : Value), Held W5 W.heap.size (note6 pre.length p ru f n tu) 54 → Held W5 w1.heap.size [v] 38 → OwnRow W5 w3.heap.size X Y 54 6 v (notesTo r l pre.length).length (noteCells (notesTo r l pre.length)) → Turn (fun _ => False) W W5 → M.note r x.s ((pre.length : Int) + 1) x.e.x = ⟨(pre.length : Int) + 1, p, ru, f, n, tu⟩ → K3 { tmps := #[z0, z1, z2, z3, z4, z5, z6, ptr w1.heap.size, z8, z9, ptr W.heap.size, z11, z12, z13, z14, z15, z16, z17, z18, z19, z20, z21, z22, z23, z24, z25, z26, z27, z28, z29, z30, z31, z32, z33, z34, z35, z36, z37, z38, z39, z40, z41, z42, z43, z44, z45, z46, z47, z48, z49, z50, z51, z52, z53, z54, z55, z56, z57, z58, z59, z60, z61, z62, z63, z64, z65, z66, z67, z68, z69], defers := [] } W5 := by
          intro W5 p ru f n tu _ _ _ _ _ _ _ _ _ _ _ _ _ _ _ _ _ _ _ _ _ _ _ _ _ _ _ _ _ _ _ _ _ _ _ _ _ _ _ _ _ _ _ _ _ _ _ _ _ _ _ _ _ _ _ _ _ _ _ _ _ _ _ _ _ _ _ _ hN hV5 hOwn5 hT hM
          obtain ⟨i0, hi0, hz0, hz1, hz2⟩ := info_parts note_info
          have hlen := notesTo_len r l pre.length (Nat.le_of_lt hlt)
          have c5 := hV5.cell (j := 0) rfl
          have HM := hide hM
          have HT5 := hide hT
          clear hM hT e0 e43
          refine hK3 _ _ ?_
          refine wpIn_region_round' (by kernel_rfl) (by rintro ⟨_, _, h⟩; exact h) ?_
          go_wp2_with (first | (refine is_load 54 (.tmp 10) rfl ?_; refine next_load hN Tryz.underlying54 rfl note_size rfl (.tmp 10) rfl rfl ?_) | (at_builtin; refine wpList_append_lies _ rfl _ _ _ rfl (w3.heap.size) 54 i0 (.agg #[.int .i64 0, .int .i64 0, .int .i64 0, .int .i64 0, .int .i64 0, .bool false]) 6 48 Tryz.underlying38 hi0 hz0 hz1 hz2 rfl (by omega) _ _ _ rfl (hOwn5.own.alloc _) ⟨W5.heap.size, 0, none⟩ 1 1 (note6 pre.length p ru f n tu) rfl rfl (cells_new _ _ _ _ (by simp)) ?c1 (by omega) ?c2 ?c3 ?c4 (W5.heap.size + 1) (by simp) ?_))
          case c1 => exact note_one _ _ _ _ _ _
          case c2 => simp only [maxLen]; omega
          case c3 => omega
          case c4 => simp; have := HT5.out.size; omega
          intro g1 cap w4 hown4 hgrow hat hlt4
          obtain ⟨hV4, hT6, hV6, hO6⟩ := append_out hV5 (by omega) hOwn5 (fun b h => Nat.lt_of_lt_of_le (HX.out b h).2 HT5.out.size) (Nat.le_trans hWs HT5.out.size) hgrow hown4 hat rfl
          have c4 := hV4.cell (j := 0) rfl
          have f4 := hV4.frozen 0
          have eN : notesTo r l (pre.length + 1) = notesTo r l pre.length ++ [⟨(pre.length : Int) + 1, p, ru, f, n, tu⟩] := by
            rw [notesTo_succ r l pre.length hlt, HLE.out, ← HT.out.s, HM.out]
          have hfin := RL1.fin (K := fun b => b = w1.heap.size + 1 ∨ b = w1.heap.size + 2 ∨ (S b ∧ b < w.heap.size)) (Ix := fun _ _ _ _ => False) (x := x) (a := { tmps := #[], defers := [] }) (len := fun k => (notesTo r l k).length) (rows := fun k => noteCells (notesTo r l k)) (w := w) (by omega) (by omega) hWs hbw HSEP.out HX.out (by rintro b (h | h | ⟨_, h⟩) <;> constructor <;> omega) HOwn.out ((HT5.out.mono (X' := fun b => b = w1.heap.size ∨ v.ownBlock = some b) (fun b h => h.elim)).trans hT6 (fun b h => .inl h)) hV6 (by
            show OwnRow _ _ _ _ _ _ _ (notesTo r l (pre.length + 1)).length (noteCells (notesTo r l (pre.length + 1)))
            rw [eN, List.length_append, List.length_singleton, noteCells_append, hlen]
            exact hO6)
          have FIN := hide hfin
          clear hT6 hV6 hO6 hgrow hown4 c5 hfin eN hOwn5 hV5 hN
          go_wp2
          exact FIN.out
        have GO := hide go
        clear go e0 e43 hK3
        have hOk := stAt_ok HR.out HL.out pre.length (Nat.le_of_lt hlt)
        rw [← HT.out.s] at hOk
        have hck := HL.out _ (List.getElem_mem hlt)
        rw [HLE.out] at hck
        obtain ⟨W2, hW2⟩ : ∃ W2, (W.alloc (.cells #[.int .i64 0, .int .i64 0, .int .i64 0, .int .i64 0, .int .i64 0, .bool false] 54)).setCells W.heap.size 0 (note6 pre.length x.e.x.player x.rule 0 0 false) = W2 := ⟨_, rfl⟩
        have hb2 : Below W.heap.size W W2 := by rw [← hW2]; exact below_setCells _ (Nat.le_refl _) _ _ _ _ ((Below.refl _ _).alloc (Nat.le_refl _) _)
        have hN2 : Held W2 W.heap.size (note6 pre.length x.e.x.player x.rule 0 0 false) 54 := by rw [← hW2]; exact hN0.whole _ rfl
        rw [hW2]
        have hE2 := hE.below hb2
        have hT2 : Turn (fun _ => False) W W2 := Turn.of_below hb2
        have hV2 := hV.below hb2
        have hOwn2 := HOwn.out.turn (hT2.mono (fun b h => h.elim)) (fun b h => .inl h) (fun b h => .inl h)
        have e43 := hE2.cell (j := 43) rfl
        clear hW2 hN0
        apply wpIn_seq_k
        intro K2 hK2
        refine wpIn_region_round' (by kernel_rfl) (by rintro ⟨_, _, h⟩; exact h) ?_
        go_wp2
        refine wpIn_cond_split rfl (fun h => ?_) (fun h => ?_)
        · have h0 : x.rule = 0 := by simpa using h
          clear h
          have h7 : W2.rangeAt Be 7 (frameCells r x.s x.A x.c) := fun j v hj => hE2.cell (ent_bef r x.i x.e x.s x.t x.A x.A' x.c x.c' x.rule j v hj)
          have h00 : W2.rangeAt Be 0 (shCells x.e) := fun j v hj => hE2.cell (ent_shot r x.i x.e x.s x.t x.A x.A' x.c x.c' x.rule j v hj)
          obtain ⟨q3, q4, _⟩ := ckShot0 hck
          have hfo := foul_any (fun _ => True) r x.s x.e.x x.A x.e.a x.c x.e.c W2 (Reads.more (HT.out.a.below hb2) (fun _ _ _ => trivial)) (Reads.more (Reads.below (hp.2 _ (by rw [← HLE.out]; exact List.getElem_mem hlt)) (hbw.trans (hb2.mono (by omega)))) (fun _ _ _ => trivial)) q3 (fun p hp => (q4 p hp).1.1) HR.out hOk.group
          have HFO := hide hfo
          have hst : M.step r x.s x.e.x = M.next r x.s x.e.x := by unfold M.step; rw [if_pos (by rw [← HT.out.rule]; exact h0)]
          have htn : x.t = M.next r x.s x.e.x := HT.out.t.trans hst
          have hOkt := stAt_ok HR.out HL.out (pre.length + 1) hlt
          rw [stAt_succ r l pre.length hlt, ← HT.out.s, HLE.out, ← HT.out.t] at hOkt
          have hs0 := hOk.s0
          have hs1 := hOk.s1
          have ht0 := hOkt.s0
          have ht1 := hOkt.s1
          have hpl := (M.shotOk hck).player
          have hnote : M.note r x.s ((pre.length : Int) + 1) x.e.x = ⟨(pre.length : Int) + 1, x.e.x.player, 0, M.foul r x.s x.e.x, x.t.score x.e.x.player - x.s.score x.e.x.player, x.t.turn ≠ x.s.turn⟩ := by
            rw [M.note_yes (by rw [← HT.out.rule]; exact h0), htn]
          have HNT := hide hnote
          have HT2 := hide hT2
          have HV2 := hide hV2
          have HO2 := hide hOwn2
          have HE2 := hide hE2
          clear hst htn hOkt hOk hck q3 q4 hfo hnote hT2 hV2 hOwn2 hE2 e43
          apply wpIn_seq_k
          intro K5 hK5
          refine wpIn_region_round' (by kernel_rfl) (by rintro ⟨_, _, h⟩; exact h) ?_
          go_wp2_with (first | (refine is_load 127 (.tmp 33) rfl ?_; refine next_load_at (g := Be) (o := 7) h7 Tryz.underlying127 rfl frame_info rfl (.tmp 33) rfl rfl ?_) | (refine is_load 66 (.tmp 35) rfl ?_; refine next_load_at (g := Be) (o := 0) h00 Tryz.underlying66 rfl shot_info rfl (.tmp 35) rfl rfl ?_) | (go_at_call 66; refine HFO.out.mono ?_; rintro e w5 ⟨rfl, hb5⟩; have hN5 := hN2.below hb5; have q3 := hN5.cell (j := 3) rfl; have qf3 := hN5.frozen 3))
          obtain ⟨W6, hW6⟩ : ∃ W6, w5.setCell ⟨W.heap.size, 3, none⟩ (.int .i64 (M.foul r x.s x.e.x)) = W6 := ⟨_, rfl⟩
          have hb6 : Below W.heap.size W W6 := by rw [← hW6]; exact (hb2.trans (hb5.mono hb2.size)).setCell (p := ⟨W.heap.size, 3, none⟩) (Nat.le_refl _) _
          have hN6 : Held W6 W.heap.size (note6 pre.length x.e.x.player x.rule (M.foul r x.s x.e.x) 0 false) 54 := by rw [← hW6]; exact hN5.set 3 _
          rw [hW6]
          clear hW6 hN5 q3 qf3 hb5 hN2 h7 h00 hb2
          have hE6 := hE.below hb6
          apply wpIn_seq_k
          intro K6 hK6
          rcases hpl with hpl | hpl
          · have n1 : W6.cell? ⟨W.heap.size, 1, none⟩ = some (.int .i64 0) := (hN6.cell (j := 1) rfl).trans (by rw [hpl])
            have n4 := hN6.cell (j := 4) rfl
            have nf4 := hN6.frozen 4
            have ea := hE6.cell (j := 17) rfl
            have eb := hE6.cell (j := 35) rfl
            have hkS : ∀ v, (fun w' : World => (∀ q, w'.cell? ⟨Be, q, none⟩ = W6.cell? ⟨Be, q, none⟩) ∧ w'.cell? ⟨W.heap.size, 1, none⟩ = some (.int .i64 0)) ((W6.drew).setCell ⟨W.heap.size, 4, none⟩ v) := fun v => ⟨fun q => World.cell?_setCell_other _ _ ⟨Be, q, none⟩ v (fun e => by cases e; omega), (World.cell?_setCell_other _ _ ⟨W.heap.size, 1, none⟩ v (fun e => by cases e)).trans n1⟩
            refine wpIn_region_held_drew (S := (fun w' : World => (∀ q, w'.cell? ⟨Be, q, none⟩ = W6.cell? ⟨Be, q, none⟩) ∧ w'.cell? ⟨W.heap.size, 1, none⟩ = some (.int .i64 0))) (by kernel_rfl) (by rintro ⟨_, _, h⟩; exact h) (by kernel_rfl) ?q3xstart (fun hHeld => ?_)
            case q3xstart => first | exact ⟨fun q => rfl, n1⟩ | exact hkS _
            refine wpAnyH_take (i := 0) (oi := _) (v := ?q3xv0) (ga rfl) (by kernel_rfl) (by kernel_rfl) (by kernel_rfl) (fun _ _ _ h => h) (Or.inl ⟨by rfl, ?q3xy0⟩) (by assumption) ?_
            case q3xy0 => (intro w hSw; (try dsimp only at hSw); go_simp; try with_reducible rfl)
            try simp only [Act.put, la, lz, ls]
            refine wpAnyH_take (i := 1) (oi := _) (v := ?q3xv1) (ga rfl) (by kernel_rfl) (by kernel_rfl) (by kernel_rfl) (fun _ _ _ h => h) (Or.inl ⟨by rfl, ?q3xy1⟩) (by assumption) ?_
            case q3xy1 => (intro w hSw; (try dsimp only at hSw); go_simp; try with_reducible rfl)
            try simp only [Act.put, la, lz, ls]
            refine wpAnyH_take (i := 2) (oi := _) (v := ?q3xv2) (ga rfl) (by kernel_rfl) (by kernel_rfl) (by kernel_rfl) (fun _ _ _ h => h) (Or.inl ⟨by rfl, ?q3xy2⟩) (by assumption) ?_
            case q3xy2 => (intro w hSw; (try dsimp only at hSw); go_simp; try with_reducible rfl)
            try simp only [Act.put, la, lz, ls]
            refine wpAnyH_take (i := 3) (oi := _) (v := ?q3xv3) (ga rfl) (by kernel_rfl) (by kernel_rfl) (by kernel_rfl) (fun _ _ _ h => h) (Or.inl ⟨by rfl, ?q3xy3⟩) (by assumption) ?_
            case q3xy3 => (intro w hSw; (try dsimp only at hSw); go_simp; try with_reducible rfl)
            try simp only [Act.put, la, lz, ls]
            refine wpAnyH_take (i := 4) (oi := _) (v := ?q3xv4) (ga rfl) (by kernel_rfl) (by kernel_rfl) (by kernel_rfl) (fun _ _ _ h => h) (Or.inl ⟨by rfl, ?q3xy4⟩) (by assumption) ?_
            case q3xy4 => (intro w hSw; (try dsimp only at hSw); go_simp; try with_reducible rfl)
            try simp only [Act.put, la, lz, ls]
            refine wpAnyH_take (i := 5) (oi := _) (v := ?q3xv5) (ga rfl) (by kernel_rfl) (by kernel_rfl) (by kernel_rfl) (fun _ _ _ h => h) (Or.inl ⟨by rfl, ?q3xy5⟩) (by assumption) ?_
            case q3xy5 => (intro w hSw; (try dsimp only at hSw); go_simp; try with_reducible rfl)
            try simp only [Act.put, la, lz, ls]
            refine wpAnyH_take (i := 6) (oi := _) (v := ?q3xv6) (ga rfl) (by kernel_rfl) (by kernel_rfl) (by kernel_rfl) (fun _ _ _ h => h) (Or.inl ⟨by rfl, ?q3xy6⟩) (by assumption) ?_
            case q3xy6 => (intro w hSw; (try dsimp only at hSw); go_simp; try with_reducible rfl)
            try simp only [Act.put, la, lz, ls]
            refine wpAnyH_take (i := 7) (oi := _) (v := ?q3xv7) (ga rfl) (by kernel_rfl) (by kernel_rfl) (by kernel_rfl) (fun _ _ _ h => h) (Or.inl ⟨by rfl, ?q3xy7⟩) (by assumption) ?_
            case q3xy7 => (intro w hSw; (try dsimp only at hSw); go_simp; try with_reducible rfl)
            try simp only [Act.put, la, lz, ls]
            refine wpAnyH_take (i := 8) (oi := _) (v := ?q3xv8) (ga rfl) (by kernel_rfl) (by kernel_rfl) (by kernel_rfl) (fun _ _ _ h => h) (Or.inl ⟨by rfl, ?q3xy8⟩) (by assumption) ?_
            case q3xy8 => (intro w hSw; (try dsimp only at hSw); go_simp; try with_reducible rfl)
            try simp only [Act.put, la, lz, ls]
            refine wpAnyH_take (i := 9) (oi := _) (v := ?q3xv9) (ga rfl) (by kernel_rfl) (by kernel_rfl) (by kernel_rfl) (fun _ _ _ h => h) (Or.inl ⟨by rfl, ?q3xy9⟩) (by assumption) ?_
            case q3xy9 => (intro w hSw; (try dsimp only at hSw); go_simp; try with_reducible rfl)
            try simp only [Act.put, la, lz, ls]
            refine wpAnyH_take (i := 10) (oi := _) (v := ?q3xv10) (ga rfl) (by kernel_rfl) (by kernel_rfl) (by kernel_rfl) (fun _ _ _ h => h) (Or.inl ⟨by rfl, ?q3xy10⟩) (by assumption) ?_
            case q3xy10 => (intro w hSw; (try dsimp only at hSw); go_simp; try with_reducible rfl)
            try simp only [Act.put, la, lz, ls]
            refine wpAnyH_take (i := 11) (oi := _) (v := ?q3xv11) (ga rfl) (by kernel_rfl) (by kernel_rfl) (by kernel_rfl) (fun _ _ _ h => h) (Or.inl ⟨by rfl, ?q3xy11⟩) (by assumption) ?_
            case q3xy11 => (intro w hSw; (try dsimp only at hSw); go_simp; try with_reducible rfl)
            try simp only [Act.put, la, lz, ls]
            refine wpAnyH_take (i := 12) (oi := _) (v := ?q3xv12) (ga rfl) (by kernel_rfl) (by kernel_rfl) (by kernel_rfl) (fun _ _ _ h => h) (Or.inl ⟨by rfl, ?q3xy12⟩) (by assumption) ?_
            case q3xy12 => (intro w hSw; (try dsimp only at hSw); go_simp; try with_reducible rfl)
            try simp only [Act.put, la, lz, ls]
            refine wpAnyH_take (i := 13) (oi := _) (v := ?q3xv13) (ga rfl) (by kernel_rfl) (by kernel_rfl) (by kernel_rfl) (fun _ _ _ h => h) (Or.inl ⟨by rfl, ?q3xy13⟩) (by assumption) ?_
            case q3xy13 => (intro w hSw; (try dsimp only at hSw); go_simp; try with_reducible rfl)
            try simp only [Act.put, la, lz, ls]
            refine wpAnyH_take (i := 14) (oi := _) (v := ?q3xv14) (ga rfl) (by kernel_rfl) (by kernel_rfl) (by kernel_rfl) (fun _ _ _ h => h) (Or.inl ⟨by rfl, ?q3xy14⟩) (by assumption) ?_
            case q3xy14 => (intro w hSw; (try dsimp only at hSw); go_simp; try with_reducible rfl)
            try simp only [Act.put, la, lz, ls]
            refine wpAnyH_take (i := 15) (oi := _) (v := ?q3xv15) (ga rfl) (by kernel_rfl) (by kernel_rfl) (by kernel_rfl) (fun _ _ _ h => h) (Or.inl ⟨by rfl, ?q3xy15⟩) (by assumption) ?_
            case q3xy15 => (intro w hSw; (try dsimp only at hSw); go_simp; try with_reducible rfl)
            try simp only [Act.put, la, lz, ls]
            refine wpAnyH_ready (rs := [16]) (by kernel_rfl) (by simp) ?_
            refine AllReadyH.cons (o := _) (ga rfl) (fun K hK => ?_) AllReadyH.nil
            go_simp
            refine hK.out _ _ ?q3xh16 (fun hHeld => ?_)
            case q3xh16 => (first | (first | exact ⟨fun q => rfl, n1⟩ | exact hkS _) | (dsimp only; first | exact ⟨fun q => rfl, n1⟩ | exact hkS _))
            clear hK K
            try simp only [Act.put, la, lz, ls]
            refine wpAnyH_done (by kernel_rfl) ?_ _
            refine hK6 _ _ ?_
            rw [show IntKind.i64.wrap (x.t.s0 - x.s.s0) = x.t.s0 - x.s.s0 from IntWalk.i64_in _ (by omega)]
            obtain ⟨W7, hW7⟩ : ∃ W7, (W6.setCell ⟨W.heap.size, 4, none⟩ (.int .i64 (x.t.s0 - x.s.s0))).drew = W7 := ⟨_, rfl⟩
            have hb7 : Below W.heap.size W W7 := by rw [← hW7]; exact (hb6.setCell (p := ⟨W.heap.size, 4, none⟩) (Nat.le_refl _) _).drew
            have hN7 : Held W7 W.heap.size (note6 pre.length x.e.x.player x.rule (M.foul r x.s x.e.x) (x.t.s0 - x.s.s0) false) 54 := by rw [← hW7]; exact hN6.set 4 _
            rw [hW7]
            clear hW7 hN6 hb6 hE6 hkS n1 n4 nf4 ea eb
            have hE7 := hE.below hb7
            have et := hE7.cell (j := 28) rfl
            have es := hE7.cell (j := 10) rfl
            have n5 := hN7.cell (j := 5) rfl
            have nf5 := hN7.frozen 5
            refine wpIn_region_round' (by kernel_rfl) (by rintro ⟨_, _, h⟩; exact h) ?_
            go_wp2
            have hb8 : Below W.heap.size W (W7.setCell ⟨W.heap.size, 5, none⟩ (.bool (x.t.turn != x.s.turn))) := hb7.setCell (p := ⟨W.heap.size, 5, none⟩) (Nat.le_refl _) _
            have hT8 : Turn (fun _ => False) W _ := Turn.of_below hb8
            exact GO.out _ _ _ _ _ _ _ _ _ _ _ _ _ _ _ _ _ _ _ _ _ _ _ _ _ _ _ _ _ _ _ _ _ _ _ _ _ _ _ _ _ _ _ _ _ _ _ _ _ _ _ _ _ _ _ _ _ _ _ _ _ _ _ _ _ _ _ _ _ _ _ _ _ _ (hN7.set 5 (.bool (x.t.turn != x.s.turn))) (hV.below hb8) (HOwn.out.turn (hT8.mono (fun b h => h.elim)) (fun b h => .inl h) (fun b h => .inl h)) hT8 (by
              rw [HNT.out, h0]
              congr 1
              · unfold M.State.score M.sel; rw [hpl]; rfl
              · rw [Bool.eq_iff_iff]; simp)
          · have n1 : W6.cell? ⟨W.heap.size, 1, none⟩ = some (.int .i64 1) := (hN6.cell (j := 1) rfl).trans (by rw [hpl])
            have n4 := hN6.cell (j := 4) rfl
            have nf4 := hN6.frozen 4
            have ea := hE6.cell (j := 18) rfl
            have eb := hE6.cell (j := 36) rfl
            have hkS : ∀ v, (fun w' : World => (∀ q, w'.cell? ⟨Be, q, none⟩ = W6.cell? ⟨Be, q, none⟩) ∧ w'.cell? ⟨W.heap.size, 1, none⟩ = some (.int .i64 1)) ((W6.drew).setCell ⟨W.heap.size, 4, none⟩ v) := fun v => ⟨fun q => World.cell?_setCell_other _ _ ⟨Be, q, none⟩ v (fun e => by cases e; omega), (World.cell?_setCell_other _ _ ⟨W.heap.size, 1, none⟩ v (fun e => by cases e)).trans n1⟩
            refine wpIn_region_held_drew (S := (fun w' : World => (∀ q, w'.cell? ⟨Be, q, none⟩ = W6.cell? ⟨Be, q, none⟩) ∧ w'.cell? ⟨W.heap.size, 1, none⟩ = some (.int .i64 1))) (by kernel_rfl) (by rintro ⟨_, _, h⟩; exact h) (by kernel_rfl) ?q4xstart (fun hHeld => ?_)
            case q4xstart => first | exact ⟨fun q => rfl, n1⟩ | exact hkS _
            refine wpAnyH_take (i := 0) (oi := _) (v := ?q4xv0) (ga rfl) (by kernel_rfl) (by kernel_rfl) (by kernel_rfl) (fun _ _ _ h => h) (Or.inl ⟨by rfl, ?q4xy0⟩) (by assumption) ?_
            case q4xy0 => (intro w hSw; (try dsimp only at hSw); go_simp; try with_reducible rfl)
            try simp only [Act.put, la, lz, ls]
            refine wpAnyH_take (i := 1) (oi := _) (v := ?q4xv1) (ga rfl) (by kernel_rfl) (by kernel_rfl) (by kernel_rfl) (fun _ _ _ h => h) (Or.inl ⟨by rfl, ?q4xy1⟩) (by assumption) ?_
            case q4xy1 => (intro w hSw; (try dsimp only at hSw); go_simp; try with_reducible rfl)
            try simp only [Act.put, la, lz, ls]
            refine wpAnyH_take (i := 2) (oi := _) (v := ?q4xv2) (ga rfl) (by kernel_rfl) (by kernel_rfl) (by kernel_rfl) (fun _ _ _ h => h) (Or.inl ⟨by rfl, ?q4xy2⟩) (by assumption) ?_
            case q4xy2 => (intro w hSw; (try dsimp only at hSw); go_simp; try with_reducible rfl)
            try simp only [Act.put, la, lz, ls]
            refine wpAnyH_take (i := 3) (oi := _) (v := ?q4xv3) (ga rfl) (by kernel_rfl) (by kernel_rfl) (by kernel_rfl) (fun _ _ _ h => h) (Or.inl ⟨by rfl, ?q4xy3⟩) (by assumption) ?_
            case q4xy3 => (intro w hSw; (try dsimp only at hSw); go_simp; try with_reducible rfl)
            try simp only [Act.put, la, lz, ls]
            refine wpAnyH_take (i := 4) (oi := _) (v := ?q4xv4) (ga rfl) (by kernel_rfl) (by kernel_rfl) (by kernel_rfl) (fun _ _ _ h => h) (Or.inl ⟨by rfl, ?q4xy4⟩) (by assumption) ?_
            case q4xy4 => (intro w hSw; (try dsimp only at hSw); go_simp; try with_reducible rfl)
            try simp only [Act.put, la, lz, ls]
            refine wpAnyH_take (i := 5) (oi := _) (v := ?q4xv5) (ga rfl) (by kernel_rfl) (by kernel_rfl) (by kernel_rfl) (fun _ _ _ h => h) (Or.inl ⟨by rfl, ?q4xy5⟩) (by assumption) ?_
            case q4xy5 => (intro w hSw; (try dsimp only at hSw); go_simp; try with_reducible rfl)
            try simp only [Act.put, la, lz, ls]
            refine wpAnyH_take (i := 6) (oi := _) (v := ?q4xv6) (ga rfl) (by kernel_rfl) (by kernel_rfl) (by kernel_rfl) (fun _ _ _ h => h) (Or.inl ⟨by rfl, ?q4xy6⟩) (by assumption) ?_
            case q4xy6 => (intro w hSw; (try dsimp only at hSw); go_simp; try with_reducible rfl)
            try simp only [Act.put, la, lz, ls]
            refine wpAnyH_take (i := 7) (oi := _) (v := ?q4xv7) (ga rfl) (by kernel_rfl) (by kernel_rfl) (by kernel_rfl) (fun _ _ _ h => h) (Or.inl ⟨by rfl, ?q4xy7⟩) (by assumption) ?_
            case q4xy7 => (intro w hSw; (try dsimp only at hSw); go_simp; try with_reducible rfl)
            try simp only [Act.put, la, lz, ls]
            refine wpAnyH_take (i := 8) (oi := _) (v := ?q4xv8) (ga rfl) (by kernel_rfl) (by kernel_rfl) (by kernel_rfl) (fun _ _ _ h => h) (Or.inl ⟨by rfl, ?q4xy8⟩) (by assumption) ?_
            case q4xy8 => (intro w hSw; (try dsimp only at hSw); go_simp; try with_reducible rfl)
            try simp only [Act.put, la, lz, ls]
            refine wpAnyH_take (i := 9) (oi := _) (v := ?q4xv9) (ga rfl) (by kernel_rfl) (by kernel_rfl) (by kernel_rfl) (fun _ _ _ h => h) (Or.inl ⟨by rfl, ?q4xy9⟩) (by assumption) ?_
            case q4xy9 => (intro w hSw; (try dsimp only at hSw); go_simp; try with_reducible rfl)
            try simp only [Act.put, la, lz, ls]
            refine wpAnyH_take (i := 10) (oi := _) (v := ?q4xv10) (ga rfl) (by kernel_rfl) (by kernel_rfl) (by kernel_rfl) (fun _ _ _ h => h) (Or.inl ⟨by rfl, ?q4xy10⟩) (by assumption) ?_
            case q4xy10 => (intro w hSw; (try dsimp only at hSw); go_simp; try with_reducible rfl)
            try simp only [Act.put, la, lz, ls]
            refine wpAnyH_take (i := 11) (oi := _) (v := ?q4xv11) (ga rfl) (by kernel_rfl) (by kernel_rfl) (by kernel_rfl) (fun _ _ _ h => h) (Or.inl ⟨by rfl, ?q4xy11⟩) (by assumption) ?_
            case q4xy11 => (intro w hSw; (try dsimp only at hSw); go_simp; try with_reducible rfl)
            try simp only [Act.put, la, lz, ls]
            refine wpAnyH_take (i := 12) (oi := _) (v := ?q4xv12) (ga rfl) (by kernel_rfl) (by kernel_rfl) (by kernel_rfl) (fun _ _ _ h => h) (Or.inl ⟨by rfl, ?q4xy12⟩) (by assumption) ?_
            case q4xy12 => (intro w hSw; (try dsimp only at hSw); go_simp; try with_reducible rfl)
            try simp only [Act.put, la, lz, ls]
            refine wpAnyH_take (i := 13) (oi := _) (v := ?q4xv13) (ga rfl) (by kernel_rfl) (by kernel_rfl) (by kernel_rfl) (fun _ _ _ h => h) (Or.inl ⟨by rfl, ?q4xy13⟩) (by assumption) ?_
            case q4xy13 => (intro w hSw; (try dsimp only at hSw); go_simp; try with_reducible rfl)
            try simp only [Act.put, la, lz, ls]
            refine wpAnyH_take (i := 14) (oi := _) (v := ?q4xv14) (ga rfl) (by kernel_rfl) (by kernel_rfl) (by kernel_rfl) (fun _ _ _ h => h) (Or.inl ⟨by rfl, ?q4xy14⟩) (by assumption) ?_
            case q4xy14 => (intro w hSw; (try dsimp only at hSw); go_simp; try with_reducible rfl)
            try simp only [Act.put, la, lz, ls]
            refine wpAnyH_take (i := 15) (oi := _) (v := ?q4xv15) (ga rfl) (by kernel_rfl) (by kernel_rfl) (by kernel_rfl) (fun _ _ _ h => h) (Or.inl ⟨by rfl, ?q4xy15⟩) (by assumption) ?_
            case q4xy15 => (intro w hSw; (try dsimp only at hSw); go_simp; try with_reducible rfl)
            try simp only [Act.put, la, lz, ls]
            refine wpAnyH_ready (rs := [16]) (by kernel_rfl) (by simp) ?_
            refine AllReadyH.cons (o := _) (ga rfl) (fun K hK => ?_) AllReadyH.nil
            go_simp
            refine hK.out _ _ ?q4xh16 (fun hHeld => ?_)
            case q4xh16 => (first | (first | exact ⟨fun q => rfl, n1⟩ | exact hkS _) | (dsimp only; first | exact ⟨fun q => rfl, n1⟩ | exact hkS _))
            clear hK K
            try simp only [Act.put, la, lz, ls]
            refine wpAnyH_done (by kernel_rfl) ?_ _
            refine hK6 _ _ ?_
            rw [show IntKind.i64.wrap (x.t.s1 - x.s.s1) = x.t.s1 - x.s.s1 from IntWalk.i64_in _ (by omega)]
            obtain ⟨W7, hW7⟩ : ∃ W7, (W6.setCell ⟨W.heap.size, 4, none⟩ (.int .i64 (x.t.s1 - x.s.s1))).drew = W7 := ⟨_, rfl⟩
            have hb7 : Below W.heap.size W W7 := by rw [← hW7]; exact (hb6.setCell (p := ⟨W.heap.size, 4, none⟩) (Nat.le_refl _) _).drew
            have hN7 : Held W7 W.heap.size (note6 pre.length x.e.x.player x.rule (M.foul r x.s x.e.x) (x.t.s1 - x.s.s1) false) 54 := by rw [← hW7]; exact hN6.set 4 _
            rw [hW7]
            clear hW7 hN6 hb6 hE6 hkS n1 n4 nf4 ea eb
            have hE7 := hE.below hb7
            have et := hE7.cell (j := 28) rfl
            have es := hE7.cell (j := 10) rfl
            have n5 := hN7.cell (j := 5) rfl
            have nf5 := hN7.frozen 5
            refine wpIn_region_round' (by kernel_rfl) (by rintro ⟨_, _, h⟩; exact h) ?_
            go_wp2
            have hb8 : Below W.heap.size W (W7.setCell ⟨W.heap.size, 5, none⟩ (.bool (x.t.turn != x.s.turn))) := hb7.setCell (p := ⟨W.heap.size, 5, none⟩) (Nat.le_refl _) _
            have hT8 : Turn (fun _ => False) W _ := Turn.of_below hb8
            exact GO.out _ _ _ _ _ _ _ _ _ _ _ _ _ _ _ _ _ _ _ _ _ _ _ _ _ _ _ _ _ _ _ _ _ _ _ _ _ _ _ _ _ _ _ _ _ _ _ _ _ _ _ _ _ _ _ _ _ _ _ _ _ _ _ _ _ _ _ _ _ _ _ _ _ _ (hN7.set 5 (.bool (x.t.turn != x.s.turn))) (hV.below hb8) (HOwn.out.turn (hT8.mono (fun b h => h.elim)) (fun b h => .inl h) (fun b h => .inl h)) hT8 (by
              rw [HNT.out, h0]
              congr 1
              · unfold M.State.score M.sel; rw [hpl]; simp
              · rw [Bool.eq_iff_iff]; simp)
        · have h0 : x.rule ≠ 0 := by simpa using h
          refine wpIn_skip ?_
          exact GO.out W2 _ _ _ _ _ _ _ _ _ _ _ _ _ _ _ _ _ _ _ _ _ _ _ _ _ _ _ _ _ _ _ _ _ _ _ _ _ _ _ _ _ _ _ _ _ _ _ _ _ _ _ _ _ _ _ _ _ _ _ _ _ _ _ _ _ _ _ _ _ _ _ _ _ hN2 hV2 hOwn2 hT2 (by
            unfold M.note
            rw [if_pos (by rw [← HT.out.rule]; exact h0), HT.out.rule])
      case done =>
        intro D X Y xs W hD hS hi hdef
        obtain ⟨v, hV, hOwn⟩ := hi.a
        have hrfin : notesTo r l xs.length = notesR r l := by rw [hS, HRS.out]; unfold notesTo; rw [List.take_length]
        have hOwn' : OwnRow W w3.heap.size X Y 54 6 v (notesR r l).length (noteCells (notesR r l)) := by rw [← hrfin]; exact hOwn
        have hlr : (notesR r l).length ≤ 1000 := by rw [← hrfin]; have := notesTo_len r l xs.length (by omega); have := HLS.out; omega
        obtain ⟨A2, c2, rfl⟩ := own_slice hOwn'.own
        have hbw := hi.bw
        have hWs := hi.sz
        have c9 := hV.cell (j := 0) rfl
        have HDEF := hide hdef
        have fin : ∀ (a : Act), a.defers = [{ target := .collected D, args := #[] }] → a.tmps.getD 4 undef = .slice A2 (notesR r l).length c2 → a.tmps.getD 5 undef = .int .i64 0 → Q' .ret a W := by
          intro a e1 e4 e5
          rw [← HQ.out]
          refine leaves_after e1 HDEF.out (results_tmp2 rfl _ _ _) ⟨A2, c2, ?_, ?_, below_putObj hbw (by omega) _⟩
          · rw [e4, e5, HE.out, h0]
          · exact Reads.of_own (hOwn'.putObj HDEF.out rfl _).own (fun g hg => by omega) (by omega)
        have FIN := hide fin
        clear fin hi hdef hOwn hOwn' hV
        refine hKQ _ _ ?_
        dsimp only
        refine wp_ret_only ?_
        go_wp2
        exact FIN.out _ rfl rfl rfl
    · have h0' : (E != 0) = true := by simp [h0]
      have hrs : notesR r l = [] := by
        have := HE.out
        unfold notesR; rw [if_neg (by rw [this]; exact h0)]
      have HRS := hide hrs
      clear h0 hrs
      go_wp2_with (first | (go_at_call 63; refine (HCK.out _ (hp.below hB.bw)).mono ?_; rintro e w1 ⟨rfl, hb1⟩; have hB1 := hB.call (by simp) hb1))
      rw [← HQ.out]
      refine leaves_now (results_tmp2 rfl _ _ _) rfl ⟨none, 0, ?_, ?_, hB1.bw⟩
      · rw [HRS.out, HE.out]; rfl
      · rw [HRS.out]; exact Reads.none_ _ _ _
end Go.Proofs.YtelpepbpdojikaaGreatDoor
