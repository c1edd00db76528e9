/- Parts of the proofs about chapter 5 (pool), joined by program. -/
import Derived.Test.YtelpepbpdojikaaGreatDoorKe0
import Derived.Test.YtelpepbpdojikaaGreatDoorKe13
import Derived.Test.YtelpepbpdojikaaGreatDoorKe29
import Derived.Test.YtelpepbpdojikaaGreatDoorKe39
set_option linter.unusedVariables false
set_option linter.unusedSimpArgs false
namespace Go.Proofs.YtelpepbpdojikaaGreatDoor
open Go.RowKit
structure RL2 (e ty tb : TypeId) (size : Nat) (w : World) (B D : Nat) (len : Nat → Nat) (rows : Nat → List Value) (op : Nat → Bool) (X Y : Nat → Prop) (xs : List Ent) (W : World) : Prop where
  bw : Below w.heap.size w W
  sz : D ≤ W.heap.size
  sep : ∀ b, X b ∨ Y b → D ≤ b
  a : ∃ v, Held W B [v] ty ∧ OwnRow W D X Y e size v (len xs.length) (rows xs.length)
  b : Held W (B + 1) [.bool (op xs.length)] tb
section
variable {e ty tb : TypeId} {size : Nat} {w : World} {B D : Nat} {len : Nat → Nat} {rows : Nat → List Value} {op : Nat → Bool}
theorem RL2.abides (hw : w.heap.size < B) (h9 : B + 1 < D) : Abides2 (RL2 e ty tb size w B D len rows op) := by
  intro X Y pre W X' Y' W' h ht hX hY
  have hno : ∀ b, b < D → ¬ X b := fun b hb hx => by have := h.sep b (.inl hx); omega
  obtain ⟨v, hv, ho⟩ := h.a
  refine ⟨below_turn h.bw ht (fun b hb => by have := h.sep b (.inl hb); omega) (by have := h.sz; omega), Nat.le_trans h.sz ht.size, ?_, ⟨v, hv.turn ht (hno _ (by omega)), ho.turn ht hX hY⟩, h.b.turn ht (hno _ h9)⟩
  rintro b (hb | hb)
  · rcases hX b hb with h2 | h2
    · exact h.sep b (.inl h2)
    · exact Nat.le_trans h.sz h2
  · rcases hY b hb with h2 | h2
    · exact h.sep b (.inr h2)
    · exact Nat.le_trans h.sz h2
theorem RL2.putObj {X Y : Nat → Prop} {pre : List Ent} {W : World} {lp : Nat} {o : Obj} (h : RL2 e ty tb size w B D len rows op X Y pre W) (hD : w.heap.size ≤ D) (hlp : D ≤ lp) (hl : W.heap[lp]? = some o) (ho : o.isCells = false) (o' : Obj) : RL2 e ty tb size w B D len rows op X Y pre (W.putObj lp o') := by
  obtain ⟨v, hv, hw⟩ := h.a
  exact ⟨below_putObj h.bw (by omega) _, by simpa using h.sz, h.sep, ⟨v, hv.putObj hl ho _, hw.putObj hl ho _⟩, h.b.putObj hl ho _⟩
theorem round_end2 {X Y K : Nat → Prop} {W W6 : World} {v : Value} {n : Nat} {xs : List Value} (hWs : D ≤ W.heap.size) (hX : ∀ b, X b ∨ Y b → D ≤ b ∧ b < W.heap.size) (hB : B + 1 < D) (hK : ∀ b, K b → b < D ∧ b ≠ B ∧ b ≠ B + 1) (hOwn : OwnRow W D X Y e size v n xs)
    (hT : Turn (fun b => (b = B ∨ b = B + 1) ∨ v.ownBlock = some b) W W6) : KeepsFrom D W W6 ∧ RoundKeeps K X Y W W6 := by
  refine ⟨⟨hT.size, fun k o hk hl hc => (hT.block k (Array.getElem?_eq_some_iff.1 hl).1 ?_).trans hl⟩, ⟨hT.size, fun b h => hT.block b (hX b h).2 ?_, fun b h => hT.block b (Nat.lt_of_lt_of_le (hK b h).1 hWs) ?_⟩⟩
  · rintro (h | h)
    · omega
    · obtain ⟨o2, h2, h3⟩ := (ownsRow_lt hOwn.own h).2
      rw [hl] at h2; cases h2; rw [hc] at h3; cases h3
  · have h1 := (hX b h).1
    rintro (h2 | h2)
    · omega
    · exact h.elim (hOwn.far b h2).1 (hOwn.far b h2).2
  · rintro (h2 | h2)
    · have := hK b h; omega
    · have := (ownsRow_lt hOwn.own h2).1; have := (hK b h).1; omega
theorem RL2.fin {X Y K : Nat → Prop} {Ix : (Nat → Prop) → (Nat → Prop) → List Ent → World → Prop} {x : Ent} {pre : List Ent} {W W6 : World} {v nv : Value} {n : Nat} {xs : List Value} {a : Act} (hw : w.heap.size ≤ B) (hB : B + 1 < D) (hWs : D ≤ W.heap.size) (hbw : Below w.heap.size w W) (hsep : ∀ b, X b ∨ Y b → D ≤ b)
    (hX : ∀ b, X b ∨ Y b → D ≤ b ∧ b < W.heap.size) (hK : ∀ b, K b → b < D ∧ b ≠ B ∧ b ≠ B + 1) (hOwn : OwnRow W D X Y e size v n xs) (hT : Turn (fun b => (b = B ∨ b = B + 1) ∨ v.ownBlock = some b) W W6) (hV : Held W6 B [nv] ty) (hV2 : Held W6 (B + 1) [.bool (op (pre.length + 1))] tb)
    (hO : OwnRow W6 D X Y e size nv (len (pre.length + 1)) (rows (pre.length + 1))) : toldPost K D X Y (RL2 e ty tb size w B D len rows op) Ix (pre ++ [x]) W .normal a W6 := by
  obtain ⟨h1, h2⟩ := round_end2 hWs hX hB hK hOwn hT
  refine ⟨h1, h2, ⟨below_turn hbw hT ?_ (by omega), Nat.le_trans hWs hT.size, hsep, ⟨nv, hV, ?_⟩, ?_⟩⟩
  · rintro b (h | h)
    · omega
    · have := (ownsRow_lt hOwn.own h).1; omega
  · rw [List.length_append, List.length_singleton]; exact hO
  · rw [List.length_append, List.length_singleton]; exact hV2
end
def run1 (r : M.Rules) (s : M.State) (x : M.Shot) (q : Bool × List M.Run) : Bool × List M.Run :=
  if M.legal r s x ≠ 0 then q else if M.good r s x = false then (false, q.2) else if q.1 = true then (true, M.bump (M.objects x).length q.2) else (true, q.2 ++ [⟨x.player, (M.objects x).length⟩])
def runSt (r : M.Rules) (s : M.State) (q : Bool × List M.Run) : List M.Shot → Bool × List M.Run
  | [] => q
  | x :: l => runSt r (M.step r s x) (run1 r s x q) l
theorem runSt_snoc (r : M.Rules) : ∀ (l : List M.Shot) (s : M.State) (q : Bool × List M.Run) (x : M.Shot), runSt r s q (l ++ [x]) = run1 r (M.final r s l) x (runSt r s q l)
  | [], _, _, _ => rfl
  | y :: l, s, q, x => by
    rw [List.cons_append, runSt, runSt, runSt_snoc r l]
    rfl
theorem runSt_runs (r : M.Rules) : ∀ (l : List M.Shot) (s : M.State) (q : Bool × List M.Run), (runSt r s q l).2 = M.runsP r s q.1 q.2 l
  | [], _, _ => rfl
  | x :: l, s, q => by
    rw [runSt, runSt_runs r l, M.runsP]
    unfold run1
    split
    · rfl
    split
    · rfl
    split <;> simp_all
def RunBd (k : Nat) (q : Bool × List M.Run) : Prop := (q.1 = true → q.2 ≠ []) ∧ q.2.length ≤ k ∧ ∀ a ∈ q.2, 0 ≤ a.points ∧ a.points ≤ 20 * (k : Int)
theorem bump_len (n : Int) : ∀ l : List M.Run, (M.bump n l).length = l.length
  | [] => rfl
  | [_] => rfl
  | _ :: b :: l => by rw [M.bump, List.length_cons, bump_len n (b :: l)]; rfl
theorem bump_last (n : Int) (l : List M.Run) (h : l ≠ []) : M.bump n l = l.dropLast ++ [⟨(l.getLast h).player, (l.getLast h).points + n⟩] := by
  conv => lhs; rw [← List.dropLast_concat_getLast h]
  rw [M.bump_snoc]
theorem run1_bd {r : M.Rules} {s : M.State} {x : M.Shot} {k : Nat} {q : Bool × List M.Run} (h : RunBd k q) (hx : (M.objects x).length ≤ 20) : RunBd (k + 1) (run1 r s x q) := by
  obtain ⟨h1, h2, h3⟩ := h
  have h3' : ∀ a ∈ q.2, 0 ≤ a.points ∧ a.points ≤ 20 * ((k + 1 : Nat) : Int) := fun a ha => by have := h3 a ha; omega
  unfold run1
  split
  · exact ⟨h1, by omega, h3'⟩
  split
  · exact ⟨fun e => (by cases e), by show q.2.length ≤ k + 1; omega, h3'⟩
  split
  · next hq =>
    have hne := h1 hq
    refine ⟨fun _ e => ?_, by show (M.bump _ _).length ≤ _; rw [bump_len]; omega, fun a ha => ?_⟩
    · have := bump_len (M.objects x).length q.2
      have e : M.bump (M.objects x).length q.2 = [] := e
      rw [e] at this
      exact hne (List.eq_nil_of_length_eq_zero (by simpa using this.symm))
    · rw [bump_last _ _ hne] at ha
      rcases List.mem_append.1 ha with ha | ha
      · exact h3' a (List.dropLast_subset _ ha)
      · obtain rfl := List.mem_singleton.1 ha
        have := h3 _ (List.getLast_mem hne)
        simp only
        omega
  · refine ⟨fun _ e => (by simp at e), by simp; omega, fun a ha => ?_⟩
    rcases List.mem_append.1 ha with ha | ha
    · exact h3' a ha
    · obtain rfl := List.mem_singleton.1 ha
      simp only
      omega
theorem objects_len {x : M.Shot} (h : M.ckShot x = 0) : (M.objects x).length ≤ 20 := by
  have h1 := (M.shotOk h).few
  have : (M.objects x).length ≤ x.pots.length := by unfold M.objects; exact objTo_le _
  omega
def runQ (r : M.Rules) (l : List Sh) (k : Nat) : Bool × List M.Run := runSt r (M.start r) (false, []) (plain (l.take k))
theorem runQ_succ (r : M.Rules) (l : List Sh) (k : Nat) (hk : k < l.length) : runQ r l (k + 1) = run1 r (stAt r l k) l[k].x (runQ r l k) := by
  unfold runQ stAt
  rw [List.take_succ_eq_append_getElem hk]
  unfold plain
  rw [List.map_append, List.map_cons, List.map_nil, runSt_snoc]
theorem runQ_all (r : M.Rules) (l : List Sh) : (runQ r l l.length).2 = M.runs r (plain l) := by
  unfold runQ
  rw [List.take_length, runSt_runs]
  rfl
theorem runQ_bd (r : M.Rules) (l : List Sh) (hl : ∀ e ∈ l, M.ckShot e.x = 0) : ∀ k, k ≤ l.length → RunBd k (runQ r l k)
  | 0, _ => ⟨fun e => (by cases e), Nat.le_refl _, fun a ha => by cases ha⟩
  | k + 1, h => by
    rw [runQ_succ r l k (by omega)]
    exact run1_bd (runQ_bd r l hl k (by omega)) (objects_len (hl _ (List.getElem_mem (by omega))))
def runCells (l : List M.Run) : List Value := l.flatMap fun a => [.int .i64 a.player, .int .i64 a.points]
theorem runCells_append (a b : List M.Run) : runCells (a ++ b) = runCells a ++ runCells b := by simp [runCells]
theorem runCells_len : ∀ l : List M.Run, (runCells l).length = 2 * l.length
  | [] => rfl
  | a :: l => by
    have := runCells_len l
    unfold runCells at this ⊢
    rw [List.flatMap_cons, List.length_append, this]
    simp
    omega
theorem runCells_last (l : List M.Run) (h : l ≠ []) : (runCells l)[2 * (l.length - 1) + 1]? = some (.int .i64 (l.getLast h).points) := by
  conv => lhs; arg 1; rw [← List.dropLast_concat_getLast h]
  rw [runCells_append, List.getElem?_append_right (by rw [runCells_len, List.length_dropLast]; omega), runCells_len, List.length_dropLast]
  rw [show 2 * (l.length - 1) + 1 - 2 * (l.length - 1) = 1 by omega]
  rfl
theorem runCells_bump (l : List M.Run) (h : l ≠ []) (n : Int) : (runCells l).set (2 * (l.length - 1) + 1) (.int .i64 ((l.getLast h).points + n)) = runCells (M.bump n l) := by
  rw [bump_last n l h]
  conv => lhs; arg 1; rw [← List.dropLast_concat_getLast h]
  rw [runCells_append, runCells_append, List.set_append_right _ _ (by rw [runCells_len, List.length_dropLast]; omega), runCells_len, List.length_dropLast]
  rw [show 2 * (l.length - 1) + 1 - 2 * (l.length - 1) = 1 by omega]
  rfl
end Go.Proofs.YtelpepbpdojikaaGreatDoor
namespace Go.Proofs.YtelpepbpdojikaaGreatDoor
open Go.RowKit
theorem run_info : (Tryz.prog.info? 63).map (fun i => (i.zero, i.size, i.bytes)) = some (some (.agg #[.int .i64 0, .int .i64 0]), 2, 16) := by kernel_rfl
def runsR' (r : M.Rules) (l : List Sh) : List M.Run := if logE r l = 0 then M.runs r (plain l) else []
set_option maxRecDepth 100000 in
set_option maxHeartbeats 4000000 in
theorem runs_any (S : Nat → Prop) (r : M.Rules) (l : List Sh) (A : Option Addr) (c : Nat) (w : World) (hp : RdS w S A c l) :
    Calls Tryz.prog 24 #[rulesV r, .slice A l.length c] w fun e w' => ∃ A2 c2, e = .returned (.tuple #[.slice A2 (runsR' r l).length c2, .int .i64 (logE r l)]) ∧ Reads w' (fun b => w.heap.size ≤ b) 2 A2 (runsR' r l).length c2 (runCells (runsR' r l)) ∧ Below w.heap.size w w' := by
  refine callsIn_wide.1 (callsIn_of_wp_marks (F := Fence.wide) (n := 5) Tryz.func24 rfl trivial ?_ rfl)
  simp only [Tryz.ntmps24, List.size_toArray, List.length_cons, List.length_nil, Nat.reduceAdd, Nat.reduceSub, Array.replicate_succ,
     Array.replicate_zero, List.push_toArray, List.append_toArray, List.nil_append, List.cons_append]
  refine wpIn_wide.2 ?_
  generalize hQ' : bodyPostM Fence.wide 5 Tryz.prog _ _ = Q'
  have hck := fun W h => check_any S r l A c W h
  obtain ⟨E, hE⟩ : ∃ E, firstOf [M.ckRules r, M.ckLog (plain l)] = E := ⟨_, rfl⟩
  rw [hE] at hck
  have hE' : logE r l = E := hE
  have HCK := hide hck
  have HE := hide hE'
  have HQ := hide hQ'
  clear hck hE hE' hQ'
  go_upto_region 0 with (fail)
  go_cut [2] from 2 to 5 (fun v2 wx => v2 = ptr w.heap.size ∧ Blks w wx [([.string r.game, .int .i64 r.target, .int .i64 r.fouls], 23)])
  case first =>
    go_wp2
    go_meet
    exact ⟨rfl, ((Blks.nil w).new (by simp) ([.string r.game, .int .i64 r.target, .int .i64 r.fouls]) _)⟩
  case rest =>
    obtain ⟨rfl, hB⟩ := hcut
    have k0 := (hB.get0 rfl).cell (j := 0) rfl
    have kf0 := (hB.get0 rfl).frozen 0
    have k1 := (hB.get0 rfl).cell (j := 1) rfl
    have kf1 := (hB.get0 rfl).frozen 1
    have k2 := (hB.get0 rfl).cell (j := 2) rfl
    have kf2 := (hB.get0 rfl).frozen 2
    by_cases h0 : E = 0
    · have h0' : (E != 0) = false := by simp [h0]
      obtain ⟨hr, hl⟩ := log_parts (HE.out.trans h0)
      have hrs : runsR' r l = M.runs r (plain l) := by
        have := HE.out
        unfold runsR'; rw [if_pos (by rw [this]; exact h0)]
      have HRS := hide hrs
      have HR := hide hr
      have HL := hide hl
      have HLS := hide (log_short (HE.out.trans h0))
      go_upto_region 4 with (first | (go_at_call 63; refine (HCK.out _ (hp.below hB.bw)).mono ?_; rintro e w1 ⟨rfl, hb1⟩; have hB1 := hB.call (by simp) hb1))
      clear h0' hrs hr hl k0 kf0 k1 kf1 k2 kf2
      have j0 := (hB1.get0 rfl).cell (j := 0) rfl
      have jf0 := (hB1.get0 rfl).frozen 0
      have j1 := (hB1.get0 rfl).cell (j := 1) rfl
      have jf1 := (hB1.get0 rfl).frozen 1
      have j2 := (hB1.get0 rfl).cell (j := 2) rfl
      have jf2 := (hB1.get0 rfl).frozen 2
      have hsz0 : w.heap.size + 1 ≤ w1.heap.size := by simpa using hB1.size (by simp)
      have hsz1 : w.heap.size < w1.heap.size := by omega
      go_wp2_with (go_at_call 65; refine (entries_any r _ _ _ _).mono ?_; rintro e w3 ⟨rfl, hC⟩)
      rename_i KQ hKQ
      have hb2 := (((Below.refl w1.heap.size w1).alloc (Nat.le_refl _) (.cells #[.slice none 0 0] 56)).alloc (by simp) (.cells #[.bool false] 4))
      have hA2 := (Held.new w1 [.slice none 0 0] 56).alloc (.cells #[.bool false] 4)
      have hO2 := Held.newAt (w1.alloc (.cells #[.slice none 0 0] 56)) [.bool false] 4 (g := w1.heap.size + 1) (by simp)
      have hz2 : ((w1.alloc (.cells #[.slice none 0 0] 56)).alloc (.cells #[.bool false] 4)).heap.size = w1.heap.size + 2 := by simp
      have hD3 : w1.heap.size + 4 ≤ w3.heap.size := by
        have := hC.size (by simp)
        simp only [List.length_cons, List.length_nil] at this
        omega
      have hb3 := (hB1.bw.trans (hb2.mono (by omega))).trans (hC.bw.mono (by omega))
      have hRul : Held w3 (w1.heap.size + 2) [.string r.game, .int .i64 r.target, .int .i64 r.fouls] 23 := by have := hC.get0 rfl; rwa [hz2] at this
      have hLst : Held w3 (w1.heap.size + 3) [.slice A l.length c] 24 := by have := hC.get 1 rfl; rwa [hz2] at this
      have hK3 : ∀ b, (fun b => b = w1.heap.size + 2 ∨ b = w1.heap.size + 3 ∨ (S b ∧ b < w.heap.size)) b → b < w3.heap.size := by rintro b (h | h | ⟨_, h⟩) <;> omega
      have hLK : RdS w3 (fun b => b = w1.heap.size + 2 ∨ b = w1.heap.size + 3 ∨ (S b ∧ b < w.heap.size)) A c l := (hp.more (S' := (fun b => b = w1.heap.size + 2 ∨ b = w1.heap.size + 3 ∨ (S b ∧ b < w.heap.size))) (fun b hb h => .inr (.inr ⟨h, hb⟩))).below hb3
      have hA3 := hA2.upto hC.bw (by omega)
      have hO3 := hO2.upto hC.bw (by omega)
      clear hC hA2 hO2 hb2 hz2 hb1 hB1
      refine (wpIn_wide (n := 5)).1 ?_
      refine wpIn_rangeFunc_told (F := Fence.wide) rfl (by decide) rfl trivial (fun _ _ => rfl) (entries1_told r l A c (fun b => b = w1.heap.size + 2 ∨ b = w1.heap.size + 3 ∨ (S b ∧ b < w.heap.size)) _ _ 4 w3 (by decide) HR.out HL.out HLS.out hK3 hRul (.inl rfl) hLst (.inr (.inl rfl)) hLK) hK3 (Below.refl _ _) (fun _ => rfl) (RL2 63 56 4 2 w w1.heap.size w3.heap.size (fun k => (runQ r l k).2.length) (fun k => runCells (runQ r l k).2) (fun k => (runQ r l k).1)) (fun _ _ _ _ => False) (RL2.abides (by omega) (by omega)) (fun _ _ _ _ _ _ _ h _ _ _ => h)
        (fun X Y pre W lp o o' h hlp hl ho => h.putObj (by omega) hlp hl ho o') (fun _ _ _ _ _ _ _ h _ _ _ => h) (fun X Y pre x W lp o o' h hlp hl ho => h.putObj hl ho o') ?h0 (fun x a W => ∃ Be v0 v1 v2 v3 v4 v5 v6 v9 v11 v12 v13 v14 v15 v16 v17 v18 v19 v20 v21 v22 v23 v24 v25 v26 v27 v28 v29 v30 v31 v32 v33 v34 v35 v36 v37 v38 v39 v40 v41 v42 v43 v44 v45 v46 v47 v48 v49 v50 v51 v52 v53 v54 v55 v56 v57 v58 v59 v60, a = { tmps := #[v0, v1, v2, v3, v4, v5, v6, ptr w1.heap.size, ptr (w1.heap.size + 1), v9, ptr Be, v11, v12, v13, v14, v15, v16, v17, v18, v19, v20, v21, v22, v23, v24, v25, v26, v27, v28, v29, v30, v31, v32, v33, v34, v35, v36, v37, v38, v39, v40, v41, v42, v43, v44, v45, v46, v47, v48, v49, v50, v51, v52, v53, v54, v55, v56, v57, v58, v59, v60], defers := [] } ∧ w3.heap.size ≤ Be ∧ Held W Be (entCells r x) 133) ?assign ?ap ?body ?done ?stop
      case h0 =>
        intro W hW
        exact ⟨(hb3.trans (hW.mono (by omega))), hW.size, fun b h => h.elim (fun h => h.elim) (fun h => h.elim), ⟨.slice none 0 0, hA3.below hW, World.ownsRow_nil _ _ _ _, fun g hg => by cases hg⟩, hO3.below hW⟩
      case ap =>
        rintro x a' W lp o o' ⟨Be, v0, v1, v2, v3, v4, v5, v6, v9, v11, v12, v13, v14, v15, v16, v17, v18, v19, v20, v21, v22, v23, v24, v25, v26, v27, v28, v29, v30, v31, v32, v33, v34, v35, v36, v37, v38, v39, v40, v41, v42, v43, v44, v45, v46, v47, v48, v49, v50, v51, v52, v53, v54, v55, v56, v57, v58, v59, v60, e2, h1, h2⟩ hlp hl ho
        exact ⟨Be, v0, v1, v2, v3, v4, v5, v6, v9, v11, v12, v13, v14, v15, v16, v17, v18, v19, v20, v21, v22, v23, v24, v25, v26, v27, v28, v29, v30, v31, v32, v33, v34, v35, v36, v37, v38, v39, v40, v41, v42, v43, v44, v45, v46, v47, v48, v49, v50, v51, v52, v53, v54, v55, v56, v57, v58, v59, v60, e2, h1, h2.putObj hl ho _⟩
      case stop => exact fun _ _ _ _ _ _ _ h _ => h.elim
      case assign =>
        intro lp X Y pre x W K' hi ht hk hXY
        have hb := ((Below.refl W.heap.size W).alloc (Nat.le_refl _) (.cells zeroEnt.toArray 133))
        have hb' := below_setCells W.heap.size (Nat.le_refl _) (entCells r x) 0 _ _ hb
        have hE0 := Held.new W zeroEnt 133
        have hsz := hi.sz
        have fin : ∀ v0 v1 v2 v3 v4 v5 v6 v9 v11 v12 v13 v14 v15 v16 v17 v18 v19 v20 v21 v22 v23 v24 v25 v26 v27 v28 v29 v30 v31 v32 v33 v34 v35 v36 v37 v38 v39 v40 v41 v42 v43 v44 v45 v46 v47 v48 v49 v50 v51 v52 v53 v54 v55 v56 v57 v58 v59 v60 : Value, K' { tmps := #[v0, v1, v2, v3, v4, v5, v6, ptr w1.heap.size, ptr (w1.heap.size + 1), v9, ptr W.heap.size, v11, v12, v13, v14, v15, v16, v17, v18, v19, v20, v21, v22, v23, v24, v25, v26, v27, v28, v29, v30, v31, v32, v33, v34, v35, v36, v37, v38, v39, v40, v41, v42, v43, v44, v45, v46, v47, v48, v49, v50, v51, v52, v53, v54, v55, v56, v57, v58, v59, v60], defers := [] } ((W.alloc (.cells zeroEnt.toArray 133)).setCells W.heap.size 0 (entCells r x)) := fun _ _ _ _ _ _ _ _ _ _ _ _ _ _ _ _ _ _ _ _ _ _ _ _ _ _ _ _ _ _ _ _ _ _ _ _ _ _ _ _ _ _ _ _ _ _ _ _ _ _ _ _ _ _ _ _ _ _ =>
          hk _ _ ⟨hb'.size, fun k o hk hl _ => (hb'.block k (Array.getElem?_eq_some_iff.1 hl).1).trans hl⟩
            ⟨hb'.size, fun b h => hb'.block b (hXY b h), fun b h => hb'.block b (Nat.lt_of_lt_of_le (hK3 b h) hsz)⟩
            (RL2.abides (by omega) (by omega) _ _ _ _ _ _ _ hi (Turn.of_below hb') (fun b h => .inl h) (fun b h => .inl h))
            ⟨ht.i, ht.lt, ht.e, ht.s, ht.t, ht.rule, ht.a.below hb', ht.b.below hb', ht.xy⟩
            ⟨W.heap.size, _, _, _, _, _, _, _, _, _, _, _, _, _, _, _, _, _, _, _, _, _, _, _, _, _, _, _, _, _, _, _, _, _, _, _, _, _, _, _, _, _, _, _, _, _, _, _, _, _, _, _, _, _, _, _, _, _, _, rfl, hsz, hE0.whole _ rfl⟩
        have FIN := hide fin
        clear hk fin hb hb' hi ht hXY hsz
        simp [encEnt]
        refine wpIn_region_round' (by kernel_rfl) (by rintro ⟨_, _, h⟩; exact h) ?_
        go_wp2_with (refine is_store 133 (.tmp 10) (.tmp 21) rfl ?_; refine next_store hE0 (entCells r x) rfl ent_info (ent_one _ _) rfl (.tmp 10) (.tmp 21) rfl rfl rfl ?_)
        exact FIN.out _ _ _ _ _ _ _ _ _ _ _ _ _ _ _ _ _ _ _ _ _ _ _ _ _ _ _ _ _ _ _ _ _ _ _ _ _ _ _ _ _ _ _ _ _ _ _ _ _ _ _ _ _ _ _ _ _ _
      case body =>
        rintro lp X Y pre x a' W hi ht ⟨Be, v0, v1, v2, v3, v4, v5, v6, v9, v11, v12, v13, v14, v15, v16, v17, v18, v19, v20, v21, v22, v23, v24, v25, v26, v27, v28, v29, v30, v31, v32, v33, v34, v35, v36, v37, v38, v39, v40, v41, v42, v43, v44, v45, v46, v47, v48, v49, v50, v51, v52, v53, v54, v55, v56, v57, v58, v59, v60, rfl, hBe, hE⟩ hlt hXY hWs
        obtain ⟨v, hV, hOwn⟩ := hi.a
        have hO := hi.b
        have hl0 : 0 ≤ x.rule := by rw [ht.rule]; exact legal_nonneg _ _ _
        have hle : l[pre.length] = x.e := by have := ht.e; rw [List.getElem?_eq_getElem hlt] at this; exact Option.some.inj this
        have hbw := hi.bw
        have hQs : runQ r l (pre.length + 1) = run1 r x.s x.e.x (runQ r l pre.length) := by rw [runQ_succ r l pre.length hlt, hle, ← ht.s]
        have hbd := runQ_bd r l HL.out pre.length (Nat.le_of_lt hlt)
        have hll := HLS.out
        obtain ⟨op, acc, hq⟩ : ∃ o a, runQ r l pre.length = (o, a) := ⟨_, _, rfl⟩
        rw [hq] at hQs hbd
        replace hO : Held W (w1.heap.size + 1) [.bool (runQ r l pre.length).1] 4 := hO
        replace hOwn : OwnRow W w3.heap.size X Y 63 2 v (runQ r l pre.length).2.length (runCells (runQ r l pre.length).2) := hOwn
        rw [hq] at hOwn hO
        obtain ⟨d1, d2, d3⟩ := hbd
        dsimp only at hOwn hO d1 d2 d3
        have hBlt := hE.lt
        have e43 := hE.cell (j := 43) rfl
        have hOk := stAt_ok HR.out HL.out pre.length (Nat.le_of_lt hlt)
        rw [← ht.s] at hOk
        have hck := HL.out _ (List.getElem_mem hlt)
        rw [hle] at hck
        have fin : ∀ (W6 : World) (nv : Value) (o' : Bool) (acc' : List M.Run) (a : Act), Turn (fun b => (b = w1.heap.size ∨ b = w1.heap.size + 1) ∨ v.ownBlock = some b) W W6 → Held W6 w1.heap.size [nv] 56 → Held W6 (w1.heap.size + 1) [.bool o'] 4 → OwnRow W6 w3.heap.size X Y 63 2 nv acc'.length (runCells acc') → run1 r x.s x.e.x (op, acc) = (o', acc') →
            toldPost (fun b => b = w1.heap.size + 2 ∨ b = w1.heap.size + 3 ∨ (S b ∧ b < w.heap.size)) w3.heap.size X Y (RL2 63 56 4 2 w w1.heap.size w3.heap.size (fun k => (runQ r l k).2.length) (fun k => runCells (runQ r l k).2) (fun k => (runQ r l k).1)) (fun _ _ _ _ => False) (pre ++ [x]) W .normal a W6 := fun W6 nv o' acc' a hT hV6 hO6 hR6 e6 => by
          rw [e6] at hQs
          exact RL2.fin (by omega) (by omega) hWs hbw hi.sep hXY (by rintro b (h | h | ⟨_, h⟩) <;> omega) hOwn hT hV6 (by rw [hQs]; exact hO6) (by rw [hQs]; exact hR6)
        have FIN := hide fin
        have hrule := hide ht.rule
        have hmem : x.e ∈ l := by rw [← hle]; exact List.getElem_mem hlt
        have hpp := Reads.more (Reads.below (hp.2 _ hmem) hbw) (S' := fun _ => True) (fun _ _ _ => trivial)
        have hpb := Reads.more ht.a (S' := fun _ => True) (fun _ _ _ => trivial)
        obtain ⟨q3, q4, _⟩ := ckShot0 hck
        have q4' : ∀ p ∈ x.e.x.pots, 0 ≤ p.ball := fun p hp => (q4 p hp).1.1
        have hgo := fun W5 (hb : Below W.heap.size W W5) => good_any (fun _ => True) r x.s x.e.x x.A x.e.a x.c x.e.c W5 (Reads.below hpb hb) (Reads.below hpp hb) q3 q4' HR.out hOk.group
        have hob := fun W5 (hb : Below W.heap.size W W5) => objects_any (fun _ => True) x.e.x x.e.a x.e.c W5 (Reads.below hpp hb) q4'
        have hoL := objects_len hck
        have HGO := hide hgo
        have HOB := hide hob
        have HOWN := hide hOwn
        have HX := hide hXY
        clear fin hi ht hXY hQs hq hck hle hpp hpb q3 q4 q4' hgo hob hOk hOwn
        apply wpIn_block
        apply wpIn_block
        apply wpIn_seq_k
        intro K1 hK1
        refine wpIn_region_round' (by kernel_rfl) (by rintro ⟨_, _, h⟩; exact h) ?_
        go_wp2
        refine wpIn_cond_split rfl (fun h => ?_) (fun h => ?_)
        · have h0 : x.rule ≠ 0 := by have : 0 < x.rule := by simpa using h
                                     omega
          refine wpIn_skip ?_
          exact FIN.out W v op acc ⟨#[], []⟩ ⟨rfl, rfl, rfl, Nat.le_refl _, fun _ _ _ => rfl⟩ hV hO HOWN.out (by unfold run1; rw [if_pos (by rw [← hrule.out]; exact h0)])
        · have h0 : x.rule = 0 := by have : ¬ 0 < x.rule := by simpa using h
                                     omega
          clear h
          have hlg : ¬ M.legal r x.s x.e.x ≠ 0 := by rw [← hrule.out]; simp [h0]
          have h7 : W.rangeAt Be 7 (frameCells r x.s x.A x.c) := fun j v hj => hE.cell (ent_bef r x.i x.e x.s x.t x.A x.A' x.c x.c' x.rule j v hj)
          have h00 : W.rangeAt Be 0 (shCells x.e) := fun j v hj => hE.cell (ent_shot r x.i x.e x.s x.t x.A x.A' x.c x.c' x.rule j v hj)
          apply wpIn_seq_k
          intro K2 hK2
          refine wpIn_region_round' (by kernel_rfl) (by rintro ⟨_, _, h⟩; exact h) ?_
          go_wp2_with (first | (refine is_load 127 (.tmp 38) rfl ?_; refine next_load_at (g := Be) (o := 7) h7 Tryz.underlying127 rfl frame_info rfl (.tmp 38) rfl rfl ?_) | (refine is_load 66 (.tmp 40) rfl ?_; refine next_load_at (g := Be) (o := 0) h00 Tryz.underlying66 rfl shot_info rfl (.tmp 40) rfl rfl ?_) | (go_at_call 69; refine (HGO.out _ (Below.refl _ _)).mono ?_; rintro e W5 ⟨rfl, hb5⟩))
          have hV5 := hV.below hb5
          have hO5 := hO.below hb5
          have hE5 := hE.below hb5
          have hT5 : Turn (fun _ => False) W W5 := Turn.of_below hb5
          have hR5 := HOWN.out.turn (hT5.mono (fun b h => h.elim)) (fun b h => .inl h) (fun b h => .inl h)
          have h00 : W5.rangeAt Be 0 (shCells x.e) := fun j v hj => hE5.cell (ent_shot r x.i x.e x.s x.t x.A x.A' x.c x.c' x.rule j v hj)
          have o5 := hO5.cell (j := 0) rfl
          have f5 := hO5.frozen 0
          clear h7 e43 hE hV hO
          have HR5 := hide hR5
          have HT5 := hide hT5
          clear hR5 hT5
          refine wpIn_cond_split rfl (fun h => ?_) (fun h => ?_)
          · have hg : M.good r x.s x.e.x = false := by simpa using h
            clear h
            refine wpIn_region_round' (by kernel_rfl) (by rintro ⟨_, _, h⟩; exact h) ?_
            go_wp2
            refine FIN.out _ v false acc ⟨#[], []⟩ ((HT5.out.mono (fun b h => h.elim)).trans (turn_sets (X := fun b => (b = w1.heap.size ∨ b = w1.heap.size + 1) ∨ v.ownBlock = some b) (W := W5) (g := w1.heap.size + 1) (.inl (.inr rfl)) [.bool false] 0) (fun b h => .inl h)) (hV5.other (by omega) 0 _) (hO5.set 0 _) ⟨ownsRow_blk HR5.out.own (fun g hg => Below.heap_setCell W5 _ _ g (fun e => by have := (ownsRow_lt HR5.out.own hg).1; have e : g = w1.heap.size + 1 := e; omega)), HR5.out.far⟩ (by unfold run1; rw [if_neg hlg, if_pos hg])
          · have hg : ¬ M.good r x.s x.e.x = false := by intro e; rw [e] at h; cases h
            clear h
            apply wpIn_seq_k
            intro K3 hK3
            refine wpIn_region_round' (by kernel_rfl) (by rintro ⟨_, _, h⟩; exact h) ?_
            go_wp2
            refine wpIn_cond_split rfl (fun h => ?_) (fun h => ?_)
            · have hop : op = true := by simpa using h
              clear h
              have hne := d1 hop
              subst hop
              obtain ⟨g, cap, rfl, hg8, hg9⟩ := HR5.out.own.form (List.length_pos_iff.2 hne)
              obtain ⟨m, hm⟩ : ∃ m, acc.length - 1 = m := ⟨_, rfl⟩
              have hpos := List.length_pos_iff.2 hne
              obtain ⟨pl, hpl⟩ : ∃ q, (acc.getLast hne).points = q := ⟨_, rfl⟩
              have hpb := d3 _ (List.getLast_mem hne)
              rw [hpl] at hpb
              have hlast := runCells_last acc hne
              rw [hpl, hm, Nat.mul_comm] at hlast
              have hBE : Be ≠ g := by
                intro e
                rcases HR5.out.own.2 with ⟨h', _⟩ | ⟨g', cap', cur, h', _, hh, _⟩
                · cases h'
                · cases h'
                  have h3 := hE5
                  unfold Held at h3
                  rw [e, hh] at h3
                  cases h3
              have hcl := runCells_len acc
              have k6 : W5.cell? ⟨g, m * 2 + 1, none⟩ = some (.int .i64 pl) := (HR5.out.own.cellAt _ (by omega)).trans hlast
              have c5 := hV5.cell (j := 0) rfl
              have hw1 : IntKind.i64.wrap ((acc.length : Int) - 1) = (m : Int) := by rw [show (acc.length : Int) - 1 = (m : Int) by omega]; exact IntWalk.i64_in _ (by omega)
              have hw2 : IntKind.i64.wrap (pl + ((M.objects x.e.x).length : Int)) = pl + ((M.objects x.e.x).length : Int) := IntWalk.i64_in _ (by omega)
              have i1 : (0 : Int) ≤ (m : Int) := by omega
              have i2 : (m : Int) < (acc.length : Int) := by omega
              have hz : ∀ w6, Below W5.drew.heap.size W5.drew w6 → w6.cell? ⟨g, m * 2 + 1, none⟩ = some (.int .i64 pl) ∧ w6.frozen? ⟨g, m * 2 + 1, none⟩ = false ∧ (fun w' : World => (∀ q, w'.cell? ⟨Be, q, none⟩ = W5.cell? ⟨Be, q, none⟩) ∧ (∀ q, w'.cell? ⟨w1.heap.size, q, none⟩ = W5.cell? ⟨w1.heap.size, q, none⟩)) w6 := fun w6 hb6 =>
                ⟨(hb6.cell (p := ⟨g, m * 2 + 1, none⟩) hg9).trans k6, (ownsRow_blk (W := W5) HR5.out.own (fun g' hg' => by cases hg'; exact hb6.block g hg9)).frozenAt _, fun q => hb6.cell (p := ⟨Be, q, none⟩) hE5.lt, fun q => hb6.cell (p := ⟨w1.heap.size, q, none⟩) hV5.lt⟩
              have hks : ∀ w6, (fun w' : World => (∀ q, w'.cell? ⟨Be, q, none⟩ = W5.cell? ⟨Be, q, none⟩) ∧ (∀ q, w'.cell? ⟨w1.heap.size, q, none⟩ = W5.cell? ⟨w1.heap.size, q, none⟩)) w6 → ∀ u, (fun w' : World => (∀ q, w'.cell? ⟨Be, q, none⟩ = W5.cell? ⟨Be, q, none⟩) ∧ (∀ q, w'.cell? ⟨w1.heap.size, q, none⟩ = W5.cell? ⟨w1.heap.size, q, none⟩)) (w6.setCell ⟨g, m * 2 + 1, none⟩ u) := fun w6 h u =>
                ⟨fun q => (World.cell?_setCell_other _ _ ⟨Be, q, none⟩ u (fun e => hBE (by cases e; rfl))).trans (h.1 q), fun q => (World.cell?_setCell_other _ _ ⟨w1.heap.size, q, none⟩ u (fun e => by cases e; omega)).trans (h.2 q)⟩
              have f14 : ∀ w6, Below W5.drew.heap.size W5.drew w6 → toldPost (fun b => b = w1.heap.size + 2 ∨ b = w1.heap.size + 3 ∨ (S b ∧ b < w.heap.size)) w3.heap.size X Y (RL2 63 56 4 2 w w1.heap.size w3.heap.size (fun k => (runQ r l k).2.length) (fun k => runCells (runQ r l k).2) (fun k => (runQ r l k).1)) (fun _ _ _ _ => False) (pre ++ [x]) W .normal ⟨#[], []⟩ (w6.setCell ⟨g, m * 2 + 1, none⟩ (.int .i64 (pl + ((M.objects x.e.x).length : Int)))) := fun w6 hb6 => by
                have hbw6 : Below W5.heap.size W5 w6 := ((Below.refl _ W5).drew).trans hb6
                have hT6 : Turn (fun _ => False) W5 w6 := Turn.of_below hbw6
                have hR6 := HR5.out.turn (hT6.mono (fun b h => h.elim)) (fun b h => .inl h) (fun b h => .inl h)
                have hst := (hR6.own.stored (m * 2 + 1) (.int .i64 (pl + ((M.objects x.e.x).length : Int)))).1
                have hbp := runCells_bump acc hne (M.objects x.e.x).length
                rw [hpl, hm, Nat.mul_comm] at hbp
                rw [hbp] at hst
                refine FIN.out _ (.slice (some ⟨g, 0, none⟩) acc.length cap) true (M.bump (M.objects x.e.x).length acc) ⟨#[], []⟩ ((HT5.out.mono (fun b h => h.elim)).trans ((hT6.mono (X' := fun b => (b = w1.heap.size ∨ b = w1.heap.size + 1) ∨ (Value.slice (some ⟨g, 0, none⟩) acc.length cap).ownBlock = some b) (fun b h => h.elim)).trans (turn_sets (X := fun b => (b = w1.heap.size ∨ b = w1.heap.size + 1) ∨ (Value.slice (some ⟨g, 0, none⟩) acc.length cap).ownBlock = some b) (W := w6) (g := g) (.inr rfl) [.int .i64 (pl + ((M.objects x.e.x).length : Int))] (m * 2 + 1)) (fun b h => .inl h)) (fun b h => .inl h)) ((hV5.below hbw6).other (by omega) _ _) ((hO5.below hbw6).other (by omega) _ _) ⟨by rw [bump_len]; exact hst, HR5.out.far⟩ (by unfold run1; rw [if_neg hlg, if_neg hg, if_pos rfl])
              have HZ := hide hz
              have HKS := hide hks
              have F14 := hide f14
              clear hz hks f14 hlast hpb d3
              refine wpIn_region_held_drew (S := (fun w' : World => (∀ q, w'.cell? ⟨Be, q, none⟩ = W5.cell? ⟨Be, q, none⟩) ∧ (∀ q, w'.cell? ⟨w1.heap.size, q, none⟩ = W5.cell? ⟨w1.heap.size, q, none⟩))) (by kernel_rfl) (by rintro ⟨_, _, h⟩; exact h) (by kernel_rfl) ?q3xstart (fun hHeld => ?_)
              case q3xstart => first | exact ⟨fun q => rfl, fun q => rfl⟩ | assumption | exact HKS.out _ (by assumption) _
              refine wpAnyH_take (i := 0) (oi := _) (v := ?q3xv0) (ga rfl) (by kernel_rfl) (by kernel_rfl) (by kernel_rfl) (fun _ _ _ h => h) (Or.inl ⟨by rfl, ?q3xy0⟩) (by assumption) ?_
              case q3xy0 => (intro w hSw; (try dsimp only at hSw); go_simp; try with_reducible rfl)
              try simp only [Act.put, la, lz, ls]
              refine wpAnyH_take (i := 1) (oi := _) (v := ?q3xv1) (ga rfl) (by kernel_rfl) (by kernel_rfl) (by kernel_rfl) (fun _ _ _ h => h) (Or.inl ⟨by rfl, ?q3xy1⟩) (by assumption) ?_
              case q3xy1 => (intro w hSw; (try dsimp only at hSw); go_simp; try with_reducible rfl)
              try simp only [Act.put, la, lz, ls]
              refine wpAnyH_take (i := 2) (oi := _) (v := ?q3xv2) (ga rfl) (by kernel_rfl) (by kernel_rfl) (by kernel_rfl) (fun _ _ _ h => h) (Or.inl ⟨by rfl, ?q3xy2⟩) (by assumption) ?_
              case q3xy2 => (intro w hSw; (try dsimp only at hSw); go_simp; try with_reducible rfl)
              try simp only [Act.put, la, lz, ls]
              refine wpAnyH_take (i := 3) (oi := _) (v := ?q3xv3) (ga rfl) (by kernel_rfl) (by kernel_rfl) (by kernel_rfl) (fun _ _ _ h => h) (Or.inl ⟨by rfl, ?q3xy3⟩) (by assumption) ?_
              case q3xy3 => (intro w hSw; (try dsimp only at hSw); go_simp; try with_reducible rfl)
              try simp only [Act.put, la, lz, ls]
              refine wpAnyH_take (i := 4) (oi := _) (v := ?q3xv4) (ga rfl) (by kernel_rfl) (by kernel_rfl) (by kernel_rfl) (fun _ _ _ h => h) (Or.inl ⟨by rfl, ?q3xy4⟩) (by assumption) ?_
              case q3xy4 => (intro w hSw; (try dsimp only at hSw); go_simp; try with_reducible rfl)
              try simp only [Act.put, la, lz, ls]
              refine wpAnyH_take (i := 5) (oi := _) (v := ?q3xv5) (ga rfl) (by kernel_rfl) (by kernel_rfl) (by kernel_rfl) (fun _ _ _ h => h) (Or.inl ⟨by rfl, ?q3xy5⟩) (by assumption) ?_
              case q3xy5 => (intro w hSw; (try dsimp only at hSw); go_simp; try with_reducible rfl)
              try simp only [Act.put, la, lz, ls]
              refine wpAnyH_take (i := 7) (oi := _) (v := ?q3xv7) (ga rfl) (by kernel_rfl) (by kernel_rfl) (by kernel_rfl) (fun _ _ _ h => h) (Or.inl ⟨by rfl, ?q3xy7⟩) (by assumption) ?_
              case q3xy7 => (intro w hSw; (try dsimp only at hSw); go_simp; try with_reducible rfl)
              try simp only [Act.put, la, lz, ls]
              refine wpAnyH_take (i := 8) (oi := _) (v := _) (ga rfl) (by kernel_rfl) (by kernel_rfl) (by kernel_rfl) (fun _ _ _ h => h) (yieldsIf_load_mid (by rfl) _ _ (by rfl) _ _ (by rfl) _ _ (fun W (hS : (fun w' : World => (∀ q, w'.cell? ⟨Be, q, none⟩ = W5.cell? ⟨Be, q, none⟩) ∧ (∀ q, w'.cell? ⟨w1.heap.size, q, none⟩ = W5.cell? ⟨w1.heap.size, q, none⟩)) W) => (show W.rangeAt Be 0 (shCells x.e) from fun j v hj => (hS.1 _).trans (h00 j v hj))) Tryz.underlying66 rfl (by kernel_rfl)) (by assumption) ?_
              try simp only [Act.put, la, lz, ls]
              refine wpAnyH_ready (rs := [6, 9]) (by kernel_rfl) (by simp) ?_
              refine AllReadyH.cons (o := _) (ga rfl) (fun K hK => ?_) (AllReadyH.cons (o := _) (ga rfl) (fun K hK => ?_) AllReadyH.nil)
              · go_simp
                refine hK.out _ _ ?q3xh6b24 (fun hHeld => ?_)
                case q3xh6b24 => (first | (first | exact ⟨fun q => rfl, fun q => rfl⟩ | assumption | exact HKS.out _ (by assumption) _) | (dsimp only; first | exact ⟨fun q => rfl, fun q => rfl⟩ | assumption | exact HKS.out _ (by assumption) _))
                clear hK K
                try simp only [Act.put, la, lz, ls]
                refine wpAnyH_ready (rs := [9]) (by kernel_rfl) (by simp) ?_
                refine AllReadyH.cons (o := _) (ga rfl) (fun K hK => ?_) AllReadyH.nil
                go_simp
                (go_at_call 70; refine (HOB.out _ hb5.drew).mono ?_; rintro e w6 ⟨A6, c6, rfl, _, hb6⟩; obtain ⟨k7, f7, s7⟩ := HZ.out _ hb6)
                refine hK.out _ _ ?q3xh9b25 (fun hHeld => ?_)
                case q3xh9b25 => (first | (first | exact ⟨fun q => rfl, fun q => rfl⟩ | assumption | exact HKS.out _ (by assumption) _) | (dsimp only; first | exact ⟨fun q => rfl, fun q => rfl⟩ | assumption | exact HKS.out _ (by assumption) _))
                clear hK K
                try simp only [Act.put, la, lz, ls]
                refine wpAnyH_take (i := 10) (oi := _) (v := ?q3xv10b26) (ga rfl) (by kernel_rfl) (by kernel_rfl) (by kernel_rfl) (fun _ _ _ h => h) (Or.inl ⟨by rfl, ?q3xy10b26⟩) (by assumption) ?_
                case q3xy10b26 => (intro w hSw; (try dsimp only at hSw); go_simp; try with_reducible rfl)
                try simp only [Act.put, la, lz, ls]
                refine wpAnyH_take (i := 11) (oi := _) (v := ?q3xv11b27) (ga rfl) (by kernel_rfl) (by kernel_rfl) (by kernel_rfl) (fun _ _ _ h => h) (Or.inl ⟨by rfl, ?q3xy11b27⟩) (by assumption) ?_
                case q3xy11b27 => (intro w hSw; (try dsimp only at hSw); go_simp; try with_reducible rfl)
                try simp only [Act.put, la, lz, ls]
                refine wpAnyH_take (i := 12) (oi := _) (v := ?q3xv12b28) (ga rfl) (by kernel_rfl) (by kernel_rfl) (by kernel_rfl) (fun _ _ _ h => h) (Or.inl ⟨by rfl, ?q3xy12b28⟩) (by assumption) ?_
                case q3xy12b28 => (intro w hSw; (try dsimp only at hSw); go_simp; try with_reducible rfl)
                try simp only [Act.put, la, lz, ls]
                refine wpAnyH_take (i := 13) (oi := _) (v := ?q3xv13b29) (ga rfl) (by kernel_rfl) (by kernel_rfl) (by kernel_rfl) (fun _ _ _ h => h) (Or.inl ⟨by rfl, ?q3xy13b29⟩) (by assumption) ?_
                case q3xy13b29 => (intro w hSw; (try dsimp only at hSw); go_simp; try with_reducible rfl)
                try simp only [Act.put, la, lz, ls]
                refine wpAnyH_ready (rs := [14]) (by kernel_rfl) (by simp) ?_
                refine AllReadyH.cons (o := _) (ga rfl) (fun K hK => ?_) AllReadyH.nil
                go_simp
                refine hK.out _ _ ?q3xh14b30 (fun hHeld => ?_)
                case q3xh14b30 => (first | (first | exact ⟨fun q => rfl, fun q => rfl⟩ | assumption | exact HKS.out _ (by assumption) _) | (dsimp only; first | exact ⟨fun q => rfl, fun q => rfl⟩ | assumption | exact HKS.out _ (by assumption) _))
                clear hK K
                try simp only [Act.put, la, lz, ls]
                refine wpAnyH_done (by kernel_rfl) ?_ _
                exact F14.out _ (by assumption)
              · go_simp
                (go_at_call 70; refine (HOB.out _ hb5.drew).mono ?_; rintro e w6 ⟨A6, c6, rfl, _, hb6⟩; obtain ⟨k7, f7, s7⟩ := HZ.out _ hb6)
                refine hK.out _ _ ?q3xh9b46 (fun hHeld => ?_)
                case q3xh9b46 => (first | (first | exact ⟨fun q => rfl, fun q => rfl⟩ | assumption | exact HKS.out _ (by assumption) _) | (dsimp only; first | exact ⟨fun q => rfl, fun q => rfl⟩ | assumption | exact HKS.out _ (by assumption) _))
                clear hK K
                try simp only [Act.put, la, lz, ls]
                refine wpAnyH_take (i := 10) (oi := _) (v := ?q3xv10b47) (ga rfl) (by kernel_rfl) (by kernel_rfl) (by kernel_rfl) (fun _ _ _ h => h) (Or.inl ⟨by rfl, ?q3xy10b47⟩) (by assumption) ?_
                case q3xy10b47 => (intro w hSw; (try dsimp only at hSw); go_simp; try with_reducible rfl)
                try simp only [Act.put, la, lz, ls]
                refine wpAnyH_ready (rs := [6]) (by kernel_rfl) (by simp) ?_
                refine AllReadyH.cons (o := _) (ga rfl) (fun K hK => ?_) AllReadyH.nil
                go_simp
                refine hK.out _ _ ?q3xh6b48 (fun hHeld => ?_)
                case q3xh6b48 => (first | (first | exact ⟨fun q => rfl, fun q => rfl⟩ | assumption | exact HKS.out _ (by assumption) _) | (dsimp only; first | exact ⟨fun q => rfl, fun q => rfl⟩ | assumption | exact HKS.out _ (by assumption) _))
                clear hK K
                try simp only [Act.put, la, lz, ls]
                refine wpAnyH_take (i := 11) (oi := _) (v := ?q3xv11b49) (ga rfl) (by kernel_rfl) (by kernel_rfl) (by kernel_rfl) (fun _ _ _ h => h) (Or.inl ⟨by rfl, ?q3xy11b49⟩) (by assumption) ?_
                case q3xy11b49 => (intro w hSw; (try dsimp only at hSw); go_simp; try with_reducible rfl)
                try simp only [Act.put, la, lz, ls]
                refine wpAnyH_take (i := 12) (oi := _) (v := ?q3xv12b50) (ga rfl) (by kernel_rfl) (by kernel_rfl) (by kernel_rfl) (fun _ _ _ h => h) (Or.inl ⟨by rfl, ?q3xy12b50⟩) (by assumption) ?_
                case q3xy12b50 => (intro w hSw; (try dsimp only at hSw); go_simp; try with_reducible rfl)
                try simp only [Act.put, la, lz, ls]
                refine wpAnyH_take (i := 13) (oi := _) (v := ?q3xv13b51) (ga rfl) (by kernel_rfl) (by kernel_rfl) (by kernel_rfl) (fun _ _ _ h => h) (Or.inl ⟨by rfl, ?q3xy13b51⟩) (by assumption) ?_
                case q3xy13b51 => (intro w hSw; (try dsimp only at hSw); go_simp; try with_reducible rfl)
                try simp only [Act.put, la, lz, ls]
                refine wpAnyH_ready (rs := [14]) (by kernel_rfl) (by simp) ?_
                refine AllReadyH.cons (o := _) (ga rfl) (fun K hK => ?_) AllReadyH.nil
                go_simp
                refine hK.out _ _ ?q3xh14b52 (fun hHeld => ?_)
                case q3xh14b52 => (first | (first | exact ⟨fun q => rfl, fun q => rfl⟩ | assumption | exact HKS.out _ (by assumption) _) | (dsimp only; first | exact ⟨fun q => rfl, fun q => rfl⟩ | assumption | exact HKS.out _ (by assumption) _))
                clear hK K
                try simp only [Act.put, la, lz, ls]
                refine wpAnyH_done (by kernel_rfl) ?_ _
                exact F14.out _ (by assumption)
            · have hop : op = false := by simpa using h
              clear h
              subst hop
              obtain ⟨i0, hi0, hz0, hz1, hz2⟩ := info_parts run_info
              have hv5 := hV5.cell (j := 0) rfl
              have k0 := hE5.cell (j := 0) rfl
              have hBB : Be ≠ w1.heap.size := by omega
              have hBe5 : Be < W5.heap.size := hE5.lt
              have hz : ∀ w6, Below W5.drew.heap.size W5.drew w6 → w6.cell? ⟨w1.heap.size, 0, none⟩ = some v ∧ w6.frozen? ⟨w1.heap.size, 0, none⟩ = false ∧ (fun w' : World => ∀ q, w'.cell? ⟨Be, q, none⟩ = W5.cell? ⟨Be, q, none⟩) w6 := fun w6 hb6 =>
                ⟨(hb6.cell (p := ⟨w1.heap.size, 0, none⟩) hV5.lt).trans hv5, (hV5.below (((Below.refl _ W5).drew).trans hb6)).frozen 0, fun q => hb6.cell (p := ⟨Be, q, none⟩) hBe5⟩
              have hks : ∀ w6, (fun w' : World => ∀ q, w'.cell? ⟨Be, q, none⟩ = W5.cell? ⟨Be, q, none⟩) w6 → ∀ u, (fun w' : World => ∀ q, w'.cell? ⟨Be, q, none⟩ = W5.cell? ⟨Be, q, none⟩) (w6.setCell ⟨w1.heap.size, 0, none⟩ u) := fun w6 h u q => (World.cell?_setCell_other _ _ ⟨Be, q, none⟩ u (fun e => hBB (by cases e; rfl))).trans (h q)
              have hrw : ∀ w6, Below W5.drew.heap.size W5.drew w6 → OwnRow w6 w3.heap.size X Y 63 2 v acc.length (runCells acc) := fun w6 hb6 =>
                HR5.out.turn ((Turn.of_below (((Below.refl _ W5).drew).trans hb6)).mono (X := fun _ => False) (fun b h => h.elim)) (fun b h => .inl h) (fun b h => .inl h)
              have hsz6 : ∀ w6, Below W5.drew.heap.size W5.drew w6 → w3.heap.size ≤ w6.heap.size := fun w6 hb6 => by
                have h1 := hb6.size
                have h2 := hb5.size
                have h1 : W5.heap.size ≤ w6.heap.size := h1
                omega
              have hka : ∀ w6, Below W5.drew.heap.size W5.drew w6 → ∀ o, (fun w' : World => ∀ q, w'.cell? ⟨Be, q, none⟩ = W5.cell? ⟨Be, q, none⟩) (w6.alloc o) := fun w6 hb6 o q => (World.cell?_alloc_lt _ _ ⟨Be, q, none⟩ (Nat.lt_of_lt_of_le hBe5 hb6.size)).trans (hb6.cell (p := ⟨Be, q, none⟩) hBe5)
              have hBg : ∀ g, v.ownBlock = some g → Be ≠ g := fun g hg e => by
                rcases HR5.out.own.2 with ⟨h', _⟩ | ⟨g', cap', cur, h', _, hh, _⟩
                · rw [h'] at hg; cases hg
                · rw [h'] at hg
                  cases hg
                  have h3 := hE5
                  unfold Held at h3
                  rw [e, hh] at h3
                  cases h3
              have hap : ∀ w6, Below W5.drew.heap.size W5.drew w6 → ∀ o w7, (w6.alloc o).grownBy w7 v.ownBlock → w7.cell? ⟨w1.heap.size, 0, none⟩ = some v ∧ w7.frozen? ⟨w1.heap.size, 0, none⟩ = false ∧ (fun w' : World => ∀ q, w'.cell? ⟨Be, q, none⟩ = W5.cell? ⟨Be, q, none⟩) w7 := fun w6 hb6 o w7 hgr => by
                have hV6 := hV5.below (((Below.refl _ W5).drew).trans hb6)
                have hl6 := hV6.lt
                have hb6s : W5.heap.size ≤ w6.heap.size := hb6.size
                have hV7 := (hgr.block w1.heap.size (by simp; omega) (fun e => by have := (ownsRow_lt HR5.out.own e.symm).1; omega)).trans (hV6.alloc o)
                exact ⟨Held.cell (t := 56) (cs := [v]) hV7 rfl, Held.frozen (t := 56) (cs := [v]) hV7 0, fun q => (hgr.cell_far ⟨Be, q, none⟩ (by simp; omega) (fun e => hBg _ e.symm rfl)).trans (hka w6 hb6 o q)⟩
              have f8 : ∀ w6, Below W5.drew.heap.size W5.drew w6 → ∀ o w7 g1 cap, (w6.alloc o).grownBy w7 v.ownBlock → w7.ownsRow w3.heap.size 63 2 (.slice (some ⟨g1, 0, none⟩) (acc.length + 1) cap) (acc.length + 1) (runCells acc ++ [.int .i64 x.e.x.player, .int .i64 ((M.objects x.e.x).length : Int)]) → (v.ownBlock = some g1 ∨ g1 = w6.heap.size + 1) →
                  Held (w7.setCell ⟨w1.heap.size, 0, none⟩ (.slice (some ⟨g1, 0, none⟩) (acc.length + 1) cap)) (w1.heap.size + 1) [.bool false] 4 ∧ toldPost (fun b => b = w1.heap.size + 2 ∨ b = w1.heap.size + 3 ∨ (S b ∧ b < w.heap.size)) w3.heap.size X Y (RL2 63 56 4 2 w w1.heap.size w3.heap.size (fun k => (runQ r l k).2.length) (fun k => runCells (runQ r l k).2) (fun k => (runQ r l k).1)) (fun _ _ _ _ => False) (pre ++ [x]) W .normal ⟨#[], []⟩ ((w7.setCell ⟨w1.heap.size, 0, none⟩ (.slice (some ⟨g1, 0, none⟩) (acc.length + 1) cap)).setCell ⟨w1.heap.size + 1, 0, none⟩ (.bool true)) := fun w6 hb6 o w7 g1 cap hgr hown7 hat => by
                have hbw6 : Below W5.heap.size W5 w6 := ((Below.refl _ W5).drew).trans hb6
                have hb6s : W5.heap.size ≤ w6.heap.size := hb6.size
                have hb5s := hb5.size
                have hT6 : Turn (fun _ => False) W5 w6 := Turn.of_below hbw6
                have hR6 := hrw w6 hb6
                have hO6 := hO5.below hbw6
                have hl6 := hO6.lt
                obtain ⟨hV7, hT8, hV8, hR8⟩ := append_out (hV5.below hbw6) (by omega) hR6 (fun b h => by have := (HX.out b h).2; omega) (hsz6 w6 hb6) hgr hown7 hat rfl
                have hO7 : Held w7 (w1.heap.size + 1) [.bool false] 4 := (hgr.block _ (by simp; omega) (fun e => by have := (ownsRow_lt HR5.out.own e.symm).1; omega)).trans (hO6.alloc o)
                have hO8 := hO7.other (g' := w1.heap.size) (by omega) 0 (.slice (some ⟨g1, 0, none⟩) (acc.length + 1) cap)
                refine ⟨hO8, ?_⟩
                have hX3 : ∀ b, (b = w1.heap.size ∨ v.ownBlock = some b) → ((b = w1.heap.size ∨ b = w1.heap.size + 1) ∨ v.ownBlock = some b) := fun b h => h.elim (fun h => .inl (.inl h)) .inr
                refine FIN.out _ (.slice (some ⟨g1, 0, none⟩) (acc.length + 1) cap) true (acc ++ [⟨x.e.x.player, (M.objects x.e.x).length⟩]) ⟨#[], []⟩ ((HT5.out.mono (fun b h => h.elim)).trans ((hT6.mono (X' := fun b => (b = w1.heap.size ∨ b = w1.heap.size + 1) ∨ v.ownBlock = some b) (fun b h => h.elim)).trans ((hT8.mono hX3).trans (turn_sets (X := fun b => (b = w1.heap.size ∨ b = w1.heap.size + 1) ∨ v.ownBlock = some b) (g := w1.heap.size + 1) (.inl (.inr rfl)) [.bool true] 0) (fun b h => .inl h)) (fun b h => .inl h)) (fun b h => .inl h)) (hV8.other (by omega) _ _) (hO8.set 0 _) ⟨?_, hR8.far⟩ (by unfold run1; rw [if_neg hlg, if_neg hg, if_neg (by simp)])
                rw [List.length_append, runCells_append]
                exact ownsRow_blk hR8.own (fun g hg => Below.heap_setCell _ _ _ g (fun e => by have := (ownsRow_lt hR8.own hg).1; have e : g = w1.heap.size + 1 := e; omega))
              have HZ := hide hz
              have HKS := hide hks
              have HKA := hide hka
              have HC9 := hide (fun w6 (hb6 : Below W5.drew.heap.size W5.drew w6) => ((hV5.below (((Below.refl _ W5).drew).trans hb6)).alloc (.cells #[.int .i64 x.e.x.player, .int .i64 ((M.objects x.e.x).length : Int)] 63)).cell (j := 0) rfl)
              have HRW := hide hrw
              have HSZ := hide hsz6
              have HAP := hide (fun w6 (hb6 : Below W5.drew.heap.size W5.drew w6) w7 hg => hap w6 hb6 (.cells #[.int .i64 x.e.x.player, .int .i64 ((M.objects x.e.x).length : Int)] 63) w7 hg)
              have F8 := hide f8
              clear hz hks hka hrw hsz6 hap f8 hBg o5 f5
              apply wpIn_seq_k
              intro K4 hK4
              refine wpIn_region_held_drew (S := (fun w' : World => ∀ q, w'.cell? ⟨Be, q, none⟩ = W5.cell? ⟨Be, q, none⟩)) (by kernel_rfl) (by rintro ⟨_, _, h⟩; exact h) (by kernel_rfl) ?q4xstart (fun hHeld => ?_)
              case q4xstart => first | exact fun q => rfl | assumption | exact HKA.out _ (by assumption) _ | exact HKS.out _ (by assumption) _
              refine wpAnyH_take (i := 1) (oi := _) (v := ?q4xv1) (ga rfl) (by kernel_rfl) (by kernel_rfl) (by kernel_rfl) (fun _ _ _ h => h) (Or.inl ⟨by rfl, ?q4xy1⟩) (by assumption) ?_
              case q4xy1 => (intro w hSw; (try dsimp only at hSw); go_simp; try with_reducible rfl)
              try simp only [Act.put, la, lz, ls]
              refine wpAnyH_take (i := 2) (oi := _) (v := ?q4xv2) (ga rfl) (by kernel_rfl) (by kernel_rfl) (by kernel_rfl) (fun _ _ _ h => h) (Or.inl ⟨by rfl, ?q4xy2⟩) (by assumption) ?_
              case q4xy2 => (intro w hSw; (try dsimp only at hSw); go_simp; try with_reducible rfl)
              try simp only [Act.put, la, lz, ls]
              refine wpAnyH_take (i := 3) (oi := _) (v := ?q4xv3) (ga rfl) (by kernel_rfl) (by kernel_rfl) (by kernel_rfl) (fun _ _ _ h => h) (Or.inl ⟨by rfl, ?q4xy3⟩) (by assumption) ?_
              case q4xy3 => (intro w hSw; (try dsimp only at hSw); go_simp; try with_reducible rfl)
              try simp only [Act.put, la, lz, ls]
              refine wpAnyH_take (i := 4) (oi := _) (v := ?q4xv4) (ga rfl) (by kernel_rfl) (by kernel_rfl) (by kernel_rfl) (fun _ _ _ h => h) (Or.inl ⟨by rfl, ?q4xy4⟩) (by assumption) ?_
              case q4xy4 => (intro w hSw; (try dsimp only at hSw); go_simp; try with_reducible rfl)
              try simp only [Act.put, la, lz, ls]
              refine wpAnyH_take (i := 5) (oi := _) (v := _) (ga rfl) (by kernel_rfl) (by kernel_rfl) (by kernel_rfl) (fun _ _ _ h => h) (yieldsIf_load_mid (by rfl) _ _ (by rfl) _ _ (by rfl) _ _ (fun W (hS : (fun w' : World => ∀ q, w'.cell? ⟨Be, q, none⟩ = W5.cell? ⟨Be, q, none⟩) W) => (show W.rangeAt Be 0 (shCells x.e) from fun j v hj => (hS _).trans (h00 j v hj))) Tryz.underlying66 rfl (by kernel_rfl)) (by assumption) ?_
              try simp only [Act.put, la, lz, ls]
              refine wpAnyH_ready (rs := [0, 6]) (by kernel_rfl) (by simp) ?_
              refine AllReadyH.cons (o := _) (ga rfl) (fun K hK => ?_) (AllReadyH.cons (o := _) (ga rfl) (fun K hK => ?_) AllReadyH.nil)
              · go_simp
                refine hK.out _ _ ?q4xh0b18 (fun hHeld => ?_)
                case q4xh0b18 => (first | (first | exact fun q => rfl | assumption | exact HKA.out _ (by assumption) _ | exact HKS.out _ (by assumption) _) | (dsimp only; first | exact fun q => rfl | assumption | exact HKA.out _ (by assumption) _ | exact HKS.out _ (by assumption) _))
                clear hK K
                try simp only [Act.put, la, lz, ls]
                refine wpAnyH_ready (rs := [6]) (by kernel_rfl) (by simp) ?_
                refine AllReadyH.cons (o := _) (ga rfl) (fun K hK => ?_) AllReadyH.nil
                go_simp
                (go_at_call 70; refine (HOB.out _ hb5.drew).mono ?_; rintro e w6 ⟨A6, c6, rfl, _, hb6⟩; obtain ⟨c7, f7, s7⟩ := HZ.out _ hb6; have c9 := HC9.out _ hb6)
                refine hK.out _ _ ?q4xh6b19 (fun hHeld => ?_)
                case q4xh6b19 => (first | (first | exact fun q => rfl | assumption | exact HKA.out _ (by assumption) _ | exact HKS.out _ (by assumption) _) | (dsimp only; first | exact fun q => rfl | assumption | exact HKA.out _ (by assumption) _ | exact HKS.out _ (by assumption) _))
                clear hK K
                try simp only [Act.put, la, lz, ls]
                refine wpAnyH_take (i := 7) (oi := _) (v := ?q4xv7b20) (ga rfl) (by kernel_rfl) (by kernel_rfl) (by kernel_rfl) (fun _ _ _ h => h) (Or.inl ⟨by rfl, ?q4xy7b20⟩) (by assumption) ?_
                case q4xy7b20 => (intro w hSw; (try dsimp only at hSw); go_simp; try with_reducible rfl)
                try simp only [Act.put, la, lz, ls]
                refine wpAnyH_take (i := 8) (oi := _) (v := ?q4xv8b21) (ga rfl) (by kernel_rfl) (by kernel_rfl) (by kernel_rfl) (fun _ _ _ h => h) (Or.inl ⟨by rfl, ?q4xy8b21⟩) (by assumption) ?_
                case q4xy8b21 => (intro w hSw; (try dsimp only at hSw); go_simp; try with_reducible rfl)
                try simp only [Act.put, la, lz, ls]
                refine wpAnyH_ready (rs := [9]) (by kernel_rfl) (by simp) ?_
                refine AllReadyH.cons (o := _) (ga rfl) (fun K hK => ?_) AllReadyH.nil
                go_simp
                refine hK.out _ _ ?q4xh9b22 (fun hHeld => ?_)
                case q4xh9b22 => (first | (first | exact fun q => rfl | assumption | exact HKA.out _ (by assumption) _ | exact HKS.out _ (by assumption) _) | (dsimp only; first | exact fun q => rfl | assumption | exact HKA.out _ (by assumption) _ | exact HKS.out _ (by assumption) _))
                clear hK K
                try simp only [Act.put, la, lz, ls]
                refine wpAnyH_ready (rs := [10]) (by kernel_rfl) (by simp) ?_
                refine AllReadyH.cons (o := _) (ga rfl) (fun K hK => ?_) AllReadyH.nil
                refine step_append_lies _ (by rfl) _ _ _ (by rfl) w3.heap.size 63 i0 (.agg #[.int .i64 0, .int .i64 0]) 2 16 Tryz.underlying56 hi0 hz0 hz1 hz2 rfl (by omega) _ _ _ (by rfl) ((HRW.out _ hb6).own.alloc _) ⟨w6.heap.size, 0, none⟩ 1 1 [.int .i64 x.e.x.player, .int .i64 ((M.objects x.e.x).length : Int)] (by rfl) (by rfl) (cells_new _ _ _ _ rfl) (by simp [Value.oneCell']) (by omega) (by simp only [maxLen]; omega) (by omega) (by have := HSZ.out _ hb6; simp; omega) (w6.heap.size + 1) (by simp) ?_; intro g1 cap w7 hown7 hgrow7 hat7 hlt7; obtain ⟨c8, f8, s8⟩ := HAP.out _ hb6 _ hgrow7
                refine hK.out _ _ ?q4xh10b23 (fun hHeld => ?_)
                case q4xh10b23 => (first | (first | exact fun q => rfl | assumption | exact HKA.out _ (by assumption) _ | exact HKS.out _ (by assumption) _) | (dsimp only; first | exact fun q => rfl | assumption | exact HKA.out _ (by assumption) _ | exact HKS.out _ (by assumption) _))
                clear hK K
                try simp only [Act.put, la, lz, ls]
                refine wpAnyH_ready (rs := [11]) (by kernel_rfl) (by simp) ?_
                refine AllReadyH.cons (o := _) (ga rfl) (fun K hK => ?_) AllReadyH.nil
                go_simp
                refine hK.out _ _ ?q4xh11b24 (fun hHeld => ?_)
                case q4xh11b24 => (first | (first | exact fun q => rfl | assumption | exact HKA.out _ (by assumption) _ | exact HKS.out _ (by assumption) _) | (dsimp only; first | exact fun q => rfl | assumption | exact HKA.out _ (by assumption) _ | exact HKS.out _ (by assumption) _))
                clear hK K
                try simp only [Act.put, la, lz, ls]
                refine wpAnyH_done (by kernel_rfl) ?_ _
                obtain ⟨hO9, hF9⟩ := F8.out _ hb6 _ _ _ _ hgrow7 hown7 hat7
                have o9 := hO9.cell (j := 0) rfl
                have f9 := hO9.frozen 0
                refine hK4 _ _ ?_
                refine wpIn_region_round' (by kernel_rfl) (by rintro ⟨_, _, h⟩; exact h) ?_
                have HF9 := hide hF9
                clear hF9
                go_wp2
                exact HF9.out
              · go_simp
                (go_at_call 70; refine (HOB.out _ hb5.drew).mono ?_; rintro e w6 ⟨A6, c6, rfl, _, hb6⟩; obtain ⟨c7, f7, s7⟩ := HZ.out _ hb6; have c9 := HC9.out _ hb6)
                refine hK.out _ _ ?q4xh6b37 (fun hHeld => ?_)
                case q4xh6b37 => (first | (first | exact fun q => rfl | assumption | exact HKA.out _ (by assumption) _ | exact HKS.out _ (by assumption) _) | (dsimp only; first | exact fun q => rfl | assumption | exact HKA.out _ (by assumption) _ | exact HKS.out _ (by assumption) _))
                clear hK K
                try simp only [Act.put, la, lz, ls]
                refine wpAnyH_take (i := 7) (oi := _) (v := ?q4xv7b38) (ga rfl) (by kernel_rfl) (by kernel_rfl) (by kernel_rfl) (fun _ _ _ h => h) (Or.inl ⟨by rfl, ?q4xy7b38⟩) (by assumption) ?_
                case q4xy7b38 => (intro w hSw; (try dsimp only at hSw); go_simp; try with_reducible rfl)
                try simp only [Act.put, la, lz, ls]
                refine wpAnyH_take (i := 8) (oi := _) (v := ?q4xv8b39) (ga rfl) (by kernel_rfl) (by kernel_rfl) (by kernel_rfl) (fun _ _ _ h => h) (Or.inl ⟨by rfl, ?q4xy8b39⟩) (by assumption) ?_
                case q4xy8b39 => (intro w hSw; (try dsimp only at hSw); go_simp; try with_reducible rfl)
                try simp only [Act.put, la, lz, ls]
                refine wpAnyH_ready (rs := [0, 9]) (by kernel_rfl) (by simp) ?_
                refine AllReadyH.cons (o := _) (ga rfl) (fun K hK => ?_) (AllReadyH.cons (o := _) (ga rfl) (fun K hK => ?_) AllReadyH.nil)
                · go_simp
                  refine hK.out _ _ ?q4xh0b52 (fun hHeld => ?_)
                  case q4xh0b52 => (first | (first | exact fun q => rfl | assumption | exact HKA.out _ (by assumption) _ | exact HKS.out _ (by assumption) _) | (dsimp only; first | exact fun q => rfl | assumption | exact HKA.out _ (by assumption) _ | exact HKS.out _ (by assumption) _))
                  clear hK K
                  try simp only [Act.put, la, lz, ls]
                  refine wpAnyH_ready (rs := [9]) (by kernel_rfl) (by simp) ?_
                  refine AllReadyH.cons (o := _) (ga rfl) (fun K hK => ?_) AllReadyH.nil
                  go_simp
                  refine hK.out _ _ ?q4xh9b53 (fun hHeld => ?_)
                  case q4xh9b53 => (first | (first | exact fun q => rfl | assumption | exact HKA.out _ (by assumption) _ | exact HKS.out _ (by assumption) _) | (dsimp only; first | exact fun q => rfl | assumption | exact HKA.out _ (by assumption) _ | exact HKS.out _ (by assumption) _))
                  clear hK K
                  try simp only [Act.put, la, lz, ls]
                  refine wpAnyH_ready (rs := [10]) (by kernel_rfl) (by simp) ?_
                  refine AllReadyH.cons (o := _) (ga rfl) (fun K hK => ?_) AllReadyH.nil
                  refine step_append_lies _ (by rfl) _ _ _ (by rfl) w3.heap.size 63 i0 (.agg #[.int .i64 0, .int .i64 0]) 2 16 Tryz.underlying56 hi0 hz0 hz1 hz2 rfl (by omega) _ _ _ (by rfl) ((HRW.out _ hb6).own.alloc _) ⟨w6.heap.size, 0, none⟩ 1 1 [.int .i64 x.e.x.player, .int .i64 ((M.objects x.e.x).length : Int)] (by rfl) (by rfl) (cells_new _ _ _ _ rfl) (by simp [Value.oneCell']) (by omega) (by simp only [maxLen]; omega) (by omega) (by have := HSZ.out _ hb6; simp; omega) (w6.heap.size + 1) (by simp) ?_; intro g1 cap w7 hown7 hgrow7 hat7 hlt7; obtain ⟨c8, f8, s8⟩ := HAP.out _ hb6 _ hgrow7
                  refine hK.out _ _ ?q4xh10b54 (fun hHeld => ?_)
                  case q4xh10b54 => (first | (first | exact fun q => rfl | assumption | exact HKA.out _ (by assumption) _ | exact HKS.out _ (by assumption) _) | (dsimp only; first | exact fun q => rfl | assumption | exact HKA.out _ (by assumption) _ | exact HKS.out _ (by assumption) _))
                  clear hK K
                  try simp only [Act.put, la, lz, ls]
                  refine wpAnyH_ready (rs := [11]) (by kernel_rfl) (by simp) ?_
                  refine AllReadyH.cons (o := _) (ga rfl) (fun K hK => ?_) AllReadyH.nil
                  go_simp
                  refine hK.out _ _ ?q4xh11b55 (fun hHeld => ?_)
                  case q4xh11b55 => (first | (first | exact fun q => rfl | assumption | exact HKA.out _ (by assumption) _ | exact HKS.out _ (by assumption) _) | (dsimp only; first | exact fun q => rfl | assumption | exact HKA.out _ (by assumption) _ | exact HKS.out _ (by assumption) _))
                  clear hK K
                  try simp only [Act.put, la, lz, ls]
                  refine wpAnyH_done (by kernel_rfl) ?_ _
                  obtain ⟨hO9, hF9⟩ := F8.out _ hb6 _ _ _ _ hgrow7 hown7 hat7
                  have o9 := hO9.cell (j := 0) rfl
                  have f9 := hO9.frozen 0
                  refine hK4 _ _ ?_
                  refine wpIn_region_round' (by kernel_rfl) (by rintro ⟨_, _, h⟩; exact h) ?_
                  have HF9 := hide hF9
                  clear hF9
                  go_wp2
                  exact HF9.out
                · go_simp
                  refine hK.out _ _ ?q4xh9b68 (fun hHeld => ?_)
                  case q4xh9b68 => (first | (first | exact fun q => rfl | assumption | exact HKA.out _ (by assumption) _ | exact HKS.out _ (by assumption) _) | (dsimp only; first | exact fun q => rfl | assumption | exact HKA.out _ (by assumption) _ | exact HKS.out _ (by assumption) _))
                  clear hK K
                  try simp only [Act.put, la, lz, ls]
                  refine wpAnyH_ready (rs := [0]) (by kernel_rfl) (by simp) ?_
                  refine AllReadyH.cons (o := _) (ga rfl) (fun K hK => ?_) AllReadyH.nil
                  go_simp
                  refine hK.out _ _ ?q4xh0b69 (fun hHeld => ?_)
                  case q4xh0b69 => (first | (first | exact fun q => rfl | assumption | exact HKA.out _ (by assumption) _ | exact HKS.out _ (by assumption) _) | (dsimp only; first | exact fun q => rfl | assumption | exact HKA.out _ (by assumption) _ | exact HKS.out _ (by assumption) _))
                  clear hK K
                  try simp only [Act.put, la, lz, ls]
                  refine wpAnyH_ready (rs := [10]) (by kernel_rfl) (by simp) ?_
                  refine AllReadyH.cons (o := _) (ga rfl) (fun K hK => ?_) AllReadyH.nil
                  refine step_append_lies _ (by rfl) _ _ _ (by rfl) w3.heap.size 63 i0 (.agg #[.int .i64 0, .int .i64 0]) 2 16 Tryz.underlying56 hi0 hz0 hz1 hz2 rfl (by omega) _ _ _ (by rfl) ((HRW.out _ hb6).own.alloc _) ⟨w6.heap.size, 0, none⟩ 1 1 [.int .i64 x.e.x.player, .int .i64 ((M.objects x.e.x).length : Int)] (by rfl) (by rfl) (cells_new _ _ _ _ rfl) (by simp [Value.oneCell']) (by omega) (by simp only [maxLen]; omega) (by omega) (by have := HSZ.out _ hb6; simp; omega) (w6.heap.size + 1) (by simp) ?_; intro g1 cap w7 hown7 hgrow7 hat7 hlt7; obtain ⟨c8, f8, s8⟩ := HAP.out _ hb6 _ hgrow7
                  refine hK.out _ _ ?q4xh10b70 (fun hHeld => ?_)
                  case q4xh10b70 => (first | (first | exact fun q => rfl | assumption | exact HKA.out _ (by assumption) _ | exact HKS.out _ (by assumption) _) | (dsimp only; first | exact fun q => rfl | assumption | exact HKA.out _ (by assumption) _ | exact HKS.out _ (by assumption) _))
                  clear hK K
                  try simp only [Act.put, la, lz, ls]
                  refine wpAnyH_ready (rs := [11]) (by kernel_rfl) (by simp) ?_
                  refine AllReadyH.cons (o := _) (ga rfl) (fun K hK => ?_) AllReadyH.nil
                  go_simp
                  refine hK.out _ _ ?q4xh11b71 (fun hHeld => ?_)
                  case q4xh11b71 => (first | (first | exact fun q => rfl | assumption | exact HKA.out _ (by assumption) _ | exact HKS.out _ (by assumption) _) | (dsimp only; first | exact fun q => rfl | assumption | exact HKA.out _ (by assumption) _ | exact HKS.out _ (by assumption) _))
                  clear hK K
                  try simp only [Act.put, la, lz, ls]
                  refine wpAnyH_done (by kernel_rfl) ?_ _
                  obtain ⟨hO9, hF9⟩ := F8.out _ hb6 _ _ _ _ hgrow7 hown7 hat7
                  have o9 := hO9.cell (j := 0) rfl
                  have f9 := hO9.frozen 0
                  refine hK4 _ _ ?_
                  refine wpIn_region_round' (by kernel_rfl) (by rintro ⟨_, _, h⟩; exact h) ?_
                  have HF9 := hide hF9
                  clear hF9
                  go_wp2
                  exact HF9.out
      case done =>
        intro D X Y xs W hD hS hi hdef
        obtain ⟨v, hV, hOwn⟩ := hi.a
        have hrfin : (runQ r l xs.length).2 = runsR' r l := by rw [hS, HRS.out]; exact runQ_all r l
        have hOwn' : OwnRow W w3.heap.size X Y 63 2 v (runsR' r l).length (runCells (runsR' r l)) := by rw [← hrfin]; exact hOwn
        have hlr : (runsR' r l).length ≤ 1000 := by rw [← hrfin]; have := (runQ_bd r l HL.out xs.length (by omega)).2.1; have := HLS.out; omega
        obtain ⟨A2, c2, rfl⟩ := own_slice hOwn'.own
        have hbw := hi.bw
        have hWs := hi.sz
        have c9 := hV.cell (j := 0) rfl
        have HDEF := hide hdef
        have fin : ∀ (a : Act), a.defers = [{ target := .collected D, args := #[] }] → a.tmps.getD 4 undef = .slice A2 (runsR' r l).length c2 → a.tmps.getD 5 undef = .int .i64 0 → Q' .ret a W := by
          intro a e1 e4 e5
          rw [← HQ.out]
          refine leaves_after e1 HDEF.out (results_tmp2 rfl _ _ _) ⟨A2, c2, ?_, ?_, below_putObj hbw (by omega) _⟩
          · rw [e4, e5, HE.out, h0]
          · exact Reads.of_own (hOwn'.putObj HDEF.out rfl _).own (fun g hg => by omega) (by omega)
        have FIN := hide fin
        clear fin hi hdef hOwn hOwn' hV
        refine hKQ _ _ ?_
        dsimp only
        refine wp_ret_only ?_
        go_wp2
        exact FIN.out _ rfl rfl rfl
    · have h0' : (E != 0) = true := by simp [h0]
      have hrs : runsR' r l = [] := by
        have := HE.out
        unfold runsR'; rw [if_neg (by rw [this]; exact h0)]
      have HRS := hide hrs
      clear h0 hrs
      go_wp2_with (first | (go_at_call 63; refine (HCK.out _ (hp.below hB.bw)).mono ?_; rintro e w1 ⟨rfl, hb1⟩; have hB1 := hB.call (by simp) hb1))
      rw [← HQ.out]
      refine leaves_now (results_tmp2 rfl _ _ _) rfl ⟨none, 0, ?_, ?_, hB1.bw⟩
      · rw [HRS.out, HE.out]; rfl
      · rw [HRS.out]; exact Reads.none_ _ _ _
end Go.Proofs.YtelpepbpdojikaaGreatDoor
