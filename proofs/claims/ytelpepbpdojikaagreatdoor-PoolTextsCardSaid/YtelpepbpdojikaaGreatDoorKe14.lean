/- Parts of the proofs about chapter 5 (pool), joined by program. -/
import Derived.Laws.Strings
import Derived.Test.YtelpepbpdojikaaGreatDoorKe0
set_option linter.unusedVariables false
set_option linter.unusedSimpArgs false
namespace Go.Proofs.YtelpepbpdojikaaGreatDoor
namespace M
def Rest (R : List (List UInt8)) : Prop := R = [] ∨ R = [[120]]
theorem pots_rest (l : List Pot) (R : List (List UInt8)) : ∀ (x : Shot) (n : Int), (∀ p ∈ l, (0 ≤ p.ball ∧ p.ball ≤ 99) ∧ (0 ≤ p.pocket ∧ p.pocket ≤ 99)) →
    refPots x n ((l.map fun p => pairText 112 p.ball p.pocket) ++ R) = refPots { x with pots := x.pots ++ l } (n + l.length) R := by
  induction l with
  | nil => intro x n _; simp
  | cons p l ih =>
    intro x n h
    rw [List.map_cons, List.cons_append, refPots, pair_text 112 (h p List.mem_cons_self).1 (h p List.mem_cons_self).2]
    simp only
    rw [ih _ _ (fun q hq => h q (List.mem_cons_of_mem _ hq))]
    simp only [List.append_assoc, List.cons_append, List.nil_append, List.length_cons]
    rw [show n + 1 + (l.length : Int) = n + ((l.length + 1 : Nat) : Int) by omega]
theorem pots_head (l : List Pot) (R : List (List UInt8)) (hR : Rest R) : (l.map fun p => pairText 112 p.ball p.pocket) ++ R = [] ∨ ∃ c t m, (l.map fun p => pairText 112 p.ball p.pocket) ++ R = (c :: t) :: m ∧ (c = 112 ∨ c = 120) := by
  cases l with
  | nil =>
    rcases hR with rfl | rfl
    · exact .inl rfl
    · exact .inr ⟨_, _, _, rfl, .inr rfl⟩
  | cons p l => exact .inr ⟨_, _, _, rfl, .inl rfl⟩
theorem cushion_rest (x : Shot) (n : Int) (cu : Bool) (l : List Pot) (R : List (List UInt8)) (hR : Rest R) (hl : ∀ p ∈ l, (0 ≤ p.ball ∧ p.ball ≤ 99) ∧ (0 ≤ p.pocket ∧ p.pocket ≤ 99)) (hx : x.cushion = false) :
    refCushion x n ((if cu = true then [[43]] else []) ++ ((l.map fun p => pairText 112 p.ball p.pocket) ++ R)) = refPots { x with cushion := cu, pots := x.pots ++ l } (n + (if cu = true then [[(43 : UInt8)]] else []).length + l.length) R := by
  cases cu with
  | true =>
    simp only [if_true, List.cons_append, List.nil_append, List.length_cons, List.length_nil]
    rw [refCushion, if_pos rfl, pots_rest l R _ _ hl]
    rfl
  | false =>
    simp only [Bool.false_eq_true, if_false, List.nil_append, List.length_nil]
    have : refCushion x n ((l.map fun p => pairText 112 p.ball p.pocket) ++ R) = refPots x n ((l.map fun p => pairText 112 p.ball p.pocket) ++ R) := by
      rcases pots_head l R hR with h | ⟨c, t, m, h, hc⟩
      · rw [h]; rfl
      · rw [h, refCushion, if_neg]
        intro e
        injection e with e1 e2
        subst e1
        rcases hc with hc | hc <;> exact absurd hc (by decide)
    rw [this, pots_rest l R _ _ hl, ← hx]
    simp
theorem hit_rest (x : Shot) (n f : Int) (cu : Bool) (l : List Pot) (R : List (List UInt8)) (hR : Rest R) (hl : ∀ p ∈ l, (0 ≤ p.ball ∧ p.ball ≤ 99) ∧ (0 ≤ p.pocket ∧ p.pocket ≤ 99)) (hf : 0 ≤ f ∧ f ≤ 99) (hx : x.cushion = false) (h1 : x.first = 0) :
    refHit x n ((if f ≠ 0 then [102 :: dec f] else []) ++ ((if cu = true then [[43]] else []) ++ ((l.map fun p => pairText 112 p.ball p.pocket) ++ R))) =
      refPots { x with first := f, cushion := cu, pots := x.pots ++ l } (n + (if f ≠ 0 then [102 :: dec f] else []).length + (if cu = true then [[(43 : UInt8)]] else []).length + l.length) R := by
  by_cases h0 : f = 0
  · simp only [h0, ne_eq, not_true, if_false, List.nil_append, List.length_nil]
    have : refHit x n ((if cu = true then [[43]] else []) ++ ((l.map fun p => pairText 112 p.ball p.pocket) ++ R)) = refCushion x n ((if cu = true then [[43]] else []) ++ ((l.map fun p => pairText 112 p.ball p.pocket) ++ R)) := by
      cases cu with
      | true => exact hit_pass _ x n (fun c t m e => by injection e with e1 e2; injection e1 with e3 e4; rw [← e3]; decide) (fun m e => by injection e with e1 e2; cases e1)
      | false =>
        simp only [Bool.false_eq_true, if_false, List.nil_append]
        rcases pots_head l R hR with h | ⟨c, t, m, h, hc⟩
        · rw [h]; rfl
        · rw [h]
          exact hit_pass _ x n (fun c' t' m' e => by injection e with e1 e2; injection e1 with e3 e4; rw [← e3]; rcases hc with hc | hc <;> rw [hc] <;> decide) (fun m e => by injection e with e1 e2; cases e1)
    rw [this, cushion_rest x n cu l R hR hl hx, ← h1]
    simp
  · simp only [ne_eq, h0, not_false_eq_true, if_true, List.cons_append, List.nil_append, List.length_cons, List.length_nil]
    rw [refHit, hitOf, if_pos rfl, num_dec hf.1 hf.2]
    simp only [Option.filter, show decide (0 < f) = true by rw [decide_eq_true_eq]; omega, if_true]
    rw [cushion_rest { x with first := f } (n + 1) cu l R hR hl hx]
    rfl
theorem call_rest (x : Shot) (n b q f : Int) (cu : Bool) (l : List Pot) (R : List (List UInt8)) (hR : Rest R) (hl : ∀ p ∈ l, (0 ≤ p.ball ∧ p.ball ≤ 99) ∧ (0 ≤ p.pocket ∧ p.pocket ≤ 99)) (hf : 0 ≤ f ∧ f ≤ 99) (hb : 0 ≤ b ∧ b ≤ 99) (hq : 0 ≤ q ∧ q ≤ 99) (hbq : b = 0 ↔ q = 0)
    (hx : x.cushion = false) (h1 : x.first = 0) (h2 : x.ball = 0) (h3 : x.pocket = 0) :
    refCall x n ((if b ≠ 0 then [pairText 99 b q] else []) ++ ((if f ≠ 0 then [102 :: dec f] else []) ++ ((if cu = true then [[43]] else []) ++ ((l.map fun p => pairText 112 p.ball p.pocket) ++ R)))) =
      refPots { x with ball := b, pocket := q, first := f, cushion := cu, pots := x.pots ++ l } (n + (if b ≠ 0 then [pairText 99 b q] else []).length + (if f ≠ 0 then [102 :: dec f] else []).length + (if cu = true then [[(43 : UInt8)]] else []).length + l.length) R := by
  by_cases h0 : b = 0
  · have hq0 := hbq.1 h0
    simp only [h0, ne_eq, not_true, if_false, List.nil_append, List.length_nil]
    have : refCall x n ((if ¬ f = 0 then [102 :: dec f] else []) ++ ((if cu = true then [[43]] else []) ++ ((l.map fun p => pairText 112 p.ball p.pocket) ++ R))) = refHit x n ((if ¬ f = 0 then [102 :: dec f] else []) ++ ((if cu = true then [[43]] else []) ++ ((l.map fun p => pairText 112 p.ball p.pocket) ++ R))) := by
      by_cases hf0 : f = 0
      · simp only [hf0, not_true, if_false, List.nil_append]
        cases cu with
        | true => exact call_pass _ x n (fun c t m e => by injection e with e1 e2; injection e1 with e3 e4; rw [← e3]; decide) (fun m e => by injection e with e1 e2; cases e1)
        | false =>
          simp only [Bool.false_eq_true, if_false, List.nil_append]
          rcases pots_head l R hR with h | ⟨c, t, m, h, hc⟩
          · rw [h]; rfl
          · rw [h]
            exact call_pass _ x n (fun c' t' m' e => by injection e with e1 e2; injection e1 with e3 e4; rw [← e3]; rcases hc with hc | hc <;> rw [hc] <;> decide) (fun m e => by injection e with e1 e2; cases e1)
      · simp only [hf0, not_false_eq_true, if_true, List.cons_append, List.nil_append]
        exact call_pass _ x n (fun c t m e => by injection e with e1 e2; injection e1 with e3 e4; rw [← e3]; decide) (fun m e => by injection e with e1 e2; cases e1)
    have hh := hit_rest x n f cu l R hR hl hf hx h1
    simp only [ne_eq] at hh
    rw [this, hh, hq0, ← h2]
    simp [h2, h3]
  · simp only [ne_eq, h0, not_false_eq_true, if_true, List.cons_append, List.nil_append, List.length_cons, List.length_nil]
    have hq0 : q ≠ 0 := fun e => h0 (hbq.2 e)
    rw [refCall, pair_text 99 hb hq]
    simp only [Option.filter, show decide (0 < b ∧ 0 < q) = true by rw [decide_eq_true_eq]; omega, if_true]
    have hh := hit_rest { x with ball := b, pocket := q } (n + 1) f cu l R hR hl hf hx h1
    simp only [ne_eq] at hh
    rw [hh]
    rfl
theorem kind_cases {k : ByteArray} (h : isKind k = true) : k = kBreak ∨ k = kPlay ∨ k = kSafety ∨ k = kPush ∨ k = kPass ∨ k = kConcede := by
  unfold isKind at h; exact of_decide_eq_true h
theorem toList_mk (l : List UInt8) : (ByteArray.mk l.toArray).toList = l := by rw [ByteArray.toList_eq]
theorem mk_toList (k : ByteArray) : ByteArray.mk k.toList.toArray = k := by rw [ByteArray.toList_eq]
theorem kind_plain {k : ByteArray} (h : isKind k = true) : (32 : UInt8) ∉ k.toList ∧ k.toList ≠ [] ∧ k.toList.length ≤ 7 := by
  rcases kind_cases h with rfl | rfl | rfl | rfl | rfl | rfl <;> rw [ByteArray.toList_eq] <;> decide
theorem isKindL_toList (k : ByteArray) : isKindL k.toList = isKind k := by unfold isKindL; rw [mk_toList]
theorem dec_blank {n : Int} (h1 : n ≤ 99) : (32 : UInt8) ∉ dec n := fun h => absurd rfl (not_dig (dec_plain h1 _ h) (d := 32) (by decide))
theorem pair_blank (c : UInt8) {a b : Int} (hc : c ≠ 32) (ha : a ≤ 99) (hb : b ≤ 99) : (32 : UInt8) ∉ pairText c a b := by
  unfold pairText
  rw [List.mem_cons, List.mem_append, List.mem_cons]
  rintro (h | h | h | h)
  · exact hc h.symm
  · exact dec_blank ha h
  · exact absurd h (by decide)
  · exact dec_blank hb h
theorem dec_length (n : Int) : (dec n).length ≤ 2 := by unfold dec; split <;> simp
theorem pair_length (c : UInt8) (a b : Int) : (pairText c a b).length ≤ 6 := by
  have := dec_length a
  have := dec_length b
  unfold pairText
  simp
  omega
section
variable {x : Shot}
theorem tail_assoc (x : Shot) : tail x = (if x.ball ≠ 0 then [pairText 99 x.ball x.pocket] else []) ++ ((if x.first ≠ 0 then [102 :: dec x.first] else []) ++ ((if x.cushion = true then [[43]] else []) ++ x.pots.map fun p => pairText 112 p.ball p.pocket)) := by
  unfold tail; simp only [List.append_assoc]
theorem tail_mem (hx : ShotOk x) : ∀ w ∈ tail x, (32 : UInt8) ∉ w ∧ w ≠ [] ∧ w.length ≤ 6 := by
  have hb := hx.ball
  have hq := hx.pocket
  have hf := hx.first
  intro w hw
  rw [tail_assoc, List.mem_append, List.mem_append, List.mem_append] at hw
  rcases hw with h | h | h | h
  · split at h
    · rw [List.mem_singleton] at h; subst h
      exact ⟨pair_blank 99 (by decide) (by omega) (by omega), by unfold pairText; simp, pair_length _ _ _⟩
    · cases h
  · split at h
    · rw [List.mem_singleton] at h; subst h
      have := dec_length x.first
      refine ⟨?_, by simp, by simp; omega⟩
      rw [List.mem_cons]
      rintro (h | h)
      · exact absurd h (by decide)
      · exact dec_blank (by omega) h
    · cases h
  · split at h
    · rw [List.mem_singleton] at h; subst h; decide
    · cases h
  · obtain ⟨p, hp, rfl⟩ := List.mem_map.1 h
    have := hx.pots p hp
    exact ⟨pair_blank 112 (by decide) (by omega) (by omega), by unfold pairText; simp, pair_length _ _ _⟩
theorem letter_plain (p : Int) : (32 : UInt8) ∉ letter p ∧ (letter p).length = 1 := by unfold letter; split <;> decide
theorem words_print (hx : ShotOk x) (R : List (List UInt8)) (hR : Rest R) : words (join (pieces x ++ R)) = pieces x ++ R := by
  have hk := kind_plain hx.kind
  unfold pieces
  rw [List.cons_append]
  refine words_join _ _ (letter_plain _).1 (fun b hb => ?_)
  rw [List.cons_append, List.mem_cons, List.mem_append] at hb
  rcases hb with rfl | hb | hb
  · exact hk.1
  · exact (tail_mem hx b hb).1
  · rcases hR with rfl | rfl
    · cases hb
    · rw [List.mem_singleton] at hb; subst hb; decide
theorem read_pieces (hx : ShotOk x) (R : List (List UInt8)) (hR : Rest R) : readHead (pieces x ++ R) = refPots x ((pieces x).length : Int) R := by
  have hb := hx.ball
  have hq := hx.pocket
  have hf := hx.first
  have hl : letter x.player = if x.player = 1 then [98] else [97] := rfl
  have hpl := hx.player
  have hne : ¬ (letter x.player ≠ [97] ∧ letter x.player ≠ [98]) := by
    rw [hl]; split <;> simp
  have hi : (if letter x.player = [98] then (1 : Int) else 0) = x.player := by
    rw [hl]
    rcases hpl with h | h
    · rw [h]; decide
    · rw [h]; decide
  unfold pieces
  rw [List.cons_append, List.cons_append, readHead, if_neg hne]
  simp only
  rw [isKindL_toList, hx.kind, if_neg (by decide), ref_call, tail_assoc, List.append_assoc, List.append_assoc, List.append_assoc, hi, mk_toList,
    call_rest { blank with player := x.player, kind := x.kind } 2 x.ball x.pocket x.first x.cushion x.pots R hR (fun p hp => by have := hx.pots p hp; omega) (by omega) (by omega) (by omega) hx.called rfl rfl rfl rfl]
  congr 1
  simp only [List.length_cons, List.length_append, List.length_map]
  omega
theorem print_rest (x : Shot) : join (pieces x ++ [[120]]) = print x ++ [32, 120] := by
  unfold print pieces
  rw [List.cons_append, join, join, List.flatMap_append]
  simp
theorem flat_length (l : List (List UInt8)) (h : ∀ w ∈ l, w.length ≤ 6) : (l.flatMap fun b => (32 : UInt8) :: b).length ≤ 7 * l.length := by
  induction l with
  | nil => simp
  | cons w l ih =>
    have h1 := h w List.mem_cons_self
    have h2 := ih (fun v hv => h v (List.mem_cons_of_mem _ hv))
    simp only [List.flatMap_cons, List.length_append, List.length_cons]
    omega
theorem tail_length (hx : ShotOk x) : (tail x).length ≤ 19 := by
  have := hx.few
  have a : ∀ (c : Prop) [Decidable c] (w : List UInt8), (if c then [w] else []).length ≤ 1 := by intro c _ w; split <;> simp
  have a1 := a (x.ball ≠ 0) (pairText 99 x.ball x.pocket)
  have a2 := a (x.first ≠ 0) (102 :: dec x.first)
  have a3 := a (x.cushion = true) [43]
  rw [tail_assoc]
  simp only [List.length_append, List.length_map] at a1 a2 a3 ⊢
  omega
theorem print_length (hx : ShotOk x) : (print x).length ≤ 200 := by
  have h1 := kind_plain hx.kind
  have h2 := tail_length hx
  have h3 := flat_length (tail x) (fun w hw => (tail_mem hx w hw).2.2)
  have h4 := (letter_plain x.player).2
  unfold print pieces
  rw [join, List.flatMap_cons]
  simp only [List.length_append, List.length_cons]
  omega
theorem parse_print (h : ckShot x = 0) : parse (print x) = (x, 0, 0) := by
  have hx := shotOk h
  have hlen := print_length hx
  unfold parse
  rw [if_neg (by omega)]
  have hw := words_print hx [] (.inl rfl)
  have hr := read_pieces hx [] (.inl rfl)
  rw [List.append_nil] at hw hr
  rw [show print x = join (pieces x) from rfl, hw, hr]
  simp only [refPots]
  rw [if_neg (by simp [h])]
theorem parse_more (h : ckShot x = 0) : parse (print x ++ [32, 120]) = (blank, ((pieces x).length : Int) + 1, 25) := by
  have hx := shotOk h
  have hlen := print_length hx
  unfold parse
  rw [if_neg (by simp; omega), ← print_rest, words_print hx _ (.inr rfl), read_pieces hx _ (.inr rfl)]
  rfl
theorem count_plain (w : List UInt8) (h : (32 : UInt8) ∉ w) : w.count 32 = 0 := List.count_eq_zero.2 h
theorem count_print (hx : ShotOk x) : (print x).count 32 + 1 = (pieces x).length := by
  have key : ∀ l : List (List UInt8), (∀ w ∈ l, (32 : UInt8) ∉ w) → (l.flatMap fun b => (32 : UInt8) :: b).count 32 = l.length := by
    intro l
    induction l with
    | nil => intro _; rfl
    | cons w l ih =>
      intro h
      rw [List.flatMap_cons, List.count_append, ih (fun v hv => h v (List.mem_cons_of_mem _ hv)), List.count_cons, count_plain w (h w List.mem_cons_self)]
      simp
      omega
  unfold print pieces
  rw [join, List.count_append, count_plain _ (letter_plain _).1, key]
  · simp
  · intro w hw
    rcases List.mem_cons.1 hw with rfl | hw
    · exact (kind_plain hx.kind).1
    · exact (tail_mem hx w hw).1
theorem pots_inv : ∀ (l : List (List UInt8)) (x y : Shot) (n : Int), refPots x n l = .ok y → ∃ ps : List Pot, l = ps.map (fun p => pairText 112 p.ball p.pocket) ∧ y = { x with pots := x.pots ++ ps }
  | [], x, y, n, h => by
    rw [refPots] at h; injection h with h; subst h; exact ⟨[], rfl, by simp⟩
  | w :: l, x, y, n, h => by
    rw [refPots] at h
    cases hp : pairOf 112 w with
    | none => rw [hp] at h; cases h
    | some p =>
      obtain ⟨a, b⟩ := p
      rw [hp] at h
      obtain ⟨ps, e1, e2⟩ := pots_inv l _ y _ h
      refine ⟨⟨a, b⟩ :: ps, ?_, ?_⟩
      · rw [List.map_cons, ← e1, (pair_of hp).1]
      · rw [e2]; simp
theorem cushion_inv (l : List (List UInt8)) (x y : Shot) (n : Int) (h : refCushion x n l = .ok y) (hx : x.cushion = false) :
    ∃ (cu : Bool) (ps : List Pot), l = (if cu = true then [[43]] else []) ++ ps.map (fun p => pairText 112 p.ball p.pocket) ∧ y = { x with cushion := cu, pots := x.pots ++ ps } := by
  cases l with
  | nil => rw [refCushion] at h; injection h with h; subst h; exact ⟨false, [], rfl, by rw [← hx]; simp⟩
  | cons w l =>
    rw [refCushion] at h
    split at h
    · next hw =>
      obtain ⟨ps, e1, e2⟩ := pots_inv l _ y _ h
      exact ⟨true, ps, by rw [hw, e1]; rfl, e2⟩
    · obtain ⟨ps, e1, e2⟩ := pots_inv _ _ y _ h
      exact ⟨false, ps, e1, by rw [e2, ← hx]⟩
theorem hit_inv (l : List (List UInt8)) (x y : Shot) (n : Int) (h : refHit x n l = .ok y) (hx : x.cushion = false) (h1 : x.first = 0) :
    ∃ (f : Int) (cu : Bool) (ps : List Pot), l = (if f ≠ 0 then [102 :: dec f] else []) ++ ((if cu = true then [[43]] else []) ++ ps.map (fun p => pairText 112 p.ball p.pocket)) ∧ y = { x with first := f, cushion := cu, pots := x.pots ++ ps } := by
  cases l with
  | nil => rw [refHit] at h; injection h with h; subst h; exact ⟨0, false, [], rfl, by rw [← hx, ← h1]; simp⟩
  | cons w l =>
    rw [refHit] at h
    cases hq : (hitOf w).filter fun h => decide (0 < h) with
    | some f =>
      rw [hq] at h
      obtain ⟨cu, ps, e1, e2⟩ := cushion_inv l { x with first := f } y _ h hx
      rw [Option.filter_eq_some_iff] at hq
      obtain ⟨hq, hf⟩ := hq
      have hf := of_decide_eq_true hf
      match w, hq with
      | c :: t, hq =>
        rw [hitOf] at hq
        split at hq
        · next hc => exact ⟨f, cu, ps, by rw [if_pos (by omega), e1, hc, (dec_num hq).1]; rfl, e2⟩
        · cases hq
    | none =>
      rw [hq] at h
      obtain ⟨cu, ps, e1, e2⟩ := cushion_inv _ x y _ h hx
      exact ⟨0, cu, ps, e1, by rw [e2, ← h1]⟩
theorem call_inv (l : List (List UInt8)) (x y : Shot) (n : Int) (h : refCall x n l = .ok y) (hx : x.cushion = false) (h1 : x.first = 0) (h2 : x.ball = 0) (h3 : x.pots = []) : ∃ z : Shot, y = { z with player := x.player, kind := x.kind } ∧ l = tail z := by
  cases l with
  | nil => rw [refCall] at h; injection h with h; subst h; exact ⟨x, rfl, by unfold tail; simp [h2, h1, hx, h3]⟩
  | cons w l =>
    rw [refCall] at h
    cases hq : (pairOf 99 w).filter fun p => decide (0 < p.1 ∧ 0 < p.2) with
    | some p =>
      obtain ⟨a, b⟩ := p
      rw [hq] at h
      obtain ⟨f, cu, ps, e1, e2⟩ := hit_inv l { x with ball := a, pocket := b } y _ h hx h1
      rw [Option.filter_eq_some_iff] at hq
      obtain ⟨hq, hf⟩ := hq
      have hf := of_decide_eq_true hf
      refine ⟨y, by rw [e2], ?_⟩
      rw [tail_assoc, e2, e1, (pair_of hq).1]
      simp only [h3, List.nil_append]
      rw [if_pos (show a ≠ 0 by have := hf.1; simp at this; omega)]
      rfl
    | none =>
      rw [hq] at h
      obtain ⟨f, cu, ps, e1, e2⟩ := hit_inv _ x y _ h hx h1
      refine ⟨y, by rw [e2], ?_⟩
      rw [tail_assoc, e2, e1]
      simp only [h3, h2, List.nil_append, ne_eq, not_true, if_false]
theorem head_inv (l : List (List UInt8)) (y : Shot) (h : readHead l = .ok y) : l = pieces y := by
  match l, h with
  | [], h => cases h
  | [w], h =>
    rw [readHead] at h
    split at h
    · cases h
    · cases h
  | w :: k :: l, h =>
    rw [readHead] at h
    split at h
    · cases h
    · next hw =>
      simp only at h
      split at h
      · cases h
      · rw [ref_call] at h
        obtain ⟨z, e1, e2⟩ := call_inv l _ y _ h rfl rfl rfl rfl
        subst e1
        unfold pieces
        simp only [toList_mk]
        rw [e2]
        have ht : tail { z with player := if w = [98] then (1 : Int) else 0, kind := ⟨k.toArray⟩ } = tail z := rfl
        rw [show tail { player := if w = [98] then (1 : Int) else 0, kind := ⟨k.toArray⟩, ball := z.ball, pocket := z.pocket, first := z.first, cushion := z.cushion, pots := z.pots } = tail z from ht]
        congr 1
        unfold letter
        by_cases h98 : w = [98]
        · simp [h98]
        · have h97 : w = [97] := Classical.byContradiction fun hn => hw ⟨hn, h98⟩
          simp [h97]
theorem print_parse {s : List UInt8} {y : Shot} {n e : Int} (h : parse s = (y, n, e)) (he : e = 0) : print y = s ∧ ckShot y = 0 := by
  unfold parse at h
  split at h
  · injection h with h1 h2; injection h2 with h2 h3; omega
  · cases hr : readHead (words s) with
    | error k => rw [hr] at h; injection h with h1 h2; injection h2 with h2 h3; omega
    | ok z =>
      rw [hr] at h
      simp only at h
      split at h
      · next hz => injection h with h1 h2; injection h2 with h2 h3; omega
      · next hz =>
        injection h with h1 h2
        subst h1
        refine ⟨?_, Classical.not_not.1 hz⟩
        unfold print
        rw [← head_inv _ _ hr, join_words]
theorem parse_zero {s : List UInt8} (h : (parse s).2.2 ≠ 0) : (parse s).1 = blank := by
  unfold parse at h ⊢
  split
  · rfl
  · next hs =>
    rw [if_neg hs] at h
    cases hr : readHead (words s) with
    | error k => rfl
    | ok z =>
      rw [hr] at h
      simp only at h ⊢
      split
      · rfl
      · next hz => rw [if_neg hz] at h; exact absurd rfl h
end
end M
end Go.Proofs.YtelpepbpdojikaaGreatDoor
namespace Go.Proofs.YtelpepbpdojikaaGreatDoor
namespace M
def shotsOf (l : List (List UInt8)) : List Shot := l.map fun s => (parse s).1
def awTL1 : List (List UInt8) := [[97, 32, 98, 114, 101, 97, 107, 32, 102, 51, 32, 43, 32, 112, 57, 47, 50], [97, 32, 112, 108, 97, 121, 32, 99, 49, 48, 47, 49, 32, 102, 49, 48, 32, 112, 49, 48, 47, 49], [97, 32, 112, 108, 97, 121, 32, 99, 49, 49, 47, 52, 32, 102, 51, 32, 43, 32, 112, 49, 49, 47, 52]]
def awL1 : List Shot := [⟨0, kBreak, 0, 0, 3, true, [⟨9, 2⟩]⟩, ⟨0, kPlay, 10, 1, 10, false, [⟨10, 1⟩]⟩, ⟨0, kPlay, 11, 4, 3, true, [⟨11, 4⟩]⟩]
theorem awL1_eq : shotsOf awTL1 = awL1 := by rfl
def awTL2 : List (List UInt8) := [[98, 32, 112, 108, 97, 121, 32, 99, 56, 47, 49, 32, 102, 49, 32, 112, 56, 47, 49]]
def awL2 : List Shot := [⟨1, kPlay, 8, 1, 1, false, [⟨8, 1⟩]⟩]
theorem awL2_eq : shotsOf awTL2 = awL2 := by rfl
def awTL3 : List (List UInt8) := [[97, 32, 98, 114, 101, 97, 107, 32, 102, 49, 32, 43, 32, 112, 52, 47, 49], [97, 32, 112, 117, 115, 104, 32, 102, 57], [98, 32, 112, 97, 115, 115], [97, 32, 112, 108, 97, 121, 32, 102, 49, 32, 112, 49, 47, 50, 32, 112, 57, 47, 51]]
def awL3 : List Shot := [⟨0, kBreak, 0, 0, 1, true, [⟨4, 1⟩]⟩, ⟨0, kPush, 0, 0, 9, false, []⟩, ⟨1, kPass, 0, 0, 0, false, []⟩, ⟨0, kPlay, 0, 0, 1, false, [⟨1, 2⟩, ⟨9, 3⟩]⟩]
theorem awL3_eq : shotsOf awTL3 = awL3 := by rfl
def awTL4 : List (List UInt8) := [[97, 32, 98, 114, 101, 97, 107], [98, 32, 115, 97, 102, 101, 116, 121, 32, 102, 49, 32, 43], [97, 32, 115, 97, 102, 101, 116, 121, 32, 102, 49]]
def awL4 : List Shot := [⟨0, kBreak, 0, 0, 0, false, []⟩, ⟨1, kSafety, 0, 0, 1, true, []⟩, ⟨0, kSafety, 0, 0, 1, false, []⟩]
theorem awL4_eq : shotsOf awTL4 = awL4 := by rfl
def awTL5 : List (List UInt8) := [[97, 32, 98, 114, 101, 97, 107, 32, 102, 49, 32, 43], [98, 32, 112, 108, 97, 121, 32, 99, 53, 47, 50, 32, 102, 53, 32, 112, 53, 47, 50], [97, 32, 112, 108, 97, 121, 32, 99, 53, 47, 50, 32, 102, 53, 32, 112, 53, 47, 50], [98, 32, 112, 108, 97, 121, 32, 99, 54, 47, 49, 32, 102, 54, 32, 112, 54, 47, 49, 32, 112, 55, 47, 50, 32, 112, 48, 47, 51]]
def awL5 : List Shot := [⟨0, kBreak, 0, 0, 1, true, []⟩, ⟨1, kPlay, 5, 2, 5, false, [⟨5, 2⟩]⟩, ⟨0, kPlay, 5, 2, 5, false, [⟨5, 2⟩]⟩, ⟨1, kPlay, 6, 1, 6, false, [⟨6, 1⟩, ⟨7, 2⟩, ⟨0, 3⟩]⟩]
theorem awL5_eq : shotsOf awTL5 = awL5 := by rfl
def awTL6 : List (List UInt8) := [[98, 32, 112, 108, 97, 121, 32, 99, 53, 47, 50, 32, 102, 53, 32, 43, 32, 112, 53, 47, 50, 32, 112, 48, 47, 51]]
def awL6 : List Shot := [⟨1, kPlay, 5, 2, 5, true, [⟨5, 2⟩, ⟨0, 3⟩]⟩]
theorem awL6_eq : shotsOf awTL6 = awL6 := by rfl
def awE : Rules := ⟨gEight, 0, 0⟩
def awN : Rules := ⟨gNine, 0, 3⟩
def awS : Rules := ⟨gStraight, 2, 2⟩
def awS1 : State := ⟨1, false, true, false, false, 2, [1, 2, 3, 4, 5, 6, 7, 8, 12, 13, 14, 15], 2, 0, 1, 0, 0, 1, false, 0⟩
def awS2 : State := ⟨1, false, false, false, false, 2, [1, 2, 3, 4, 5, 6, 7, 12, 13, 14, 15], 2, 1, 1, 0, 1, 1, true, 0⟩
def awS3 : State := ⟨0, false, false, false, false, 0, [2, 3, 5, 6, 7, 8], 3, 0, 0, 0, 2, 1, true, 0⟩
def awS4 : State := ⟨0, true, false, false, false, 0, [1, 2, 3, 4, 5, 6, 7, 8, 9, 10, 11, 12, 13, 14, 15], -17, 0, 0, 0, 0, 2, false, 0⟩
def awS5 : State := ⟨0, false, true, false, false, 0, [1, 2, 3, 4, 6, 7, 8, 9, 10, 11, 12, 13, 14, 15], 0, 0, 0, 1, 0, 1, false, 0⟩
theorem aw_final1 : final awE (start awE) awL1 = awS1 := by rfl
theorem aw_final2 : final awE (start awE) (awL1 ++ awL2) = awS2 := by rfl
theorem aw_final3 : final awN (start awN) awL3 = awS3 := by rfl
theorem aw_final4 : final awS (start awS) awL4 = awS4 := by rfl
theorem aw_final5 : final awS (start awS) awL5 = awS5 := by rfl
theorem aw_ref5 : refusals awS (start awS) 1 awL5 = [⟨3, 2⟩] := by rfl
theorem aw_targets : targets awE awS1 = [1, 2, 3, 4, 5, 6, 7] := by rfl
theorem aw_notes : notes awE (start awE) 1 awL1 = [⟨1, 0, 0, 0, 1, false⟩, ⟨2, 0, 0, 0, 1, false⟩, ⟨3, 0, 0, 3, 0, true⟩] := by rfl
theorem aw_runs : runs awE awL1 = [⟨0, 2⟩] := by rfl
theorem aw_rules : ckRules awE = 0 ∧ ckRules awN = 0 ∧ ckRules awS = 0 := by decide
theorem aw_state : ckState awE awS1 = 0 := by decide
theorem aw_logs : ckLog awL1 = 0 ∧ ckLog (awL1 ++ awL2) = 0 ∧ ckLog awL3 = 0 ∧ ckLog awL4 = 0 ∧ ckLog awL5 = 0 ∧ ckLog awL6 = 0 := by refine ⟨?_, ?_, ?_, ?_, ?_, ?_⟩ <;> rfl
def awP : List UInt8 := [97, 32, 112, 108, 97, 121, 32, 99, 53]
theorem aw_parse : parse awP = (blank, 3, 25) := by rfl
def awX : Shot := ⟨1, kPlay, 5, 2, 5, true, [⟨5, 2⟩, ⟨0, 3⟩]⟩
theorem aw_print : print awX = [98, 32, 112, 108, 97, 121, 32, 99, 53, 47, 50, 32, 102, 53, 32, 43, 32, 112, 53, 47, 50, 32, 112, 48, 47, 51] ∧ ckShot awX = 0 := by refine ⟨?_, by rfl⟩; unfold print pieces; rw [ByteArray.toList_eq]; rfl
end M
end Go.Proofs.YtelpepbpdojikaaGreatDoor
namespace Go.Proofs.YtelpepbpdojikaaGreatDoor
namespace M
def Low (l : List UInt8) : Prop := ∀ c ∈ l, c.toNat < 128
theorem Low.append {a b : List UInt8} (h : Low a) (k : Low b) : Low (a ++ b) := fun c hc => by
  rcases List.mem_append.1 hc with h1 | h1
  · exact h c h1
  · exact k c h1
theorem Low.cons {c : UInt8} {l : List UInt8} (hc : c.toNat < 128) (h : Low l) : Low (c :: l) := fun d hd => by
  rcases List.mem_cons.1 hd with rfl | h1
  · exact hc
  · exact h d h1
theorem low_dec {n : Int} (h1 : n ≤ 99) : Low (dec n) := fun c hc => by
  have := isDig_iff.1 (dec_plain h1 c hc); omega
theorem low_pair {c : UInt8} {a b : Int} (hc : c.toNat < 128) (ha : a ≤ 99) (hb : b ≤ 99) : Low (pairText c a b) := by
  unfold pairText
  exact Low.cons hc ((low_dec ha).append (Low.cons (by decide) (low_dec hb)))
theorem low_tail {x : Shot} (hx : ShotOk x) : ∀ w ∈ tail x, Low w := by
  have hb := hx.ball
  have hq := hx.pocket
  have hf := hx.first
  intro w hw
  rw [tail_assoc, List.mem_append, List.mem_append, List.mem_append] at hw
  rcases hw with h | h | h | h
  · split at h
    · rw [List.mem_singleton] at h; subst h
      exact low_pair (by decide) (by omega) (by omega)
    · cases h
  · split at h
    · rw [List.mem_singleton] at h; subst h
      exact Low.cons (by decide) (low_dec (by omega))
    · cases h
  · split at h
    · rw [List.mem_singleton] at h; subst h; exact Low.cons (by decide) (fun c hc => by cases hc)
    · cases h
  · obtain ⟨p, hp, rfl⟩ := List.mem_map.1 h
    have := hx.pots p hp
    exact low_pair (by decide) (by omega) (by omega)
theorem low_letter (p : Int) : Low (letter p) := by unfold letter Low; split <;> decide
theorem low_kind {k : ByteArray} (h : isKind k = true) : Low k.toList := by
  rcases kind_cases h with rfl | rfl | rfl | rfl | rfl | rfl <;> rw [ByteArray.toList_eq] <;> unfold Low <;> decide
theorem low_flat : ∀ l : List (List UInt8), (∀ w ∈ l, Low w) → Low (l.flatMap fun b => (32 : UInt8) :: b)
  | [], _ => fun c hc => by cases hc
  | w :: l, h => by
    rw [List.flatMap_cons]
    exact (Low.cons (by decide) (h w List.mem_cons_self)).append (low_flat l (fun v hv => h v (List.mem_cons_of_mem _ hv)))
theorem print_low {x : Shot} (hx : ShotOk x) : Low (print x) := by
  unfold print pieces join
  refine (low_letter _).append (low_flat _ fun w hw => ?_)
  rcases List.mem_cons.1 hw with rfl | hw
  · exact low_kind hx.kind
  · exact low_tail hx w hw
theorem count_step (l : List UInt8) (k : Nat) (h : k < l.length) : (l.take (k + 1)).count 32 = (l.take k).count 32 + (if l[k] = 32 then 1 else 0) := by
  rw [List.take_succ_eq_append_getElem h, List.count_append, List.count_singleton]
  congr 1
  by_cases e : l[k] = 32 <;> simp [e]
end M
end Go.Proofs.YtelpepbpdojikaaGreatDoor
