/- Parts of the proofs about chapter 5 (pool), joined by program. -/
import Derived.Lib.Hide
set_option linter.unusedVariables false
set_option linter.unusedSimpArgs false
namespace Go.Proofs.YtelpepbpdojikaaGreatDoor
namespace M
abbrev kBreak : ByteArray := ⟨#[98, 114, 101, 97, 107]⟩
abbrev kPlay : ByteArray := ⟨#[112, 108, 97, 121]⟩
abbrev kSafety : ByteArray := ⟨#[115, 97, 102, 101, 116, 121]⟩
abbrev kPush : ByteArray := ⟨#[112, 117, 115, 104]⟩
abbrev kPass : ByteArray := ⟨#[112, 97, 115, 115]⟩
abbrev kConcede : ByteArray := ⟨#[99, 111, 110, 99, 101, 100, 101]⟩
abbrev gStraight : ByteArray := ⟨#[115, 116, 114, 97, 105, 103, 104, 116]⟩
abbrev gEight : ByteArray := ⟨#[101, 105, 103, 104, 116]⟩
abbrev gNine : ByteArray := ⟨#[110, 105, 110, 101]⟩
structure Pot where
  ball : Int
  pocket : Int
  deriving DecidableEq
structure Rules where
  game : ByteArray
  target : Int
  fouls : Int
structure Shot where
  player : Int
  kind : ByteArray
  ball : Int
  pocket : Int
  first : Int
  cushion : Bool
  pots : List Pot
structure State where
  turn : Int
  brk : Bool
  hand : Bool
  push : Bool
  pushed : Bool
  group : Int
  balls : List Int
  s0 : Int
  s1 : Int
  f0 : Int
  f1 : Int
  run : Int
  racks : Int
  over : Bool
  winner : Int
def isKind (k : ByteArray) : Bool := k = kBreak ∨ k = kPlay ∨ k = kSafety ∨ k = kPush ∨ k = kPass ∨ k = kConcede
def isGame (g : ByteArray) : Bool := g = gStraight ∨ g = gEight ∨ g = gNine
def out (n a b : Int) : Bool := n < a ∨ b < n
def ckRules (r : Rules) : Int :=
  if isGame r.game = false then 13
  else if (r.game = gStraight ∧ out r.target 1 200) ∨ (r.game ≠ gStraight ∧ r.target ≠ 0) ∨ (r.fouls ≠ 0 ∧ out r.fouls 2 9) then 3
  else 0
def ckPots (seen : List Pot) : List Pot → Int
  | [] => 0
  | p :: l =>
    if out p.ball 0 15 ∨ out p.pocket 1 6 then 3
    else if p.ball ∈ seen.map (·.ball) then 9
    else ckPots (seen ++ [p]) l
def ckHead (x : Shot) : Int :=
  if out x.player 0 1 then 3
  else if isKind x.kind = false then 13
  else if out x.ball 0 15 ∨ out x.pocket 0 6 ∨ out x.first 0 15 then 3
  else if decide (x.ball = 0) ≠ decide (x.pocket = 0) then 2
  else if 16 < x.pots.length then 5
  else 0
def ckTail (x : Shot) : Int :=
  if (x.kind = kPass ∨ x.kind = kConcede) ∧ (x.ball ≠ 0 ∨ x.first ≠ 0 ∨ x.cushion ∨ x.pots ≠ []) then 1 else 0
def ckShot (x : Shot) : Int :=
  if ckHead x ≠ 0 then ckHead x
  else if ckPots [] x.pots ≠ 0 then ckPots [] x.pots
  else ckTail x
def ckShots : List Shot → Int
  | [] => 0
  | x :: l => if ckShot x ≠ 0 then ckShot x else ckShots l
def ckLog (l : List Shot) : Int := if 1000 < l.length then 5 else ckShots l
def rackTo (n : Nat) : List Int := (List.range n).map fun (i : Nat) => (i : Int) + 1
def rackN (g : ByteArray) : Nat := if g = gNine then 9 else 15
def rack (r : Rules) : List Int := rackTo (rackN r.game)
def ckBalls (n : Int) (last : Option Int) : List Int → Int
  | [] => 0
  | b :: l => if out b 1 n then 3 else if (last.map (fun a => decide (b ≤ a))).getD false then 11 else ckBalls n (some b) l
def ckFouls (r : Rules) (over : Bool) (n : Int) : Bool := out n 0 99999 ∨ (0 < r.fouls ∧ (r.fouls < n ∨ (n = r.fouls ∧ over = false)))
def ckNumbers (r : Rules) (s : State) : Int :=
  if out s.s0 (-99999) 99999 ∨ out s.s1 (-99999) 99999 ∨ ckFouls r s.over s.f0 ∨ ckFouls r s.over s.f1 ∨ out s.run 0 99999 ∨ out s.racks 1 1000 then 3 else 0
def ckPush (r : Rules) (s : State) : Bool := ((s.push ∨ s.pushed) ∧ (r.game ≠ gNine ∨ s.brk)) ∨ (s.push ∧ s.pushed)
def missing (r : Rules) (s : State) : Bool := s.balls = [] ∨ (r.game = gEight ∧ (8 : Int) ∉ s.balls) ∨ (r.game = gNine ∧ (9 : Int) ∉ s.balls)
def ckStateHead (r : Rules) (s : State) : Int :=
  if ckRules r ≠ 0 then ckRules r
  else if out s.turn 0 1 ∨ out s.winner 0 1 ∨ out s.group 0 2 ∨ (s.group ≠ 0 ∧ r.game ≠ gEight) then 3 else 0
def ckStateTail (r : Rules) (s : State) : Int := if ckPush r s ∨ (s.over = false ∧ (s.winner ≠ 0 ∨ missing r s)) then 19 else 0
def ckState (r : Rules) (s : State) : Int :=
  if ckStateHead r s ≠ 0 then ckStateHead r s
  else if ckBalls (rackN r.game) none s.balls ≠ 0 then ckBalls (rackN r.game) none s.balls
  else if ckNumbers r s ≠ 0 then 3
  else ckStateTail r s
def start (r : Rules) : State := { turn := 0, brk := true, hand := false, push := false, pushed := false, group := 0, balls := rack r, s0 := 0, s1 := 0, f0 := 0, f1 := 0, run := 0, racks := 1, over := false, winner := 0 }
def zero : State := { turn := 0, brk := false, hand := false, push := false, pushed := false, group := 0, balls := [], s0 := 0, s1 := 0, f0 := 0, f1 := 0, run := 0, racks := 0, over := false, winner := 0 }
def side (b : Int) : Int := if b < 8 then 1 else if 8 < b then 2 else 0
def own (s : State) : Int := if s.group = 0 ∨ s.turn = 0 then s.group else 3 - s.group
def colours (s : State) : List Int := s.balls.filter fun b => b ≠ 8 ∧ (s.group = 0 ∨ side b = own s)
def targets (r : Rules) (s : State) : List Int :=
  if r.game = gStraight ∨ (r.game = gEight ∧ s.brk) then s.balls
  else if r.game = gNine then s.balls.take 1
  else if colours s = [] ∧ (8 : Int) ∈ s.balls then [8] else colours s
def calls (r : Rules) (x : Shot) : Bool := x.kind = kPlay ∧ r.game ≠ gNine
def objects (x : Shot) : List Int := (x.pots.map (·.ball)).filter (· ≠ 0)
def legal (r : Rules) (s : State) (x : Shot) : Int :=
  if s.over then 1
  else if x.player ≠ s.turn ∧ x.kind ≠ kConcede then 2
  else if (s.brk ∧ x.kind ≠ kBreak ∧ x.kind ≠ kConcede) ∨ (s.brk = false ∧ x.kind = kBreak) then 3
  else if (x.kind = kPush ∧ s.push = false) ∨ (x.kind = kPass ∧ s.pushed = false) then 4
  else if (calls r x ∧ x.ball ∉ s.balls) ∨ (calls r x = false ∧ x.ball ≠ 0) then 5
  else if x.first ≠ 0 ∧ x.first ∉ s.balls then 6
  else if (objects x).any (fun b => x.first = 0 ∨ b ∉ s.balls) then 7
  else 0
def foul (r : Rules) (s : State) (x : Shot) : Int :=
  if x.kind = kPass ∨ x.kind = kConcede then 0
  else if (objects x).length < x.pots.length then 1
  else if x.first = 0 then 2
  else if x.kind = kPush then 0
  else if x.first ∉ targets r s then 3
  else if x.cushion = false ∧ x.pots = [] then 4
  else 0
def good (r : Rules) (s : State) (x : Shot) : Bool :=
  if foul r s x ≠ 0 ∨ x.pots = [] then false
  else if x.kind = kBreak then r.game ≠ gStraight
  else if x.kind ≠ kPlay then false
  else x.pots.any fun p => p = ⟨x.ball, x.pocket⟩ ∨ r.game = gNine
def stays (r : Rules) (s : State) (x : Shot) (b : Int) : Bool :=
  (b ∉ objects x) ∨ (r.game = gStraight ∧ good r s x = false) ∨ (r.game = gEight ∧ b = 8 ∧ x.kind = kBreak) ∨ (r.game = gNine ∧ b = 9 ∧ good r s x = false)
def left (r : Rules) (s : State) (x : Shot) : List Int := s.balls.filter (stays r s x)
def sel (p a b : Int) : Int := if p = 0 then a else b
def State.score (s : State) (p : Int) : Int := sel p s.s0 s.s1
def State.foulsOf (s : State) (p : Int) : Int := sel p s.f0 s.f1
def State.setScore (s : State) (p n : Int) : State := if p = 0 then { s with s0 := n } else { s with s1 := n }
def State.setFouls (s : State) (p n : Int) : State := if p = 0 then { s with f0 := n } else { s with f1 := n }
def calm (r : Rules) (s : State) (x : Shot) : State := { s with brk := false, hand := false, push := r.game = gNine ∧ x.kind = kBreak, pushed := x.kind = kPush }
def won (r : Rules) (s : State) (x : Shot) : Bool := good r s x ∧ x.ball = 8 ∧ targets r s = [8]
def ended (r : Rules) (s : State) (x : Shot) (t : State) : State :=
  if r.game = gStraight ∧ good r s x ∧ r.target ≤ t.score x.player then { t with over := true, winner := x.player }
  else if r.game = gNine ∧ good r s x ∧ (9 : Int) ∈ objects x then { t with over := true, winner := x.player }
  else if r.game = gEight ∧ x.kind ≠ kBreak ∧ (8 : Int) ∈ objects x then { t with over := true, winner := if won r s x then x.player else 1 - x.player }
  else t
def limit (r : Rules) (t : State) (p : Int) : State :=
  if r.game ≠ gStraight then { t with over := true, winner := 1 - p }
  else { (t.setScore p (t.score p - 15)).setFouls p 0 with balls := rack r, brk := true, racks := t.racks + 1 }
def counted (r : Rules) (s : State) (x : Shot) : State :=
  let t := { calm r s x with balls := left r s x }
  let n : Int := (objects x).length
  let t := if good r s x then { t.setScore x.player (t.score x.player + n) with run := t.run + n } else t
  if foul r s x = 0 then t.setFouls x.player 0
  else
    let t := { t.setFouls x.player (t.foulsOf x.player + 1) with run := 0 }
    if r.game = gStraight then t.setScore x.player (t.score x.player - 1) else t
def passed (r : Rules) (s : State) (x : Shot) (t : State) : State := { t with turn := 1 - x.player, run := 0, hand := foul r s x ≠ 0 ∧ (r.game ≠ gStraight ∨ foul r s x = 1) }
def grouped (r : Rules) (s : State) (x : Shot) (t : State) : State :=
  if r.game = gEight ∧ x.kind = kPlay ∧ s.group = 0 then { t with group := if x.player = 1 then 3 - side x.ball else side x.ball } else t
def reracked (r : Rules) (t : State) : State := if r.game = gStraight ∧ t.balls.length ≤ 1 then { t with balls := rack r, racks := t.racks + 1 } else t
def play (r : Rules) (s : State) (x : Shot) : State :=
  let t := ended r s x (counted r s x)
  if t.over then t
  else if foul r s x ≠ 0 ∧ t.foulsOf x.player = r.fouls then limit r t x.player
  else if good r s x = false then passed r s x t
  else reracked r (grouped r s x t)
def next (r : Rules) (s : State) (x : Shot) : State :=
  if x.kind = kConcede then { s with over := true, winner := 1 - x.player }
  else if x.kind = kPass then { calm r s x with turn := 1 - x.player, run := 0 }
  else play r s x
def step (r : Rules) (s : State) (x : Shot) : State := if legal r s x = 0 then next r s x else s
def final (r : Rules) (s : State) (l : List Shot) : State := l.foldl (step r) s
structure Refusal where
  number : Int
  rule : Int
  deriving DecidableEq
structure Note where
  number : Int
  player : Int
  rule : Int
  foul : Int
  points : Int
  turn : Bool
  deriving DecidableEq
structure Run where
  player : Int
  points : Int
  deriving DecidableEq
def refusals (r : Rules) (s : State) (n : Int) : List Shot → List Refusal
  | [] => []
  | x :: l => (if legal r s x ≠ 0 then [⟨n, legal r s x⟩] else []) ++ refusals r (step r s x) (n + 1) l
def note (r : Rules) (s : State) (n : Int) (x : Shot) : Note :=
  if legal r s x ≠ 0 then ⟨n, x.player, legal r s x, 0, 0, false⟩
  else ⟨n, x.player, 0, foul r s x, (next r s x).score x.player - s.score x.player, (next r s x).turn ≠ s.turn⟩
def notes (r : Rules) (s : State) (n : Int) : List Shot → List Note
  | [] => []
  | x :: l => note r s n x :: notes r (step r s x) (n + 1) l
end M
end Go.Proofs.YtelpepbpdojikaaGreatDoor
namespace Go.Proofs.YtelpepbpdojikaaGreatDoor
namespace M
def askFrom (i : Int) : List Bool → Int
  | [] => 0
  | b :: l => if b then askFrom (i + 1) l else i
def permitted (s : State) (k : ByteArray) : Bool := if k = kPush then s.push else if k = kPass then s.pushed else true
def q2 (s : State) (x : Shot) : Bool := x.kind = kConcede ∨ x.player = s.turn
def q3 (s : State) (x : Shot) : Bool := x.kind = kConcede ∨ s.brk = decide (x.kind = kBreak)
def q5 (r : Rules) (s : State) (x : Shot) : Bool := (calls r x ∧ x.ball ∈ s.balls) ∨ (calls r x = false ∧ x.ball = 0)
def q6 (s : State) (x : Shot) : Bool := x.first = 0 ∨ x.first ∈ s.balls
def q7 (s : State) (x : Shot) : Bool := ((objects x).any (fun b => decide (b ∉ s.balls))) = false ∧ (0 < x.first ∨ objects x = [])
def legalQ (r : Rules) (s : State) (x : Shot) : List Bool := [!s.over, q2 s x, q3 s x, permitted s x.kind, q5 r s x, q6 s x, q7 s x]
theorem ladder (o : Bool) (P2 P3 P4 P5 P6 : Prop) (b7 : Bool) [Decidable P2] [Decidable P3] [Decidable P4] [Decidable P5] [Decidable P6] :
    (if o then (1 : Int) else if P2 then 2 else if P3 then 3 else if P4 then 4 else if P5 then 5 else if P6 then 6 else if b7 then 7 else 0) = askFrom 1 [!o, !decide P2, !decide P3, !decide P4, !decide P5, !decide P6, !b7] := by
  cases o
  · by_cases h2 : P2
    · simp [askFrom, h2]
    by_cases h3 : P3
    · simp [askFrom, h2, h3]
    by_cases h4 : P4
    · simp [askFrom, h2, h3, h4]
    by_cases h5 : P5
    · simp [askFrom, h2, h3, h4, h5]
    by_cases h6 : P6
    · simp [askFrom, h2, h3, h4, h5, h6]
    cases b7 <;> simp [askFrom, h2, h3, h4, h5, h6]
  · simp [askFrom]
theorem ne_push_pass : kPush ≠ kPass := by decide
theorem legal_ask (r : Rules) (s : State) (x : Shot) (hf : 0 ≤ x.first) : legal r s x = askFrom 1 (legalQ r s x) := by
  unfold legal legalQ
  have h2 : q2 s x = !decide (x.player ≠ s.turn ∧ x.kind ≠ kConcede) := by
    unfold q2; by_cases h1 : x.kind = kConcede <;> by_cases h2 : x.player = s.turn <;> simp [h1, h2]
  have h3 : q3 s x = !decide ((s.brk ∧ x.kind ≠ kBreak ∧ x.kind ≠ kConcede) ∨ (s.brk = false ∧ x.kind = kBreak)) := by
    unfold q3
    have hbc : kConcede ≠ kBreak := by decide
    by_cases h1 : x.kind = kConcede
    · simp [h1, hbc]
    · by_cases h2 : x.kind = kBreak <;> cases s.brk <;> simp [h1, h2]
  have h4 : permitted s x.kind = !decide ((x.kind = kPush ∧ s.push = false) ∨ (x.kind = kPass ∧ s.pushed = false)) := by
    unfold permitted
    by_cases h1 : x.kind = kPush
    · simp [h1, ne_push_pass]
    · by_cases h2 : x.kind = kPass <;> simp [h1, h2]
  have h5 : q5 r s x = !decide ((calls r x ∧ x.ball ∉ s.balls) ∨ (calls r x = false ∧ x.ball ≠ 0)) := by
    unfold q5; cases calls r x <;> by_cases h2 : x.ball ∈ s.balls <;> by_cases h3 : x.ball = 0 <;> simp [h2, h3]
  have h6 : q6 s x = !decide (x.first ≠ 0 ∧ x.first ∉ s.balls) := by
    unfold q6; by_cases h2 : x.first ∈ s.balls <;> by_cases h3 : x.first = 0 <;> simp [h2, h3]
  have h7 : q7 s x = !((objects x).any (fun b => x.first = 0 ∨ b ∉ s.balls)) := by
    unfold q7
    rcases h0 : objects x with _ | ⟨b, l⟩
    · simp
    · by_cases h3 : x.first = 0
      · simp [h3]
      · have : 0 < x.first := by omega
        simp only [h3, false_or, this, true_or, and_true]
        cases (b :: l).any fun b => decide (b ∉ s.balls) <;> simp
  rw [h2, h3, h4, h5, h6, h7]
  exact ladder _ _ _ _ _ _ _
def played (k : ByteArray) : Bool := k ≠ kPass ∧ k ≠ kConcede
def scratched (x : Shot) : Bool := x.pots.any fun p => decide (p.ball = 0)
def foulQ (r : Rules) (s : State) (x : Shot) : List Bool :=
  [!scratched x, decide (0 < x.first), decide (x.kind = kPush ∨ x.first ∈ targets r s), decide (x.kind = kPush ∨ x.cushion = true ∨ 0 < (objects x).length)]
theorem scratched_lt (x : Shot) : decide ((objects x).length < x.pots.length) = scratched x := by
  unfold objects scratched
  induction x.pots with
  | nil => rfl
  | cons p l ih =>
    have hl := List.length_filter_le (fun b : Int => decide (b ≠ 0)) (l.map (·.ball))
    rw [List.length_map] at hl
    simp only [List.map_cons, List.any_cons, List.length_cons]
    by_cases h : p.ball = 0
    · rw [List.filter_cons_of_neg (by simp [h])]
      simp only [h, decide_true, Bool.true_or, decide_eq_true_eq]
      omega
    · rw [List.filter_cons_of_pos (by simp [h]), ← ih]
      simp [h]
theorem objects_nil (x : Shot) (h : scratched x = false) : (objects x).length = x.pots.length := by
  have h1 := scratched_lt x
  rw [h, decide_eq_false_iff_not] at h1
  have h2 := List.length_filter_le (fun b : Int => decide (b ≠ 0)) (x.pots.map (·.ball))
  rw [List.length_map] at h2
  unfold objects at h1 ⊢
  omega
theorem foul_ask (r : Rules) (s : State) (x : Shot) (hf : 0 ≤ x.first) : foul r s x = if played x.kind then askFrom 1 (foulQ r s x) else 0 := by
  unfold foul foulQ played
  by_cases h1 : x.kind = kPass
  · simp [h1]
  by_cases h2 : x.kind = kConcede
  · simp [h2]
  simp only [h1, h2, or_self, if_false, ne_eq, not_false_eq_true, and_self, decide_true, if_true, askFrom]
  have hs := scratched_lt x
  cases hc : scratched x
  · rw [hc, decide_eq_false_iff_not] at hs
    have ho := objects_nil x hc
    have hp : (x.pots = []) ↔ (objects x).length = 0 := by rw [ho]; exact List.length_eq_zero_iff.symm
    simp only [hs, if_false, Bool.not_false, if_true]
    by_cases h3 : x.first = 0
    · simp [h3]
    have h4 : 0 < x.first := by omega
    simp only [h3, if_false, h4, decide_true, if_true]
    by_cases h5 : x.kind = kPush
    · simp [h5]
    simp only [h5, if_false, false_or]
    by_cases h6 : x.first ∈ targets r s
    · simp only [h6, not_true, if_false, decide_true, if_true, hp]
      by_cases h7 : (objects x).length = 0
      · cases x.cushion <;> simp [h7]
      · have : 0 < (objects x).length := by omega
        simp [h7, this]
    · simp [h6]
  · rw [hc, decide_eq_true_eq] at hs
    simp [hs]
theorem good_some (r : Rules) (s : State) (x : Shot) : good r s x =
    if x.kind = kBreak then decide (foul r s x = 0 ∧ 0 < (objects x).length ∧ r.game ≠ gStraight)
    else if x.kind ≠ kPlay then false
    else if r.game = gNine then decide (foul r s x = 0 ∧ 0 < (objects x).length)
    else decide (foul r s x = 0 ∧ 0 < (objects x).length ∧ (⟨x.ball, x.pocket⟩ : Pot) ∈ x.pots) := by
  have key : ∀ (h1 : x.kind ≠ kPass) (h2 : x.kind ≠ kConcede), foul r s x = 0 → ((0 < (objects x).length) ↔ x.pots ≠ []) := by
    intro h1 h2 hf
    have hs : scratched x = false := by
      rw [← scratched_lt, decide_eq_false_iff_not]
      intro hl
      unfold foul at hf
      simp [h1, h2, hl] at hf
    rw [objects_nil x hs]
    exact List.length_pos_iff
  unfold good
  by_cases hb : x.kind = kBreak
  · have k1 := key (by rw [hb]; decide) (by rw [hb]; decide)
    simp only [hb, if_true]
    by_cases hf : foul r s x = 0
    · have := k1 hf
      by_cases hp : x.pots = []
      · simp [hp] at this
        simp [hf, hp, this]
      · simp [hp] at this
        simp [hf, hp, this]
    · simp [hf]
  · by_cases hpl : x.kind = kPlay
    · have k1 := key (by rw [hpl]; decide) (by rw [hpl]; decide)
      have hpb : ¬ kPlay = kBreak := by decide
      simp only [hpl, hpb, if_false, ne_eq, not_true]
      by_cases hf : foul r s x = 0
      · have := k1 hf
        by_cases hp : x.pots = []
        · simp [hp] at this
          simp [hf, hp, this]
        · obtain ⟨q, l, hq⟩ := List.exists_cons_of_ne_nil hp
          simp [hp] at this
          by_cases hg : r.game = gNine
          · simp [hf, hp, this, hg, hq]
          · rw [Bool.eq_iff_iff]
            simp only [hf, hp, hg, this, if_false, or_false, ne_eq, not_true, List.any_eq_true, decide_eq_true_eq, true_and]
            constructor
            · rintro ⟨p, h1, h2⟩; rw [← h2]; exact h1
            · intro h; exact ⟨_, h, rfl⟩
      · simp [hf]
    · simp [hb, hpl]
end M
end Go.Proofs.YtelpepbpdojikaaGreatDoor
namespace Go.Proofs.YtelpepbpdojikaaGreatDoor
namespace M
structure Ok (r : Rules) (n : Int) (s : State) : Prop where
  turn : s.turn = 0 ∨ s.turn = 1
  winner : s.winner = 0 ∨ s.winner = 1
  group : 0 ≤ s.group ∧ s.group ≤ 2
  game : s.group ≠ 0 → r.game = gEight
  balls : ∀ b ∈ s.balls, 1 ≤ b ∧ b ≤ (rackN r.game : Int)
  order : s.balls.Pairwise (· < ·)
  s0 : -n ≤ s.s0 ∧ s.s0 ≤ n
  s1 : -n ≤ s.s1 ∧ s.s1 ≤ n
  f0 : 0 ≤ s.f0 ∧ s.f0 ≤ n
  f1 : 0 ≤ s.f1 ∧ s.f1 ≤ n
  l0 : 0 < r.fouls → s.f0 ≤ r.fouls ∧ (s.over = false → s.f0 < r.fouls)
  l1 : 0 < r.fouls → s.f1 ≤ r.fouls ∧ (s.over = false → s.f1 < r.fouls)
  run : 0 ≤ s.run ∧ s.run ≤ n
  racks : 1 ≤ s.racks ∧ s.racks ≤ n
  push : s.push = true → r.game = gNine ∧ s.brk = false
  pushed : s.pushed = true → r.game = gNine ∧ s.brk = false
  both : s.push = true → s.pushed = true → False
  live : s.over = false → s.winner = 0 ∧ s.balls ≠ [] ∧ (r.game = gEight → (8 : Int) ∈ s.balls) ∧ (r.game = gNine → (9 : Int) ∈ s.balls)
theorem Ok.more {r : Rules} {n m : Int} {s : State} (h : Ok r n s) (hm : n ≤ m) : Ok r m s :=
  { h with
    s0 := by have := h.s0; omega
    s1 := by have := h.s1; omega
    f0 := by have := h.f0; omega
    f1 := by have := h.f1; omega
    run := by have := h.run; omega
    racks := by have := h.racks; omega }
theorem out_iff {n a b : Int} : out n a b = false ↔ a ≤ n ∧ n ≤ b := by
  unfold out; rw [decide_eq_false_iff_not]; omega
structure ShotOk (x : Shot) : Prop where
  player : x.player = 0 ∨ x.player = 1
  kind : isKind x.kind = true
  ball : 0 ≤ x.ball ∧ x.ball ≤ 15
  pocket : 0 ≤ x.pocket ∧ x.pocket ≤ 6
  first : 0 ≤ x.first ∧ x.first ≤ 15
  called : x.ball = 0 ↔ x.pocket = 0
  few : x.pots.length ≤ 16
  pots : ∀ p ∈ x.pots, (0 ≤ p.ball ∧ p.ball ≤ 15) ∧ (1 ≤ p.pocket ∧ p.pocket ≤ 6)
theorem ckPots_mem : ∀ (l seen : List Pot), ckPots seen l = 0 → ∀ p ∈ l, (0 ≤ p.ball ∧ p.ball ≤ 15) ∧ (1 ≤ p.pocket ∧ p.pocket ≤ 6)
  | [], _, _, p, hp => by cases hp
  | q :: l, seen, h, p, hp => by
    rw [ckPots] at h
    split at h
    · cases h
    · next h1 =>
      split at h
      · cases h
      · rw [not_or, Bool.not_eq_true, Bool.not_eq_true, out_iff, out_iff] at h1
        rcases List.mem_cons.1 hp with rfl | hp
        · exact h1
        · exact ckPots_mem l _ h p hp
theorem shotOk {x : Shot} (h : ckShot x = 0) : ShotOk x := by
  unfold ckShot at h
  by_cases h1 : ckHead x = 0
  · rw [if_neg (by simp [h1])] at h
    by_cases h2 : ckPots [] x.pots = 0
    · unfold ckHead at h1
      by_cases a1 : out x.player 0 1 = true
      · rw [if_pos a1] at h1; cases h1
      rw [if_neg a1] at h1
      by_cases a2 : isKind x.kind = false
      · rw [if_pos a2] at h1; cases h1
      rw [if_neg a2] at h1
      by_cases a3 : out x.ball 0 15 = true ∨ out x.pocket 0 6 = true ∨ out x.first 0 15 = true
      · rw [if_pos a3] at h1; cases h1
      rw [if_neg a3] at h1
      by_cases a4 : decide (x.ball = 0) ≠ decide (x.pocket = 0)
      · rw [if_pos a4] at h1; cases h1
      rw [if_neg a4] at h1
      by_cases a5 : 16 < x.pots.length
      · rw [if_pos a5] at h1; cases h1
      rw [not_or, not_or, Bool.not_eq_true, Bool.not_eq_true, Bool.not_eq_true, out_iff, out_iff, out_iff] at a3
      rw [Bool.not_eq_true, out_iff] at a1
      rw [ne_eq, Classical.not_not, decide_eq_decide] at a4
      exact ⟨by omega, by simpa using a2, a3.1, a3.2.1, a3.2.2, a4, by omega, ckPots_mem _ _ h2⟩
    · rw [if_pos h2] at h; exact absurd h h2
  · rw [if_pos h1] at h; exact absurd h h1
theorem objects_le (x : Shot) : (objects x).length ≤ x.pots.length := by
  have := List.length_filter_le (fun b : Int => decide (b ≠ 0)) (x.pots.map (·.ball))
  rw [List.length_map] at this
  exact this
theorem ShotOk.objs {x : Shot} (h : ShotOk x) : ((objects x).length : Int) ≤ 16 := by
  have := objects_le x; have := h.few; omega
theorem called_down {x : Shot} (hp : (⟨x.ball, x.pocket⟩ : Pot) ∈ x.pots) (h0 : x.ball ≠ 0) : x.ball ∈ objects x := by
  unfold objects
  rw [List.mem_filter]
  exact ⟨List.mem_map.2 ⟨_, hp, rfl⟩, by simpa using h0⟩
theorem mem_rack {n : Nat} {b : Int} : b ∈ rackTo n ↔ 1 ≤ b ∧ b ≤ n := by
  unfold rackTo
  rw [List.mem_map]
  constructor
  · rintro ⟨i, hi, rfl⟩; rw [List.mem_range] at hi; omega
  · intro h; exact ⟨(b - 1).toNat, List.mem_range.2 (by omega), by omega⟩
theorem rack_order (n : Nat) : (rackTo n).Pairwise (· < ·) := by
  unfold rackTo
  rw [List.pairwise_map]
  exact List.pairwise_lt_range.imp (by intro a b h; omega)
theorem rackN_ge (g : ByteArray) : 9 ≤ rackN g := by unfold rackN; split <;> omega
theorem mem_left {r : Rules} {s : State} {x : Shot} {b : Int} : b ∈ left r s x ↔ b ∈ s.balls ∧ stays r s x b = true := List.mem_filter
theorem kPlay_ne_kBreak : kPlay ≠ kBreak := by decide
structure Lawful (r : Rules) (s : State) (x : Shot) : Prop where
  over : s.over = false
  turn : x.kind ≠ kConcede → x.player = s.turn
  brk : x.kind ≠ kConcede → (s.brk = true ↔ x.kind = kBreak)
  push : x.kind = kPush → s.push = true
  pass : x.kind = kPass → s.pushed = true
  called : calls r x = true → x.ball ∈ s.balls
  uncalled : calls r x = false → x.ball = 0
  first : x.first ≠ 0 → x.first ∈ s.balls
  objs : ∀ b ∈ objects x, x.first ≠ 0 ∧ b ∈ s.balls
theorem lawful {r : Rules} {s : State} {x : Shot} (h : legal r s x = 0) : Lawful r s x := by
  unfold legal at h
  by_cases h1 : s.over = true
  · rw [if_pos h1] at h; cases h
  rw [if_neg h1] at h
  by_cases h2 : x.player ≠ s.turn ∧ x.kind ≠ kConcede
  · rw [if_pos h2] at h; cases h
  rw [if_neg h2] at h
  by_cases h3 : (s.brk = true ∧ x.kind ≠ kBreak ∧ x.kind ≠ kConcede) ∨ (s.brk = false ∧ x.kind = kBreak)
  · rw [if_pos h3] at h; cases h
  rw [if_neg h3] at h
  by_cases h4 : (x.kind = kPush ∧ s.push = false) ∨ (x.kind = kPass ∧ s.pushed = false)
  · rw [if_pos h4] at h; cases h
  rw [if_neg h4] at h
  by_cases h5 : (calls r x = true ∧ x.ball ∉ s.balls) ∨ (calls r x = false ∧ x.ball ≠ 0)
  · rw [if_pos h5] at h; cases h
  rw [if_neg h5] at h
  by_cases h6 : x.first ≠ 0 ∧ x.first ∉ s.balls
  · rw [if_pos h6] at h; cases h
  rw [if_neg h6] at h
  by_cases h7 : ((objects x).any fun b => decide (x.first = 0 ∨ b ∉ s.balls)) = true
  · rw [if_pos h7] at h; cases h
  refine ⟨by simpa using h1, fun hk => Classical.byContradiction fun hn => h2 ⟨hn, hk⟩, fun hk => ⟨fun hb => Classical.byContradiction fun hn => h3 (.inl ⟨hb, hn, hk⟩), fun hb => ?_⟩, fun hk => ?_, fun hk => ?_,
    fun hc => Classical.byContradiction fun hn => h5 (.inl ⟨hc, hn⟩), fun hc => Classical.byContradiction fun hn => h5 (.inr ⟨hc, hn⟩), fun hf => Classical.byContradiction fun hn => h6 ⟨hf, hn⟩, fun b hb => ?_⟩
  · rcases hs : s.brk with _ | _
    · exact absurd (.inr ⟨hs, hb⟩) h3
    · rfl
  · rcases hs : s.push with _ | _
    · exact absurd (.inl ⟨hk, hs⟩) h4
    · rfl
  · rcases hs : s.pushed with _ | _
    · exact absurd (.inr ⟨hk, hs⟩) h4
    · rfl
  · rw [Bool.not_eq_true, List.any_eq_false] at h7
    have := h7 b hb
    simpa using this
def sc (r : Rules) (s : State) (x : Shot) (a : Int) : Int :=
  let b := if good r s x = true then a + (objects x).length else a
  if foul r s x = 0 then b else if r.game = gStraight then b - 1 else b
def fc (r : Rules) (s : State) (x : Shot) (a : Int) : Int := if foul r s x = 0 then 0 else a + 1
def rc (r : Rules) (s : State) (x : Shot) (a : Int) : Int := if foul r s x = 0 then (if good r s x = true then a + (objects x).length else a) else 0
theorem counted_eq (r : Rules) (s : State) (x : Shot) : counted r s x = { calm r s x with balls := left r s x, s0 := if x.player = 0 then sc r s x s.s0 else s.s0, s1 := if x.player = 0 then s.s1 else sc r s x s.s1, f0 := if x.player = 0 then fc r s x s.f0 else s.f0, f1 := if x.player = 0 then s.f1 else fc r s x s.f1, run := rc r s x s.run } := by
  unfold counted sc fc rc
  by_cases hp : x.player = 0 <;> by_cases hg : good r s x = true <;> by_cases hf : foul r s x = 0 <;> by_cases hs : r.game = gStraight <;> simp [hp, hg, hf, hs, State.setScore, State.setFouls, State.score, State.foulsOf, sel, calm]
theorem ended_cases (r : Rules) (s : State) (x : Shot) (t : State) (hx : ShotOk x) :
    ended r s x t = t ∧ ¬ (r.game = gNine ∧ good r s x = true ∧ (9 : Int) ∈ objects x) ∧ ¬ (r.game = gEight ∧ x.kind ≠ kBreak ∧ (8 : Int) ∈ objects x) ∨
    ∃ v, (v = 0 ∨ v = 1) ∧ ended r s x t = { t with over := true, winner := v } := by
  have hp := hx.player
  unfold ended
  split
  · exact .inr ⟨_, hp, rfl⟩
  · split
    · exact .inr ⟨_, hp, rfl⟩
    · next h2 =>
      split
      · refine .inr ⟨_, ?_, rfl⟩; split <;> omega
      · next h3 => exact .inl ⟨rfl, h2, h3⟩
theorem good_foul {r : Rules} {s : State} {x : Shot} (h : good r s x = true) : foul r s x = 0 := by
  unfold good at h
  split at h
  · cases h
  · next h1 => rw [not_or] at h1; exact Classical.not_not.1 h1.1
theorem sc_le {r : Rules} {s : State} {x : Shot} (hx : ShotOk x) (a : Int) : a - 1 ≤ sc r s x a ∧ sc r s x a ≤ a + 16 := by
  have := hx.objs
  unfold sc
  simp only
  split <;> split <;> first | omega | (split <;> omega)
theorem rc_le {r : Rules} {s : State} {x : Shot} (hx : ShotOk x) {a : Int} (h : 0 ≤ a) : 0 ≤ rc r s x a ∧ rc r s x a ≤ a + 16 := by
  have := hx.objs
  unfold rc
  split
  · split <;> omega
  · omega
theorem fc_le {r : Rules} {s : State} {x : Shot} {a : Int} (h : 0 ≤ a) : 0 ≤ fc r s x a ∧ fc r s x a ≤ a + 1 := by
  unfold fc; split <;> omega
theorem side_le (b : Int) : 0 ≤ side b ∧ side b ≤ 2 := by unfold side; split <;> first | omega | (split <;> omega)
theorem side_zero {b : Int} (h : side b = 0) : b = 8 := by unfold side at h; split at h <;> first | omega | (split at h <;> omega)
section
variable {r : Rules} {n : Int} {s : State} {x : Shot}
theorem counted_ok (h : Ok r n s) (hx : ShotOk x) (hl : Lawful r s x) (v : Int) (hv : v = 0 ∨ v = 1) : Ok r (n + 16) { counted r s x with over := true, winner := v } := by
  have h1 := h.racks
  have k0 := sc_le (r := r) (s := s) hx s.s0
  have k1 := sc_le (r := r) (s := s) hx s.s1
  have k2 := fc_le (r := r) (s := s) (x := x) h.f0.1
  have k3 := fc_le (r := r) (s := s) (x := x) h.f1.1
  have k4 := rc_le (r := r) (s := s) hx h.run.1
  have a0 := h.s0
  have a1 := h.s1
  have a2 := h.f0
  have a3 := h.f1
  have a4 := h.run
  rw [counted_eq]
  refine ⟨h.turn, hv, h.group, h.game, fun b hb => h.balls b (mem_left.1 hb).1, h.order.filter _, ?_, ?_, ?_, ?_, ?_, ?_, ?_, ?_, ?_, ?_, ?_, ?_⟩
  · show -(n + 16) ≤ (if x.player = 0 then sc r s x s.s0 else s.s0) ∧ (if x.player = 0 then sc r s x s.s0 else s.s0) ≤ n + 16
    split <;> omega
  · show -(n + 16) ≤ (if x.player = 0 then s.s1 else sc r s x s.s1) ∧ (if x.player = 0 then s.s1 else sc r s x s.s1) ≤ n + 16
    split <;> omega
  · show 0 ≤ (if x.player = 0 then fc r s x s.f0 else s.f0) ∧ (if x.player = 0 then fc r s x s.f0 else s.f0) ≤ n + 16
    split <;> omega
  · show 0 ≤ (if x.player = 0 then s.f1 else fc r s x s.f1) ∧ (if x.player = 0 then s.f1 else fc r s x s.f1) ≤ n + 16
    split <;> omega
  · intro h0
    have := h.l0 h0
    have := this.2 hl.over
    refine ⟨?_, fun e => by cases e⟩
    show (if x.player = 0 then fc r s x s.f0 else s.f0) ≤ r.fouls
    split <;> omega
  · intro h0
    have := h.l1 h0
    have := this.2 hl.over
    refine ⟨?_, fun e => by cases e⟩
    show (if x.player = 0 then s.f1 else fc r s x s.f1) ≤ r.fouls
    split <;> omega
  · show 0 ≤ rc r s x s.run ∧ rc r s x s.run ≤ n + 16
    omega
  · show 1 ≤ s.racks ∧ s.racks ≤ n + 16
    omega
  · intro hp
    have hp : decide (r.game = gNine ∧ x.kind = kBreak) = true := hp
    exact ⟨(of_decide_eq_true hp).1, rfl⟩
  · intro hp
    have hp : decide (x.kind = kPush) = true := hp
    exact ⟨(h.push (hl.push (of_decide_eq_true hp))).1, rfl⟩
  · intro h1 h2
    have h1 : decide (r.game = gNine ∧ x.kind = kBreak) = true := h1
    have h2 : decide (x.kind = kPush) = true := h2
    have e1 := (of_decide_eq_true h1).2
    have e2 := of_decide_eq_true h2
    rw [e1] at e2
    exact absurd e2 (by decide)
  · intro e; cases e
theorem Ok.fin {t : State} (h : Ok r n { t with over := true, winner := (0 : Int) }) (v : Int) (hv : v = 0 ∨ v = 1) : Ok r n { t with over := true, winner := v } :=
  ⟨h.turn, hv, h.group, h.game, h.balls, h.order, h.s0, h.s1, h.f0, h.f1, h.l0, h.l1, h.run, h.racks, h.push, h.pushed, h.both, fun e => by cases e⟩
theorem Ok.goes {t : State} (h : Ok r n { t with over := true, winner := (0 : Int) }) (hw : t.winner = 0) (hf0 : 0 < r.fouls → t.f0 < r.fouls) (hf1 : 0 < r.fouls → t.f1 < r.fouls) (hb : t.balls ≠ []) (h8 : r.game = gEight → (8 : Int) ∈ t.balls) (h9 : r.game = gNine → (9 : Int) ∈ t.balls) : Ok r n t :=
  ⟨h.turn, .inl hw, h.group, h.game, h.balls, h.order, h.s0, h.s1, h.f0, h.f1, fun h0 => ⟨(h.l0 h0).1, fun _ => hf0 h0⟩, fun h0 => ⟨(h.l1 h0).1, fun _ => hf1 h0⟩, h.run, h.racks, h.push, h.pushed, h.both, fun _ => ⟨hw, hb, h8, h9⟩⟩
theorem rules_game (h : ckRules r = 0) : r.game = gStraight ∨ r.game = gEight ∨ r.game = gNine := by
  unfold ckRules at h
  split at h
  · cases h
  · next h1 =>
    have h2 : isGame r.game = true := by cases h : isGame r.game <;> simp_all
    unfold isGame at h2
    exact of_decide_eq_true h2
theorem rules_fouls (h : ckRules r = 0) : r.fouls = 0 ∨ (2 ≤ r.fouls ∧ r.fouls ≤ 9) := by
  unfold ckRules at h
  split at h
  · cases h
  · split at h
    · cases h
    · next h1 =>
      rw [not_or, not_or] at h1
      by_cases h0 : r.fouls = 0
      · exact .inl h0
      · right
        have := h1.2.2
        rw [not_and, Bool.not_eq_true, out_iff] at this
        exact this h0
theorem left_live (hr : ckRules r = 0) (h : Ok r n s) (hl : Lawful r s x) (h9 : ¬ (r.game = gNine ∧ good r s x = true ∧ (9 : Int) ∈ objects x)) (h8 : ¬ (r.game = gEight ∧ x.kind ≠ kBreak ∧ (8 : Int) ∈ objects x)) :
    (r.game = gEight → (8 : Int) ∈ left r s x) ∧ (r.game = gNine → (9 : Int) ∈ left r s x) ∧ (good r s x = false → left r s x ≠ []) := by
  obtain ⟨_, hb, k8, k9⟩ := h.live hl.over
  have e8 : r.game = gEight → (8 : Int) ∈ left r s x := by
    intro hg
    refine mem_left.2 ⟨k8 hg, ?_⟩
    unfold stays
    rw [decide_eq_true_eq]
    by_cases ho : (8 : Int) ∈ objects x
    · right; right; left
      exact ⟨hg, rfl, Classical.byContradiction fun hk => h8 ⟨hg, hk, ho⟩⟩
    · exact .inl ho
  have e9 : r.game = gNine → (9 : Int) ∈ left r s x := by
    intro hg
    refine mem_left.2 ⟨k9 hg, ?_⟩
    unfold stays
    rw [decide_eq_true_eq]
    by_cases ho : (9 : Int) ∈ objects x
    · right; right; right
      refine ⟨hg, rfl, ?_⟩
      rcases hgd : good r s x with _ | _
      · rfl
      · exact absurd ⟨hg, hgd, ho⟩ h9
    · exact .inl ho
  refine ⟨e8, e9, fun hgd => ?_⟩
  rcases rules_game hr with hg | hg | hg
  · obtain ⟨b, l, e⟩ := List.exists_cons_of_ne_nil hb
    intro he
    have : b ∈ left r s x := mem_left.2 ⟨by rw [e]; exact List.mem_cons_self, by unfold stays; rw [decide_eq_true_eq]; exact .inr (.inl ⟨hg, hgd⟩)⟩
    rw [he] at this
    cases this
  · exact fun he => by have := e8 hg; rw [he] at this; cases this
  · exact fun he => by have := e9 hg; rw [he] at this; cases this
theorem counted_over (r : Rules) (s : State) (x : Shot) : (counted r s x).over = s.over := by rw [counted_eq]; rfl
theorem counted_winner (r : Rules) (s : State) (x : Shot) : (counted r s x).winner = s.winner := by rw [counted_eq]; rfl
theorem counted_balls (r : Rules) (s : State) (x : Shot) : (counted r s x).balls = left r s x := by rw [counted_eq]
theorem counted_racks (r : Rules) (s : State) (x : Shot) : (counted r s x).racks = s.racks := by rw [counted_eq]; rfl
theorem counted_f0 (r : Rules) (s : State) (x : Shot) : (counted r s x).f0 = if x.player = 0 then fc r s x s.f0 else s.f0 := by rw [counted_eq]
theorem counted_f1 (r : Rules) (s : State) (x : Shot) : (counted r s x).f1 = if x.player = 0 then s.f1 else fc r s x s.f1 := by rw [counted_eq]
theorem counted_fouls (r : Rules) (s : State) (x : Shot) : (counted r s x).foulsOf x.player = fc r s x (s.foulsOf x.player) := by
  unfold State.foulsOf sel
  rw [counted_f0, counted_f1]
  split <;> rfl
theorem rack_ok : (∀ b ∈ rack r, 1 ≤ b ∧ b ≤ (rackN r.game : Int)) ∧ (rack r).Pairwise (· < ·) ∧ rack r ≠ [] ∧ (8 : Int) ∈ rack r ∧ (9 : Int) ∈ rack r := by
  have hn := rackN_ge r.game
  have h8 : (8 : Int) ∈ rack r := mem_rack.2 (by omega)
  have h9 : (9 : Int) ∈ rack r := mem_rack.2 (by omega)
  exact ⟨fun b hb => mem_rack.1 hb, rack_order _, fun e => (by rw [e] at h8; cases h8), h8, h9⟩
theorem next_ok (hr : ckRules r = 0) (h : Ok r n s) (hx : ShotOk x) (hl : Lawful r s x) (hn : 0 ≤ n) : Ok r (n + 16) (next r s x) := by
  have hp := hx.player
  have hn16 : (0 : Int) ≤ n + 16 := by omega
  unfold next
  split
  · exact (Ok.fin (t := s) ⟨h.turn, .inl rfl, h.group, h.game, h.balls, h.order, h.s0, h.s1, h.f0, h.f1, fun h0 => ⟨(h.l0 h0).1, fun e => by cases e⟩, fun h0 => ⟨(h.l1 h0).1, fun e => by cases e⟩, h.run, h.racks, h.push, h.pushed, h.both, fun e => by cases e⟩ _ (by omega)).more (by omega)
  · next hc =>
    split
    · next hpa =>
      have hb : r.game = gNine ∧ x.kind = kBreak → False := fun e => by rw [hpa] at e; exact absurd e.2 (by decide)
      have hpu : x.kind = kPush → False := fun e => by rw [hpa] at e; exact absurd e (by decide)
      refine Ok.more (n := n) ⟨?_, h.winner, h.group, h.game, h.balls, h.order, h.s0, h.s1, h.f0, h.f1, h.l0, h.l1, ⟨Int.le_refl 0, hn⟩, h.racks, fun e => (hb (of_decide_eq_true e)).elim, fun e => (hpu (of_decide_eq_true e)).elim, fun e => (hb (of_decide_eq_true e)).elim, h.live⟩ (by omega)
      show 1 - x.player = 0 ∨ 1 - x.player = 1
      omega
    · have hk := counted_ok h hx hl 0 (.inl rfl)
      unfold play
      simp only
      rcases ended_cases r s x (counted r s x) hx with ⟨he, h9, h8⟩ | ⟨v, hv, he⟩
      · rw [he, if_neg (by rw [counted_over, hl.over]; decide)]
        obtain ⟨w1, w2, w3, w4⟩ := h.live hl.over
        obtain ⟨e8, e9, en⟩ := left_live hr h hl h9 h8
        obtain ⟨r1, r2, r3, r4, r5⟩ := rack_ok (r := r)
        have hf := fc_le (r := r) (s := s) (x := x) h.f0.1
        have hf' := fc_le (r := r) (s := s) (x := x) h.f1.1
        have hfr := rules_fouls hr
        split
        · next hfo =>
          obtain ⟨hfo, hlim⟩ := hfo
          unfold limit
          split
          · exact hk.fin _ (by omega)
          · next hg =>
            have hg := Classical.not_not.1 hg
            have hsc : -(n + 16) ≤ (counted r s x).score x.player - 15 ∧ (counted r s x).score x.player - 15 ≤ n + 16 := by
              have hb0 := h.s0
              have hb1 := h.s1
              have hgd : good r s x = false := by
                rcases hgd : good r s x with _ | _
                · rfl
                · exact absurd (good_foul hgd) hfo
              have hv : ∀ a, sc r s x a = a - 1 := fun a => by unfold sc; simp [hgd, hfo, hg]
              unfold State.score sel
              rw [counted_eq]
              split
              · next h0 => simp only [hv]; omega
              · next h0 => simp only [hv]; omega
            have hng : r.game ≠ gNine := by rw [hg]; decide
            have hne : r.game ≠ gEight := by rw [hg]; decide
            have hpu := hk.push
            have hpd := hk.pushed
            have hrk : 1 ≤ (counted r s x).racks + 1 ∧ (counted r s x).racks + 1 ≤ n + 16 := by rw [counted_racks]; have := h.racks; omega
            unfold State.setScore State.setFouls
            rcases hp with hp | hp
            · rw [hp] at hsc ⊢
              simp only [if_true]
              exact ⟨hk.turn, .inl (by rw [counted_winner]; exact w1), hk.group, hk.game, r1, r2, hsc, hk.s1, ⟨Int.le_refl 0, hn16⟩, hk.f1, fun h0 => ⟨by show (0 : Int) ≤ _; omega, fun _ => h0⟩,
                fun h0 => ⟨(hk.l1 h0).1, fun _ => by show (counted r s x).f1 < _; rw [counted_f1, hp, if_pos rfl]; exact (h.l1 h0).2 hl.over⟩, hk.run, hrk, fun e => absurd (hpu e).1 hng, fun e => absurd (hpd e).1 hng, hk.both,
                fun _ => ⟨by rw [counted_winner]; exact w1, r3, fun e => absurd e hne, fun e => absurd e hng⟩⟩
            · rw [hp] at hsc ⊢
              simp only [show ¬ (1 : Int) = 0 by decide, if_false]
              exact ⟨hk.turn, .inl (by rw [counted_winner]; exact w1), hk.group, hk.game, r1, r2, hk.s0, hsc, hk.f0, ⟨Int.le_refl 0, hn16⟩,
                fun h0 => ⟨(hk.l0 h0).1, fun _ => by show (counted r s x).f0 < _; rw [counted_f0, hp, if_neg (by decide)]; exact (h.l0 h0).2 hl.over⟩, fun h0 => ⟨by show (0 : Int) ≤ _; omega, fun _ => h0⟩, hk.run, hrk, fun e => absurd (hpu e).1 hng, fun e => absurd (hpd e).1 hng, hk.both,
                fun _ => ⟨by rw [counted_winner]; exact w1, r3, fun e => absurd e hne, fun e => absurd e hng⟩⟩
        · next hnl =>
          have hq : ∀ h0 : 0 < r.fouls, (counted r s x).f0 < r.fouls ∧ (counted r s x).f1 < r.fouls := by
            intro h0
            have g0 := (h.l0 h0).2 hl.over
            have g1 := (h.l1 h0).2 hl.over
            have hfz : foul r s x = 0 ∨ (counted r s x).foulsOf x.player ≠ r.fouls := by
              by_cases hz : foul r s x = 0
              · exact .inl hz
              · exact .inr fun e => hnl ⟨hz, e⟩
            rw [counted_fouls] at hfz
            rw [counted_f0, counted_f1]
            unfold State.foulsOf sel at hfz
            unfold fc at hfz ⊢
            rcases hp with hp | hp
            · simp only [hp, if_true] at hfz ⊢
              refine ⟨?_, g1⟩
              by_cases hz : foul r s x = 0
              · rw [if_pos hz]; exact h0
              · rw [if_neg hz] at hfz ⊢; omega
            · simp only [hp, show ¬ (1 : Int) = 0 by decide, if_false] at hfz ⊢
              refine ⟨g0, ?_⟩
              by_cases hz : foul r s x = 0
              · rw [if_pos hz]; exact h0
              · rw [if_neg hz] at hfz ⊢; omega
          split
          · next hgd =>
            have hgo := hk.goes (by rw [counted_winner]; exact w1) (fun h0 => (hq h0).1) (fun h0 => (hq h0).2) (by rw [counted_balls]; exact en hgd) (by rw [counted_balls]; exact e8) (by rw [counted_balls]; exact e9)
            refine ⟨?_, hgo.winner, hgo.group, hgo.game, hgo.balls, hgo.order, hgo.s0, hgo.s1, hgo.f0, hgo.f1, hgo.l0, hgo.l1, ⟨Int.le_refl 0, hn16⟩, hgo.racks, hgo.push, hgo.pushed, hgo.both, hgo.live⟩
            show 1 - x.player = 0 ∨ 1 - x.player = 1
            omega
          · next hgd =>
            have hgd : good r s x = true := by simpa using hgd
            have hgr : Ok r (n + 16) { grouped r s x (counted r s x) with over := true, winner := (0 : Int) } := by
              unfold grouped
              split
              · next hg =>
                have hgrp : 0 ≤ (if x.player = 1 then 3 - side x.ball else side x.ball) ∧ (if x.player = 1 then 3 - side x.ball else side x.ball) ≤ 2 := by
                  have hs := side_le x.ball
                  split
                  · have : side x.ball ≠ 0 := by
                      intro h0
                      have hb8 := side_zero h0
                      refine h8 ⟨hg.1, by rw [hg.2.1]; decide, ?_⟩
                      have hgs := good_some r s x
                      rw [hgd, if_neg (by rw [hg.2.1]; decide), if_neg (by rw [hg.2.1]; decide), if_neg (by rw [hg.1]; decide)] at hgs
                      have := (of_decide_eq_true hgs.symm).2.2
                      rw [← hb8]
                      exact called_down this (by omega)
                    omega
                  · exact hs
                exact ⟨hk.turn, hk.winner, hgrp, fun _ => hg.1, hk.balls, hk.order, hk.s0, hk.s1, hk.f0, hk.f1, hk.l0, hk.l1, hk.run, hk.racks, hk.push, hk.pushed, hk.both, hk.live⟩
              · exact hk
            have gb : (grouped r s x (counted r s x)).balls = left r s x := by unfold grouped; split <;> exact counted_balls r s x
            have go : (grouped r s x (counted r s x)).over = false := by unfold grouped; split <;> exact (counted_over r s x).trans hl.over
            have gw : (grouped r s x (counted r s x)).winner = 0 := by unfold grouped; split <;> exact (counted_winner r s x).trans w1
            have gr : (grouped r s x (counted r s x)).racks = s.racks := by unfold grouped; split <;> exact counted_racks r s x
            have g0 : (grouped r s x (counted r s x)).f0 = (counted r s x).f0 := by unfold grouped; split <;> rfl
            have g1 : (grouped r s x (counted r s x)).f1 = (counted r s x).f1 := by unfold grouped; split <;> rfl
            unfold reracked
            split
            · next hg =>
              have hng : r.game ≠ gNine := by rw [hg.1]; decide
              have hne : r.game ≠ gEight := by rw [hg.1]; decide
              have hrk : 1 ≤ (grouped r s x (counted r s x)).racks + 1 ∧ (grouped r s x (counted r s x)).racks + 1 ≤ n + 16 := by rw [gr]; have := h.racks; omega
              exact ⟨hgr.turn, .inl gw, hgr.group, hgr.game, r1, r2, hgr.s0, hgr.s1, hgr.f0, hgr.f1, fun h0 => ⟨(hgr.l0 h0).1, fun _ => by show (grouped r s x (counted r s x)).f0 < _; rw [g0]; exact (hq h0).1⟩, fun h0 => ⟨(hgr.l1 h0).1, fun _ => by show (grouped r s x (counted r s x)).f1 < _; rw [g1]; exact (hq h0).2⟩,
                hgr.run, hrk, hgr.push, hgr.pushed, hgr.both, fun _ => ⟨gw, r3, fun e => absurd e hne, fun e => absurd e hng⟩⟩
            · next hg =>
              refine hgr.goes gw (fun h0 => by rw [g0]; exact (hq h0).1) (fun h0 => by rw [g1]; exact (hq h0).2) ?_ (by rw [gb]; exact e8) (by rw [gb]; exact e9)
              rw [gb] at hg ⊢
              intro hnil
              rcases rules_game hr with h1 | h1 | h1
              · exact hg ⟨h1, by rw [hnil]; decide⟩
              · have := e8 h1; rw [hnil] at this; cases this
              · have := e9 h1; rw [hnil] at this; cases this
      · rw [he, if_pos rfl]
        exact hk.fin v hv
theorem start_ok (r : Rules) : Ok r 1 (start r) := by
  obtain ⟨r1, r2, r3, r4, r5⟩ := rack_ok (r := r)
  have z0 : (0 : Int) ≤ 0 ∧ (0 : Int) ≤ 1 := by omega
  have z1 : (-1 : Int) ≤ 0 ∧ (0 : Int) ≤ 1 := by omega
  have z2 : (1 : Int) ≤ 1 ∧ (1 : Int) ≤ 1 := by omega
  have z3 : (0 : Int) ≤ 0 ∧ (0 : Int) ≤ 2 := by omega
  exact { turn := .inl rfl, winner := .inl rfl, group := z3, game := fun h => absurd rfl h, balls := r1, order := r2, s0 := z1, s1 := z1, f0 := z0, f1 := z0, l0 := fun h => ⟨Int.le_of_lt h, fun _ => h⟩, l1 := (fun h => ⟨Int.le_of_lt h, fun _ => h⟩), run := z0, racks := z2, push := fun e => (by cases e), pushed := fun e => (by cases e), both := fun e => (by cases e), live := fun _ => ⟨rfl, r3, fun _ => r4, fun _ => r5⟩ }
theorem step_ok (hr : ckRules r = 0) (h : Ok r n s) (hx : ShotOk x) (hn : 0 ≤ n) : Ok r (n + 16) (step r s x) := by
  unfold step
  split
  · next hl => exact next_ok hr h hx (lawful hl) hn
  · exact h.more (by omega)
end
end M
end Go.Proofs.YtelpepbpdojikaaGreatDoor
namespace Go.Proofs.YtelpepbpdojikaaGreatDoor
namespace M
section
variable {r : Rules} {n : Int} {s : State} {x : Shot}
def bump (n : Int) : List Run → List Run
  | [] => []
  | [a] => [⟨a.player, a.points + n⟩]
  | a :: b :: l => a :: bump n (b :: l)
theorem bump_snoc (n : Int) (a : Run) : ∀ l : List Run, bump n (l ++ [a]) = l ++ [⟨a.player, a.points + n⟩]
  | [] => rfl
  | [b] => rfl
  | b :: c :: l => by
    have := bump_snoc n a (c :: l)
    simp only [List.cons_append] at this ⊢
    rw [bump, this]
def runsP (r : Rules) (s : State) (opened : Bool) (acc : List Run) : List Shot → List Run
  | [] => acc
  | x :: l =>
    if legal r s x ≠ 0 then runsP r (step r s x) opened acc l
    else if good r s x = false then runsP r (step r s x) false acc l
    else if opened then runsP r (step r s x) true (bump (objects x).length acc) l
    else runsP r (step r s x) true (acc ++ [⟨x.player, (objects x).length⟩]) l
def runs (r : Rules) (l : List Shot) : List Run := runsP r (start r) false [] l
end
end M
end Go.Proofs.YtelpepbpdojikaaGreatDoor
namespace Go.Proofs.YtelpepbpdojikaaGreatDoor
namespace M
def wordsFrom (cur : List UInt8) : List UInt8 → List (List UInt8)
  | [] => [cur]
  | c :: l => if c = 32 then cur :: wordsFrom [] l else wordsFrom (cur ++ [c]) l
def words (l : List UInt8) : List (List UInt8) := wordsFrom [] l
theorem wordsFrom_ne (l cur : List UInt8) : wordsFrom cur l ≠ [] := by
  induction l generalizing cur with
  | nil => simp [wordsFrom]
  | cons c l ih => rw [wordsFrom]; split <;> simp [ih]
def join : List (List UInt8) → List UInt8
  | [] => []
  | a :: l => a ++ l.flatMap fun b => 32 :: b
theorem wordsFrom_plain (a : List UInt8) (ha : (32 : UInt8) ∉ a) (l cur : List UInt8) : wordsFrom cur (a ++ l) = wordsFrom (cur ++ a) l := by
  induction a generalizing cur with
  | nil => simp
  | cons c a ih =>
    rw [List.mem_cons, not_or] at ha
    rw [List.cons_append, wordsFrom, if_neg (fun e => ha.1 e.symm), ih ha.2]
    simp
theorem words_join (a : List UInt8) (l : List (List UInt8)) (ha : (32 : UInt8) ∉ a) (hl : ∀ b ∈ l, (32 : UInt8) ∉ b) : words (join (a :: l)) = a :: l := by
  have key : ∀ (l : List (List UInt8)), (∀ b ∈ l, (32 : UInt8) ∉ b) → ∀ cur, wordsFrom cur (l.flatMap fun b => 32 :: b) = cur :: l := by
    intro l
    induction l with
    | nil => intro _ cur; rfl
    | cons b l ih =>
      intro h cur
      rw [List.flatMap_cons, List.cons_append, wordsFrom, if_pos rfl, wordsFrom_plain b (h b List.mem_cons_self), ih (fun c hc => h c (List.mem_cons_of_mem _ hc))]
      rfl
  unfold words join
  rw [wordsFrom_plain a ha, key l hl]
  rfl
theorem join_wordsFrom (l cur : List UInt8) : join (wordsFrom cur l) = cur ++ l := by
  induction l generalizing cur with
  | nil => simp [wordsFrom, join]
  | cons c l ih =>
    rw [wordsFrom]
    split
    · next h =>
      subst h
      have h1 := ih []
      obtain ⟨a, t, e⟩ := List.exists_cons_of_ne_nil (wordsFrom_ne l [])
      rw [e] at h1 ⊢
      rw [join] at h1 ⊢
      rw [List.flatMap_cons, List.cons_append, h1]
      simp
    · rw [ih]; simp
theorem join_words (l : List UInt8) : join (words l) = l := join_wordsFrom l []
def isDig (c : UInt8) : Bool := 48 ≤ c ∧ c ≤ 57
def num : List UInt8 → Option Int
  | [a] => if isDig a then some ((a.toNat : Int) - 48) else none
  | [a, b] => if isDig a = true ∧ isDig b = true ∧ a ≠ 48 then some (10 * ((a.toNat : Int) - 48) + ((b.toNat : Int) - 48)) else none
  | _ => none
def dig (n : Nat) : UInt8 := UInt8.ofNat (48 + n)
def dec (n : Int) : List UInt8 := if n < 10 then [dig n.toNat] else [dig (n.toNat / 10), dig (n.toNat % 10)]
theorem dig_all : ∀ n : Fin 10, isDig (dig n.val) = true ∧ (dig n.val).toNat = 48 + n.val := by decide
theorem dig_ok {n : Nat} (h : n < 10) : isDig (dig n) = true ∧ (dig n).toNat = 48 + n := dig_all ⟨n, h⟩
theorem isDig_iff {c : UInt8} : isDig c = true ↔ 48 ≤ c.toNat ∧ c.toNat ≤ 57 := by
  unfold isDig
  rw [decide_eq_true_eq, UInt8.le_iff_toNat_le, UInt8.le_iff_toNat_le]
  rfl
theorem dig_of {c : UInt8} (h : isDig c = true) : dig (c.toNat - 48) = c := by
  have := isDig_iff.1 h
  apply UInt8.toNat_inj.1
  rw [(dig_ok (n := c.toNat - 48) (by omega)).2]
  omega
theorem num_dec {n : Int} (h0 : 0 ≤ n) (h1 : n ≤ 99) : num (dec n) = some n := by
  unfold dec
  split
  · have := dig_ok (n := n.toNat) (by omega)
    rw [num, if_pos this.1, this.2]
    congr 1
    omega
  · have a := dig_ok (n := n.toNat / 10) (by omega)
    have b := dig_ok (n := n.toNat % 10) (by omega)
    rw [num, if_pos ⟨a.1, b.1, fun e => by have := a.2; rw [e] at this; have h48 : (48 : UInt8).toNat = 48 := rfl; omega⟩, a.2, b.2]
    congr 1
    omega
theorem dec_num {l : List UInt8} {n : Int} (h : num l = some n) : l = dec n ∧ 0 ≤ n ∧ n ≤ 99 := by
  match l, h with
  | [a], h =>
    rw [num] at h
    split at h
    · next ha =>
      have h48 := isDig_iff.1 ha
      injection h with h
      subst h
      refine ⟨?_, by omega, by omega⟩
      unfold dec
      rw [if_pos (by omega), show ((a.toNat : Int) - 48).toNat = a.toNat - 48 by omega, dig_of ha]
    · cases h
  | [a, b], h =>
    rw [num] at h
    split at h
    · next hab =>
      obtain ⟨ha, hb, h0⟩ := hab
      have ha' := isDig_iff.1 ha
      have hb' := isDig_iff.1 hb
      have h0' : a.toNat ≠ 48 := fun e => h0 (UInt8.toNat_inj.1 (by rw [e]; rfl))
      injection h with h
      subst h
      refine ⟨?_, by omega, by omega⟩
      unfold dec
      rw [if_neg (by omega), show (10 * ((a.toNat : Int) - 48) + ((b.toNat : Int) - 48)).toNat / 10 = a.toNat - 48 by omega, show (10 * ((a.toNat : Int) - 48) + ((b.toNat : Int) - 48)).toNat % 10 = b.toNat - 48 by omega, dig_of ha, dig_of hb]
    · cases h
def cutAt (c : UInt8) : List UInt8 → Option (List UInt8 × List UInt8)
  | [] => none
  | a :: l => if a = c then some ([], l) else (cutAt c l).map fun p => (a :: p.1, p.2)
theorem cutAt_some {c : UInt8} : ∀ {l a b : List UInt8}, cutAt c l = some (a, b) → l = a ++ c :: b ∧ c ∉ a
  | [], a, b, h => by cases h
  | d :: l, a, b, h => by
    rw [cutAt] at h
    split at h
    · next hd => injection h with h; injection h with h1 h2; subst h1 h2 hd; simp
    · next hd =>
      cases hc : cutAt c l with
      | none => rw [hc] at h; cases h
      | some p =>
        obtain ⟨p1, p2⟩ := p
        rw [hc] at h
        injection h with h; injection h with h1 h2
        subst h1 h2
        obtain ⟨e, hn⟩ := cutAt_some hc
        exact ⟨by rw [e]; rfl, by rw [List.mem_cons, not_or]; exact ⟨fun e => hd e.symm, hn⟩⟩
theorem cutAt_mk {c : UInt8} : ∀ {a : List UInt8} (b : List UInt8), c ∉ a → cutAt c (a ++ c :: b) = some (a, b)
  | [], b, _ => by rw [List.nil_append, cutAt, if_pos rfl]
  | d :: a, b, h => by
    rw [List.mem_cons, not_or] at h
    rw [List.cons_append, cutAt, if_neg (fun e => h.1 e.symm), cutAt_mk b h.2]
    rfl
theorem cutAt_none {c : UInt8} : ∀ {l : List UInt8}, cutAt c l = none ↔ c ∉ l
  | [] => by simp [cutAt]
  | d :: l => by
    rw [cutAt, List.mem_cons, not_or]
    split
    · next h => subst h; simp
    · next h => rw [Option.map_eq_none_iff, cutAt_none]; exact ⟨fun k => ⟨fun e => h e.symm, k⟩, fun k => k.2⟩
def two : Option Int → Option Int → Option (Int × Int)
  | some a, some b => some (a, b)
  | _, _ => none
def pairOf (letter : UInt8) : List UInt8 → Option (Int × Int)
  | [] => none
  | a :: l => if a = letter then (match cutAt 47 l with | none => none | some p => two (num p.1) (num p.2)) else none
def pairText (letter : UInt8) (a b : Int) : List UInt8 := letter :: (dec a ++ 47 :: dec b)
theorem dec_plain {n : Int} (h1 : n ≤ 99) : ∀ c ∈ dec n, isDig c = true := by
  intro c hc
  unfold dec at hc
  split at hc
  · rw [List.mem_singleton] at hc; subst hc; exact (dig_ok (by omega)).1
  · rw [List.mem_cons, List.mem_singleton] at hc
    rcases hc with rfl | rfl
    · exact (dig_ok (by omega)).1
    · exact (dig_ok (by omega)).1
theorem not_dig {c d : UInt8} (h : isDig c = true) (hd : isDig d = false) : c ≠ d := fun e => by rw [e, hd] at h; cases h
theorem pair_text (letter : UInt8) {a b : Int} (ha : 0 ≤ a ∧ a ≤ 99) (hb : 0 ≤ b ∧ b ≤ 99) : pairOf letter (pairText letter a b) = some (a, b) := by
  unfold pairText
  have h47 : (47 : UInt8) ∉ dec a := fun h => absurd rfl (not_dig (dec_plain ha.2 _ h) (d := 47) (by decide))
  rw [pairOf, if_pos rfl, cutAt_mk _ h47]
  simp only [num_dec ha.1 ha.2, num_dec hb.1 hb.2, two]
theorem pair_of {letter : UInt8} {w : List UInt8} {a b : Int} (h : pairOf letter w = some (a, b)) : w = pairText letter a b ∧ (0 ≤ a ∧ a ≤ 99) ∧ (0 ≤ b ∧ b ≤ 99) := by
  match w, h with
  | c :: l, h =>
    rw [pairOf] at h
    split at h
    · next hc =>
      cases hq : cutAt 47 l with
      | none => rw [hq] at h; cases h
      | some p =>
        obtain ⟨p, q⟩ := p
        rw [hq] at h
        simp only at h
        cases hp : num p with
        | none => rw [hp] at h; cases h
        | some i =>
          cases hr : num q with
          | none => rw [hp, hr] at h; cases h
          | some j =>
            rw [hp, hr] at h
            injection h with h; injection h with h1 h2
            subst h1 h2
            obtain ⟨e1, b1⟩ := dec_num hp
            obtain ⟨e2, b2⟩ := dec_num hr
            exact ⟨by unfold pairText; rw [(cutAt_some hq).1, hc, e1, e2], b1, b2⟩
    · cases h
def letter (p : Int) : List UInt8 := if p = 1 then [98] else [97]
def tail (x : Shot) : List (List UInt8) :=
  (if x.ball ≠ 0 then [pairText 99 x.ball x.pocket] else []) ++ (if x.first ≠ 0 then [102 :: dec x.first] else []) ++ (if x.cushion = true then [[43]] else []) ++ x.pots.map fun p => pairText 112 p.ball p.pocket
def pieces (x : Shot) : List (List UInt8) := letter x.player :: x.kind.toList :: tail x
def print (x : Shot) : List UInt8 := join (pieces x)
def blank : Shot := { player := 0, kind := ⟨#[]⟩, ball := 0, pocket := 0, first := 0, cushion := false, pots := [] }
def isKindL (w : List UInt8) : Bool := isKind ⟨w.toArray⟩
def hitOf : List UInt8 → Option Int
  | [] => none
  | c :: l => if c = 102 then num l else none
def read (x : Shot) (place : Nat) (w : List UInt8) : Option (Shot × Nat) :=
  match (if place ≤ 2 then pairOf 99 w else none).filter fun p => 0 < p.1 ∧ 0 < p.2 with
  | some p => some ({ x with ball := p.1, pocket := p.2 }, 3)
  | none =>
    match (if place ≤ 3 then hitOf w else none).filter fun h => 0 < h with
    | some h => some ({ x with first := h }, 4)
    | none =>
      if place ≤ 4 ∧ w = [43] then some ({ x with cushion := true }, 5)
      else match pairOf 112 w with
        | some p => some ({ x with pots := x.pots ++ [⟨p.1, p.2⟩] }, 5)
        | none => none
def readAll (x : Shot) (place : Nat) (n : Int) : List (List UInt8) → Except Int Shot
  | [] => .ok x
  | w :: l => match read x place w with
    | some q => readAll q.1 q.2 (n + 1) l
    | none => .error (n + 1)
def readHead : List (List UInt8) → Except Int Shot
  | [] => .error 1
  | w :: l =>
    if w ≠ [97] ∧ w ≠ [98] then .error 1
    else match l with
      | [] => .error 2
      | k :: l => if isKindL k = false then .error 2 else readAll { blank with player := if w = [98] then 1 else 0, kind := ⟨k.toArray⟩ } 2 2 l
def parse (s : List UInt8) : Shot × Int × Int :=
  if 4096 < s.length then (blank, 0, 26)
  else match readHead (words s) with
    | .error n => (blank, n, 25)
    | .ok x => if ckShot x ≠ 0 then (blank, 0, ckShot x) else (x, 0, 0)
def refPots (x : Shot) (n : Int) : List (List UInt8) → Except Int Shot
  | [] => .ok x
  | w :: l => match pairOf 112 w with
    | some p => refPots { x with pots := x.pots ++ [⟨p.1, p.2⟩] } (n + 1) l
    | none => .error (n + 1)
def refCushion (x : Shot) (n : Int) : List (List UInt8) → Except Int Shot
  | [] => .ok x
  | w :: l => if w = [43] then refPots { x with cushion := true } (n + 1) l else refPots x n (w :: l)
def refHit (x : Shot) (n : Int) : List (List UInt8) → Except Int Shot
  | [] => .ok x
  | w :: l => match (hitOf w).filter fun h => 0 < h with
    | some h => refCushion { x with first := h } (n + 1) l
    | none => refCushion x n (w :: l)
def refCall (x : Shot) (n : Int) : List (List UInt8) → Except Int Shot
  | [] => .ok x
  | w :: l => match (pairOf 99 w).filter fun p => 0 < p.1 ∧ 0 < p.2 with
    | some p => refHit { x with ball := p.1, pocket := p.2 } (n + 1) l
    | none => refHit x n (w :: l)
theorem ref_pots (l : List (List UInt8)) : ∀ (x : Shot) (n : Int), readAll x 5 n l = refPots x n l := by
  induction l with
  | nil => intro x n; rfl
  | cons w l ih =>
    intro x n
    rw [readAll, refPots, read]
    simp only [show ¬ (5 ≤ 2) by omega, show ¬ (5 ≤ 3) by omega, show ¬ (5 ≤ 4) by omega, if_false, Option.filter_none, false_and]
    cases pairOf 112 w with
    | none => rfl
    | some p => exact ih _ _
theorem ref_cushion (l : List (List UInt8)) (x : Shot) (n : Int) : readAll x 4 n l = refCushion x n l := by
  cases l with
  | nil => rfl
  | cons w l =>
    rw [readAll, refCushion, read]
    simp only [show ¬ (4 ≤ 2) by omega, show ¬ (4 ≤ 3) by omega, if_false, Option.filter_none, Nat.le_refl, true_and]
    by_cases h : w = [43]
    · simp only [h, if_true]; exact ref_pots _ _ _
    · simp only [h, if_false]
      rw [refPots]
      cases pairOf 112 w with
      | none => rfl
      | some p => exact ref_pots _ _ _
theorem ref_hit (l : List (List UInt8)) (x : Shot) (n : Int) : readAll x 3 n l = refHit x n l := by
  cases l with
  | nil => rfl
  | cons w l =>
    rw [readAll, refHit, read]
    simp only [show ¬ (3 ≤ 2) by omega, if_false, Option.filter_none, Nat.le_refl, if_true]
    cases (hitOf w).filter fun h => decide (0 < h) with
    | some h => exact ref_cushion _ _ _
    | none =>
      simp only [show 3 ≤ 4 by omega, true_and]
      rw [refCushion]
      by_cases h : w = [43]
      · simp only [h, if_true]; exact ref_pots _ _ _
      · simp only [h, if_false]
        rw [refPots]
        cases pairOf 112 w with
        | none => rfl
        | some p => exact ref_pots _ _ _
theorem ref_call (l : List (List UInt8)) (x : Shot) (n : Int) : readAll x 2 n l = refCall x n l := by
  cases l with
  | nil => rfl
  | cons w l =>
    rw [readAll, refCall, read]
    simp only [Nat.le_refl, if_true]
    cases (pairOf 99 w).filter fun p => decide (0 < p.1 ∧ 0 < p.2) with
    | some p => exact ref_hit _ _ _
    | none =>
      simp only [show 2 ≤ 3 by omega, if_true]
      rw [refHit]
      cases (hitOf w).filter fun h => decide (0 < h) with
      | some h => exact ref_cushion _ _ _
      | none =>
        simp only [show 2 ≤ 4 by omega, true_and]
        rw [refCushion]
        by_cases h : w = [43]
        · simp only [h, if_true]; exact ref_pots _ _ _
        · simp only [h, if_false]
          rw [refPots]
          cases pairOf 112 w with
          | none => rfl
          | some p => exact ref_pots _ _ _
theorem hit_none (c : UInt8) (l : List UInt8) (h : c ≠ 102) : hitOf (c :: l) = none := by rw [hitOf, if_neg h]
theorem pair_none (d c : UInt8) (l : List UInt8) (h : c ≠ d) : pairOf d (c :: l) = none := by rw [pairOf, if_neg h]
theorem hit_pass (l : List (List UInt8)) (x : Shot) (n : Int) (h : ∀ c t m, l = (c :: t) :: m → c ≠ 102) (h0 : ∀ m, l ≠ [] :: m) : refHit x n l = refCushion x n l := by
  match l with
  | [] => rfl
  | [] :: m => exact absurd rfl (h0 m)
  | (c :: t) :: m => rw [refHit, hit_none c t (h c t m rfl)]; rfl
theorem call_pass (l : List (List UInt8)) (x : Shot) (n : Int) (h : ∀ c t m, l = (c :: t) :: m → c ≠ 99) (h0 : ∀ m, l ≠ [] :: m) : refCall x n l = refHit x n l := by
  match l with
  | [] => rfl
  | [] :: m => exact absurd rfl (h0 m)
  | (c :: t) :: m => rw [refCall, pair_none 99 c t (h c t m rfl)]; rfl
end M
end Go.Proofs.YtelpepbpdojikaaGreatDoor
namespace Go.Proofs.YtelpepbpdojikaaGreatDoor
namespace M
section
variable {r : Rules} {n : Int} {s : State} {x : Shot}
theorem note_yes (hl : legal r s x = 0) : note r s n x = ⟨n, x.player, 0, foul r s x, (next r s x).score x.player - s.score x.player, (next r s x).turn ≠ s.turn⟩ := by unfold note; rw [if_neg (by simp [hl])]
end
end M
end Go.Proofs.YtelpepbpdojikaaGreatDoor
namespace Go.Proofs.YtelpepbpdojikaaGreatDoor
namespace M
section
variable {r : Rules} {n : Int} {s : State} {x : Shot}
def kept (r : Rules) (s : State) : List Shot → List Shot
  | [] => []
  | x :: l => if legal r s x = 0 then x :: kept r (step r s x) l else kept r (step r s x) l
def State.eq (a b : State) : Bool := a.balls = b.balls ∧ a.turn = b.turn ∧ a.brk = b.brk ∧ a.hand = b.hand ∧ a.push = b.push ∧ a.pushed = b.pushed ∧ a.group = b.group ∧ a.s0 = b.s0 ∧ a.s1 = b.s1 ∧ a.f0 = b.f0 ∧ a.f1 = b.f1 ∧ a.run = b.run ∧ a.racks = b.racks ∧ a.over = b.over ∧ a.winner = b.winner
def firstNot (f : Nat → Bool) (n : Nat) : Nat → Int
  | 0 => 0
  | k + 1 => if f n then firstNot f (n + 1) k else n
def stTo (r : Rules) (l : List Shot) (k : Nat) : State := final r (start r) (l.take k)
def changed (r : Rules) (a b : List Shot) : Int := firstNot (fun n => (stTo r a n).eq (stTo r b n)) 1 (max a.length b.length)
end
end M
end Go.Proofs.YtelpepbpdojikaaGreatDoor
