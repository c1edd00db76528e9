/- Parts of the proofs about chapter 5 (pool), joined by program. -/
import Derived.Below
import Derived.BigQuiet
import Derived.Carry
import Derived.ChangeKeysEq
import Derived.ChangeSame
import Derived.Deep.AppendLies
import Derived.Deep.DeepCutAuto
import Derived.Deep.DeepHandedRow
import Derived.Deep.Draws
import Derived.Deep.LoopGhost
import Derived.Deep.MidRow
import Derived.Deep.QuietTactic
import Derived.Deep.RegionHeld3
import Derived.Deep.Slices
import Derived.IntWalk
import Derived.Laws.EntriesVeiled
import Derived.Laws.OwnMore
import Derived.Laws.ResultCell
import Derived.Laws.Rows
import Derived.Laws.Strings
import Derived.Lib.Hide
import Derived.Lib.SmallJoins
import Derived.Lib.SplitLaws
import Derived.LoopTactic
import Derived.Maps.Own
import Derived.OrdersIn
import Derived.Outline
import Derived.OwnWalk
import Derived.RangeFuncBound
import Derived.RangeFuncCalls
import Derived.RangeFuncLeaves
import Derived.RangeFuncNested
import Derived.Shelf.Abstract
import Derived.Shelf.LaysC
import Derived.Shelf.LaysM
import Derived.Shelf.Small.Wraps
import Derived.Shelf.Strconv.Atoi
import Derived.Shelf.Strconv.AtoiAll
import Derived.Shelf.Strconv.AtoiErrFast
import Derived.Shelf.Strconv.AtoiFail
import Derived.Shelf.Strconv.AtoiInnerAll
import Derived.Shelf.Strconv.AtoiLong
import Derived.Shelf.Strconv.Clone
import Derived.Shelf.Strconv.ErrVarAll
import Derived.Shelf.Strconv.Itoa0
import Derived.Shelf.Strconv.Itoa1
import Derived.Shelf.Strconv.Itoa2
import Derived.Shelf.Strconv.Itoa3
import Derived.Shelf.Strconv.Lower
import Derived.Shelf.Strconv.ParseInt10
import Derived.Shelf.Strconv.ParseIntEmpty
import Derived.Shelf.Strconv.ParseUint10
import Derived.Shelf.Strconv.ParseUint10Any
import Derived.Shelf.Strconv.ParseUint10Empty
import Derived.Shelf.Strconv.RangeError
import Derived.Shelf.Strconv.SyntaxError
import Derived.Shelf.Strconv.ToError
import Derived.Shelf.Strconv.ToErrorRange
import Derived.Shelf.Strings.Builder1
import Derived.Shelf.Strings.Builder2
import Derived.Shelf.Strings.Count
import Derived.Shelf.Strings.Cut
import Derived.Shelf.Strings.OnBuilder
import Derived.Shelf.Strings.Prefix
import Derived.Shelf.Strings.Search1
import Derived.Shelf.Strings.Search2
import Derived.Shelf.Strings.Search3
import Derived.Shelf.Strings.Shaped
import Derived.Shelf.Strings.Split
import Derived.Shelf.Strings.SplitShaped
import Derived.Shelf.Unicode.DecodeSlow
import Derived.TacticsIn
import Derived.Test.YtelpepbpdojikaaGreatDoorProg
import Derived.WalkKit
import Derived.WalkLawsBesides
import Derived.WalkMore
import Derived.Test.YtelpepbpdojikaaGreatDoorKt0
import Derived.Test.YtelpepbpdojikaaGreatDoorKt1
import Derived.Test.YtelpepbpdojikaaGreatDoorKe15
import Derived.Test.YtelpepbpdojikaaGreatDoorKe31
import Derived.Test.YtelpepbpdojikaaGreatDoorKe32
import Derived.Test.YtelpepbpdojikaaGreatDoorKe36
import Derived.Test.YtelpepbpdojikaaGreatDoorKe48
set_option linter.unusedVariables false
set_option linter.unusedSimpArgs false
namespace Go.Proofs.YtelpepbpdojikaaGreatDoor
open Go.RowKit
noncomputable def txCode (n : Nat) : Code := codeDrop n ((Tryz.f5).body.getD .skip)
def EcR (x : M.Shot) (v : Value) (W : World) : Prop := ∃ B A c, v = ptr B ∧ Held W B (shCells ⟨x, A, c⟩) 69 ∧ RdP W (fun _ => True) A c x.pots
theorem EcR.new {x : M.Shot} {A : Option Addr} {c : Nat} {S : Nat → Prop} {w1 : World} (hr : RdP w1 S A c x.pots) (hbx : Held (w1.alloc (.cells zSh.toArray 69)) w1.heap.size zSh 69) :
    EcR x (ptr w1.heap.size) ((w1.alloc (.cells zSh.toArray 69)).setCells w1.heap.size 0 (shCells ⟨x, A, c⟩)) ∧ Below w1.heap.size w1 ((w1.alloc (.cells zSh.toArray 69)).setCells w1.heap.size 0 (shCells ⟨x, A, c⟩)) := by
  have hb : Below w1.heap.size w1 ((w1.alloc (.cells zSh.toArray 69)).setCells w1.heap.size 0 (shCells ⟨x, A, c⟩)) := below_setCells _ (Nat.le_refl _) _ _ _ _ ((Below.refl _ _).alloc (Nat.le_refl _) _)
  exact ⟨⟨w1.heap.size, A, c, rfl, hbx.whole _ rfl, Reads.more (Reads.below hr hb) (fun _ _ _ => trivial)⟩, hb⟩
theorem tx_rparse (l : List UInt8) (y : M.Shot) (n e : Int) (hy : M.parse l = (y, n, e)) (W : World) (hl : l.length ≤ 17592186044416) :
    Calls Tryz.prog 32 #[.string ⟨l.toArray⟩] W fun r w' => ∃ A c, r = .returned (.tuple #[shotV y A c, .int .i64 n, .int .i64 e]) ∧ RdP w' (fun b => W.heap.size ≤ b) A c y.pots ∧ Below W.heap.size W w' := by
  have := refParse_any l W hl
  rw [hy] at this
  exact this
@[reducible] def TXG3 (W0 : World) (x : Sh) (l : List UInt8) (y : M.Shot) (n er E : Int) (TX : ByteArray) : Prop := ∀ (z0 z1 z2 z3 z4 z5 z6 z7 z8 z9 z10 z11 z12 z13 z14 z15 z16 z17 z18 z19 z20 z21 z22 z23 z24 z25 z26 z27 z28 z29 z30 z31 z32 z33 z34 z35 z36 z37 z38 z39 z40 z41 z42 z43 z44 z45 z46 z47 z48 z49 z50 z51 z52 z53 z54 z55 z56 z57 z58 z59 z60 z61 z62 z63 z64 z65 z66 z67 z68 z69 z70 z71 z72 z73 z74 z75 z76 : Value) (W : World), (EcB W0 x z2 z5 W ∧ z1 = .string ⟨l.toArray⟩) → (txCode 3).wp Tryz.prog (bodyPost Tryz.prog Tryz.f5 (fun e w' => e = .returned (.bool true) ∧ Below W0.heap.size W0 w')) { tmps := #[z0, z1, z2, z3, z4, z5, z6, z7, z8, z9, z10, z11, z12, z13, z14, z15, z16, z17, z18, z19, z20, z21, z22, z23, z24, z25, z26, z27, z28, z29, z30, z31, z32, z33, z34, z35, z36, z37, z38, z39, z40, z41, z42, z43, z44, z45, z46, z47, z48, z49, z50, z51, z52, z53, z54, z55, z56, z57, z58, z59, z60, z61, z62, z63, z64, z65, z66, z67, z68, z69, z70, z71, z72, z73, z74, z75, z76], defers := [] } W
@[reducible] def TXG4 (W0 : World) (x : Sh) (l : List UInt8) (y : M.Shot) (n er E : Int) (TX : ByteArray) : Prop := ∀ (z0 z1 z2 z3 z4 z5 z6 z7 z8 z9 z10 z11 z12 z13 z14 z15 z16 z17 z18 z19 z20 z21 z22 z23 z24 z25 z26 z27 z28 z29 z30 z31 z32 z33 z34 z35 z36 z37 z38 z39 z40 z41 z42 z43 z44 z45 z46 z47 z48 z49 z50 z51 z52 z53 z54 z55 z56 z57 z58 z59 z60 z61 z62 z63 z64 z65 z66 z67 z68 z69 z70 z71 z72 z73 z74 z75 z76 : Value) (W : World), (EcB W0 x z2 z5 W ∧ z1 = .string ⟨l.toArray⟩ ∧ z6 = .string TX ∧ z7 = .int .i64 E) → (txCode 4).wp Tryz.prog (bodyPost Tryz.prog Tryz.f5 (fun e w' => e = .returned (.bool true) ∧ Below W0.heap.size W0 w')) { tmps := #[z0, z1, z2, z3, z4, z5, z6, z7, z8, z9, z10, z11, z12, z13, z14, z15, z16, z17, z18, z19, z20, z21, z22, z23, z24, z25, z26, z27, z28, z29, z30, z31, z32, z33, z34, z35, z36, z37, z38, z39, z40, z41, z42, z43, z44, z45, z46, z47, z48, z49, z50, z51, z52, z53, z54, z55, z56, z57, z58, z59, z60, z61, z62, z63, z64, z65, z66, z67, z68, z69, z70, z71, z72, z73, z74, z75, z76], defers := [] } W
@[reducible] def TXG5 (W0 : World) (x : Sh) (l : List UInt8) (y : M.Shot) (n er E : Int) (TX : ByteArray) : Prop := ∀ (z0 z1 z2 z3 z4 z5 z6 z7 z8 z9 z10 z11 z12 z13 z14 z15 z16 z17 z18 z19 z20 z21 z22 z23 z24 z25 z26 z27 z28 z29 z30 z31 z32 z33 z34 z35 z36 z37 z38 z39 z40 z41 z42 z43 z44 z45 z46 z47 z48 z49 z50 z51 z52 z53 z54 z55 z56 z57 z58 z59 z60 z61 z62 z63 z64 z65 z66 z67 z68 z69 z70 z71 z72 z73 z74 z75 z76 : Value) (W : World), (EcB W0 x z2 z5 W ∧ z1 = .string ⟨l.toArray⟩ ∧ z6 = .string TX ∧ z7 = .int .i64 E ∧ EcP y z8 W ∧ z9 = .int .i64 n ∧ z10 = .int .i64 er) → (txCode 5).wp Tryz.prog (bodyPost Tryz.prog Tryz.f5 (fun e w' => e = .returned (.bool true) ∧ Below W0.heap.size W0 w')) { tmps := #[z0, z1, z2, z3, z4, z5, z6, z7, z8, z9, z10, z11, z12, z13, z14, z15, z16, z17, z18, z19, z20, z21, z22, z23, z24, z25, z26, z27, z28, z29, z30, z31, z32, z33, z34, z35, z36, z37, z38, z39, z40, z41, z42, z43, z44, z45, z46, z47, z48, z49, z50, z51, z52, z53, z54, z55, z56, z57, z58, z59, z60, z61, z62, z63, z64, z65, z66, z67, z68, z69, z70, z71, z72, z73, z74, z75, z76], defers := [] } W
@[reducible] def TXG6 (W0 : World) (x : Sh) (l : List UInt8) (y : M.Shot) (n er E : Int) (TX : ByteArray) : Prop := ∀ (z0 z1 z2 z3 z4 z5 z6 z7 z8 z9 z10 z11 z12 z13 z14 z15 z16 z17 z18 z19 z20 z21 z22 z23 z24 z25 z26 z27 z28 z29 z30 z31 z32 z33 z34 z35 z36 z37 z38 z39 z40 z41 z42 z43 z44 z45 z46 z47 z48 z49 z50 z51 z52 z53 z54 z55 z56 z57 z58 z59 z60 z61 z62 z63 z64 z65 z66 z67 z68 z69 z70 z71 z72 z73 z74 z75 z76 : Value) (W : World), (EcB W0 x z2 z5 W ∧ z1 = .string ⟨l.toArray⟩ ∧ z6 = .string TX ∧ z7 = .int .i64 E ∧ EcP y z8 W ∧ z9 = .int .i64 n ∧ z10 = .int .i64 er ∧ z11 = .int .i64 E) → (txCode 6).wp Tryz.prog (bodyPost Tryz.prog Tryz.f5 (fun e w' => e = .returned (.bool true) ∧ Below W0.heap.size W0 w')) { tmps := #[z0, z1, z2, z3, z4, z5, z6, z7, z8, z9, z10, z11, z12, z13, z14, z15, z16, z17, z18, z19, z20, z21, z22, z23, z24, z25, z26, z27, z28, z29, z30, z31, z32, z33, z34, z35, z36, z37, z38, z39, z40, z41, z42, z43, z44, z45, z46, z47, z48, z49, z50, z51, z52, z53, z54, z55, z56, z57, z58, z59, z60, z61, z62, z63, z64, z65, z66, z67, z68, z69, z70, z71, z72, z73, z74, z75, z76], defers := [] } W
@[reducible] def TXG8 (W0 : World) (x : Sh) (l : List UInt8) (y : M.Shot) (n er E : Int) (TX : ByteArray) : Prop := ∀ (z0 z1 z2 z3 z4 z5 z6 z7 z8 z9 z10 z11 z12 z13 z14 z15 z16 z17 z18 z19 z20 z21 z22 z23 z24 z25 z26 z27 z28 z29 z30 z31 z32 z33 z34 z35 z36 z37 z38 z39 z40 z41 z42 z43 z44 z45 z46 z47 z48 z49 z50 z51 z52 z53 z54 z55 z56 z57 z58 z59 z60 z61 z62 z63 z64 z65 z66 z67 z68 z69 z70 z71 z72 z73 z74 z75 z76 : Value) (W : World), (EcB W0 x z2 z5 W ∧ z1 = .string ⟨l.toArray⟩ ∧ z6 = .string TX ∧ z7 = .int .i64 E ∧ EcP y z8 W ∧ z9 = .int .i64 n ∧ z10 = .int .i64 er ∧ z11 = .int .i64 E ∧ z12 = .string TX) → (txCode 8).wp Tryz.prog (bodyPost Tryz.prog Tryz.f5 (fun e w' => e = .returned (.bool true) ∧ Below W0.heap.size W0 w')) { tmps := #[z0, z1, z2, z3, z4, z5, z6, z7, z8, z9, z10, z11, z12, z13, z14, z15, z16, z17, z18, z19, z20, z21, z22, z23, z24, z25, z26, z27, z28, z29, z30, z31, z32, z33, z34, z35, z36, z37, z38, z39, z40, z41, z42, z43, z44, z45, z46, z47, z48, z49, z50, z51, z52, z53, z54, z55, z56, z57, z58, z59, z60, z61, z62, z63, z64, z65, z66, z67, z68, z69, z70, z71, z72, z73, z74, z75, z76], defers := [] } W
@[reducible] def TXG9 (W0 : World) (x : Sh) (l : List UInt8) (y : M.Shot) (n er E : Int) (TX : ByteArray) : Prop := ∀ (z0 z1 z2 z3 z4 z5 z6 z7 z8 z9 z10 z11 z12 z13 z14 z15 z16 z17 z18 z19 z20 z21 z22 z23 z24 z25 z26 z27 z28 z29 z30 z31 z32 z33 z34 z35 z36 z37 z38 z39 z40 z41 z42 z43 z44 z45 z46 z47 z48 z49 z50 z51 z52 z53 z54 z55 z56 z57 z58 z59 z60 z61 z62 z63 z64 z65 z66 z67 z68 z69 z70 z71 z72 z73 z74 z75 z76 : Value) (W : World), (EcB W0 x z2 z5 W ∧ z1 = .string ⟨l.toArray⟩ ∧ z6 = .string TX ∧ z7 = .int .i64 E ∧ EcP y z8 W ∧ z9 = .int .i64 n ∧ z10 = .int .i64 er ∧ z11 = .int .i64 E ∧ z12 = .string TX ∧ EcR y z13 W ∧ z14 = .int .i64 n ∧ z15 = .int .i64 er) → (txCode 9).wp Tryz.prog (bodyPost Tryz.prog Tryz.f5 (fun e w' => e = .returned (.bool true) ∧ Below W0.heap.size W0 w')) { tmps := #[z0, z1, z2, z3, z4, z5, z6, z7, z8, z9, z10, z11, z12, z13, z14, z15, z16, z17, z18, z19, z20, z21, z22, z23, z24, z25, z26, z27, z28, z29, z30, z31, z32, z33, z34, z35, z36, z37, z38, z39, z40, z41, z42, z43, z44, z45, z46, z47, z48, z49, z50, z51, z52, z53, z54, z55, z56, z57, z58, z59, z60, z61, z62, z63, z64, z65, z66, z67, z68, z69, z70, z71, z72, z73, z74, z75, z76], defers := [] } W
set_option maxRecDepth 100000 in
set_option maxHeartbeats 8000000 in
theorem tx_3 (W0 : World) (x : Sh) (l : List UInt8) (y : M.Shot) (n er E : Int) (TX : ByteArray) (HG : Hid (Glob W0)) (HL : Hid (l.length ≤ 300)) (HY : Hid (M.parse l = (y, n, er))) (HE : Hid (M.ckShot x.x = E)) (HT : Hid (TX = if E = 0 then ⟨(M.print x.x).toArray⟩ else ⟨#[]⟩))  (HN : Hid (TXG4 W0 x l y n er E TX)) : TXG3 W0 x l y n er E TX := by
  intro z0 z1 z2 z3 z4 z5 z6 z7 z8 z9 z10 z11 z12 z13 z14 z15 z16 z17 z18 z19 z20 z21 z22 z23 z24 z25 z26 z27 z28 z29 z30 z31 z32 z33 z34 z35 z36 z37 z38 z39 z40 z41 z42 z43 z44 z45 z46 z47 z48 z49 z50 z51 z52 z53 z54 z55 z56 z57 z58 z59 z60 z61 z62 z63 z64 z65 z66 z67 z68 z69 z70 z71 z72 z73 z74 z75 z76 W hf
  dsimp only [txCode, codeDrop, Tryz.f5, Option.getD]
  obtain ⟨hE, rfl⟩ := hf
  obtain ⟨rfl, hB2, hpx, hbw, hfit, B5, A5, c5, rfl, hB5, hp5⟩ := id hE
  have hcl := pprint_any _ x.x x.a x.c W hpx
  rw [HE.out, ← HT.out] at hcl
  have HCL := hide hcl
  clear hcl
  apply wp_seq_k
  intro K hK
  have HK := hide hK
  clear hK
  go_wp2_with (first | (refine is_load 66 (.tmp 2) rfl ?_; refine next_load (hB2) Tryz.underlying66 rfl shot_info rfl (.tmp 2) rfl rfl ?_) | (go_at_call 28; refine HCL.out.mono ?_; rintro e w1 ⟨rfl, hb1⟩; dsimp only))
  refine HK.out _ _ ?_
  apply HN.out
  exact ⟨hE.below hb1, rfl, rfl, rfl⟩
set_option maxRecDepth 100000 in
set_option maxHeartbeats 8000000 in
theorem tx_4 (W0 : World) (x : Sh) (l : List UInt8) (y : M.Shot) (n er E : Int) (TX : ByteArray) (HG : Hid (Glob W0)) (HL : Hid (l.length ≤ 300)) (HY : Hid (M.parse l = (y, n, er))) (HE : Hid (M.ckShot x.x = E)) (HT : Hid (TX = if E = 0 then ⟨(M.print x.x).toArray⟩ else ⟨#[]⟩))  (HN : Hid (TXG5 W0 x l y n er E TX)) : TXG4 W0 x l y n er E TX := by
  intro z0 z1 z2 z3 z4 z5 z6 z7 z8 z9 z10 z11 z12 z13 z14 z15 z16 z17 z18 z19 z20 z21 z22 z23 z24 z25 z26 z27 z28 z29 z30 z31 z32 z33 z34 z35 z36 z37 z38 z39 z40 z41 z42 z43 z44 z45 z46 z47 z48 z49 z50 z51 z52 z53 z54 z55 z56 z57 z58 z59 z60 z61 z62 z63 z64 z65 z66 z67 z68 z69 z70 z71 z72 z73 z74 z75 z76 W hf
  dsimp only [txCode, codeDrop, Tryz.f5, Option.getD]
  obtain ⟨hE, rfl, rfl, rfl⟩ := hf
  obtain ⟨rfl, hB2, hpx, hbw, hfit, B5, A5, c5, rfl, hB5, hp5⟩ := id hE
  have hcl := ec_parse l y n er HY.out W (HG.out.below hbw) (by have := HL.out; omega)
  have HCL := hide hcl
  clear hcl
  apply wp_seq_k
  intro K hK
  have HK := hide hK
  clear hK
  go_wp2_with (first | (go_at_call 29; refine (HCL.out).mono ?_; rintro e w1 ⟨A1, c1, rfl, hr1, hb1⟩; have hbx := Held.new w1 zSh 66; dsimp only) | (refine is_store 66 (.tmp 8) (.tmp 35) rfl ?_; refine next_store hbx (shCells ⟨y, A1, c1⟩) rfl shot_info (sh_one y A1 c1) rfl (.tmp 8) (.tmp 35) rfl rfl rfl ?_))
  obtain ⟨hP, hb2⟩ := EcP.new hr1 hbx
  have hbb := hb1.trans (hb2.mono hb1.size)
  refine HK.out _ _ ?_
  apply HN.out
  exact ⟨hE.below hbb, rfl, rfl, rfl, hP, rfl, rfl⟩
set_option maxRecDepth 100000 in
set_option maxHeartbeats 8000000 in
theorem tx_5 (W0 : World) (x : Sh) (l : List UInt8) (y : M.Shot) (n er E : Int) (TX : ByteArray) (HG : Hid (Glob W0)) (HL : Hid (l.length ≤ 300)) (HY : Hid (M.parse l = (y, n, er))) (HE : Hid (M.ckShot x.x = E)) (HT : Hid (TX = if E = 0 then ⟨(M.print x.x).toArray⟩ else ⟨#[]⟩))  (HN : Hid (TXG6 W0 x l y n er E TX)) : TXG5 W0 x l y n er E TX := by
  intro z0 z1 z2 z3 z4 z5 z6 z7 z8 z9 z10 z11 z12 z13 z14 z15 z16 z17 z18 z19 z20 z21 z22 z23 z24 z25 z26 z27 z28 z29 z30 z31 z32 z33 z34 z35 z36 z37 z38 z39 z40 z41 z42 z43 z44 z45 z46 z47 z48 z49 z50 z51 z52 z53 z54 z55 z56 z57 z58 z59 z60 z61 z62 z63 z64 z65 z66 z67 z68 z69 z70 z71 z72 z73 z74 z75 z76 W hf
  dsimp only [txCode, codeDrop, Tryz.f5, Option.getD]
  obtain ⟨hE, rfl, rfl, rfl, hP, rfl, rfl⟩ := hf
  obtain ⟨rfl, hB2, hpx, hbw, hfit, B5, A5, c5, rfl, hB5, hp5⟩ := id hE
  have hcl := refCkShot_any _ x.x A5 c5 W hp5
  rw [HE.out] at hcl
  have HCL := hide hcl
  clear hcl
  apply wp_seq_k
  intro K hK
  have HK := hide hK
  clear hK
  go_wp2_with (first | (refine is_load 69 (.tmp 5) rfl ?_; refine next_load (hB5) Tryz.underlying69 rfl rshot_info rfl (.tmp 5) rfl rfl ?_) | (go_at_call 30; refine HCL.out.mono ?_; rintro e w1 ⟨rfl, hb1⟩; dsimp only))
  refine HK.out _ _ ?_
  apply HN.out
  exact ⟨hE.below hb1, rfl, rfl, rfl, hP.below hb1, rfl, rfl, rfl⟩
set_option maxRecDepth 100000 in
set_option maxHeartbeats 8000000 in
theorem tx_6 (W0 : World) (x : Sh) (l : List UInt8) (y : M.Shot) (n er E : Int) (TX : ByteArray) (HG : Hid (Glob W0)) (HL : Hid (l.length ≤ 300)) (HY : Hid (M.parse l = (y, n, er))) (HE : Hid (M.ckShot x.x = E)) (HT : Hid (TX = if E = 0 then ⟨(M.print x.x).toArray⟩ else ⟨#[]⟩))  (HN : Hid (TXG8 W0 x l y n er E TX)) : TXG6 W0 x l y n er E TX := by
  intro z0 z1 z2 z3 z4 z5 z6 z7 z8 z9 z10 z11 z12 z13 z14 z15 z16 z17 z18 z19 z20 z21 z22 z23 z24 z25 z26 z27 z28 z29 z30 z31 z32 z33 z34 z35 z36 z37 z38 z39 z40 z41 z42 z43 z44 z45 z46 z47 z48 z49 z50 z51 z52 z53 z54 z55 z56 z57 z58 z59 z60 z61 z62 z63 z64 z65 z66 z67 z68 z69 z70 z71 z72 z73 z74 z75 z76 W hf
  dsimp only [txCode, codeDrop, Tryz.f5, Option.getD]
  obtain ⟨hE, rfl, rfl, rfl, hP, rfl, rfl, rfl⟩ := hf
  obtain ⟨rfl, hB2, hpx, hbw, hfit, B5, A5, c5, rfl, hB5, hp5⟩ := id hE
  apply wp_seq_k
  intro K hK
  have HK := hide hK
  clear hK
  go_wp2
  refine HK.out _ _ ?_
  apply wp_seq_k
  intro K1 hK1
  have HK1 := hide hK1
  clear hK1
  apply wp_seq_k
  intro K2 hK2
  have HK2 := hide hK2
  clear hK2
  have ht := HT.out
  by_cases h0 : E = 0
  · have hb0 : (E == 0) = true := by simpa using h0
    have hok := M.shotOk (HE.out.trans h0)
    have hcl := refPrint_any _ x.x A5 c5 W hp5 hok
    rw [if_pos h0] at ht
    rw [← ht] at hcl
    have HCL := hide hcl
    clear hcl ht h0 hok
    go_wp2
    refine HK2.out _ _ ?_
    go_wp2_with (first | (refine is_load 69 (.tmp 5) rfl ?_; refine next_load (hB5) Tryz.underlying69 rfl rshot_info rfl (.tmp 5) rfl rfl ?_) | (go_at_call 31; refine HCL.out.mono ?_; rintro e w1 ⟨rfl, hb1⟩; dsimp only))
    refine HK1.out _ _ ?_
    apply HN.out
    exact ⟨hE.below hb1, rfl, rfl, rfl, hP.below hb1, rfl, rfl, rfl, rfl⟩
  · have hb0 : (E == 0) = false := by simpa using h0
    rw [if_neg h0] at ht
    have HTT := hide ht
    clear h0 ht
    go_wp2
    refine HK2.out _ _ ?_
    go_wp2
    refine HK1.out _ _ ?_
    apply HN.out
    exact ⟨hE, rfl, rfl, rfl, hP, rfl, rfl, rfl, by rw [HTT.out]⟩
set_option maxRecDepth 100000 in
set_option maxHeartbeats 8000000 in
theorem tx_8 (W0 : World) (x : Sh) (l : List UInt8) (y : M.Shot) (n er E : Int) (TX : ByteArray) (HG : Hid (Glob W0)) (HL : Hid (l.length ≤ 300)) (HY : Hid (M.parse l = (y, n, er))) (HE : Hid (M.ckShot x.x = E)) (HT : Hid (TX = if E = 0 then ⟨(M.print x.x).toArray⟩ else ⟨#[]⟩))  (HN : Hid (TXG9 W0 x l y n er E TX)) : TXG8 W0 x l y n er E TX := by
  intro z0 z1 z2 z3 z4 z5 z6 z7 z8 z9 z10 z11 z12 z13 z14 z15 z16 z17 z18 z19 z20 z21 z22 z23 z24 z25 z26 z27 z28 z29 z30 z31 z32 z33 z34 z35 z36 z37 z38 z39 z40 z41 z42 z43 z44 z45 z46 z47 z48 z49 z50 z51 z52 z53 z54 z55 z56 z57 z58 z59 z60 z61 z62 z63 z64 z65 z66 z67 z68 z69 z70 z71 z72 z73 z74 z75 z76 W hf
  dsimp only [txCode, codeDrop, Tryz.f5, Option.getD]
  obtain ⟨hE, rfl, rfl, rfl, hP, rfl, rfl, rfl, rfl⟩ := hf
  obtain ⟨rfl, hB2, hpx, hbw, hfit, B5, A5, c5, rfl, hB5, hp5⟩ := id hE
  have hcl := tx_rparse l y n er HY.out W (by have := HL.out; omega)
  have HCL := hide hcl
  clear hcl
  apply wp_seq_k
  intro K hK
  have HK := hide hK
  clear hK
  go_wp2_with (first | (go_at_call 32; refine (HCL.out).mono ?_; rintro e w1 ⟨A1, c1, rfl, hr1, hb1⟩; have hbx := Held.new w1 zSh 69; dsimp only) | (refine is_store 69 (.tmp 13) (.tmp 47) rfl ?_; refine next_store hbx (shCells ⟨y, A1, c1⟩) rfl rshot_info (sh_one y A1 c1) rfl (.tmp 13) (.tmp 47) rfl rfl rfl ?_))
  obtain ⟨hR, hb2⟩ := EcR.new hr1 hbx
  have hbb := hb1.trans (hb2.mono hb1.size)
  refine HK.out _ _ ?_
  apply HN.out
  exact ⟨hE.below hbb, rfl, rfl, rfl, hP.below hbb, rfl, rfl, rfl, rfl, hR, rfl, rfl⟩
set_option maxRecDepth 100000 in
set_option maxHeartbeats 8000000 in
theorem tx_9 (W0 : World) (x : Sh) (l : List UInt8) (y : M.Shot) (n er E : Int) (TX : ByteArray) (HG : Hid (Glob W0)) (HL : Hid (l.length ≤ 300)) (HY : Hid (M.parse l = (y, n, er))) (HE : Hid (M.ckShot x.x = E)) (HT : Hid (TX = if E = 0 then ⟨(M.print x.x).toArray⟩ else ⟨#[]⟩))   : TXG9 W0 x l y n er E TX := by
  intro z0 z1 z2 z3 z4 z5 z6 z7 z8 z9 z10 z11 z12 z13 z14 z15 z16 z17 z18 z19 z20 z21 z22 z23 z24 z25 z26 z27 z28 z29 z30 z31 z32 z33 z34 z35 z36 z37 z38 z39 z40 z41 z42 z43 z44 z45 z46 z47 z48 z49 z50 z51 z52 z53 z54 z55 z56 z57 z58 z59 z60 z61 z62 z63 z64 z65 z66 z67 z68 z69 z70 z71 z72 z73 z74 z75 z76 W hf
  dsimp only [txCode, codeDrop, Tryz.f5, Option.getD]
  obtain ⟨hE, rfl, rfl, rfl, hP, rfl, rfl, rfl, rfl, hR, rfl, rfl⟩ := hf
  obtain ⟨rfl, hB2, hpx, hbw, hfit, B5, A5, c5, rfl, hB5, hp5⟩ := id hE
  obtain ⟨B8, A8, c8, rfl, hB8, hp8⟩ := hP
  obtain ⟨B13, A13, c13, rfl, hB13, hp13⟩ := hR
  have hsh : shotEq y y = true := shotEq_iff.2 rfl
  have hfew : y.pots.length ≤ 16 := by have := M.parse_few l; rw [HY.out] at this; exact this
  have HGW := hide (HG.out.below hbw)
  have HBW := hide hbw
  have hr8 : ∀ W', (fun w' : World => Below W.heap.size W w') W' → W'.rangeAt B8 0 (shCells ⟨y, A8, c8⟩) := fun W' h => (hB8.below h).range
  have hr5 : ∀ W', (fun w' : World => Below W.heap.size W w') W' → W'.rangeAt B13 0 (shCells ⟨y, A13, c13⟩) := fun W' h => (hB13.below h).range
  apply wp_seq_k
  intro K hK
  have HK := hide hK
  clear hK
  refine wp_region_held_drew (S := (fun w' : World => Below W.heap.size W w')) (by kernel_rfl) ?q1xstart (fun hHeld => ?_)
  case q1xstart => exact (Below.refl _ _).drew
  refine wpAnyH_take (i := 0) (oi := _) (v := ?q1xv0) (ga rfl) (by kernel_rfl) (by kernel_rfl) (by kernel_rfl) (fun _ _ _ h => h) (Or.inl ⟨by rfl, ?q1xy0⟩) (by assumption) ?_
  case q1xy0 => (intro w hSw; (try dsimp only at hSw); go_simp; try with_reducible rfl)
  try simp only [Act.put, la, lz, ls]
  refine wpAnyH_take (i := 1) (oi := _) (v := ?q1xv1) (ga rfl) (by kernel_rfl) (by kernel_rfl) (by kernel_rfl) (fun _ _ _ h => h) (Or.inl ⟨by rfl, ?q1xy1⟩) (by assumption) ?_
  case q1xy1 => (intro w hSw; (try dsimp only at hSw); go_simp; try with_reducible rfl)
  try simp only [Act.put, la, lz, ls]
  refine wpAnyH_take (i := 2) (oi := _) (v := ?q1xv2) (ga rfl) (by kernel_rfl) (by kernel_rfl) (by kernel_rfl) (fun _ _ _ h => h) (Or.inl ⟨by rfl, ?q1xy2⟩) (by assumption) ?_
  case q1xy2 => (intro w hSw; (try dsimp only at hSw); go_simp; try with_reducible rfl)
  try simp only [Act.put, la, lz, ls]
  refine wpAnyH_take (i := 3) (oi := _) (v := ?q1xv3) (ga rfl) (by kernel_rfl) (by kernel_rfl) (by kernel_rfl) (fun _ _ _ h => h) (Or.inl ⟨by rfl, ?q1xy3⟩) (by assumption) ?_
  case q1xy3 => (intro w hSw; (try dsimp only at hSw); go_simp; try with_reducible rfl)
  try simp only [Act.put, la, lz, ls]
  refine wpAnyH_take (i := 4) (oi := _) (v := ?q1xv4) (ga rfl) (by kernel_rfl) (by kernel_rfl) (by kernel_rfl) (fun _ _ _ h => h) (Or.inl ⟨by rfl, ?q1xy4⟩) (by assumption) ?_
  case q1xy4 => (intro w hSw; (try dsimp only at hSw); go_simp; try with_reducible rfl)
  try simp only [Act.put, la, lz, ls]
  refine wpAnyH_take (i := 5) (oi := _) (v := ?q1xv5) (ga rfl) (by kernel_rfl) (by kernel_rfl) (by kernel_rfl) (fun _ _ _ h => h) (Or.inl ⟨by rfl, ?q1xy5⟩) (by assumption) ?_
  case q1xy5 => (intro w hSw; (try dsimp only at hSw); go_simp; try with_reducible rfl)
  try simp only [Act.put, la, lz, ls]
  refine wpAnyH_take (i := 6) (oi := _) (v := ?q1xv6) (ga rfl) (by kernel_rfl) (by kernel_rfl) (by kernel_rfl) (fun _ _ _ h => h) (Or.inl ⟨by rfl, ?q1xy6⟩) (by assumption) ?_
  case q1xy6 => (intro w hSw; (try dsimp only at hSw); go_simp; try with_reducible rfl)
  try simp only [Act.put, la, lz, ls]
  refine wpAnyH_take (i := 7) (oi := _) (v := ?q1xv7) (ga rfl) (by kernel_rfl) (by kernel_rfl) (by kernel_rfl) (fun _ _ _ h => h) (Or.inl ⟨by rfl, ?q1xy7⟩) (by assumption) ?_
  case q1xy7 => (intro w hSw; (try dsimp only at hSw); go_simp; try with_reducible rfl)
  try simp only [Act.put, la, lz, ls]
  refine wpAnyH_take (i := 8) (oi := _) (v := ?q1xv8) (ga rfl) (by kernel_rfl) (by kernel_rfl) (by kernel_rfl) (fun _ _ _ h => h) (Or.inl ⟨by rfl, ?q1xy8⟩) (by assumption) ?_
  case q1xy8 => (intro w hSw; (try dsimp only at hSw); go_simp; try with_reducible rfl)
  try simp only [Act.put, la, lz, ls]
  refine wpAnyH_take (i := 9) (oi := _) (v := ?q1xv9) (ga rfl) (by kernel_rfl) (by kernel_rfl) (by kernel_rfl) (fun _ _ _ h => h) (Or.inl ⟨by rfl, ?q1xy9⟩) (by assumption) ?_
  case q1xy9 => (intro w hSw; (try dsimp only at hSw); go_simp; try with_reducible rfl)
  try simp only [Act.put, la, lz, ls]
  refine wpAnyH_take (i := 10) (oi := _) (v := ?q1xv10) (ga rfl) (by kernel_rfl) (by kernel_rfl) (by kernel_rfl) (fun _ _ _ h => h) (Or.inl ⟨by rfl, ?q1xy10⟩) (by assumption) ?_
  case q1xy10 => (intro w hSw; (try dsimp only at hSw); go_simp; try with_reducible rfl)
  try simp only [Act.put, la, lz, ls]
  refine wpAnyH_take (i := 11) (oi := _) (v := ?q1xv11) (ga rfl) (by kernel_rfl) (by kernel_rfl) (by kernel_rfl) (fun _ _ _ h => h) (Or.inl ⟨by rfl, ?q1xy11⟩) (by assumption) ?_
  case q1xy11 => (intro w hSw; (try dsimp only at hSw); go_simp; try with_reducible rfl)
  try simp only [Act.put, la, lz, ls]
  refine wpAnyH_take (i := 12) (oi := _) (v := ?q1xv12) (ga rfl) (by kernel_rfl) (by kernel_rfl) (by kernel_rfl) (fun _ _ _ h => h) (Or.inl ⟨by rfl, ?q1xy12⟩) (by assumption) ?_
  case q1xy12 => (intro w hSw; (try dsimp only at hSw); go_simp; try with_reducible rfl)
  try simp only [Act.put, la, lz, ls]
  refine wpAnyH_take (i := 13) (oi := _) (v := ?q1xv13) (ga rfl) (by kernel_rfl) (by kernel_rfl) (by kernel_rfl) (fun _ _ _ h => h) (Or.inl ⟨by rfl, ?q1xy13⟩) (by assumption) ?_
  case q1xy13 => (intro w hSw; (try dsimp only at hSw); go_simp; try with_reducible rfl)
  try simp only [Act.put, la, lz, ls]
  refine wpAnyH_take (i := 14) (oi := _) (v := ?q1xv14) (ga rfl) (by kernel_rfl) (by kernel_rfl) (by kernel_rfl) (fun _ _ _ h => h) (Or.inl ⟨by rfl, ?q1xy14⟩) (by assumption) ?_
  case q1xy14 => (intro w hSw; (try dsimp only at hSw); go_simp; try with_reducible rfl)
  try simp only [Act.put, la, lz, ls]
  refine wpAnyH_take (i := 15) (oi := _) (v := ?q1xv15) (ga rfl) (by kernel_rfl) (by kernel_rfl) (by kernel_rfl) (fun _ _ _ h => h) (Or.inl ⟨by rfl, ?q1xy15⟩) (by assumption) ?_
  case q1xy15 => (intro w hSw; (try dsimp only at hSw); go_simp; try with_reducible rfl)
  try simp only [Act.put, la, lz, ls]
  refine wpAnyH_take (i := 16) (oi := _) (v := ?q1xv16) (ga rfl) (by kernel_rfl) (by kernel_rfl) (by kernel_rfl) (fun _ _ _ h => h) (Or.inl ⟨by rfl, ?q1xy16⟩) (by assumption) ?_
  case q1xy16 => (intro w hSw; (try dsimp only at hSw); go_simp; try with_reducible rfl)
  try simp only [Act.put, la, lz, ls]
  refine wpAnyH_take (i := 17) (oi := _) (v := ?q1xv17) (ga rfl) (by kernel_rfl) (by kernel_rfl) (by kernel_rfl) (fun _ _ _ h => h) (Or.inl ⟨by rfl, ?q1xy17⟩) (by assumption) ?_
  case q1xy17 => (intro w hSw; (try dsimp only at hSw); go_simp; try with_reducible rfl)
  try simp only [Act.put, la, lz, ls]
  refine wpAnyH_take (i := 18) (oi := _) (v := ?q1xv18) (ga rfl) (by kernel_rfl) (by kernel_rfl) (by kernel_rfl) (fun _ _ _ h => h) (Or.inl ⟨by rfl, ?q1xy18⟩) (by assumption) ?_
  case q1xy18 => (intro w hSw; (try dsimp only at hSw); go_simp; try with_reducible rfl)
  try simp only [Act.put, la, lz, ls]
  refine wpAnyH_take (i := 19) (oi := _) (v := _) (ga rfl) (by kernel_rfl) (by kernel_rfl) (by kernel_rfl) (fun _ _ _ h => h) (yieldsIf_load_mid (by rfl) _ _ (by rfl) _ _ (by rfl) _ _ hr8 Tryz.underlying66 rfl (by kernel_rfl)) (by assumption) ?_
  try simp only [Act.put, la, lz, ls]
  refine wpAnyH_take (i := 21) (oi := _) (v := _) (ga rfl) (by kernel_rfl) (by kernel_rfl) (by kernel_rfl) (fun _ _ _ h => h) (yieldsIf_load_mid (by rfl) _ _ (by rfl) _ _ (by rfl) _ _ hr5 Tryz.underlying69 rfl (by kernel_rfl)) (by assumption) ?_
  try simp only [Act.put, la, lz, ls]
  refine wpAnyH_ready (rs := [20]) (by kernel_rfl) (by simp) ?_
  refine AllReadyH.cons (o := _) (ga rfl) (fun K hK => ?_) AllReadyH.nil
  go_simp
  first | (go_at_call 26; refine (lawOwn_any _ y A8 c8 _ (Reads.below hp8 hHeld) (by omega)).mono ?_; rintro e w6 ⟨A6, c6, rfl, hr6, hb6⟩) | (go_at_call 33; refine (sameShot_any _ _ y y A6 A13 c6 c13 _ hr6 (Reads.below hp13 hHeld)).mono ?_; rw [hsh]; rintro e w7 ⟨rfl, hb7⟩) | (go_at_call 17; refine (awake_any _ (HGW.out.below hHeld)).mono ?_; rintro e w9 ⟨rfl, hb9⟩)
  refine hK.out _ _ ?q1xh20 (fun hHeld => ?_)
  case q1xh20 => (exact hHeld.trans (hb6.mono hHeld.size))
  clear hK K
  try simp only [Act.put, la, lz, ls]
  refine wpAnyH_ready (rs := [22]) (by kernel_rfl) (by simp) ?_
  refine AllReadyH.cons (o := _) (ga rfl) (fun K hK => ?_) AllReadyH.nil
  go_simp
  first | (go_at_call 26; refine (lawOwn_any _ y A8 c8 _ (Reads.below hp8 hHeld) (by omega)).mono ?_; rintro e w6 ⟨A6, c6, rfl, hr6, hb6⟩) | (go_at_call 33; refine (sameShot_any _ _ y y A6 A13 c6 c13 _ hr6 (Reads.below hp13 hHeld)).mono ?_; rw [hsh]; rintro e w7 ⟨rfl, hb7⟩) | (go_at_call 17; refine (awake_any _ (HGW.out.below hHeld)).mono ?_; rintro e w9 ⟨rfl, hb9⟩)
  refine hK.out _ _ ?q1xh22 (fun hHeld => ?_)
  case q1xh22 => (exact hHeld.trans (hb7.mono hHeld.size))
  clear hK K
  try simp only [Act.put, la, lz, ls]
  refine wpAnyH_take (i := 23) (oi := _) (v := ?q1xv23) (ga rfl) (by kernel_rfl) (by kernel_rfl) (by kernel_rfl) (fun _ _ _ h => h) (Or.inl ⟨by rfl, ?q1xy23⟩) (by assumption) ?_
  case q1xy23 => (intro w hSw; (try dsimp only at hSw); go_simp; try with_reducible rfl)
  try simp only [Act.put, la, lz, ls]
  refine wpAnyH_take (i := 24) (oi := _) (v := ?q1xv24) (ga rfl) (by kernel_rfl) (by kernel_rfl) (by kernel_rfl) (fun _ _ _ h => h) (Or.inl ⟨by rfl, ?q1xy24⟩) (by assumption) ?_
  case q1xy24 => (intro w hSw; (try dsimp only at hSw); go_simp; try with_reducible rfl)
  try simp only [Act.put, la, lz, ls]
  refine wpAnyH_ready (rs := [25]) (by kernel_rfl) (by simp) ?_
  refine AllReadyH.cons (o := _) (ga rfl) (fun K hK => ?_) AllReadyH.nil
  go_simp
  first | (go_at_call 26; refine (lawOwn_any _ y A8 c8 _ (Reads.below hp8 hHeld) (by omega)).mono ?_; rintro e w6 ⟨A6, c6, rfl, hr6, hb6⟩) | (go_at_call 33; refine (sameShot_any _ _ y y A6 A13 c6 c13 _ hr6 (Reads.below hp13 hHeld)).mono ?_; rw [hsh]; rintro e w7 ⟨rfl, hb7⟩) | (go_at_call 17; refine (awake_any _ (HGW.out.below hHeld)).mono ?_; rintro e w9 ⟨rfl, hb9⟩)
  refine hK.out _ _ ?q1xh25 (fun hHeld => ?_)
  case q1xh25 => (exact hHeld.trans (hb9.mono hHeld.size))
  clear hK K
  try simp only [Act.put, la, lz, ls]
  refine wpAnyH_take (i := 26) (oi := _) (v := ?q1xv26) (ga rfl) (by kernel_rfl) (by kernel_rfl) (by kernel_rfl) (fun _ _ _ h => h) (Or.inl ⟨by rfl, ?q1xy26⟩) (by assumption) ?_
  case q1xy26 => (intro w hSw; (try dsimp only at hSw); go_simp; try with_reducible rfl)
  try simp only [Act.put, la, lz, ls]
  refine wpAnyH_take (i := 27) (oi := _) (v := ?q1xv27) (ga rfl) (by kernel_rfl) (by kernel_rfl) (by kernel_rfl) (fun _ _ _ h => h) (Or.inl ⟨by rfl, ?q1xy27⟩) (by assumption) ?_
  case q1xy27 => (intro w hSw; (try dsimp only at hSw); go_simp; try with_reducible rfl)
  try simp only [Act.put, la, lz, ls]
  refine wpAnyH_done (by kernel_rfl) ?_ _
  refine HK.out _ _ ?_
  go_wp2
  go_ret
  exact ⟨rfl, bnext HBW.out hHeld⟩
set_option maxRecDepth 100000 in
set_option maxHeartbeats 8000000 in
theorem texts_any (W0 : World) (hg : Glob W0) (x : Sh) (l : List UInt8) (hf : ShFit W0 x) :
    Calls Tryz.prog 5 #[shotV x.x x.a x.c, .string ⟨l.toArray⟩] W0 fun e w' => e = .returned (.bool true) ∧ Below W0.heap.size W0 w' := by
  obtain ⟨hp, hfit⟩ := hf
  have HG := hide hg
  have hsz := ba_size l
  obtain ⟨⟨y, n, er⟩, hy⟩ : ∃ q, M.parse l = q := ⟨_, rfl⟩
  obtain ⟨E, hE⟩ : ∃ q, M.ckShot x.x = q := ⟨_, rfl⟩
  obtain ⟨TX, hT⟩ : ∃ q : ByteArray, q = if E = 0 then ⟨(M.print x.x).toArray⟩ else ⟨#[]⟩ := ⟨_, rfl⟩
  have hall := fun (h2 : l.length ≤ 300) => let HL := hide h2; let HY := hide hy; let HE := hide hE; let HT := hide hT; tx_3 W0 x l y n er E TX HG HL HY HE HT (hide (tx_4 W0 x l y n er E TX HG HL HY HE HT (hide (tx_5 W0 x l y n er E TX HG HL HY HE HT (hide (tx_6 W0 x l y n er E TX HG HL HY HE HT (hide (tx_8 W0 x l y n er E TX HG HL HY HE HT (hide (tx_9 W0 x l y n er E TX HG HL HY HE HT))))))))))
  have HALL := hide hall
  clear hall hy hE hT
  go_enter Tryz.func5, Tryz.ntmps5
  have hB := Held.new W0 (shCells x) 66
  have hpa := Reads.alloc hp (.cells (shCells x).toArray 66)
  go_upto_region 2 with (first | (refine is_load 66 (.tmp 2) rfl ?_; refine next_load (hB) Tryz.underlying66 rfl shot_info rfl (.tmp 2) rfl rfl ?_) | (go_at_call 26; refine (lawOwn_any _ x.x x.a x.c _ hpa hfit).mono ?_; rintro e w1 ⟨A5, c5, rfl, hr5, hb1⟩; have hbx := Held.new w1 zSh 69; dsimp only) | (refine is_store 69 (.tmp 5) (.tmp 17) rfl ?_; refine next_store hbx (shCells ⟨x.x, A5, c5⟩) rfl rshot_info (sh_one x.x A5 c5) rfl (.tmp 5) (.tmp 17) rfl rfl rfl ?_))
  have hb2 : Below w1.heap.size w1 ((w1.alloc (.cells zSh.toArray 69)).setCells w1.heap.size 0 (shCells ⟨x.x, A5, c5⟩)) := below_setCells _ (Nat.le_refl _) _ _ _ _ ((Below.refl _ _).alloc (Nat.le_refl _) _)
  have hBx := hbx.whole (shCells ⟨x.x, A5, c5⟩) rfl
  have hr5' := Reads.more (Reads.below hr5 hb2) (S' := fun _ => True) (fun _ _ _ => trivial)
  have hbw : Below W0.heap.size W0 ((w1.alloc (.cells zSh.toArray 69)).setCells w1.heap.size 0 (shCells ⟨x.x, A5, c5⟩)) := bnext (bnext ((Below.refl _ W0).alloc (Nat.le_refl _) (.cells (shCells x).toArray 66)) hb1) hb2
  have hB' := (hB.below hb1).below hb2
  obtain ⟨W2, hW2⟩ : ∃ W2, (w1.alloc (.cells zSh.toArray 69)).setCells w1.heap.size 0 (shCells ⟨x.x, A5, c5⟩) = W2 := ⟨_, rfl⟩
  have hW2' : (w1.alloc (.cells #[.int .i64 0, .string ⟨#[]⟩, .int .i64 0, .int .i64 0, .int .i64 0, .bool false, .slice none 0 0] 69)).setCells w1.heap.size 0 (shCells ⟨x.x, A5, c5⟩) = W2 := hW2
  obtain ⟨B, hBq⟩ : ∃ B, w1.heap.size = B := ⟨_, rfl⟩
  rw [hW2] at hBx hr5' hbw hB'
  rw [hW2', hBq]
  rw [hBq] at hBx
  have HG2 := hide (HG.out.below hbw)
  have hEc : EcB W0 x (ptr W0.heap.size) (ptr B) W2 := ⟨rfl, hB', Reads.more (Reads.below hp hbw) (fun _ _ _ => trivial), hbw, hfit, B, A5, c5, rfl, hBx, hr5'⟩
  have hbd := (RdP.bd hp).2.2
  clear hW2 hW2' hBq hb2 hbx hr5 hb1 hB hpa hB'
  rename_i K hK K2 hK2
  have HK := hide hK
  have HK2 := hide hK2
  clear hK hK2
  by_cases hsh : x.x.kind.size ≤ 60 ∧ x.x.pots.length ≤ 18
  · have hsd : decide (x.x.kind.size ≤ 60 ∧ x.x.pots.length ≤ 18) = true := decide_eq_true hsh
    by_cases h3 : 300 < l.length
    · go_wp2_with (first | (refine is_load 69 (.tmp 5) rfl ?_; refine next_load (hBx) Tryz.underlying69 rfl rshot_info rfl (.tmp 5) rfl rfl ?_) | (refine is_load 69 (.tmp 5) rfl ?_; refine next_load_g (hBx) Tryz.underlying69 rfl rshot_info rfl (.tmp 5) rfl rfl ?_) | (refine is_load_w 69 (.tmp 5) rfl ?_; refine next_load_w (hBx) Tryz.underlying69 rfl rshot_info (.tmp 5) rfl rfl ?_) | (go_at_call 27; refine (shortShot_any x.x A5 c5 _ (by omega)).mono ?_; rw [hsd]; rintro e w3 ⟨rfl, hb3⟩; have HG9 := hide (HG2.out.below hb3); dsimp only))
      refine HK2.out _ _ ?_
      go_wp2_with (first | (go_at_call 17; refine (awake_any _ HG9.out).mono ?_; rintro e w9 ⟨rfl, hb9⟩; dsimp only))
      go_ret
      exact ⟨rfl, bnext (bnext hbw hb3) hb9⟩
    · have h3' : ¬ (300 : Int) < (l.length : Int) := by omega
      have HH := hide h3
      clear h3
      go_wp2_with (first | (refine is_load 69 (.tmp 5) rfl ?_; refine next_load (hBx) Tryz.underlying69 rfl rshot_info rfl (.tmp 5) rfl rfl ?_) | (refine is_load 69 (.tmp 5) rfl ?_; refine next_load_g (hBx) Tryz.underlying69 rfl rshot_info rfl (.tmp 5) rfl rfl ?_) | (refine is_load_w 69 (.tmp 5) rfl ?_; refine next_load_w (hBx) Tryz.underlying69 rfl rshot_info (.tmp 5) rfl rfl ?_) | (go_at_call 27; refine (shortShot_any x.x A5 c5 _ (by omega)).mono ?_; rw [hsd]; rintro e w3 ⟨rfl, hb3⟩; have HG9 := hide (HG2.out.below hb3); dsimp only))
      have hEc4 := hEc.below hb3
      refine HK2.out _ _ ?_
      go_wp2
      refine HK.out _ _ ?_
      have HA := HALL.out (by have := HH.out; omega)
      apply HA
      exact ⟨hEc4, rfl⟩
  · have hsd : decide (x.x.kind.size ≤ 60 ∧ x.x.pots.length ≤ 18) = false := decide_eq_false hsh
    clear hsh
    go_wp2_with (first | (refine is_load 69 (.tmp 5) rfl ?_; refine next_load (hBx) Tryz.underlying69 rfl rshot_info rfl (.tmp 5) rfl rfl ?_) | (refine is_load 69 (.tmp 5) rfl ?_; refine next_load_g (hBx) Tryz.underlying69 rfl rshot_info rfl (.tmp 5) rfl rfl ?_) | (refine is_load_w 69 (.tmp 5) rfl ?_; refine next_load_w (hBx) Tryz.underlying69 rfl rshot_info (.tmp 5) rfl rfl ?_) | (go_at_call 27; refine (shortShot_any x.x A5 c5 _ (by omega)).mono ?_; rw [hsd]; rintro e w3 ⟨rfl, hb3⟩; have HG9 := hide (HG2.out.below hb3); dsimp only))
    refine HK2.out _ _ ?_
    go_wp2_with (first | (go_at_call 17; refine (awake_any _ HG9.out).mono ?_; rintro e w9 ⟨rfl, hb9⟩; dsimp only))
    go_ret
    exact ⟨rfl, bnext (bnext hbw hb3) hb9⟩
end Go.Proofs.YtelpepbpdojikaaGreatDoor
