/- Parts of the proofs about chapter 5 (pool), joined by program. -/
import Derived.Test.YtelpepbpdojikaaGreatDoorKe14
import Derived.Test.YtelpepbpdojikaaGreatDoorKe31
import Derived.Test.YtelpepbpdojikaaGreatDoorKe32
import Derived.Test.YtelpepbpdojikaaGreatDoorKe48
set_option linter.unusedVariables false
set_option linter.unusedSimpArgs false
namespace Go.Proofs.YtelpepbpdojikaaGreatDoor
open Go.RowKit
noncomputable def ecCode (n : Nat) : Code := codeDrop n ((Tryz.f7).body.getD .skip)
@[reducible] def ECG3 (W0 : World) (x : Sh) (l : List UInt8) : Prop := ∀ (z0 z1 z2 z3 z4 z5 z6 z7 z8 z9 z10 z11 z12 z13 z14 z15 z16 z17 z18 z19 z20 z21 z22 z23 z24 z25 z26 z27 z28 z29 z30 z31 z32 z33 z34 z35 z36 z37 z38 z39 z40 z41 z42 z43 z44 z45 z46 z47 z48 z49 z50 z51 z52 z53 z54 z55 z56 z57 z58 z59 z60 z61 z62 z63 z64 z65 z66 z67 z68 z69 z70 z71 z72 z73 z74 z75 z76 z77 z78 z79 z80 z81 z82 z83 z84 z85 z86 z87 z88 z89 z90 z91 z92 z93 z94 z95 z96 z97 z98 z99 z100 z101 z102 z103 z104 z105 z106 z107 z108 z109 z110 z111 z112 z113 z114 z115 z116 z117 z118 z119 z120 z121 z122 z123 z124 z125 : Value) (W : World), (EcB W0 x z2 z5 W ∧ z1 = .string ⟨l.toArray⟩) → (ecCode 3).wp Tryz.prog (bodyPost Tryz.prog Tryz.f7 (fun e w' => e = .returned (.bool true) ∧ Below W0.heap.size W0 w')) { tmps := #[z0, z1, z2, z3, z4, z5, z6, z7, z8, z9, z10, z11, z12, z13, z14, z15, z16, z17, z18, z19, z20, z21, z22, z23, z24, z25, z26, z27, z28, z29, z30, z31, z32, z33, z34, z35, z36, z37, z38, z39, z40, z41, z42, z43, z44, z45, z46, z47, z48, z49, z50, z51, z52, z53, z54, z55, z56, z57, z58, z59, z60, z61, z62, z63, z64, z65, z66, z67, z68, z69, z70, z71, z72, z73, z74, z75, z76, z77, z78, z79, z80, z81, z82, z83, z84, z85, z86, z87, z88, z89, z90, z91, z92, z93, z94, z95, z96, z97, z98, z99, z100, z101, z102, z103, z104, z105, z106, z107, z108, z109, z110, z111, z112, z113, z114, z115, z116, z117, z118, z119, z120, z121, z122, z123, z124, z125], defers := [] } W
@[reducible] def ECG4 (W0 : World) (x : Sh) (l : List UInt8) : Prop := ∀ (z0 z1 z2 z3 z4 z5 z6 z7 z8 z9 z10 z11 z12 z13 z14 z15 z16 z17 z18 z19 z20 z21 z22 z23 z24 z25 z26 z27 z28 z29 z30 z31 z32 z33 z34 z35 z36 z37 z38 z39 z40 z41 z42 z43 z44 z45 z46 z47 z48 z49 z50 z51 z52 z53 z54 z55 z56 z57 z58 z59 z60 z61 z62 z63 z64 z65 z66 z67 z68 z69 z70 z71 z72 z73 z74 z75 z76 z77 z78 z79 z80 z81 z82 z83 z84 z85 z86 z87 z88 z89 z90 z91 z92 z93 z94 z95 z96 z97 z98 z99 z100 z101 z102 z103 z104 z105 z106 z107 z108 z109 z110 z111 z112 z113 z114 z115 z116 z117 z118 z119 z120 z121 z122 z123 z124 z125 : Value) (W : World), (EcB W0 x z2 z5 W ∧ z1 = .string ⟨l.toArray⟩ ∧ z6 = .string ⟨(M.print x.x).toArray⟩ ∧ z7 = .int .i64 0) → (ecCode 4).wp Tryz.prog (bodyPost Tryz.prog Tryz.f7 (fun e w' => e = .returned (.bool true) ∧ Below W0.heap.size W0 w')) { tmps := #[z0, z1, z2, z3, z4, z5, z6, z7, z8, z9, z10, z11, z12, z13, z14, z15, z16, z17, z18, z19, z20, z21, z22, z23, z24, z25, z26, z27, z28, z29, z30, z31, z32, z33, z34, z35, z36, z37, z38, z39, z40, z41, z42, z43, z44, z45, z46, z47, z48, z49, z50, z51, z52, z53, z54, z55, z56, z57, z58, z59, z60, z61, z62, z63, z64, z65, z66, z67, z68, z69, z70, z71, z72, z73, z74, z75, z76, z77, z78, z79, z80, z81, z82, z83, z84, z85, z86, z87, z88, z89, z90, z91, z92, z93, z94, z95, z96, z97, z98, z99, z100, z101, z102, z103, z104, z105, z106, z107, z108, z109, z110, z111, z112, z113, z114, z115, z116, z117, z118, z119, z120, z121, z122, z123, z124, z125], defers := [] } W
@[reducible] def ECG5 (W0 : World) (x : Sh) (l : List UInt8) : Prop := ∀ (z0 z1 z2 z3 z4 z5 z6 z7 z8 z9 z10 z11 z12 z13 z14 z15 z16 z17 z18 z19 z20 z21 z22 z23 z24 z25 z26 z27 z28 z29 z30 z31 z32 z33 z34 z35 z36 z37 z38 z39 z40 z41 z42 z43 z44 z45 z46 z47 z48 z49 z50 z51 z52 z53 z54 z55 z56 z57 z58 z59 z60 z61 z62 z63 z64 z65 z66 z67 z68 z69 z70 z71 z72 z73 z74 z75 z76 z77 z78 z79 z80 z81 z82 z83 z84 z85 z86 z87 z88 z89 z90 z91 z92 z93 z94 z95 z96 z97 z98 z99 z100 z101 z102 z103 z104 z105 z106 z107 z108 z109 z110 z111 z112 z113 z114 z115 z116 z117 z118 z119 z120 z121 z122 z123 z124 z125 : Value) (W : World), (EcB W0 x z2 z5 W ∧ z1 = .string ⟨l.toArray⟩ ∧ z6 = .string ⟨(M.print x.x).toArray⟩ ∧ z7 = .int .i64 0 ∧ EcP x.x z8 W ∧ z9 = .int .i64 0 ∧ z10 = .int .i64 0) → (ecCode 5).wp Tryz.prog (bodyPost Tryz.prog Tryz.f7 (fun e w' => e = .returned (.bool true) ∧ Below W0.heap.size W0 w')) { tmps := #[z0, z1, z2, z3, z4, z5, z6, z7, z8, z9, z10, z11, z12, z13, z14, z15, z16, z17, z18, z19, z20, z21, z22, z23, z24, z25, z26, z27, z28, z29, z30, z31, z32, z33, z34, z35, z36, z37, z38, z39, z40, z41, z42, z43, z44, z45, z46, z47, z48, z49, z50, z51, z52, z53, z54, z55, z56, z57, z58, z59, z60, z61, z62, z63, z64, z65, z66, z67, z68, z69, z70, z71, z72, z73, z74, z75, z76, z77, z78, z79, z80, z81, z82, z83, z84, z85, z86, z87, z88, z89, z90, z91, z92, z93, z94, z95, z96, z97, z98, z99, z100, z101, z102, z103, z104, z105, z106, z107, z108, z109, z110, z111, z112, z113, z114, z115, z116, z117, z118, z119, z120, z121, z122, z123, z124, z125], defers := [] } W
@[reducible] def ECG6 (W0 : World) (x : Sh) (l : List UInt8) : Prop := ∀ (z0 z1 z2 z3 z4 z5 z6 z7 z8 z9 z10 z11 z12 z13 z14 z15 z16 z17 z18 z19 z20 z21 z22 z23 z24 z25 z26 z27 z28 z29 z30 z31 z32 z33 z34 z35 z36 z37 z38 z39 z40 z41 z42 z43 z44 z45 z46 z47 z48 z49 z50 z51 z52 z53 z54 z55 z56 z57 z58 z59 z60 z61 z62 z63 z64 z65 z66 z67 z68 z69 z70 z71 z72 z73 z74 z75 z76 z77 z78 z79 z80 z81 z82 z83 z84 z85 z86 z87 z88 z89 z90 z91 z92 z93 z94 z95 z96 z97 z98 z99 z100 z101 z102 z103 z104 z105 z106 z107 z108 z109 z110 z111 z112 z113 z114 z115 z116 z117 z118 z119 z120 z121 z122 z123 z124 z125 : Value) (W : World), (EcB W0 x z2 z5 W ∧ z1 = .string ⟨l.toArray⟩ ∧ z6 = .string ⟨(M.print x.x).toArray⟩) → (ecCode 6).wp Tryz.prog (bodyPost Tryz.prog Tryz.f7 (fun e w' => e = .returned (.bool true) ∧ Below W0.heap.size W0 w')) { tmps := #[z0, z1, z2, z3, z4, z5, z6, z7, z8, z9, z10, z11, z12, z13, z14, z15, z16, z17, z18, z19, z20, z21, z22, z23, z24, z25, z26, z27, z28, z29, z30, z31, z32, z33, z34, z35, z36, z37, z38, z39, z40, z41, z42, z43, z44, z45, z46, z47, z48, z49, z50, z51, z52, z53, z54, z55, z56, z57, z58, z59, z60, z61, z62, z63, z64, z65, z66, z67, z68, z69, z70, z71, z72, z73, z74, z75, z76, z77, z78, z79, z80, z81, z82, z83, z84, z85, z86, z87, z88, z89, z90, z91, z92, z93, z94, z95, z96, z97, z98, z99, z100, z101, z102, z103, z104, z105, z106, z107, z108, z109, z110, z111, z112, z113, z114, z115, z116, z117, z118, z119, z120, z121, z122, z123, z124, z125], defers := [] } W
@[reducible] def ECG7 (W0 : World) (x : Sh) (l : List UInt8) : Prop := ∀ (z0 z1 z2 z3 z4 z5 z6 z7 z8 z9 z10 z11 z12 z13 z14 z15 z16 z17 z18 z19 z20 z21 z22 z23 z24 z25 z26 z27 z28 z29 z30 z31 z32 z33 z34 z35 z36 z37 z38 z39 z40 z41 z42 z43 z44 z45 z46 z47 z48 z49 z50 z51 z52 z53 z54 z55 z56 z57 z58 z59 z60 z61 z62 z63 z64 z65 z66 z67 z68 z69 z70 z71 z72 z73 z74 z75 z76 z77 z78 z79 z80 z81 z82 z83 z84 z85 z86 z87 z88 z89 z90 z91 z92 z93 z94 z95 z96 z97 z98 z99 z100 z101 z102 z103 z104 z105 z106 z107 z108 z109 z110 z111 z112 z113 z114 z115 z116 z117 z118 z119 z120 z121 z122 z123 z124 z125 : Value) (W : World), (EcB W0 x z2 z5 W ∧ z1 = .string ⟨l.toArray⟩ ∧ z6 = .string ⟨(M.print x.x).toArray⟩ ∧ z11 = .int .i64 1) → (ecCode 7).wp Tryz.prog (bodyPost Tryz.prog Tryz.f7 (fun e w' => e = .returned (.bool true) ∧ Below W0.heap.size W0 w')) { tmps := #[z0, z1, z2, z3, z4, z5, z6, z7, z8, z9, z10, z11, z12, z13, z14, z15, z16, z17, z18, z19, z20, z21, z22, z23, z24, z25, z26, z27, z28, z29, z30, z31, z32, z33, z34, z35, z36, z37, z38, z39, z40, z41, z42, z43, z44, z45, z46, z47, z48, z49, z50, z51, z52, z53, z54, z55, z56, z57, z58, z59, z60, z61, z62, z63, z64, z65, z66, z67, z68, z69, z70, z71, z72, z73, z74, z75, z76, z77, z78, z79, z80, z81, z82, z83, z84, z85, z86, z87, z88, z89, z90, z91, z92, z93, z94, z95, z96, z97, z98, z99, z100, z101, z102, z103, z104, z105, z106, z107, z108, z109, z110, z111, z112, z113, z114, z115, z116, z117, z118, z119, z120, z121, z122, z123, z124, z125], defers := [] } W
@[reducible] def ECG8 (W0 : World) (x : Sh) (l : List UInt8) : Prop := ∀ (z0 z1 z2 z3 z4 z5 z6 z7 z8 z9 z10 z11 z12 z13 z14 z15 z16 z17 z18 z19 z20 z21 z22 z23 z24 z25 z26 z27 z28 z29 z30 z31 z32 z33 z34 z35 z36 z37 z38 z39 z40 z41 z42 z43 z44 z45 z46 z47 z48 z49 z50 z51 z52 z53 z54 z55 z56 z57 z58 z59 z60 z61 z62 z63 z64 z65 z66 z67 z68 z69 z70 z71 z72 z73 z74 z75 z76 z77 z78 z79 z80 z81 z82 z83 z84 z85 z86 z87 z88 z89 z90 z91 z92 z93 z94 z95 z96 z97 z98 z99 z100 z101 z102 z103 z104 z105 z106 z107 z108 z109 z110 z111 z112 z113 z114 z115 z116 z117 z118 z119 z120 z121 z122 z123 z124 z125 : Value) (W : World), (EcB W0 x z2 z5 W ∧ z1 = .string ⟨l.toArray⟩ ∧ z6 = .string ⟨(M.print x.x).toArray⟩ ∧ z11 = .int .i64 ((M.pieces x.x).length : Int)) → (ecCode 8).wp Tryz.prog (bodyPost Tryz.prog Tryz.f7 (fun e w' => e = .returned (.bool true) ∧ Below W0.heap.size W0 w')) { tmps := #[z0, z1, z2, z3, z4, z5, z6, z7, z8, z9, z10, z11, z12, z13, z14, z15, z16, z17, z18, z19, z20, z21, z22, z23, z24, z25, z26, z27, z28, z29, z30, z31, z32, z33, z34, z35, z36, z37, z38, z39, z40, z41, z42, z43, z44, z45, z46, z47, z48, z49, z50, z51, z52, z53, z54, z55, z56, z57, z58, z59, z60, z61, z62, z63, z64, z65, z66, z67, z68, z69, z70, z71, z72, z73, z74, z75, z76, z77, z78, z79, z80, z81, z82, z83, z84, z85, z86, z87, z88, z89, z90, z91, z92, z93, z94, z95, z96, z97, z98, z99, z100, z101, z102, z103, z104, z105, z106, z107, z108, z109, z110, z111, z112, z113, z114, z115, z116, z117, z118, z119, z120, z121, z122, z123, z124, z125], defers := [] } W
@[reducible] def ECG9 (W0 : World) (x : Sh) (l : List UInt8) : Prop := ∀ (z0 z1 z2 z3 z4 z5 z6 z7 z8 z9 z10 z11 z12 z13 z14 z15 z16 z17 z18 z19 z20 z21 z22 z23 z24 z25 z26 z27 z28 z29 z30 z31 z32 z33 z34 z35 z36 z37 z38 z39 z40 z41 z42 z43 z44 z45 z46 z47 z48 z49 z50 z51 z52 z53 z54 z55 z56 z57 z58 z59 z60 z61 z62 z63 z64 z65 z66 z67 z68 z69 z70 z71 z72 z73 z74 z75 z76 z77 z78 z79 z80 z81 z82 z83 z84 z85 z86 z87 z88 z89 z90 z91 z92 z93 z94 z95 z96 z97 z98 z99 z100 z101 z102 z103 z104 z105 z106 z107 z108 z109 z110 z111 z112 z113 z114 z115 z116 z117 z118 z119 z120 z121 z122 z123 z124 z125 : Value) (W : World), (EcB W0 x z2 z5 W ∧ z1 = .string ⟨l.toArray⟩) → (ecCode 9).wp Tryz.prog (bodyPost Tryz.prog Tryz.f7 (fun e w' => e = .returned (.bool true) ∧ Below W0.heap.size W0 w')) { tmps := #[z0, z1, z2, z3, z4, z5, z6, z7, z8, z9, z10, z11, z12, z13, z14, z15, z16, z17, z18, z19, z20, z21, z22, z23, z24, z25, z26, z27, z28, z29, z30, z31, z32, z33, z34, z35, z36, z37, z38, z39, z40, z41, z42, z43, z44, z45, z46, z47, z48, z49, z50, z51, z52, z53, z54, z55, z56, z57, z58, z59, z60, z61, z62, z63, z64, z65, z66, z67, z68, z69, z70, z71, z72, z73, z74, z75, z76, z77, z78, z79, z80, z81, z82, z83, z84, z85, z86, z87, z88, z89, z90, z91, z92, z93, z94, z95, z96, z97, z98, z99, z100, z101, z102, z103, z104, z105, z106, z107, z108, z109, z110, z111, z112, z113, z114, z115, z116, z117, z118, z119, z120, z121, z122, z123, z124, z125], defers := [] } W
set_option maxRecDepth 100000 in
set_option maxHeartbeats 8000000 in
theorem ec_3 (W0 : World) (x : Sh) (l : List UInt8) (HG : Hid (Glob W0)) (HCK : Hid (M.ckShot x.x = 0)) (HL : Hid (l.length ≤ 300))  (HN : Hid (ECG4 W0 x l)) : ECG3 W0 x l := by
  intro z0 z1 z2 z3 z4 z5 z6 z7 z8 z9 z10 z11 z12 z13 z14 z15 z16 z17 z18 z19 z20 z21 z22 z23 z24 z25 z26 z27 z28 z29 z30 z31 z32 z33 z34 z35 z36 z37 z38 z39 z40 z41 z42 z43 z44 z45 z46 z47 z48 z49 z50 z51 z52 z53 z54 z55 z56 z57 z58 z59 z60 z61 z62 z63 z64 z65 z66 z67 z68 z69 z70 z71 z72 z73 z74 z75 z76 z77 z78 z79 z80 z81 z82 z83 z84 z85 z86 z87 z88 z89 z90 z91 z92 z93 z94 z95 z96 z97 z98 z99 z100 z101 z102 z103 z104 z105 z106 z107 z108 z109 z110 z111 z112 z113 z114 z115 z116 z117 z118 z119 z120 z121 z122 z123 z124 z125 W hf
  dsimp only [ecCode, codeDrop, Tryz.f7, Option.getD]
  obtain ⟨hE, rfl⟩ := hf
  obtain ⟨rfl, hB2, hpx, hbw, hfit, B5, A5, c5, rfl, hB5, hp5⟩ := id hE
  have hcl := ec_print x.x HCK.out _ _ _ W hpx
  have HCL := hide hcl
  clear hcl
  apply wp_seq_k
  intro K hK
  have HK := hide hK
  clear hK
  go_wp2_with (first | (refine is_load 66 (.tmp 2) rfl ?_; refine next_load (hB2) Tryz.underlying66 rfl shot_info rfl (.tmp 2) rfl rfl ?_) | (go_at_call 28; refine HCL.out.mono ?_; rintro e w1 ⟨rfl, hb1⟩; dsimp only))
  refine HK.out _ _ ?_
  apply HN.out
  exact ⟨hE.below hb1, rfl, rfl, rfl⟩
set_option maxRecDepth 100000 in
set_option maxHeartbeats 8000000 in
theorem ec_4 (W0 : World) (x : Sh) (l : List UInt8) (HG : Hid (Glob W0)) (HCK : Hid (M.ckShot x.x = 0)) (HL : Hid (l.length ≤ 300))  (HN : Hid (ECG5 W0 x l)) : ECG4 W0 x l := by
  intro z0 z1 z2 z3 z4 z5 z6 z7 z8 z9 z10 z11 z12 z13 z14 z15 z16 z17 z18 z19 z20 z21 z22 z23 z24 z25 z26 z27 z28 z29 z30 z31 z32 z33 z34 z35 z36 z37 z38 z39 z40 z41 z42 z43 z44 z45 z46 z47 z48 z49 z50 z51 z52 z53 z54 z55 z56 z57 z58 z59 z60 z61 z62 z63 z64 z65 z66 z67 z68 z69 z70 z71 z72 z73 z74 z75 z76 z77 z78 z79 z80 z81 z82 z83 z84 z85 z86 z87 z88 z89 z90 z91 z92 z93 z94 z95 z96 z97 z98 z99 z100 z101 z102 z103 z104 z105 z106 z107 z108 z109 z110 z111 z112 z113 z114 z115 z116 z117 z118 z119 z120 z121 z122 z123 z124 z125 W hf
  dsimp only [ecCode, codeDrop, Tryz.f7, Option.getD]
  obtain ⟨hE, rfl, rfl, rfl⟩ := hf
  obtain ⟨rfl, hB2, hpx, hbw, hfit, B5, A5, c5, rfl, hB5, hp5⟩ := id hE
  have hcl := ec_parse _ _ _ _ (M.parse_print HCK.out) W (HG.out.below hbw) (by have := M.print_length (M.shotOk HCK.out); omega)
  have HCL := hide hcl
  clear hcl
  apply wp_seq_k
  intro K hK
  have HK := hide hK
  clear hK
  go_wp2_with (first | (go_at_call 29; refine (HCL.out).mono ?_; rintro e w1 ⟨A1, c1, rfl, hr1, hb1⟩; have hbx := Held.new w1 zSh 66; dsimp only) | (refine is_store 66 (.tmp 8) (.tmp 45) rfl ?_; refine next_store hbx (shCells ⟨x.x, A1, c1⟩) rfl shot_info (sh_one x.x A1 c1) rfl (.tmp 8) (.tmp 45) rfl rfl rfl ?_))
  obtain ⟨hP, hb2⟩ := EcP.new hr1 hbx
  have hbb := hb1.trans (hb2.mono hb1.size)
  refine HK.out _ _ ?_
  apply HN.out
  exact ⟨hE.below hbb, rfl, rfl, rfl, hP, rfl, rfl⟩
set_option maxRecDepth 100000 in
set_option maxHeartbeats 8000000 in
theorem ec_5 (W0 : World) (x : Sh) (l : List UInt8) (HG : Hid (Glob W0)) (HCK : Hid (M.ckShot x.x = 0)) (HL : Hid (l.length ≤ 300))  (HN : Hid (ECG6 W0 x l)) : ECG5 W0 x l := by
  intro z0 z1 z2 z3 z4 z5 z6 z7 z8 z9 z10 z11 z12 z13 z14 z15 z16 z17 z18 z19 z20 z21 z22 z23 z24 z25 z26 z27 z28 z29 z30 z31 z32 z33 z34 z35 z36 z37 z38 z39 z40 z41 z42 z43 z44 z45 z46 z47 z48 z49 z50 z51 z52 z53 z54 z55 z56 z57 z58 z59 z60 z61 z62 z63 z64 z65 z66 z67 z68 z69 z70 z71 z72 z73 z74 z75 z76 z77 z78 z79 z80 z81 z82 z83 z84 z85 z86 z87 z88 z89 z90 z91 z92 z93 z94 z95 z96 z97 z98 z99 z100 z101 z102 z103 z104 z105 z106 z107 z108 z109 z110 z111 z112 z113 z114 z115 z116 z117 z118 z119 z120 z121 z122 z123 z124 z125 W hf
  dsimp only [ecCode, codeDrop, Tryz.f7, Option.getD]
  obtain ⟨hE, rfl, rfl, rfl, hP, rfl, rfl⟩ := hf
  obtain ⟨rfl, hB2, hpx, hbw, hfit, B5, A5, c5, rfl, hB5, hp5⟩ := id hE
  obtain ⟨B8, A8, c8, rfl, hB8, hp8⟩ := hP
  have hsh : shotEq x.x x.x = true := shotEq_iff.2 rfl
  have hr8 : ∀ W', (fun w' : World => Below W.heap.size W w') W' → W'.rangeAt B8 0 (shCells ⟨x.x, A8, c8⟩) := fun W' h => (hB8.below h).range
  have hr5 : ∀ W', (fun w' : World => Below W.heap.size W w') W' → W'.rangeAt B5 0 (shCells ⟨x.x, A5, c5⟩) := fun W' h => (hB5.below h).range
  apply wp_seq_k
  intro K hK
  have HK := hide hK
  clear hK
  apply wp_seq_k
  intro K2 hK2
  have HK2 := hide hK2
  clear hK2
  refine wp_region_held_drew (S := (fun w' : World => Below W.heap.size W w')) (by kernel_rfl) ?q1xstart (fun hHeld => ?_)
  case q1xstart => exact (Below.refl _ _).drew
  refine wpAnyH_take (i := 0) (oi := _) (v := ?q1xv0) (ga rfl) (by kernel_rfl) (by kernel_rfl) (by kernel_rfl) (fun _ _ _ h => h) (Or.inl ⟨by rfl, ?q1xy0⟩) (by assumption) ?_
  case q1xy0 => (intro w hSw; (try dsimp only at hSw); go_simp; try with_reducible rfl)
  try simp only [Act.put, la, lz, ls]
  refine wpAnyH_take (i := 1) (oi := _) (v := ?q1xv1) (ga rfl) (by kernel_rfl) (by kernel_rfl) (by kernel_rfl) (fun _ _ _ h => h) (Or.inl ⟨by rfl, ?q1xy1⟩) (by assumption) ?_
  case q1xy1 => (intro w hSw; (try dsimp only at hSw); go_simp; try with_reducible rfl)
  try simp only [Act.put, la, lz, ls]
  refine wpAnyH_take (i := 2) (oi := _) (v := ?q1xv2) (ga rfl) (by kernel_rfl) (by kernel_rfl) (by kernel_rfl) (fun _ _ _ h => h) (Or.inl ⟨by rfl, ?q1xy2⟩) (by assumption) ?_
  case q1xy2 => (intro w hSw; (try dsimp only at hSw); go_simp; try with_reducible rfl)
  try simp only [Act.put, la, lz, ls]
  refine wpAnyH_take (i := 3) (oi := _) (v := ?q1xv3) (ga rfl) (by kernel_rfl) (by kernel_rfl) (by kernel_rfl) (fun _ _ _ h => h) (Or.inl ⟨by rfl, ?q1xy3⟩) (by assumption) ?_
  case q1xy3 => (intro w hSw; (try dsimp only at hSw); go_simp; try with_reducible rfl)
  try simp only [Act.put, la, lz, ls]
  refine wpAnyH_take (i := 4) (oi := _) (v := ?q1xv4) (ga rfl) (by kernel_rfl) (by kernel_rfl) (by kernel_rfl) (fun _ _ _ h => h) (Or.inl ⟨by rfl, ?q1xy4⟩) (by assumption) ?_
  case q1xy4 => (intro w hSw; (try dsimp only at hSw); go_simp; try with_reducible rfl)
  try simp only [Act.put, la, lz, ls]
  refine wpAnyH_take (i := 5) (oi := _) (v := ?q1xv5) (ga rfl) (by kernel_rfl) (by kernel_rfl) (by kernel_rfl) (fun _ _ _ h => h) (Or.inl ⟨by rfl, ?q1xy5⟩) (by assumption) ?_
  case q1xy5 => (intro w hSw; (try dsimp only at hSw); go_simp; try with_reducible rfl)
  try simp only [Act.put, la, lz, ls]
  refine wpAnyH_take (i := 6) (oi := _) (v := ?q1xv6) (ga rfl) (by kernel_rfl) (by kernel_rfl) (by kernel_rfl) (fun _ _ _ h => h) (Or.inl ⟨by rfl, ?q1xy6⟩) (by assumption) ?_
  case q1xy6 => (intro w hSw; (try dsimp only at hSw); go_simp; try with_reducible rfl)
  try simp only [Act.put, la, lz, ls]
  refine wpAnyH_take (i := 7) (oi := _) (v := ?q1xv7) (ga rfl) (by kernel_rfl) (by kernel_rfl) (by kernel_rfl) (fun _ _ _ h => h) (Or.inl ⟨by rfl, ?q1xy7⟩) (by assumption) ?_
  case q1xy7 => (intro w hSw; (try dsimp only at hSw); go_simp; try with_reducible rfl)
  try simp only [Act.put, la, lz, ls]
  refine wpAnyH_take (i := 8) (oi := _) (v := ?q1xv8) (ga rfl) (by kernel_rfl) (by kernel_rfl) (by kernel_rfl) (fun _ _ _ h => h) (Or.inl ⟨by rfl, ?q1xy8⟩) (by assumption) ?_
  case q1xy8 => (intro w hSw; (try dsimp only at hSw); go_simp; try with_reducible rfl)
  try simp only [Act.put, la, lz, ls]
  refine wpAnyH_take (i := 9) (oi := _) (v := ?q1xv9) (ga rfl) (by kernel_rfl) (by kernel_rfl) (by kernel_rfl) (fun _ _ _ h => h) (Or.inl ⟨by rfl, ?q1xy9⟩) (by assumption) ?_
  case q1xy9 => (intro w hSw; (try dsimp only at hSw); go_simp; try with_reducible rfl)
  try simp only [Act.put, la, lz, ls]
  refine wpAnyH_take (i := 10) (oi := _) (v := ?q1xv10) (ga rfl) (by kernel_rfl) (by kernel_rfl) (by kernel_rfl) (fun _ _ _ h => h) (Or.inl ⟨by rfl, ?q1xy10⟩) (by assumption) ?_
  case q1xy10 => (intro w hSw; (try dsimp only at hSw); go_simp; try with_reducible rfl)
  try simp only [Act.put, la, lz, ls]
  refine wpAnyH_take (i := 11) (oi := _) (v := _) (ga rfl) (by kernel_rfl) (by kernel_rfl) (by kernel_rfl) (fun _ _ _ h => h) (yieldsIf_load_mid (by rfl) _ _ (by rfl) _ _ (by rfl) _ _ hr8 Tryz.underlying66 rfl (by kernel_rfl)) (by assumption) ?_
  try simp only [Act.put, la, lz, ls]
  refine wpAnyH_take (i := 13) (oi := _) (v := _) (ga rfl) (by kernel_rfl) (by kernel_rfl) (by kernel_rfl) (fun _ _ _ h => h) (yieldsIf_load_mid (by rfl) _ _ (by rfl) _ _ (by rfl) _ _ hr5 Tryz.underlying69 rfl (by kernel_rfl)) (by assumption) ?_
  try simp only [Act.put, la, lz, ls]
  refine wpAnyH_ready (rs := [12]) (by kernel_rfl) (by simp) ?_
  refine AllReadyH.cons (o := _) (ga rfl) (fun K hK => ?_) AllReadyH.nil
  go_simp
  first | (go_at_call 26; refine (lawOwn_any _ x.x A8 c8 _ (Reads.below hp8 hHeld) hfit).mono ?_; rintro e w6 ⟨A6, c6, rfl, hr6, hb6⟩) | (go_at_call 33; refine (sameShot_any _ _ x.x x.x A6 A5 c6 c5 _ hr6 (Reads.below hp5 hHeld)).mono ?_; rw [hsh]; rintro e w7 ⟨rfl, hb7⟩)
  refine hK.out _ _ ?q1xh12 (fun hHeld => ?_)
  case q1xh12 => (exact hHeld.trans (hb6.mono hHeld.size))
  clear hK K
  try simp only [Act.put, la, lz, ls]
  refine wpAnyH_ready (rs := [14]) (by kernel_rfl) (by simp) ?_
  refine AllReadyH.cons (o := _) (ga rfl) (fun K hK => ?_) AllReadyH.nil
  go_simp
  first | (go_at_call 26; refine (lawOwn_any _ x.x A8 c8 _ (Reads.below hp8 hHeld) hfit).mono ?_; rintro e w6 ⟨A6, c6, rfl, hr6, hb6⟩) | (go_at_call 33; refine (sameShot_any _ _ x.x x.x A6 A5 c6 c5 _ hr6 (Reads.below hp5 hHeld)).mono ?_; rw [hsh]; rintro e w7 ⟨rfl, hb7⟩)
  refine hK.out _ _ ?q1xh14 (fun hHeld => ?_)
  case q1xh14 => (exact hHeld.trans (hb7.mono hHeld.size))
  clear hK K
  try simp only [Act.put, la, lz, ls]
  refine wpAnyH_take (i := 15) (oi := _) (v := ?q1xv15) (ga rfl) (by kernel_rfl) (by kernel_rfl) (by kernel_rfl) (fun _ _ _ h => h) (Or.inl ⟨by rfl, ?q1xy15⟩) (by assumption) ?_
  case q1xy15 => (intro w hSw; (try dsimp only at hSw); go_simp; try with_reducible rfl)
  try simp only [Act.put, la, lz, ls]
  refine wpAnyH_take (i := 16) (oi := _) (v := ?q1xv16) (ga rfl) (by kernel_rfl) (by kernel_rfl) (by kernel_rfl) (fun _ _ _ h => h) (Or.inl ⟨by rfl, ?q1xy16⟩) (by assumption) ?_
  case q1xy16 => (intro w hSw; (try dsimp only at hSw); go_simp; try with_reducible rfl)
  try simp only [Act.put, la, lz, ls]
  refine wpAnyH_done (by kernel_rfl) ?_ _
  refine HK2.out _ _ ?_
  go_wp2
  refine HK.out _ _ ?_
  apply HN.out
  exact ⟨hE.below hHeld, rfl, rfl⟩
set_option maxRecDepth 100000 in
set_option maxHeartbeats 8000000 in
theorem ec_6 (W0 : World) (x : Sh) (l : List UInt8) (HG : Hid (Glob W0)) (HCK : Hid (M.ckShot x.x = 0)) (HL : Hid (l.length ≤ 300))  (HN : Hid (ECG7 W0 x l)) : ECG6 W0 x l := by
  intro z0 z1 z2 z3 z4 z5 z6 z7 z8 z9 z10 z11 z12 z13 z14 z15 z16 z17 z18 z19 z20 z21 z22 z23 z24 z25 z26 z27 z28 z29 z30 z31 z32 z33 z34 z35 z36 z37 z38 z39 z40 z41 z42 z43 z44 z45 z46 z47 z48 z49 z50 z51 z52 z53 z54 z55 z56 z57 z58 z59 z60 z61 z62 z63 z64 z65 z66 z67 z68 z69 z70 z71 z72 z73 z74 z75 z76 z77 z78 z79 z80 z81 z82 z83 z84 z85 z86 z87 z88 z89 z90 z91 z92 z93 z94 z95 z96 z97 z98 z99 z100 z101 z102 z103 z104 z105 z106 z107 z108 z109 z110 z111 z112 z113 z114 z115 z116 z117 z118 z119 z120 z121 z122 z123 z124 z125 W hf
  dsimp only [ecCode, codeDrop, Tryz.f7, Option.getD]
  obtain ⟨hE, rfl, rfl⟩ := hf
  apply wp_seq_k
  intro K hK
  have HK := hide hK
  clear hK
  go_wp2
  refine HK.out _ _ ?_
  apply HN.out
  exact ⟨hE, rfl, rfl, rfl⟩
set_option maxRecDepth 100000 in
set_option maxHeartbeats 8000000 in
theorem ec_7 (W0 : World) (x : Sh) (l : List UInt8) (HG : Hid (Glob W0)) (HCK : Hid (M.ckShot x.x = 0)) (HL : Hid (l.length ≤ 300))  (HN : Hid (ECG8 W0 x l)) : ECG7 W0 x l := by
  intro z0 z1 z2 z3 z4 z5 z6 z7 z8 z9 z10 z11 z12 z13 z14 z15 z16 z17 z18 z19 z20 z21 z22 z23 z24 z25 z26 z27 z28 z29 z30 z31 z32 z33 z34 z35 z36 z37 z38 z39 z40 z41 z42 z43 z44 z45 z46 z47 z48 z49 z50 z51 z52 z53 z54 z55 z56 z57 z58 z59 z60 z61 z62 z63 z64 z65 z66 z67 z68 z69 z70 z71 z72 z73 z74 z75 z76 z77 z78 z79 z80 z81 z82 z83 z84 z85 z86 z87 z88 z89 z90 z91 z92 z93 z94 z95 z96 z97 z98 z99 z100 z101 z102 z103 z104 z105 z106 z107 z108 z109 z110 z111 z112 z113 z114 z115 z116 z117 z118 z119 z120 z121 z122 z123 z124 z125 W hf
  dsimp only [ecCode, codeDrop, Tryz.f7, Option.getD]
  obtain ⟨hE, rfl, rfl, rfl⟩ := hf
  have hxo := M.shotOk HCK.out
  have hlow := M.print_low hxo
  have hcnt := M.count_print hxo
  have hln := M.print_length hxo
  obtain ⟨s, hs⟩ : ∃ s, M.print x.x = s := ⟨_, rfl⟩
  rw [hs] at hlow hcnt hln ⊢
  have HLOW := hide hlow
  have HCNT := hide hcnt
  have hsz := ba_size s
  apply wp_seq_k
  intro K hK
  have HK := hide hK
  clear hK
  apply wp_seq_k
  intro K2 hK2
  have HK2 := hide hK2
  clear hK2 hlow hcnt
  go_wp2
  refine HK2.out _ _ ?_
  go_wp2
  go_loopw [11] (fun v wr => ∃ k : Nat, k ≤ s.length ∧ v = .int .i64 (((s.take k).count 32 : Nat) + 1 : Int) ∧ wr = W.iter ⟨s.toArray⟩ k) (fun _ w' => s.length - w'.iterPos W.heap.size)
  case atStart => exact ⟨0, Nat.zero_le _, rfl, rfl⟩
  case round =>
    obtain ⟨k, hk, rfl, rfl⟩ := hrel
    by_cases hlt : k < s.length
    · have hkz : k < (ByteArray.mk s.toArray).size := by rw [hsz]; exact hlt
      have hgk : (ByteArray.mk s.toArray)[k]'hkz = s[k] := rfl
      have hnx : ∀ ty, (Instr.next (.pointer (some ⟨W.heap.size, 0, none⟩)) true ty).run Tryz.prog (W.iter ⟨s.toArray⟩ k) = .ok (.tuple #[.bool true, .int .i64 k, .int .i32 (s[k]).toNat]) (W.iter ⟨s.toArray⟩ (k + 1)) := fun ty => run_next_ascii W ⟨s.toArray⟩ k ty hkz (HLOW.out _ (List.getElem_mem hlt))
      have hst := M.count_step s k hlt
      have hcle : (s.take k).count 32 ≤ s.length := Nat.le_trans List.count_le_length (by rw [List.length_take]; omega)
      obtain ⟨ch, hch⟩ : ∃ q, s[k] = q := ⟨_, rfl⟩
      rw [hch] at hnx hst hgk
      obtain ⟨m, hm⟩ : ∃ m, (s.take k).count 32 = m := ⟨_, rfl⟩
      rw [hm] at hst hcle ⊢
      have HST := hide hst
      clear hch hst hm
      have i1 : (0 : Int) ≤ (k : Int) := by omega
      have i2 : (k : Int) < (s.length : Int) := by omega
      by_cases hc : ch = 32
      · subst hc
        go_wp2
        go_roundw
        case rel => exact ⟨k + 1, by omega, by rw [HST.out, if_pos rfl]; go_num, rfl⟩
        case measure => simp; omega
      · have hcb : (((ch.toNat : Nat) : Int) == 32) = false := by
          rw [beq_eq_false_iff_ne]
          intro e
          exact hc (UInt8.toNat_inj.1 (by show ch.toNat = 32; omega))
        have HC := hide hc
        clear hc
        go_wp2
        go_roundw
        case rel => exact ⟨k + 1, by omega, by rw [HST.out, if_neg HC.out]; rfl, rfl⟩
        case measure => simp; omega
    · have hke : k = s.length := by omega
      subst hke
      have hnx : ∀ ty, (Instr.next (.pointer (some ⟨W.heap.size, 0, none⟩)) true ty).run Tryz.prog (W.iter ⟨s.toArray⟩ s.length) = .ok (.tuple #[.bool false]) (W.iter ⟨s.toArray⟩ s.length) := fun ty => run_next_end W ⟨s.toArray⟩ s.length ty (by rw [hsz]; omega)
      rw [List.take_length]
      have hcn : ((s.count 32 : Nat) : Int) + 1 = ((M.pieces x.x).length : Int) := by have := HCNT.out; omega
      rw [hcn]
      have HIT := hide (below_iter W ⟨s.toArray⟩ s.length)
      clear hcn
      go_wp2
      refine HK.out _ _ ?_
      apply HN.out
      exact ⟨hE.below HIT.out, rfl, by rw [hs], rfl⟩
set_option maxRecDepth 100000 in
set_option maxHeartbeats 8000000 in
theorem ec_8 (W0 : World) (x : Sh) (l : List UInt8) (HG : Hid (Glob W0)) (HCK : Hid (M.ckShot x.x = 0)) (HL : Hid (l.length ≤ 300))  (HN : Hid (ECG9 W0 x l)) : ECG8 W0 x l := by
  intro z0 z1 z2 z3 z4 z5 z6 z7 z8 z9 z10 z11 z12 z13 z14 z15 z16 z17 z18 z19 z20 z21 z22 z23 z24 z25 z26 z27 z28 z29 z30 z31 z32 z33 z34 z35 z36 z37 z38 z39 z40 z41 z42 z43 z44 z45 z46 z47 z48 z49 z50 z51 z52 z53 z54 z55 z56 z57 z58 z59 z60 z61 z62 z63 z64 z65 z66 z67 z68 z69 z70 z71 z72 z73 z74 z75 z76 z77 z78 z79 z80 z81 z82 z83 z84 z85 z86 z87 z88 z89 z90 z91 z92 z93 z94 z95 z96 z97 z98 z99 z100 z101 z102 z103 z104 z105 z106 z107 z108 z109 z110 z111 z112 z113 z114 z115 z116 z117 z118 z119 z120 z121 z122 z123 z124 z125 W hf
  dsimp only [ecCode, codeDrop, Tryz.f7, Option.getD]
  obtain ⟨hE, rfl, rfl, rfl⟩ := hf
  obtain ⟨rfl, hB2, hpx, hbw, hfit, B5, A5, c5, rfl, hB5, hp5⟩ := id hE
  have hcl := ec_parse _ _ _ _ (M.parse_more HCK.out) W (HG.out.below hbw) (by have := M.print_length (M.shotOk HCK.out); simp; omega)
  have hpl : (M.pieces x.x).length ≤ 1000 := by have := M.tail_length (M.shotOk HCK.out); unfold M.pieces; simp; omega
  have hln := M.print_length (M.shotOk HCK.out)
  obtain ⟨s, hs⟩ : ∃ s, M.print x.x = s := ⟨_, rfl⟩
  rw [hs] at hcl hln ⊢
  have hsz := ba_size s
  have happ : (ByteArray.mk s.toArray) ++ (ByteArray.mk #[32, 120]) = ⟨(s ++ [32, 120]).toArray⟩ := ba_app s [32, 120]
  obtain ⟨n, hn⟩ : ∃ n, (M.pieces x.x).length = n := ⟨_, rfl⟩
  rw [hn] at hcl hpl ⊢
  have HCL := hide hcl
  clear hcl hn hs
  apply wp_seq_k
  intro K hK
  have HK := hide hK
  clear hK
  apply wp_seq_k
  intro K2 hK2
  have HK2 := hide hK2
  clear hK2
  go_wp2_with (first | (go_at_call 29; refine (HCL.out).mono ?_; rintro e w1 ⟨A1, c1, rfl, hr1, hb1⟩; have hbx := Held.new w1 zSh 66; dsimp only) | (refine is_store 66 (.tmp 13) (.tmp 80) rfl ?_; refine next_store hbx (shCells ⟨M.blank, A1, c1⟩) rfl shot_info (sh_one M.blank A1 c1) rfl (.tmp 13) (.tmp 80) rfl rfl rfl ?_))
  obtain ⟨hP, hb2⟩ := EcP.new hr1 hbx
  have hbb := hb1.trans (hb2.mono hb1.size)
  have HBB := hide hbb
  clear hbb hb2 hP hr1 hbx hb1
  refine HK2.out _ _ ?_
  go_wp2
  refine HK.out _ _ ?_
  apply HN.out
  exact ⟨hE.below HBB.out, rfl⟩
set_option maxRecDepth 100000 in
set_option maxHeartbeats 8000000 in
theorem ec_9 (W0 : World) (x : Sh) (l : List UInt8) (HG : Hid (Glob W0)) (HCK : Hid (M.ckShot x.x = 0)) (HL : Hid (l.length ≤ 300))   : ECG9 W0 x l := by
  intro z0 z1 z2 z3 z4 z5 z6 z7 z8 z9 z10 z11 z12 z13 z14 z15 z16 z17 z18 z19 z20 z21 z22 z23 z24 z25 z26 z27 z28 z29 z30 z31 z32 z33 z34 z35 z36 z37 z38 z39 z40 z41 z42 z43 z44 z45 z46 z47 z48 z49 z50 z51 z52 z53 z54 z55 z56 z57 z58 z59 z60 z61 z62 z63 z64 z65 z66 z67 z68 z69 z70 z71 z72 z73 z74 z75 z76 z77 z78 z79 z80 z81 z82 z83 z84 z85 z86 z87 z88 z89 z90 z91 z92 z93 z94 z95 z96 z97 z98 z99 z100 z101 z102 z103 z104 z105 z106 z107 z108 z109 z110 z111 z112 z113 z114 z115 z116 z117 z118 z119 z120 z121 z122 z123 z124 z125 W hf
  dsimp only [ecCode, codeDrop, Tryz.f7, Option.getD]
  obtain ⟨hE, rfl⟩ := hf
  obtain ⟨rfl, hB2, hpx, hbw, hfit, B5, A5, c5, rfl, hB5, hp5⟩ := id hE
  obtain ⟨⟨y, n, er⟩, hy⟩ : ∃ q, M.parse l = q := ⟨_, rfl⟩
  have hl := HL.out
  have hcl := ec_parse l y n er hy W (HG.out.below hbw) (by omega)
  have hzr : er ≠ 0 → y = M.blank := fun h => by have := M.parse_zero (s := l) (by rw [hy]; exact h); rw [hy] at this; exact this
  have hok : er = 0 → M.print y = l ∧ M.ckShot y = 0 := fun h => M.print_parse hy h
  have HCL := hide hcl
  have HZR := hide hzr
  have HOK := hide hok
  clear hcl hzr hok hy hl
  apply wp_seq_k
  intro K hK
  have HK := hide hK
  clear hK
  go_wp2_with (first | (go_at_call 29; refine (HCL.out).mono ?_; rintro e w1 ⟨A1, c1, rfl, hr1, hb1⟩; have hbx := Held.new w1 zSh 66; dsimp only) | (refine is_store 66 (.tmp 16) (.tmp 94) rfl ?_; refine next_store hbx (shCells ⟨y, A1, c1⟩) rfl shot_info (sh_one y A1 c1) rfl (.tmp 16) (.tmp 94) rfl rfl rfl ?_))
  obtain ⟨hP, hb2⟩ := EcP.new hr1 hbx
  have hbb := hb1.trans (hb2.mono hb1.size)
  obtain ⟨W2, hW2⟩ : ∃ W2, (w1.alloc (.cells zSh.toArray 66)).setCells w1.heap.size 0 (shCells ⟨y, A1, c1⟩) = W2 := ⟨_, rfl⟩
  obtain ⟨B, hB⟩ : ∃ B, w1.heap.size = B := ⟨_, rfl⟩
  have hW2' : (w1.alloc (.cells #[.int .i64 0, .string ⟨#[]⟩, .int .i64 0, .int .i64 0, .int .i64 0, .bool false, .slice none 0 0] 66)).setCells w1.heap.size 0 (shCells ⟨y, A1, c1⟩) = W2 := hW2
  rw [hW2] at hP hbb
  rw [hW2', hB]
  rw [hB] at hP
  obtain ⟨B', A2, c2, e2, hBy, hry⟩ := hP
  obtain rfl : B = B' := by injection e2 with e2; injection e2 with e2; injection e2
  have hbw2 := hbw.trans (hbb.mono hbw.size)
  have HG9 := hide (HG.out.below hbw2)
  clear e2 hW2 hW2' hB hbx hr1 hb2 hb1
  by_cases he : er = 0
  · subst he
    obtain ⟨q1, q2⟩ := HOK.out rfl
    have hcl := ec_print y q2 _ A2 c2 W2 hry
    rw [q1] at hcl
    have HCL2 := hide hcl
    have HB9 := hide hbw2
    clear hcl q1 q2
    refine HK.out _ _ ?_
    go_wp2_with (first | (refine is_load 66 (.tmp 16) rfl ?_; refine next_load (hBy) Tryz.underlying66 rfl shot_info rfl (.tmp 16) rfl rfl ?_) | (go_at_call 28; refine HCL2.out.mono ?_; rintro e w3 ⟨rfl, hb3⟩; have HG9 := hide (HG9.out.below hb3); dsimp only) | (go_at_call 17; refine (awake_any _ HG9.out).mono ?_; rintro e w9 ⟨rfl, hb9⟩; dsimp only))
    go_ret
    exact ⟨rfl, (HB9.out.trans (hb3.mono HB9.out.size)).trans (hb9.mono (Nat.le_trans HB9.out.size hb3.size))⟩
  · have hb : (er != 0) = true := by simpa using he
    obtain rfl := HZR.out he
    have c1' : W2.cell? ⟨B, 1, none⟩ = some (.string ⟨#[]⟩) := hBy.cell (j := 1) rfl
    have c6' : W2.cell? ⟨B, 6, none⟩ = some (.slice A2 0 c2) := hBy.cell (j := 6) rfl
    have HB9 := hide hbw2
    clear he
    refine HK.out _ _ ?_
    go_wp2_with (first | (go_at_call 17; refine (awake_any _ HG9.out).mono ?_; rintro e w9 ⟨rfl, hb9⟩; dsimp only))
    go_ret
    exact ⟨rfl, HB9.out.trans (hb9.mono HB9.out.size)⟩
set_option maxRecDepth 100000 in
set_option maxHeartbeats 8000000 in
theorem echoes_any (W0 : World) (hg : Glob W0) (x : Sh) (l : List UInt8) (hf : ShFit W0 x) :
    Calls Tryz.prog 7 #[shotV x.x x.a x.c, .string ⟨l.toArray⟩] W0 fun e w' => e = .returned (.bool true) ∧ Below W0.heap.size W0 w' := by
  obtain ⟨hp, hfit⟩ := hf
  have HG := hide hg
  have hsz := ba_size l
  have hall := fun (h1 : M.ckShot x.x = 0) (h2 : l.length ≤ 300) => let HCK := hide h1; let HL := hide h2; ec_3 W0 x l HG HCK HL (hide (ec_4 W0 x l HG HCK HL (hide (ec_5 W0 x l HG HCK HL (hide (ec_6 W0 x l HG HCK HL (hide (ec_7 W0 x l HG HCK HL (hide (ec_8 W0 x l HG HCK HL (hide (ec_9 W0 x l HG HCK HL))))))))))))
  have HALL := hide hall
  clear hall
  go_enter Tryz.func7, Tryz.ntmps7
  have hB := Held.new W0 (shCells x) 66
  have hpa := Reads.alloc hp (.cells (shCells x).toArray 66)
  go_upto_region 2 with (first | (refine is_load 66 (.tmp 2) rfl ?_; refine next_load (hB) Tryz.underlying66 rfl shot_info rfl (.tmp 2) rfl rfl ?_) | (go_at_call 26; refine (lawOwn_any _ x.x x.a x.c _ hpa hfit).mono ?_; rintro e w1 ⟨A5, c5, rfl, hr5, hb1⟩; have hbx := Held.new w1 zSh 69; dsimp only) | (refine is_store 69 (.tmp 5) (.tmp 22) rfl ?_; refine next_store hbx (shCells ⟨x.x, A5, c5⟩) rfl rshot_info (sh_one x.x A5 c5) rfl (.tmp 5) (.tmp 22) rfl rfl rfl ?_))
  have hb2 : Below w1.heap.size w1 ((w1.alloc (.cells zSh.toArray 69)).setCells w1.heap.size 0 (shCells ⟨x.x, A5, c5⟩)) := below_setCells _ (Nat.le_refl _) _ _ _ _ ((Below.refl _ _).alloc (Nat.le_refl _) _)
  have hBx := hbx.whole (shCells ⟨x.x, A5, c5⟩) rfl
  have hr5' := Reads.more (Reads.below hr5 hb2) (S' := fun _ => True) (fun _ _ _ => trivial)
  have hbw : Below W0.heap.size W0 ((w1.alloc (.cells zSh.toArray 69)).setCells w1.heap.size 0 (shCells ⟨x.x, A5, c5⟩)) := bnext (bnext ((Below.refl _ W0).alloc (Nat.le_refl _) (.cells (shCells x).toArray 66)) hb1) hb2
  have hB' := (hB.below hb1).below hb2
  obtain ⟨W2, hW2⟩ : ∃ W2, (w1.alloc (.cells zSh.toArray 69)).setCells w1.heap.size 0 (shCells ⟨x.x, A5, c5⟩) = W2 := ⟨_, rfl⟩
  have hW2' : (w1.alloc (.cells #[.int .i64 0, .string ⟨#[]⟩, .int .i64 0, .int .i64 0, .int .i64 0, .bool false, .slice none 0 0] 69)).setCells w1.heap.size 0 (shCells ⟨x.x, A5, c5⟩) = W2 := hW2
  obtain ⟨B, hBq⟩ : ∃ B, w1.heap.size = B := ⟨_, rfl⟩
  rw [hW2] at hBx hr5' hbw hB'
  rw [hW2', hBq]
  rw [hBq] at hBx
  have HG2 := hide (HG.out.below hbw)
  have hEc : EcB W0 x (ptr W0.heap.size) (ptr B) W2 := ⟨rfl, hB', Reads.more (Reads.below hp hbw) (fun _ _ _ => trivial), hbw, hfit, B, A5, c5, rfl, hBx, hr5'⟩
  have hbd := (RdP.bd hp).2.2
  clear hW2 hW2' hBq hb2 hbx hr5 hb1 hB hpa hB'
  rename_i K hK K2 hK2
  have HK := hide hK
  have HK2 := hide hK2
  clear hK hK2
  by_cases hsh : x.x.kind.size ≤ 60 ∧ x.x.pots.length ≤ 18
  · have hsd : decide (x.x.kind.size ≤ 60 ∧ x.x.pots.length ≤ 18) = true := decide_eq_true hsh
    by_cases h3 : 300 < l.length
    · go_wp2_with (first | (refine is_load 69 (.tmp 5) rfl ?_; refine next_load (hBx) Tryz.underlying69 rfl rshot_info rfl (.tmp 5) rfl rfl ?_) | (refine is_load 69 (.tmp 5) rfl ?_; refine next_load_g (hBx) Tryz.underlying69 rfl rshot_info rfl (.tmp 5) rfl rfl ?_) | (refine is_load_w 69 (.tmp 5) rfl ?_; refine next_load_w (hBx) Tryz.underlying69 rfl rshot_info (.tmp 5) rfl rfl ?_) | (go_at_call 27; refine (shortShot_any x.x A5 c5 _ (by omega)).mono ?_; rw [hsd]; rintro e w3 ⟨rfl, hb3⟩; have HG9 := hide (HG2.out.below hb3); have hB3 := hBx.below hb3; dsimp only))
      refine HK2.out _ _ ?_
      go_wp2_with (first | (go_at_call 17; refine (awake_any _ HG9.out).mono ?_; rintro e w9 ⟨rfl, hb9⟩; dsimp only))
      go_ret
      exact ⟨rfl, bnext (bnext hbw hb3) hb9⟩
    · have h3' : ¬ (300 : Int) < (l.length : Int) := by omega
      obtain ⟨E, hE⟩ : ∃ E, M.ckShot x.x = E := ⟨_, rfl⟩
      have hck := fun W h => refCkShot_any (fun _ => True) x.x A5 c5 W h
      rw [hE] at hck
      by_cases h0 : E = 0
      · subst h0
        have HE := hide hE
        have HH := hide h3
        clear hE h3
        go_wp2_with (first | (refine is_load 69 (.tmp 5) rfl ?_; refine next_load (hBx) Tryz.underlying69 rfl rshot_info rfl (.tmp 5) rfl rfl ?_) | (refine is_load 69 (.tmp 5) rfl ?_; refine next_load_g (hBx) Tryz.underlying69 rfl rshot_info rfl (.tmp 5) rfl rfl ?_) | (refine is_load_w 69 (.tmp 5) rfl ?_; refine next_load_w (hBx) Tryz.underlying69 rfl rshot_info (.tmp 5) rfl rfl ?_) | (go_at_call 27; refine (shortShot_any x.x A5 c5 _ (by omega)).mono ?_; rw [hsd]; rintro e w3 ⟨rfl, hb3⟩; have HG9 := hide (HG2.out.below hb3); have hB3 := hBx.below hb3; dsimp only) | (refine is_load 69 (.tmp 5) rfl ?_; refine next_load (hB3) Tryz.underlying69 rfl rshot_info rfl (.tmp 5) rfl rfl ?_) | (refine is_load 69 (.tmp 5) rfl ?_; refine next_load_g (hB3) Tryz.underlying69 rfl rshot_info rfl (.tmp 5) rfl rfl ?_) | (refine is_load_w 69 (.tmp 5) rfl ?_; refine next_load_w (hB3) Tryz.underlying69 rfl rshot_info (.tmp 5) rfl rfl ?_) | (go_at_call 30; refine (hck _ (Reads.below hr5' hb3)).mono ?_; rintro e w4 ⟨rfl, hb4⟩; have HG9 := hide (HG9.out.below hb4); dsimp only))
        have hEc4 := (hEc.below hb3).below hb4
        refine HK2.out _ _ ?_
        go_wp2
        refine HK.out _ _ ?_
        have HA := HALL.out HE.out (by have := HH.out; omega)
        apply HA
        exact ⟨hEc4, rfl⟩
      · have h0' : (E != 0) = true := by simpa using h0
        clear h0 hE
        go_wp2_with (first | (refine is_load 69 (.tmp 5) rfl ?_; refine next_load (hBx) Tryz.underlying69 rfl rshot_info rfl (.tmp 5) rfl rfl ?_) | (refine is_load 69 (.tmp 5) rfl ?_; refine next_load_g (hBx) Tryz.underlying69 rfl rshot_info rfl (.tmp 5) rfl rfl ?_) | (refine is_load_w 69 (.tmp 5) rfl ?_; refine next_load_w (hBx) Tryz.underlying69 rfl rshot_info (.tmp 5) rfl rfl ?_) | (go_at_call 27; refine (shortShot_any x.x A5 c5 _ (by omega)).mono ?_; rw [hsd]; rintro e w3 ⟨rfl, hb3⟩; have HG9 := hide (HG2.out.below hb3); have hB3 := hBx.below hb3; dsimp only) | (refine is_load 69 (.tmp 5) rfl ?_; refine next_load (hB3) Tryz.underlying69 rfl rshot_info rfl (.tmp 5) rfl rfl ?_) | (refine is_load 69 (.tmp 5) rfl ?_; refine next_load_g (hB3) Tryz.underlying69 rfl rshot_info rfl (.tmp 5) rfl rfl ?_) | (refine is_load_w 69 (.tmp 5) rfl ?_; refine next_load_w (hB3) Tryz.underlying69 rfl rshot_info (.tmp 5) rfl rfl ?_) | (go_at_call 30; refine (hck _ (Reads.below hr5' hb3)).mono ?_; rintro e w4 ⟨rfl, hb4⟩; have HG9 := hide (HG9.out.below hb4); dsimp only))
        refine HK2.out _ _ ?_
        go_wp2_with (first | (go_at_call 17; refine (awake_any _ HG9.out).mono ?_; rintro e w9 ⟨rfl, hb9⟩; dsimp only))
        go_ret
        exact ⟨rfl, bnext (bnext (bnext hbw hb3) hb4) hb9⟩
  · have hsd : decide (x.x.kind.size ≤ 60 ∧ x.x.pots.length ≤ 18) = false := decide_eq_false hsh
    clear hsh
    go_wp2_with (first | (refine is_load 69 (.tmp 5) rfl ?_; refine next_load (hBx) Tryz.underlying69 rfl rshot_info rfl (.tmp 5) rfl rfl ?_) | (refine is_load 69 (.tmp 5) rfl ?_; refine next_load_g (hBx) Tryz.underlying69 rfl rshot_info rfl (.tmp 5) rfl rfl ?_) | (refine is_load_w 69 (.tmp 5) rfl ?_; refine next_load_w (hBx) Tryz.underlying69 rfl rshot_info (.tmp 5) rfl rfl ?_) | (go_at_call 27; refine (shortShot_any x.x A5 c5 _ (by omega)).mono ?_; rw [hsd]; rintro e w3 ⟨rfl, hb3⟩; have HG9 := hide (HG2.out.below hb3); have hB3 := hBx.below hb3; dsimp only))
    refine HK2.out _ _ ?_
    go_wp2_with (first | (go_at_call 17; refine (awake_any _ HG9.out).mono ?_; rintro e w9 ⟨rfl, hb9⟩; dsimp only))
    go_ret
    exact ⟨rfl, bnext (bnext hbw hb3) hb9⟩
end Go.Proofs.YtelpepbpdojikaaGreatDoor
