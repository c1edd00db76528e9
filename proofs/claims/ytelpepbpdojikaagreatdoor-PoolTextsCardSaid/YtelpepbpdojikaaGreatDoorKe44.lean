/- Parts of the proofs about chapter 5 (pool), joined by program. -/
import Derived.Test.YtelpepbpdojikaaGreatDoorKe42
set_option linter.unusedVariables false
set_option linter.unusedSimpArgs false
namespace Go.Proofs.YtelpepbpdojikaaGreatDoor
open Go.RowKit
set_option maxRecDepth 100000 in
set_option maxHeartbeats 8000000 in
theorem aw_8 (w : World) (HG : Hid (Glob w)) (HN : Hid (AwG10 w)) : AwG8 w := by
  intro D z0 z1 z2 z3 z4 z5 z6 z7 z8 z9 z10 z11 z12 z13 z14 z15 z16 z17 z18 z19 z20 z21 z22 z23 z24 z25 z26 z27 z28 z29 z30 z31 z32 z33 z34 z35 z36 z37 z38 z39 z40 z41 z42 z43 z44 z45 z46 z47 z48 z49 z50 z51 z52 z53 z54 z55 z56 z57 z58 z59 z60 z61 z62 z63 z64 z65 z66 z67 z68 z69 z70 z71 z72 z73 z74 z75 z76 z77 z78 z79 z80 z81 z82 z83 z84 z85 z86 z87 z88 z89 z90 z91 z92 z93 z94 z95 z96 z97 z98 z99 z100 z101 z102 z103 z104 z105 z106 z107 z108 z109 z110 z111 z112 z113 z114 z115 z116 z117 z118 z119 z120 z121 z122 z123 z124 z125 z126 z127 z128 z129 z130 z131 z132 z133 z134 z135 z136 z137 z138 z139 z140 z141 z142 z143 z144 z145 z146 z147 z148 z149 z150 z151 z152 z153 z154 z155 z156 z157 z158 z159 z160 z161 z162 z163 z164 z165 z166 z167 z168 z169 z170 z171 z172 z173 z174 z175 z176 z177 z178 z179 z180 z181 z182 z183 z184 z185 z186 z187 z188 z189 z190 z191 z192 z193 z194 z195 z196 z197 z198 z199 z200 z201 z202 z203 z204 z205 z206 z207 z208 z209 z210 z211 z212 z213 z214 z215 z216 z217 z218 z219 z220 z221 z222 z223 z224 z225 z226 z227 z228 z229 z230 z231 z232 z233 z234 z235 z236 z237 z238 z239 z240 z241 z242 z243 z244 z245 z246 z247 z248 z249 z250 z251 z252 z253 z254 z255 z256 z257 z258 z259 z260 z261 z262 z263 z264 z265 z266 z267 z268 z269 z270 z271 z272 W hf
  dsimp only [awCode, codeDrop, Tryz.f17, Option.getD]
  obtain ⟨rfl, rfl, rfl, hR, hD, hDW, h5, rfl, h8, rfl, h10, rfl, h12, rfl, h14, rfl⟩ := hf
  obtain ⟨B5, A5, c5, rfl, hD5, hB5, hr5⟩ := h5
  obtain ⟨A8, c8, rfl, hr8⟩ := h8
  obtain ⟨A10, c10, rfl, hr10⟩ := h10
  obtain ⟨A12, c12, rfl, hr12⟩ := h12
  obtain ⟨B14, A14, c14, rfl, hD14, hB14⟩ := h14
  obtain ⟨b10, o10, rfl, _, hlt10, hc10⟩ := Reads.at_ hr10 (by omega)
  obtain ⟨b12, o12, rfl, _, hlt12, hc12⟩ := Reads.at_ hr12 (by omega)
  have k0 : W.cell? ⟨B5, 0, none⟩ = some (.int .i64 1) := hB5.cell (j := 0) rfl
  have k2 : W.cell? ⟨B5, 2, none⟩ = some (.bool true) := hB5.cell (j := 2) rfl
  have k5 : W.cell? ⟨B5, 5, none⟩ = some (.int .i64 2) := hB5.cell (j := 5) rfl
  have k7 : W.cell? ⟨B5, 7, none⟩ = some (.int .i64 2) := hB5.cell (j := 7) rfl
  have k8 : W.cell? ⟨B5, 8, none⟩ = some (.int .i64 0) := hB5.cell (j := 8) rfl
  have k11 : W.cell? ⟨B5, 11, none⟩ = some (.int .i64 0) := hB5.cell (j := 11) rfl
  have q13 : W.cell? ⟨B14, 13, none⟩ = some (.bool true) := hB14.cell (j := 13) rfl
  have q14 : W.cell? ⟨B14, 14, none⟩ = some (.int .i64 0) := hB14.cell (j := 14) rfl
  have nn : ∀ j v, (noteCells [⟨1, 0, 0, 0, 1, false⟩, ⟨2, 0, 0, 0, 1, false⟩, ⟨3, 0, 0, 3, 0, true⟩])[j]? = some v → W.cell? ⟨b10, o10 + j, none⟩ = some v := hc10
  have rr : ∀ j v, (runCells [⟨0, 2⟩])[j]? = some v → W.cell? ⟨b12, o12 + j, none⟩ = some v := hc12
  have hl5 := hB5.lt
  have hl14 := hB14.lt
  have hq1 : ∀ w', (Op.equalIn 10000 31 (.agg #[.int .i64 2, .int .i64 0]) (.agg #[.int .i64 2, .int .i64 0])).run Tryz.prog w' = .ok true w' := fun _ => by kernel_rfl
  have hq2 : ∀ w', (Op.equalIn 10000 54 (.agg #[.int .i64 3, .int .i64 0, .int .i64 0, .int .i64 3, .int .i64 0, .bool true]) (.agg #[.int .i64 3, .int .i64 0, .int .i64 0, .int .i64 3, .int .i64 0, .bool true])).run Tryz.prog w' = .ok true w' := fun _ => by kernel_rfl
  have hq3 : ∀ w', (Op.equalIn 10000 63 (.agg #[.int .i64 0, .int .i64 2]) (.agg #[.int .i64 0, .int .i64 2])).run Tryz.prog w' = .ok true w' := fun _ => by kernel_rfl
  have hg1 : Tryz.prog.eqGuardType Tryz.prog.depth 31 = false := by kernel_rfl
  have hg2 : Tryz.prog.eqGuardType Tryz.prog.depth 54 = false := by kernel_rfl
  have hg3 : Tryz.prog.eqGuardType Tryz.prog.depth 63 = false := by kernel_rfl
  apply wp_seq_k
  intro K hK
  have HK := hide hK
  clear hK
  apply wp_seq_k
  intro K2 hK2
  have HK2 := hide hK2
  clear hK2
  have HR := hide hR
  have HN10 := hide nn
  have HN12 := hide rr
  have HR8 := hide hr8
  clear hc10 hc12 nn rr hr10 hr12 hR hr5 hr8 hB5 hB14
  have hb10 : b10 < W.heap.size := hlt10
  have hb12 : b12 < W.heap.size := hlt12
  have m0 : W.cell? ⟨b10, o10 + 12, none⟩ = some (.int .i64 3) := HN10.out 12 _ rfl
  have m1 : W.cell? ⟨b10, o10 + 12 + 1, none⟩ = some (.int .i64 0) := HN10.out 13 _ rfl
  have m2 : W.cell? ⟨b10, o10 + 12 + 2, none⟩ = some (.int .i64 0) := HN10.out 14 _ rfl
  have m3 : W.cell? ⟨b10, o10 + 12 + 3, none⟩ = some (.int .i64 3) := HN10.out 15 _ rfl
  have m4 : W.cell? ⟨b10, o10 + 12 + 4, none⟩ = some (.int .i64 0) := HN10.out 16 _ rfl
  have m5 : W.cell? ⟨b10, o10 + 12 + 5, none⟩ = some (.bool true) := HN10.out 17 _ rfl
  have r0 : W.cell? ⟨b12, o12, none⟩ = some (.int .i64 0) := HN12.out 0 _ rfl
  have r1 : W.cell? ⟨b12, o12 + 1, none⟩ = some (.int .i64 2) := HN12.out 1 _ rfl
  have n4 : W.cell? ⟨b10, o10 + 4, none⟩ = some (.int .i64 1) := HN10.out 4 _ rfl
  have hsi := fun W' (h : Below W.heap.size W W') (o : Nat) (cc : Nat) (hr : RdI W' (fun _ => True) (some ⟨o, 0, none⟩) cc [1, 2, 3, 4, 5, 6, 7]) => sameInts_any (fun _ => True) A8 (some ⟨o, 0, none⟩) c8 cc [1, 2, 3, 4, 5, 6, 7] [1, 2, 3, 4, 5, 6, 7] W' (RdI.more (HR8.out.below h) (fun _ _ _ => trivial)) hr
  have HSI := hide hsi
  clear hsi
  go_wp2_with (first | (go_at_call 53; refine (HSI.out _ ((Below.refl _ _).alloc (Nat.le_refl _) _) _ 7 (RdI.lit _ _ [1, 2, 3, 4, 5, 6, 7] (by simp) _ trivial)).mono ?_; rintro e w1 ⟨rfl, n1, rfl⟩; dsimp only))
  have hbw := below_drewN ((Below.refl _ W).alloc (Nat.le_refl _) (.cells #[.int .i64 1, .int .i64 2, .int .i64 3, .int .i64 4, .int .i64 5, .int .i64 6, .int .i64 7] 3)) n1
  refine HK2.out _ _ ?_
  go_wp2
  refine HK.out _ _ ?_
  apply HN.out
  exact ⟨rfl, rfl, rfl, HR.out.below hbw⟩
end Go.Proofs.YtelpepbpdojikaaGreatDoor
