/- Parts of the proofs about chapter 5 (pool), joined by program. -/
import Derived.Test.YtelpepbpdojikaaGreatDoorKe42
set_option linter.unusedVariables false
set_option linter.unusedSimpArgs false
namespace Go.Proofs.YtelpepbpdojikaaGreatDoor
open Go.RowKit
theorem aw_parse' (W : World) (hg : Glob W) : Calls Tryz.prog 29 #[.string ⟨#[97, 32, 112, 108, 97, 121, 32, 99, 53]⟩] W fun e w' => ∃ A c, e = .returned (.tuple #[shotV M.blank A c, .int .i64 3, .int .i64 25]) ∧ Below W.heap.size W w' := by
  have := pparse_any M.awP W hg (by decide)
  rw [M.aw_parse] at this
  refine this.mono ?_
  rintro e w' ⟨A, c, rfl, _, hb⟩
  exact ⟨A, c, rfl, hb⟩
theorem aw_print' (x : Sh) (hx : x.x = M.awX) (S : Nat → Prop) (W : World) (hp : RdP W S x.a x.c x.x.pots) : Calls Tryz.prog 28 #[shotV x.x x.a x.c] W fun e w' => e = .returned (.tuple #[.string ⟨#[98, 32, 112, 108, 97, 121, 32, 99, 53, 47, 50, 32, 102, 53, 32, 43, 32, 112, 53, 47, 50, 32, 112, 48, 47, 51]⟩, .int .i64 0]) ∧ Below W.heap.size W w' := by
  have := pprint_any S x.x x.a x.c W hp
  rw [show M.ckShot x.x = 0 by rw [hx]; exact M.aw_print.2, show M.print x.x = [98, 32, 112, 108, 97, 121, 32, 99, 53, 47, 50, 32, 102, 53, 32, 43, 32, 112, 53, 47, 50, 32, 112, 48, 47, 51] by rw [hx]; exact M.aw_print.1] at this
  exact this
set_option maxRecDepth 100000 in
set_option maxHeartbeats 8000000 in
theorem aw_13 (w : World) (HG : Hid (Glob w)) (HN : Hid (AwG14 w)) : AwG13 w := by
  intro z0 z1 z2 z3 z4 z5 z6 z7 z8 z9 z10 z11 z12 z13 z14 z15 z16 z17 z18 z19 z20 z21 z22 z23 z24 z25 z26 z27 z28 z29 z30 z31 z32 z33 z34 z35 z36 z37 z38 z39 z40 z41 z42 z43 z44 z45 z46 z47 z48 z49 z50 z51 z52 z53 z54 z55 z56 z57 z58 z59 z60 z61 z62 z63 z64 z65 z66 z67 z68 z69 z70 z71 z72 z73 z74 z75 z76 z77 z78 z79 z80 z81 z82 z83 z84 z85 z86 z87 z88 z89 z90 z91 z92 z93 z94 z95 z96 z97 z98 z99 z100 z101 z102 z103 z104 z105 z106 z107 z108 z109 z110 z111 z112 z113 z114 z115 z116 z117 z118 z119 z120 z121 z122 z123 z124 z125 z126 z127 z128 z129 z130 z131 z132 z133 z134 z135 z136 z137 z138 z139 z140 z141 z142 z143 z144 z145 z146 z147 z148 z149 z150 z151 z152 z153 z154 z155 z156 z157 z158 z159 z160 z161 z162 z163 z164 z165 z166 z167 z168 z169 z170 z171 z172 z173 z174 z175 z176 z177 z178 z179 z180 z181 z182 z183 z184 z185 z186 z187 z188 z189 z190 z191 z192 z193 z194 z195 z196 z197 z198 z199 z200 z201 z202 z203 z204 z205 z206 z207 z208 z209 z210 z211 z212 z213 z214 z215 z216 z217 z218 z219 z220 z221 z222 z223 z224 z225 z226 z227 z228 z229 z230 z231 z232 z233 z234 z235 z236 z237 z238 z239 z240 z241 z242 z243 z244 z245 z246 z247 z248 z249 z250 z251 z252 z253 z254 z255 z256 z257 z258 z259 z260 z261 z262 z263 z264 z265 z266 z267 z268 z269 z270 z271 z272 W hf
  dsimp only [awCode, codeDrop, Tryz.f17, Option.getD]
  obtain ⟨rfl, rfl, rfl, hR, h17, rfl, h20, rfl, h23, h24, rfl⟩ := hf
  have hcl := aw_parse' W (HG.out.below hR.bw)
  have HCL := hide hcl
  clear hcl
  apply wp_seq_k
  intro K hK
  have HK := hide hK
  clear hK
  go_wp2_with (first | (go_at_call 29; refine HCL.out.mono ?_; rintro e w1 ⟨A1, c1, rfl, hb1⟩; have hbx := Held.new w1 zSh 66; dsimp only) | (refine is_store 66 (.tmp 26) (.tmp 180) rfl ?_; refine next_store hbx (shCells ⟨M.blank, A1, c1⟩) rfl shot_info (sh_one M.blank A1 c1) rfl (.tmp 26) (.tmp 180) rfl rfl rfl ?_))
  have hb2 : Below W.heap.size W ((w1.alloc (.cells zSh.toArray 66)).setCells w1.heap.size 0 (shCells ⟨M.blank, A1, c1⟩)) := below_setCells _ hb1.size _ _ _ _ (hb1.alloc hb1.size _)
  refine HK.out _ _ ?_
  apply HN.out
  exact ⟨rfl, rfl, rfl, hR.below hb2, h17.below hb2, rfl, h20.below hb2, rfl, h23.below hb2, h24.below hb2, rfl, ⟨_, A1, c1, rfl, Nat.le_trans hR.sz hb1.size, hbx.whole _ rfl⟩, rfl, rfl⟩
set_option maxRecDepth 100000 in
set_option maxHeartbeats 8000000 in
theorem aw_14 (w : World) (HG : Hid (Glob w)) (HN : Hid (AwG15 w)) : AwG14 w := by
  intro z0 z1 z2 z3 z4 z5 z6 z7 z8 z9 z10 z11 z12 z13 z14 z15 z16 z17 z18 z19 z20 z21 z22 z23 z24 z25 z26 z27 z28 z29 z30 z31 z32 z33 z34 z35 z36 z37 z38 z39 z40 z41 z42 z43 z44 z45 z46 z47 z48 z49 z50 z51 z52 z53 z54 z55 z56 z57 z58 z59 z60 z61 z62 z63 z64 z65 z66 z67 z68 z69 z70 z71 z72 z73 z74 z75 z76 z77 z78 z79 z80 z81 z82 z83 z84 z85 z86 z87 z88 z89 z90 z91 z92 z93 z94 z95 z96 z97 z98 z99 z100 z101 z102 z103 z104 z105 z106 z107 z108 z109 z110 z111 z112 z113 z114 z115 z116 z117 z118 z119 z120 z121 z122 z123 z124 z125 z126 z127 z128 z129 z130 z131 z132 z133 z134 z135 z136 z137 z138 z139 z140 z141 z142 z143 z144 z145 z146 z147 z148 z149 z150 z151 z152 z153 z154 z155 z156 z157 z158 z159 z160 z161 z162 z163 z164 z165 z166 z167 z168 z169 z170 z171 z172 z173 z174 z175 z176 z177 z178 z179 z180 z181 z182 z183 z184 z185 z186 z187 z188 z189 z190 z191 z192 z193 z194 z195 z196 z197 z198 z199 z200 z201 z202 z203 z204 z205 z206 z207 z208 z209 z210 z211 z212 z213 z214 z215 z216 z217 z218 z219 z220 z221 z222 z223 z224 z225 z226 z227 z228 z229 z230 z231 z232 z233 z234 z235 z236 z237 z238 z239 z240 z241 z242 z243 z244 z245 z246 z247 z248 z249 z250 z251 z252 z253 z254 z255 z256 z257 z258 z259 z260 z261 z262 z263 z264 z265 z266 z267 z268 z269 z270 z271 z272 W hf
  dsimp only [awCode, codeDrop, Tryz.f17, Option.getD]
  obtain ⟨rfl, rfl, rfl, hR, h17, rfl, h20, rfl, h23, h24, rfl, h26, rfl, rfl⟩ := hf
  apply wp_seq_k
  intro K hK
  have HK := hide hK
  clear hK
  go_wp2_with (first | (go_at_call 62; refine (aw_log M.awTL6 M.awL6 1 _ M.awL6_eq rfl rfl (by omega) (by decide) W _).mono ?_; rintro e w1 ⟨l, A, c, hl, rfl, hr, hb⟩; have hrd := hr.read (by rw [hl.2]; omega); obtain ⟨x6, rfl⟩ := one_shot hl.2; obtain ⟨b6, o6, rfl, _, hbl, hc6⟩ := Reads.at_ hrd.1 (by simp); have hx6 : x6.x = M.awX := List.singleton_inj.1 hl.1; have h00 : w1.rangeAt b6 o6 (shCells x6) := (fun j v hj => hc6 j v (by rw [show shsCells [x6] = shCells x6 by simp [shsCells]]; exact hj)); have hcl := aw_print' x6 hx6 _ w1 (hrd.2 x6 (by simp)); have HCL := hide hcl; clear hcl hc6; dsimp only) | (refine is_load 66 (.tmp 186) rfl ?_; refine next_load_at (g := b6) (o := o6) h00 Tryz.underlying66 rfl shot_info rfl (.tmp 186) rfl rfl ?_) | (go_at_call 28; refine HCL.out.mono ?_; rintro e w2 ⟨rfl, hb2⟩; dsimp only))
  have hbb := hb.trans (hb2.mono hb.size)
  refine HK.out _ _ ?_
  apply HN.out
  exact ⟨rfl, rfl, rfl, hR.below hbb, h17.below hbb, rfl, h20.below hbb, rfl, h23.below hbb, h24.below hbb, rfl, h26.below hbb, rfl, rfl, rfl, rfl⟩
set_option maxRecDepth 100000 in
set_option maxHeartbeats 8000000 in
theorem aw_15 (w : World) (HG : Hid (Glob w))  : AwG15 w := by
  intro z0 z1 z2 z3 z4 z5 z6 z7 z8 z9 z10 z11 z12 z13 z14 z15 z16 z17 z18 z19 z20 z21 z22 z23 z24 z25 z26 z27 z28 z29 z30 z31 z32 z33 z34 z35 z36 z37 z38 z39 z40 z41 z42 z43 z44 z45 z46 z47 z48 z49 z50 z51 z52 z53 z54 z55 z56 z57 z58 z59 z60 z61 z62 z63 z64 z65 z66 z67 z68 z69 z70 z71 z72 z73 z74 z75 z76 z77 z78 z79 z80 z81 z82 z83 z84 z85 z86 z87 z88 z89 z90 z91 z92 z93 z94 z95 z96 z97 z98 z99 z100 z101 z102 z103 z104 z105 z106 z107 z108 z109 z110 z111 z112 z113 z114 z115 z116 z117 z118 z119 z120 z121 z122 z123 z124 z125 z126 z127 z128 z129 z130 z131 z132 z133 z134 z135 z136 z137 z138 z139 z140 z141 z142 z143 z144 z145 z146 z147 z148 z149 z150 z151 z152 z153 z154 z155 z156 z157 z158 z159 z160 z161 z162 z163 z164 z165 z166 z167 z168 z169 z170 z171 z172 z173 z174 z175 z176 z177 z178 z179 z180 z181 z182 z183 z184 z185 z186 z187 z188 z189 z190 z191 z192 z193 z194 z195 z196 z197 z198 z199 z200 z201 z202 z203 z204 z205 z206 z207 z208 z209 z210 z211 z212 z213 z214 z215 z216 z217 z218 z219 z220 z221 z222 z223 z224 z225 z226 z227 z228 z229 z230 z231 z232 z233 z234 z235 z236 z237 z238 z239 z240 z241 z242 z243 z244 z245 z246 z247 z248 z249 z250 z251 z252 z253 z254 z255 z256 z257 z258 z259 z260 z261 z262 z263 z264 z265 z266 z267 z268 z269 z270 z271 z272 W hf
  dsimp only [awCode, codeDrop, Tryz.f17, Option.getD]
  obtain ⟨rfl, rfl, rfl, hR, h17, rfl, h20, rfl, h23, h24, rfl, h26, rfl, rfl, rfl, rfl⟩ := hf
  obtain ⟨B17, A17, c17, rfl, _, h17⟩ := h17
  obtain ⟨B20, A20, c20, rfl, _, h20⟩ := h20
  obtain ⟨B23, A23, c23, rfl, _, h23⟩ := h23
  obtain ⟨B26, A26, c26, rfl, _, h26⟩ := h26
  obtain ⟨A24, c24, rfl, hr24⟩ := h24
  obtain ⟨b24, o24, rfl, _, hlt24, hc24⟩ := Reads.at_ hr24 (by omega)
  have a13 : W.cell? ⟨B17, 13, none⟩ = some (.bool true) := h17.cell (j := 13) rfl
  have a14 : W.cell? ⟨B17, 14, none⟩ = some (.int .i64 0) := h17.cell (j := 14) rfl
  have b7 : W.cell? ⟨B20, 7, none⟩ = some (.int .i64 (-17)) := h20.cell (j := 7) rfl
  have b8 : W.cell? ⟨B20, 8, none⟩ = some (.int .i64 0) := h20.cell (j := 8) rfl
  have b1 : W.cell? ⟨B20, 1, none⟩ = some (.bool true) := h20.cell (j := 1) rfl
  have b12 : W.cell? ⟨B20, 12, none⟩ = some (.int .i64 2) := h20.cell (j := 12) rfl
  have b0 : W.cell? ⟨B20, 0, none⟩ = some (.int .i64 0) := h20.cell (j := 0) rfl
  have d7 : W.cell? ⟨B23, 7, none⟩ = some (.int .i64 0) := h23.cell (j := 7) rfl
  have d8 : W.cell? ⟨B23, 8, none⟩ = some (.int .i64 0) := h23.cell (j := 8) rfl
  have d2 : W.cell? ⟨B23, 2, none⟩ = some (.bool true) := h23.cell (j := 2) rfl
  have d6 : W.cell? ⟨B23, 6, none⟩ = some (.slice A23 14 c23) := h23.cell (j := 6) rfl
  have e1 : W.cell? ⟨B26, 1, none⟩ = some (.string ⟨#[]⟩) := h26.cell (j := 1) rfl
  have r0 : W.cell? ⟨b24, o24, none⟩ = some (.int .i64 3) := hc24 0 _ rfl
  have r1 : W.cell? ⟨b24, o24 + 1, none⟩ = some (.int .i64 2) := hc24 1 _ rfl
  have hq1 : ∀ w', (Op.equalIn 10000 31 (.agg #[.int .i64 (-17), .int .i64 0]) (.agg #[.int .i64 (-17), .int .i64 0])).run Tryz.prog w' = .ok true w' := fun _ => by kernel_rfl
  have hq4 : ∀ w', (Op.equalIn 10000 31 (.agg #[.int .i64 0, .int .i64 0]) (.agg #[.int .i64 0, .int .i64 0])).run Tryz.prog w' = .ok true w' := fun _ => by kernel_rfl
  have hq2 : ∀ w', (Op.equalIn 10000 51 (.agg #[.int .i64 3, .int .i64 2]) (.agg #[.int .i64 3, .int .i64 2])).run Tryz.prog w' = .ok true w' := fun _ => by kernel_rfl
  have hg1 : Tryz.prog.eqGuardType Tryz.prog.depth 31 = false := by kernel_rfl
  have hg2 : Tryz.prog.eqGuardType Tryz.prog.depth 51 = false := by kernel_rfl
  have HR := hide hR
  clear hc24 hr24 h17 h20 h23 h26 hR
  go_wp2
  go_ret
  exact ⟨rfl, HR.out.bw⟩
end Go.Proofs.YtelpepbpdojikaaGreatDoor
