/- Parts of the proofs about chapter 5 (pool), joined by program. -/
import Derived.Test.YtelpepbpdojikaaGreatDoorKe42
set_option linter.unusedVariables false
set_option linter.unusedSimpArgs false
namespace Go.Proofs.YtelpepbpdojikaaGreatDoor
open Go.RowKit
set_option maxRecDepth 100000 in
set_option maxHeartbeats 8000000 in
theorem aw_11 (w : World) (HG : Hid (Glob w)) (HN : Hid (AwG12 w)) : AwG11 w := by
  intro z0 z1 z2 z3 z4 z5 z6 z7 z8 z9 z10 z11 z12 z13 z14 z15 z16 z17 z18 z19 z20 z21 z22 z23 z24 z25 z26 z27 z28 z29 z30 z31 z32 z33 z34 z35 z36 z37 z38 z39 z40 z41 z42 z43 z44 z45 z46 z47 z48 z49 z50 z51 z52 z53 z54 z55 z56 z57 z58 z59 z60 z61 z62 z63 z64 z65 z66 z67 z68 z69 z70 z71 z72 z73 z74 z75 z76 z77 z78 z79 z80 z81 z82 z83 z84 z85 z86 z87 z88 z89 z90 z91 z92 z93 z94 z95 z96 z97 z98 z99 z100 z101 z102 z103 z104 z105 z106 z107 z108 z109 z110 z111 z112 z113 z114 z115 z116 z117 z118 z119 z120 z121 z122 z123 z124 z125 z126 z127 z128 z129 z130 z131 z132 z133 z134 z135 z136 z137 z138 z139 z140 z141 z142 z143 z144 z145 z146 z147 z148 z149 z150 z151 z152 z153 z154 z155 z156 z157 z158 z159 z160 z161 z162 z163 z164 z165 z166 z167 z168 z169 z170 z171 z172 z173 z174 z175 z176 z177 z178 z179 z180 z181 z182 z183 z184 z185 z186 z187 z188 z189 z190 z191 z192 z193 z194 z195 z196 z197 z198 z199 z200 z201 z202 z203 z204 z205 z206 z207 z208 z209 z210 z211 z212 z213 z214 z215 z216 z217 z218 z219 z220 z221 z222 z223 z224 z225 z226 z227 z228 z229 z230 z231 z232 z233 z234 z235 z236 z237 z238 z239 z240 z241 z242 z243 z244 z245 z246 z247 z248 z249 z250 z251 z252 z253 z254 z255 z256 z257 z258 z259 z260 z261 z262 z263 z264 z265 z266 z267 z268 z269 z270 z271 z272 W hf
  dsimp only [awCode, codeDrop, Tryz.f17, Option.getD]
  obtain ⟨rfl, rfl, rfl, hR, h17, rfl⟩ := hf
  have hrng : ∀ W', (fun w' : World => Below W.heap.size W w') W' → W'.rangeAt (w.heap.size + 2) 0 ([.string M.gStraight, .int .i64 2, .int .i64 2]) := fun W' h => (hR.s.below h).range
  apply wp_seq_k
  intro K hK
  have HK := hide hK
  clear hK
  refine wp_region_held_drew (S := (fun w' : World => Below W.heap.size W w')) (by kernel_rfl) ?q2xstart (fun hHeld => ?_)
  case q2xstart => exact (Below.refl _ _).drew
  refine wpAnyH_take (i := 0) (oi := _) (v := _) (ga rfl) (by kernel_rfl) (by kernel_rfl) (by kernel_rfl) (fun _ _ _ h => h) (yieldsIf_load_mid (by rfl) _ _ (by rfl) _ _ (by rfl) _ _ hrng Tryz.underlying23 rfl (by kernel_rfl)) (by assumption) ?_
  try simp only [Act.put, la, lz, ls]
  refine wpAnyH_ready (rs := [1, 8]) (by kernel_rfl) (by simp) ?_
  refine AllReadyH.cons (o := _) (ga rfl) (fun K hK => ?_) (AllReadyH.cons (o := _) (ga rfl) (fun K hK => ?_) AllReadyH.nil)
  · go_simp
    refine hK.out _ _ ?q2xh1b14 (fun hHeld => ?_)
    case q2xh1b14 => (exact Below.alloc hHeld hHeld.size _)
    clear hK K
    try simp only [Act.put, la, lz, ls]
    refine wpAnyH_ready (rs := [2, 8]) (by kernel_rfl) (by simp) ?_
    refine AllReadyH.cons (o := _) (ga rfl) (fun K hK => ?_) (AllReadyH.cons (o := _) (ga rfl) (fun K hK => ?_) AllReadyH.nil)
    · go_simp
      first | (go_at_call 62; refine (aw_log' M.awTL4 M.awL4 3 M.awL4_eq rfl (by omega) (by decide) (by first | exact Reads.new_ _ _ 3 1 _ rfl (by omega) (fun _ => True) trivial | exact Reads.alloc (Reads.new_ _ _ 3 1 _ rfl (by omega) (fun _ => True) trivial) _ | exact Reads.drew (Reads.newAt _ _ 3 1 _ _ rfl (by omega) (fun _ => True) trivial (by simp)) | exact Reads.drew (Reads.alloc (Reads.newAt _ _ 3 1 _ _ rfl (by omega) (fun _ => True) trivial rfl) _))).mono ?_; rintro e w6 ⟨l6, A6, c6, hl6, rfl, hr6, hb6⟩; have hz6 : W.heap.size ≤ w6.heap.size := Nat.le_trans hHeld.size hb6.size; have hrd6 := (hr6.read (by rw [hl6.2]; omega)).more (S' := fun _ => True) (fun _ _ _ => trivial)) | (go_at_call 18; refine (aw_replay0 (S := fun _ => True) M.awS4 M.aw_rules.2.2 M.aw_logs.2.2.2.1 M.aw_final4 hl6 (by first | exact hrd6 | exact hrd6.below ((Below.refl _ _).alloc (Nat.le_refl _) _))).mono ?_; rintro e w8 ⟨A8, c8, A9, k9, c9, rfl, hb8⟩; have hz8 : W.heap.size ≤ w8.heap.size := Nat.le_trans hHeld.size hb8.size)
      refine hK.out _ _ ?q2xh2b27 (fun hHeld => ?_)
      case q2xh2b27 => (exact hHeld.trans (hb6.mono hHeld.size))
      clear hK K
      try simp only [Act.put, la, lz, ls]
      refine wpAnyH_ready (rs := [3, 8]) (by kernel_rfl) (by simp) ?_
      refine AllReadyH.cons (o := _) (ga rfl) (fun K hK => ?_) (AllReadyH.cons (o := _) (ga rfl) (fun K hK => ?_) AllReadyH.nil)
      · go_simp
        first | (go_at_call 62; refine (aw_log' M.awTL4 M.awL4 3 M.awL4_eq rfl (by omega) (by decide) (by first | exact Reads.new_ _ _ 3 1 _ rfl (by omega) (fun _ => True) trivial | exact Reads.alloc (Reads.new_ _ _ 3 1 _ rfl (by omega) (fun _ => True) trivial) _ | exact Reads.drew (Reads.newAt _ _ 3 1 _ _ rfl (by omega) (fun _ => True) trivial (by simp)) | exact Reads.drew (Reads.alloc (Reads.newAt _ _ 3 1 _ _ rfl (by omega) (fun _ => True) trivial rfl) _))).mono ?_; rintro e w6 ⟨l6, A6, c6, hl6, rfl, hr6, hb6⟩; have hz6 : W.heap.size ≤ w6.heap.size := Nat.le_trans hHeld.size hb6.size; have hrd6 := (hr6.read (by rw [hl6.2]; omega)).more (S' := fun _ => True) (fun _ _ _ => trivial)) | (go_at_call 18; refine (aw_replay0 (S := fun _ => True) M.awS4 M.aw_rules.2.2 M.aw_logs.2.2.2.1 M.aw_final4 hl6 (by first | exact hrd6 | exact hrd6.below ((Below.refl _ _).alloc (Nat.le_refl _) _))).mono ?_; rintro e w8 ⟨A8, c8, A9, k9, c9, rfl, hb8⟩; have hz8 : W.heap.size ≤ w8.heap.size := Nat.le_trans hHeld.size hb8.size)
        refine hK.out _ _ ?q2xh3b40 (fun hHeld => ?_)
        case q2xh3b40 => (exact hHeld.trans (hb8.mono hHeld.size))
        clear hK K
        try simp only [Act.put, la, lz, ls]
        refine wpAnyH_take (i := 4) (oi := _) (v := ?q2xv4b41) (ga rfl) (by kernel_rfl) (by kernel_rfl) (by kernel_rfl) (fun _ _ _ h => h) (Or.inl ⟨by rfl, ?q2xy4b41⟩) (by assumption) ?_
        case q2xy4b41 => (intro w hSw; (try dsimp only at hSw); go_simp; try with_reducible rfl)
        try simp only [Act.put, la, lz, ls]
        refine wpAnyH_take (i := 5) (oi := _) (v := ?q2xv5b42) (ga rfl) (by kernel_rfl) (by kernel_rfl) (by kernel_rfl) (fun _ _ _ h => h) (Or.inl ⟨by rfl, ?q2xy5b42⟩) (by assumption) ?_
        case q2xy5b42 => (intro w hSw; (try dsimp only at hSw); go_simp; try with_reducible rfl)
        try simp only [Act.put, la, lz, ls]
        refine wpAnyH_take (i := 6) (oi := _) (v := ?q2xv6b43) (ga rfl) (by kernel_rfl) (by kernel_rfl) (by kernel_rfl) (fun _ _ _ h => h) (Or.inl ⟨by rfl, ?q2xy6b43⟩) (by assumption) ?_
        case q2xy6b43 => (intro w hSw; (try dsimp only at hSw); go_simp; try with_reducible rfl)
        try simp only [Act.put, la, lz, ls]
        refine wpAnyH_take (i := 7) (oi := _) (v := ?q2xv7b44) (ga rfl) (by kernel_rfl) (by kernel_rfl) (by kernel_rfl) (fun _ _ _ h => h) (Or.inl ⟨by rfl, ?q2xy7b44⟩) (by assumption) ?_
        case q2xy7b44 => (intro w hSw; (try dsimp only at hSw); go_simp; try with_reducible rfl)
        try simp only [Act.put, la, lz, ls]
        refine wpAnyH_ready (rs := [8]) (by kernel_rfl) (by simp) ?_
        refine AllReadyH.cons (o := _) (ga rfl) (fun K hK => ?_) AllReadyH.nil
        go_simp
        refine hK.out _ _ ?q2xh8b45 (fun hHeld => ?_)
        case q2xh8b45 => (exact Below.alloc hHeld hHeld.size _)
        clear hK K
        try simp only [Act.put, la, lz, ls]
        refine wpAnyH_ready (rs := [9]) (by kernel_rfl) (by simp) ?_
        refine AllReadyH.cons (o := _) (ga rfl) (fun K hK => ?_) AllReadyH.nil
        refine next_store_w (cs := zeroState) (by first | exact Held.new _ zeroState 33 | exact (Held.new w6 zeroState 33).below hb8 | exact ((Held.newAt _ zeroState 33 (by simp)).drew.below hb6).below hb8 | exact (((Held.newAt _ zeroState 33 rfl).alloc _).drew.below hb6).below hb8) (stateCells M.awS4 A8 c8) rfl state_info (state_one _ _ _) (.tmp 20) (.tmp 167) rfl rfl rfl ?_
        refine hK.out _ _ ?q2xh9b46 (fun hHeld => ?_)
        case q2xh9b46 => (exact below_setCells _ (by first | exact Nat.le_refl _ | exact hz6 | exact hz8 | exact Nat.le_succ _) _ _ _ _ hHeld)
        clear hK K
        try simp only [Act.put, la, lz, ls]
        refine wpAnyH_take (i := 10) (oi := _) (v := ?q2xv10b47) (ga rfl) (by kernel_rfl) (by kernel_rfl) (by kernel_rfl) (fun _ _ _ h => h) (Or.inl ⟨by rfl, ?q2xy10b47⟩) (by assumption) ?_
        case q2xy10b47 => (intro w hSw; (try dsimp only at hSw); go_simp; try with_reducible rfl)
        try simp only [Act.put, la, lz, ls]
        refine wpAnyH_take (i := 11) (oi := _) (v := ?q2xv11b48) (ga rfl) (by kernel_rfl) (by kernel_rfl) (by kernel_rfl) (fun _ _ _ h => h) (Or.inl ⟨by rfl, ?q2xy11b48⟩) (by assumption) ?_
        case q2xy11b48 => (intro w hSw; (try dsimp only at hSw); go_simp; try with_reducible rfl)
        try simp only [Act.put, la, lz, ls]
        refine wpAnyH_done (by kernel_rfl) ?_ _
        refine HK.out _ _ ?_
        apply HN.out
        refine ⟨rfl, rfl, rfl, hR.below hHeld, h17.below hHeld, rfl, ?_, rfl⟩
        · refine ⟨_, A8, c8, rfl, ?_, ?_⟩
          · refine Nat.le_trans hR.sz ?_
            first | exact hz6 | exact hz8 | exact Nat.le_refl _ | exact Nat.le_succ _
          · refine Held.whole (cs := zeroState) ?_ _ rfl
            first | exact Held.new _ zeroState 33 | exact (Held.new w6 zeroState 33).below hb8 | exact ((Held.newAt _ zeroState 33 (by simp)).drew.below hb6).below hb8 | exact (((Held.newAt _ zeroState 33 rfl).alloc _).drew.below hb6).below hb8
      · go_simp
        refine hK.out _ _ ?q2xh8b61 (fun hHeld => ?_)
        case q2xh8b61 => (exact Below.alloc hHeld hHeld.size _)
        clear hK K
        try simp only [Act.put, la, lz, ls]
        refine wpAnyH_ready (rs := [3]) (by kernel_rfl) (by simp) ?_
        refine AllReadyH.cons (o := _) (ga rfl) (fun K hK => ?_) AllReadyH.nil
        go_simp
        first | (go_at_call 62; refine (aw_log' M.awTL4 M.awL4 3 M.awL4_eq rfl (by omega) (by decide) (by first | exact Reads.new_ _ _ 3 1 _ rfl (by omega) (fun _ => True) trivial | exact Reads.alloc (Reads.new_ _ _ 3 1 _ rfl (by omega) (fun _ => True) trivial) _ | exact Reads.drew (Reads.newAt _ _ 3 1 _ _ rfl (by omega) (fun _ => True) trivial (by simp)) | exact Reads.drew (Reads.alloc (Reads.newAt _ _ 3 1 _ _ rfl (by omega) (fun _ => True) trivial rfl) _))).mono ?_; rintro e w6 ⟨l6, A6, c6, hl6, rfl, hr6, hb6⟩; have hz6 : W.heap.size ≤ w6.heap.size := Nat.le_trans hHeld.size hb6.size; have hrd6 := (hr6.read (by rw [hl6.2]; omega)).more (S' := fun _ => True) (fun _ _ _ => trivial)) | (go_at_call 18; refine (aw_replay0 (S := fun _ => True) M.awS4 M.aw_rules.2.2 M.aw_logs.2.2.2.1 M.aw_final4 hl6 (by first | exact hrd6 | exact hrd6.below ((Below.refl _ _).alloc (Nat.le_refl _) _))).mono ?_; rintro e w8 ⟨A8, c8, A9, k9, c9, rfl, hb8⟩; have hz8 : W.heap.size ≤ w8.heap.size := Nat.le_trans hHeld.size hb8.size)
        refine hK.out _ _ ?q2xh3b62 (fun hHeld => ?_)
        case q2xh3b62 => (exact hHeld.trans (hb8.mono hHeld.size))
        clear hK K
        try simp only [Act.put, la, lz, ls]
        refine wpAnyH_take (i := 4) (oi := _) (v := ?q2xv4b63) (ga rfl) (by kernel_rfl) (by kernel_rfl) (by kernel_rfl) (fun _ _ _ h => h) (Or.inl ⟨by rfl, ?q2xy4b63⟩) (by assumption) ?_
        case q2xy4b63 => (intro w hSw; (try dsimp only at hSw); go_simp; try with_reducible rfl)
        try simp only [Act.put, la, lz, ls]
        refine wpAnyH_take (i := 5) (oi := _) (v := ?q2xv5b64) (ga rfl) (by kernel_rfl) (by kernel_rfl) (by kernel_rfl) (fun _ _ _ h => h) (Or.inl ⟨by rfl, ?q2xy5b64⟩) (by assumption) ?_
        case q2xy5b64 => (intro w hSw; (try dsimp only at hSw); go_simp; try with_reducible rfl)
        try simp only [Act.put, la, lz, ls]
        refine wpAnyH_take (i := 6) (oi := _) (v := ?q2xv6b65) (ga rfl) (by kernel_rfl) (by kernel_rfl) (by kernel_rfl) (fun _ _ _ h => h) (Or.inl ⟨by rfl, ?q2xy6b65⟩) (by assumption) ?_
        case q2xy6b65 => (intro w hSw; (try dsimp only at hSw); go_simp; try with_reducible rfl)
        try simp only [Act.put, la, lz, ls]
        refine wpAnyH_take (i := 7) (oi := _) (v := ?q2xv7b66) (ga rfl) (by kernel_rfl) (by kernel_rfl) (by kernel_rfl) (fun _ _ _ h => h) (Or.inl ⟨by rfl, ?q2xy7b66⟩) (by assumption) ?_
        case q2xy7b66 => (intro w hSw; (try dsimp only at hSw); go_simp; try with_reducible rfl)
        try simp only [Act.put, la, lz, ls]
        refine wpAnyH_ready (rs := [9]) (by kernel_rfl) (by simp) ?_
        refine AllReadyH.cons (o := _) (ga rfl) (fun K hK => ?_) AllReadyH.nil
        refine next_store_w (cs := zeroState) (by first | exact Held.new _ zeroState 33 | exact (Held.new w6 zeroState 33).below hb8 | exact ((Held.newAt _ zeroState 33 (by simp)).drew.below hb6).below hb8 | exact (((Held.newAt _ zeroState 33 rfl).alloc _).drew.below hb6).below hb8) (stateCells M.awS4 A8 c8) rfl state_info (state_one _ _ _) (.tmp 20) (.tmp 167) rfl rfl rfl ?_
        refine hK.out _ _ ?q2xh9b67 (fun hHeld => ?_)
        case q2xh9b67 => (exact below_setCells _ (by first | exact Nat.le_refl _ | exact hz6 | exact hz8 | exact Nat.le_succ _) _ _ _ _ hHeld)
        clear hK K
        try simp only [Act.put, la, lz, ls]
        refine wpAnyH_take (i := 10) (oi := _) (v := ?q2xv10b68) (ga rfl) (by kernel_rfl) (by kernel_rfl) (by kernel_rfl) (fun _ _ _ h => h) (Or.inl ⟨by rfl, ?q2xy10b68⟩) (by assumption) ?_
        case q2xy10b68 => (intro w hSw; (try dsimp only at hSw); go_simp; try with_reducible rfl)
        try simp only [Act.put, la, lz, ls]
        refine wpAnyH_take (i := 11) (oi := _) (v := ?q2xv11b69) (ga rfl) (by kernel_rfl) (by kernel_rfl) (by kernel_rfl) (fun _ _ _ h => h) (Or.inl ⟨by rfl, ?q2xy11b69⟩) (by assumption) ?_
        case q2xy11b69 => (intro w hSw; (try dsimp only at hSw); go_simp; try with_reducible rfl)
        try simp only [Act.put, la, lz, ls]
        refine wpAnyH_done (by kernel_rfl) ?_ _
        refine HK.out _ _ ?_
        apply HN.out
        refine ⟨rfl, rfl, rfl, hR.below hHeld, h17.below hHeld, rfl, ?_, rfl⟩
        · refine ⟨_, A8, c8, rfl, ?_, ?_⟩
          · refine Nat.le_trans hR.sz ?_
            first | exact hz6 | exact hz8 | exact Nat.le_refl _ | exact Nat.le_succ _
          · refine Held.whole (cs := zeroState) ?_ _ rfl
            first | exact Held.new _ zeroState 33 | exact (Held.new w6 zeroState 33).below hb8 | exact ((Held.newAt _ zeroState 33 (by simp)).drew.below hb6).below hb8 | exact (((Held.newAt _ zeroState 33 rfl).alloc _).drew.below hb6).below hb8
    · go_simp
      refine hK.out _ _ ?q2xh8b82 (fun hHeld => ?_)
      case q2xh8b82 => (exact Below.alloc hHeld hHeld.size _)
      clear hK K
      try simp only [Act.put, la, lz, ls]
      refine wpAnyH_ready (rs := [2]) (by kernel_rfl) (by simp) ?_
      refine AllReadyH.cons (o := _) (ga rfl) (fun K hK => ?_) AllReadyH.nil
      go_simp
      first | (go_at_call 62; refine (aw_log' M.awTL4 M.awL4 3 M.awL4_eq rfl (by omega) (by decide) (by first | exact Reads.new_ _ _ 3 1 _ rfl (by omega) (fun _ => True) trivial | exact Reads.alloc (Reads.new_ _ _ 3 1 _ rfl (by omega) (fun _ => True) trivial) _ | exact Reads.drew (Reads.newAt _ _ 3 1 _ _ rfl (by omega) (fun _ => True) trivial (by simp)) | exact Reads.drew (Reads.alloc (Reads.newAt _ _ 3 1 _ _ rfl (by omega) (fun _ => True) trivial rfl) _))).mono ?_; rintro e w6 ⟨l6, A6, c6, hl6, rfl, hr6, hb6⟩; have hz6 : W.heap.size ≤ w6.heap.size := Nat.le_trans hHeld.size hb6.size; have hrd6 := (hr6.read (by rw [hl6.2]; omega)).more (S' := fun _ => True) (fun _ _ _ => trivial)) | (go_at_call 18; refine (aw_replay0 (S := fun _ => True) M.awS4 M.aw_rules.2.2 M.aw_logs.2.2.2.1 M.aw_final4 hl6 (by first | exact hrd6 | exact hrd6.below ((Below.refl _ _).alloc (Nat.le_refl _) _))).mono ?_; rintro e w8 ⟨A8, c8, A9, k9, c9, rfl, hb8⟩; have hz8 : W.heap.size ≤ w8.heap.size := Nat.le_trans hHeld.size hb8.size)
      refine hK.out _ _ ?q2xh2b83 (fun hHeld => ?_)
      case q2xh2b83 => (exact hHeld.trans (hb6.mono hHeld.size))
      clear hK K
      try simp only [Act.put, la, lz, ls]
      refine wpAnyH_ready (rs := [3]) (by kernel_rfl) (by simp) ?_
      refine AllReadyH.cons (o := _) (ga rfl) (fun K hK => ?_) AllReadyH.nil
      go_simp
      first | (go_at_call 62; refine (aw_log' M.awTL4 M.awL4 3 M.awL4_eq rfl (by omega) (by decide) (by first | exact Reads.new_ _ _ 3 1 _ rfl (by omega) (fun _ => True) trivial | exact Reads.alloc (Reads.new_ _ _ 3 1 _ rfl (by omega) (fun _ => True) trivial) _ | exact Reads.drew (Reads.newAt _ _ 3 1 _ _ rfl (by omega) (fun _ => True) trivial (by simp)) | exact Reads.drew (Reads.alloc (Reads.newAt _ _ 3 1 _ _ rfl (by omega) (fun _ => True) trivial rfl) _))).mono ?_; rintro e w6 ⟨l6, A6, c6, hl6, rfl, hr6, hb6⟩; have hz6 : W.heap.size ≤ w6.heap.size := Nat.le_trans hHeld.size hb6.size; have hrd6 := (hr6.read (by rw [hl6.2]; omega)).more (S' := fun _ => True) (fun _ _ _ => trivial)) | (go_at_call 18; refine (aw_replay0 (S := fun _ => True) M.awS4 M.aw_rules.2.2 M.aw_logs.2.2.2.1 M.aw_final4 hl6 (by first | exact hrd6 | exact hrd6.below ((Below.refl _ _).alloc (Nat.le_refl _) _))).mono ?_; rintro e w8 ⟨A8, c8, A9, k9, c9, rfl, hb8⟩; have hz8 : W.heap.size ≤ w8.heap.size := Nat.le_trans hHeld.size hb8.size)
      refine hK.out _ _ ?q2xh3b84 (fun hHeld => ?_)
      case q2xh3b84 => (exact hHeld.trans (hb8.mono hHeld.size))
      clear hK K
      try simp only [Act.put, la, lz, ls]
      refine wpAnyH_take (i := 4) (oi := _) (v := ?q2xv4b85) (ga rfl) (by kernel_rfl) (by kernel_rfl) (by kernel_rfl) (fun _ _ _ h => h) (Or.inl ⟨by rfl, ?q2xy4b85⟩) (by assumption) ?_
      case q2xy4b85 => (intro w hSw; (try dsimp only at hSw); go_simp; try with_reducible rfl)
      try simp only [Act.put, la, lz, ls]
      refine wpAnyH_take (i := 5) (oi := _) (v := ?q2xv5b86) (ga rfl) (by kernel_rfl) (by kernel_rfl) (by kernel_rfl) (fun _ _ _ h => h) (Or.inl ⟨by rfl, ?q2xy5b86⟩) (by assumption) ?_
      case q2xy5b86 => (intro w hSw; (try dsimp only at hSw); go_simp; try with_reducible rfl)
      try simp only [Act.put, la, lz, ls]
      refine wpAnyH_take (i := 6) (oi := _) (v := ?q2xv6b87) (ga rfl) (by kernel_rfl) (by kernel_rfl) (by kernel_rfl) (fun _ _ _ h => h) (Or.inl ⟨by rfl, ?q2xy6b87⟩) (by assumption) ?_
      case q2xy6b87 => (intro w hSw; (try dsimp only at hSw); go_simp; try with_reducible rfl)
      try simp only [Act.put, la, lz, ls]
      refine wpAnyH_take (i := 7) (oi := _) (v := ?q2xv7b88) (ga rfl) (by kernel_rfl) (by kernel_rfl) (by kernel_rfl) (fun _ _ _ h => h) (Or.inl ⟨by rfl, ?q2xy7b88⟩) (by assumption) ?_
      case q2xy7b88 => (intro w hSw; (try dsimp only at hSw); go_simp; try with_reducible rfl)
      try simp only [Act.put, la, lz, ls]
      refine wpAnyH_ready (rs := [9]) (by kernel_rfl) (by simp) ?_
      refine AllReadyH.cons (o := _) (ga rfl) (fun K hK => ?_) AllReadyH.nil
      refine next_store_w (cs := zeroState) (by first | exact Held.new _ zeroState 33 | exact (Held.new w6 zeroState 33).below hb8 | exact ((Held.newAt _ zeroState 33 (by simp)).drew.below hb6).below hb8 | exact (((Held.newAt _ zeroState 33 rfl).alloc _).drew.below hb6).below hb8) (stateCells M.awS4 A8 c8) rfl state_info (state_one _ _ _) (.tmp 20) (.tmp 167) rfl rfl rfl ?_
      refine hK.out _ _ ?q2xh9b89 (fun hHeld => ?_)
      case q2xh9b89 => (exact below_setCells _ (by first | exact Nat.le_refl _ | exact hz6 | exact hz8 | exact Nat.le_succ _) _ _ _ _ hHeld)
      clear hK K
      try simp only [Act.put, la, lz, ls]
      refine wpAnyH_take (i := 10) (oi := _) (v := ?q2xv10b90) (ga rfl) (by kernel_rfl) (by kernel_rfl) (by kernel_rfl) (fun _ _ _ h => h) (Or.inl ⟨by rfl, ?q2xy10b90⟩) (by assumption) ?_
      case q2xy10b90 => (intro w hSw; (try dsimp only at hSw); go_simp; try with_reducible rfl)
      try simp only [Act.put, la, lz, ls]
      refine wpAnyH_take (i := 11) (oi := _) (v := ?q2xv11b91) (ga rfl) (by kernel_rfl) (by kernel_rfl) (by kernel_rfl) (fun _ _ _ h => h) (Or.inl ⟨by rfl, ?q2xy11b91⟩) (by assumption) ?_
      case q2xy11b91 => (intro w hSw; (try dsimp only at hSw); go_simp; try with_reducible rfl)
      try simp only [Act.put, la, lz, ls]
      refine wpAnyH_done (by kernel_rfl) ?_ _
      refine HK.out _ _ ?_
      apply HN.out
      refine ⟨rfl, rfl, rfl, hR.below hHeld, h17.below hHeld, rfl, ?_, rfl⟩
      · refine ⟨_, A8, c8, rfl, ?_, ?_⟩
        · refine Nat.le_trans hR.sz ?_
          first | exact hz6 | exact hz8 | exact Nat.le_refl _ | exact Nat.le_succ _
        · refine Held.whole (cs := zeroState) ?_ _ rfl
          first | exact Held.new _ zeroState 33 | exact (Held.new w6 zeroState 33).below hb8 | exact ((Held.newAt _ zeroState 33 (by simp)).drew.below hb6).below hb8 | exact (((Held.newAt _ zeroState 33 rfl).alloc _).drew.below hb6).below hb8
  · go_simp
    refine hK.out _ _ ?q2xh8b104 (fun hHeld => ?_)
    case q2xh8b104 => (exact Below.alloc hHeld hHeld.size _)
    clear hK K
    try simp only [Act.put, la, lz, ls]
    refine wpAnyH_ready (rs := [1]) (by kernel_rfl) (by simp) ?_
    refine AllReadyH.cons (o := _) (ga rfl) (fun K hK => ?_) AllReadyH.nil
    go_simp
    refine hK.out _ _ ?q2xh1b105 (fun hHeld => ?_)
    case q2xh1b105 => (exact Below.alloc hHeld hHeld.size _)
    clear hK K
    try simp only [Act.put, la, lz, ls]
    refine wpAnyH_ready (rs := [2]) (by kernel_rfl) (by simp) ?_
    refine AllReadyH.cons (o := _) (ga rfl) (fun K hK => ?_) AllReadyH.nil
    go_simp
    first | (go_at_call 62; refine (aw_log' M.awTL4 M.awL4 3 M.awL4_eq rfl (by omega) (by decide) (by first | exact Reads.new_ _ _ 3 1 _ rfl (by omega) (fun _ => True) trivial | exact Reads.alloc (Reads.new_ _ _ 3 1 _ rfl (by omega) (fun _ => True) trivial) _ | exact Reads.drew (Reads.newAt _ _ 3 1 _ _ rfl (by omega) (fun _ => True) trivial (by simp)) | exact Reads.drew (Reads.alloc (Reads.newAt _ _ 3 1 _ _ rfl (by omega) (fun _ => True) trivial rfl) _))).mono ?_; rintro e w6 ⟨l6, A6, c6, hl6, rfl, hr6, hb6⟩; have hz6 : W.heap.size ≤ w6.heap.size := Nat.le_trans hHeld.size hb6.size; have hrd6 := (hr6.read (by rw [hl6.2]; omega)).more (S' := fun _ => True) (fun _ _ _ => trivial)) | (go_at_call 18; refine (aw_replay0 (S := fun _ => True) M.awS4 M.aw_rules.2.2 M.aw_logs.2.2.2.1 M.aw_final4 hl6 (by first | exact hrd6 | exact hrd6.below ((Below.refl _ _).alloc (Nat.le_refl _) _))).mono ?_; rintro e w8 ⟨A8, c8, A9, k9, c9, rfl, hb8⟩; have hz8 : W.heap.size ≤ w8.heap.size := Nat.le_trans hHeld.size hb8.size)
    refine hK.out _ _ ?q2xh2b106 (fun hHeld => ?_)
    case q2xh2b106 => (exact hHeld.trans (hb6.mono hHeld.size))
    clear hK K
    try simp only [Act.put, la, lz, ls]
    refine wpAnyH_ready (rs := [3]) (by kernel_rfl) (by simp) ?_
    refine AllReadyH.cons (o := _) (ga rfl) (fun K hK => ?_) AllReadyH.nil
    go_simp
    first | (go_at_call 62; refine (aw_log' M.awTL4 M.awL4 3 M.awL4_eq rfl (by omega) (by decide) (by first | exact Reads.new_ _ _ 3 1 _ rfl (by omega) (fun _ => True) trivial | exact Reads.alloc (Reads.new_ _ _ 3 1 _ rfl (by omega) (fun _ => True) trivial) _ | exact Reads.drew (Reads.newAt _ _ 3 1 _ _ rfl (by omega) (fun _ => True) trivial (by simp)) | exact Reads.drew (Reads.alloc (Reads.newAt _ _ 3 1 _ _ rfl (by omega) (fun _ => True) trivial rfl) _))).mono ?_; rintro e w6 ⟨l6, A6, c6, hl6, rfl, hr6, hb6⟩; have hz6 : W.heap.size ≤ w6.heap.size := Nat.le_trans hHeld.size hb6.size; have hrd6 := (hr6.read (by rw [hl6.2]; omega)).more (S' := fun _ => True) (fun _ _ _ => trivial)) | (go_at_call 18; refine (aw_replay0 (S := fun _ => True) M.awS4 M.aw_rules.2.2 M.aw_logs.2.2.2.1 M.aw_final4 hl6 (by first | exact hrd6 | exact hrd6.below ((Below.refl _ _).alloc (Nat.le_refl _) _))).mono ?_; rintro e w8 ⟨A8, c8, A9, k9, c9, rfl, hb8⟩; have hz8 : W.heap.size ≤ w8.heap.size := Nat.le_trans hHeld.size hb8.size)
    refine hK.out _ _ ?q2xh3b107 (fun hHeld => ?_)
    case q2xh3b107 => (exact hHeld.trans (hb8.mono hHeld.size))
    clear hK K
    try simp only [Act.put, la, lz, ls]
    refine wpAnyH_take (i := 4) (oi := _) (v := ?q2xv4b108) (ga rfl) (by kernel_rfl) (by kernel_rfl) (by kernel_rfl) (fun _ _ _ h => h) (Or.inl ⟨by rfl, ?q2xy4b108⟩) (by assumption) ?_
    case q2xy4b108 => (intro w hSw; (try dsimp only at hSw); go_simp; try with_reducible rfl)
    try simp only [Act.put, la, lz, ls]
    refine wpAnyH_take (i := 5) (oi := _) (v := ?q2xv5b109) (ga rfl) (by kernel_rfl) (by kernel_rfl) (by kernel_rfl) (fun _ _ _ h => h) (Or.inl ⟨by rfl, ?q2xy5b109⟩) (by assumption) ?_
    case q2xy5b109 => (intro w hSw; (try dsimp only at hSw); go_simp; try with_reducible rfl)
    try simp only [Act.put, la, lz, ls]
    refine wpAnyH_take (i := 6) (oi := _) (v := ?q2xv6b110) (ga rfl) (by kernel_rfl) (by kernel_rfl) (by kernel_rfl) (fun _ _ _ h => h) (Or.inl ⟨by rfl, ?q2xy6b110⟩) (by assumption) ?_
    case q2xy6b110 => (intro w hSw; (try dsimp only at hSw); go_simp; try with_reducible rfl)
    try simp only [Act.put, la, lz, ls]
    refine wpAnyH_take (i := 7) (oi := _) (v := ?q2xv7b111) (ga rfl) (by kernel_rfl) (by kernel_rfl) (by kernel_rfl) (fun _ _ _ h => h) (Or.inl ⟨by rfl, ?q2xy7b111⟩) (by assumption) ?_
    case q2xy7b111 => (intro w hSw; (try dsimp only at hSw); go_simp; try with_reducible rfl)
    try simp only [Act.put, la, lz, ls]
    refine wpAnyH_ready (rs := [9]) (by kernel_rfl) (by simp) ?_
    refine AllReadyH.cons (o := _) (ga rfl) (fun K hK => ?_) AllReadyH.nil
    refine next_store_w (cs := zeroState) (by first | exact Held.new _ zeroState 33 | exact (Held.new w6 zeroState 33).below hb8 | exact ((Held.newAt _ zeroState 33 (by simp)).drew.below hb6).below hb8 | exact (((Held.newAt _ zeroState 33 rfl).alloc _).drew.below hb6).below hb8) (stateCells M.awS4 A8 c8) rfl state_info (state_one _ _ _) (.tmp 20) (.tmp 167) rfl rfl rfl ?_
    refine hK.out _ _ ?q2xh9b112 (fun hHeld => ?_)
    case q2xh9b112 => (exact below_setCells _ (by first | exact Nat.le_refl _ | exact hz6 | exact hz8 | exact Nat.le_succ _) _ _ _ _ hHeld)
    clear hK K
    try simp only [Act.put, la, lz, ls]
    refine wpAnyH_take (i := 10) (oi := _) (v := ?q2xv10b113) (ga rfl) (by kernel_rfl) (by kernel_rfl) (by kernel_rfl) (fun _ _ _ h => h) (Or.inl ⟨by rfl, ?q2xy10b113⟩) (by assumption) ?_
    case q2xy10b113 => (intro w hSw; (try dsimp only at hSw); go_simp; try with_reducible rfl)
    try simp only [Act.put, la, lz, ls]
    refine wpAnyH_take (i := 11) (oi := _) (v := ?q2xv11b114) (ga rfl) (by kernel_rfl) (by kernel_rfl) (by kernel_rfl) (fun _ _ _ h => h) (Or.inl ⟨by rfl, ?q2xy11b114⟩) (by assumption) ?_
    case q2xy11b114 => (intro w hSw; (try dsimp only at hSw); go_simp; try with_reducible rfl)
    try simp only [Act.put, la, lz, ls]
    refine wpAnyH_done (by kernel_rfl) ?_ _
    refine HK.out _ _ ?_
    apply HN.out
    refine ⟨rfl, rfl, rfl, hR.below hHeld, h17.below hHeld, rfl, ?_, rfl⟩
    · refine ⟨_, A8, c8, rfl, ?_, ?_⟩
      · refine Nat.le_trans hR.sz ?_
        first | exact hz6 | exact hz8 | exact Nat.le_refl _ | exact Nat.le_succ _
      · refine Held.whole (cs := zeroState) ?_ _ rfl
        first | exact Held.new _ zeroState 33 | exact (Held.new w6 zeroState 33).below hb8 | exact ((Held.newAt _ zeroState 33 (by simp)).drew.below hb6).below hb8 | exact (((Held.newAt _ zeroState 33 rfl).alloc _).drew.below hb6).below hb8
end Go.Proofs.YtelpepbpdojikaaGreatDoor
