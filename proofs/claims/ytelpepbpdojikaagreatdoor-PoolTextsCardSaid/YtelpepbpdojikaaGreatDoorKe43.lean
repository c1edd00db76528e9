/- Parts of the proofs about chapter 5 (pool), joined by program. -/
import Derived.Test.YtelpepbpdojikaaGreatDoorKe42
set_option linter.unusedVariables false
set_option linter.unusedSimpArgs false
namespace Go.Proofs.YtelpepbpdojikaaGreatDoor
open Go.RowKit
set_option maxRecDepth 100000 in
set_option maxHeartbeats 8000000 in
theorem aw_7 (w : World) (HG : Hid (Glob w)) (HN : Hid (AwG8 w)) : AwG7 w := by
  intro D z0 z1 z2 z3 z4 z5 z6 z7 z8 z9 z10 z11 z12 z13 z14 z15 z16 z17 z18 z19 z20 z21 z22 z23 z24 z25 z26 z27 z28 z29 z30 z31 z32 z33 z34 z35 z36 z37 z38 z39 z40 z41 z42 z43 z44 z45 z46 z47 z48 z49 z50 z51 z52 z53 z54 z55 z56 z57 z58 z59 z60 z61 z62 z63 z64 z65 z66 z67 z68 z69 z70 z71 z72 z73 z74 z75 z76 z77 z78 z79 z80 z81 z82 z83 z84 z85 z86 z87 z88 z89 z90 z91 z92 z93 z94 z95 z96 z97 z98 z99 z100 z101 z102 z103 z104 z105 z106 z107 z108 z109 z110 z111 z112 z113 z114 z115 z116 z117 z118 z119 z120 z121 z122 z123 z124 z125 z126 z127 z128 z129 z130 z131 z132 z133 z134 z135 z136 z137 z138 z139 z140 z141 z142 z143 z144 z145 z146 z147 z148 z149 z150 z151 z152 z153 z154 z155 z156 z157 z158 z159 z160 z161 z162 z163 z164 z165 z166 z167 z168 z169 z170 z171 z172 z173 z174 z175 z176 z177 z178 z179 z180 z181 z182 z183 z184 z185 z186 z187 z188 z189 z190 z191 z192 z193 z194 z195 z196 z197 z198 z199 z200 z201 z202 z203 z204 z205 z206 z207 z208 z209 z210 z211 z212 z213 z214 z215 z216 z217 z218 z219 z220 z221 z222 z223 z224 z225 z226 z227 z228 z229 z230 z231 z232 z233 z234 z235 z236 z237 z238 z239 z240 z241 z242 z243 z244 z245 z246 z247 z248 z249 z250 z251 z252 z253 z254 z255 z256 z257 z258 z259 z260 z261 z262 z263 z264 z265 z266 z267 z268 z269 z270 z271 z272 W hf
  dsimp only [awCode, codeDrop, Tryz.f17, Option.getD]
  obtain ⟨rfl, rfl, rfl, hR, hD, hDW, hL, h5, rfl, h8, rfl, h10, rfl, h12, rfl⟩ := hf
  obtain ⟨A4, c4, l4, rfl, hl, hr4, hg4⟩ := id hL
  have ho4 := hr4.own
  rw [hl.2] at ho4
  obtain ⟨i0, hi0, hz0, hz1, hz2⟩ := info_parts pshots_info
  have hrng : ∀ W', (fun w' : World => Apart (w.heap.size + 3) D W w') W' → W'.rangeAt w.heap.size 0 ([.string M.gEight, .int .i64 0, .int .i64 0]) := fun W' h => (hR.apart h).e.range
  apply wp_seq_k
  intro K hK
  have HK := hide hK
  clear hK
  refine wp_region_held_drew (S := (fun w' : World => Apart (w.heap.size + 3) D W w')) (by kernel_rfl) ?q1xstart (fun hHeld => ?_)
  case q1xstart => exact Apart.start hR.sz
  refine wpAnyH_take (i := 0) (oi := _) (v := _) (ga rfl) (by kernel_rfl) (by kernel_rfl) (by kernel_rfl) (fun _ _ _ h => h) (yieldsIf_load_mid (by rfl) _ _ (by rfl) _ _ (by rfl) _ _ hrng Tryz.underlying23 rfl (by kernel_rfl)) (by assumption) ?_
  try simp only [Act.put, la, lz, ls]
  refine wpAnyH_take (i := 1) (oi := _) (v := ?q1xv1) (ga rfl) (by kernel_rfl) (by kernel_rfl) (by kernel_rfl) (fun _ _ _ h => h) (Or.inl ⟨by rfl, ?q1xy1⟩) (by assumption) ?_
  case q1xy1 => (intro w hSw; (try dsimp only at hSw); go_simp; try with_reducible rfl)
  try simp only [Act.put, la, lz, ls]
  refine wpAnyH_ready (rs := [2, 10]) (by kernel_rfl) (by simp) ?_
  refine AllReadyH.cons (o := _) (ga rfl) (fun K hK => ?_) (AllReadyH.cons (o := _) (ga rfl) (fun K hK => ?_) AllReadyH.nil)
  · go_simp
    refine hK.out _ _ ?q1xh2b17 (fun hHeld => ?_)
    case q1xh2b17 => (exact hHeld.alloc _)
    clear hK K
    try simp only [Act.put, la, lz, ls]
    refine wpAnyH_ready (rs := [3, 10]) (by kernel_rfl) (by simp) ?_
    refine AllReadyH.cons (o := _) (ga rfl) (fun K hK => ?_) (AllReadyH.cons (o := _) (ga rfl) (fun K hK => ?_) AllReadyH.nil)
    · go_simp
      first | (go_at_call 62; refine (aw_log' M.awTL2 M.awL2 1 M.awL2_eq rfl (by omega) (by decide) (by first | exact Reads.new_ _ _ 1 1 _ rfl (by omega) (fun _ => True) trivial | exact Reads.alloc (Reads.new_ _ _ 1 1 _ rfl (by omega) (fun _ => True) trivial) _ | exact Reads.drew (Reads.newAt _ _ 1 1 _ _ rfl (by omega) (fun _ => True) trivial (by simp)) | exact Reads.drew (Reads.alloc (Reads.newAt _ _ 1 1 _ _ rfl (by omega) (fun _ => True) trivial rfl) _))).mono ?_; rintro e w6 ⟨l6, A6, c6, hl6, rfl, hr6, hb6⟩; have hz6 : W.heap.size ≤ w6.heap.size := Nat.le_trans hHeld.size hb6.size; have hrd6 := hr6.read (by rw [hl6.2]; omega); obtain ⟨x6, rfl⟩ := one_shot hl6.2; obtain ⟨b6, o6, rfl, _, hb6l, hc6⟩ := Reads.at_ hrd6.1 (by simp); rw [show shsCells [x6] = shCells x6 by simp [shsCells]] at hc6; have h6 : Below W.heap.size W w6 := (by first | exact (below_one W _).trans (hb6.mono hHeld.size) | exact (below_two W _ _).trans (hb6.mono hHeld.size)); have ho6 := ownsRow_blk ho4 (fun g hg => h6.block g (Nat.lt_of_lt_of_le (hg4 g hg) hDW)); have hp6 := Reads.more (hr6.each x6 (by simp)) (S' := fun b => W.heap.size ≤ b) (fun b _ h => Nat.le_trans hHeld.size h.1)) | (go_at_call 18; refine (aw_replay0 (S := fun _ => True) (l := l4 ++ [x6]) (n := 4) M.awS2 M.aw_rules.1 M.aw_logs.2.1 M.aw_final2 ⟨by unfold plain; rw [List.map_append]; exact congr (congrArg _ hl.1) hl6.1, by simp [hl.2]⟩ (by first | exact hrd7 | exact hrd7.below ((Below.refl _ _).alloc (Nat.le_refl _) _))).mono ?_; rintro e w8 ⟨A8, c8, A9, k9, c9, rfl, hb8⟩; have hz8 : W.heap.size ≤ w8.heap.size := Nat.le_trans hHeld.size hb8.size)
      refine hK.out _ _ ?q1xh3b32 (fun hHeld => ?_)
      case q1xh3b32 => (exact hHeld.call hb6)
      clear hK K
      try simp only [Act.put, la, lz, ls]
      refine wpAnyH_ready (rs := [4, 10]) (by kernel_rfl) (by simp) ?_
      refine AllReadyH.cons (o := _) (ga rfl) (fun K hK => ?_) (AllReadyH.cons (o := _) (ga rfl) (fun K hK => ?_) AllReadyH.nil)
      · refine step_append_lies _ (by rfl) _ _ _ (by rfl) (w.heap.size + 3) 66 i0 (.agg #[.int .i64 0, .string ⟨#[]⟩, .int .i64 0, .int .i64 0, .int .i64 0, .bool false, .slice none 0 0]) 7 80 Tryz.underlying24 hi0 hz0 hz1 hz2 rfl (by omega) _ _ _ (by rfl) (by first | exact ho6 | exact ho6.alloc _) ⟨b6, o6, none⟩ 1 c6 (shCells x6) (by rfl) (by rfl) (fun j u hu => by rw [add_at]; first | exact hc6 j u hu | exact (World.cell?_alloc_lt _ _ ⟨b6, o6 + j, none⟩ hb6l).trans (hc6 j u hu)) (sh_one x6.x x6.a x6.c) (by omega) (by simp only [maxLen]; omega) (by omega) (Nat.le_trans hR.sz hHeld.size) _ rfl ?_; intro g1 cap w7 hown7 hgrow7 hat7 hlt7; have hz7 : W.heap.size ≤ w7.heap.size := Nat.le_trans hHeld.size hgrow7.size; have hr7 := (by first | exact hr4.append_at (x := x6) hl.2 h6 hR.sz hp6 hgrow7 hown7 hat7 | exact hr4.append_at (x := x6) hl.2 (h6.alloc hz6 _) hR.sz (hp6.alloc _) hgrow7 hown7 hat7 : ShRow 66 (w.heap.size + 3) (l4 ++ [x6]) (some ⟨g1, 0, none⟩) cap w7); have hrd7 := (hr7.read (by simp [hl.2])).more (S' := fun _ => True) (fun _ _ _ => trivial)
        refine hK.out _ _ ?q1xh4b47 (fun hHeld => ?_)
        case q1xh4b47 => (exact hHeld.grown hgrow7 (fun g e => ⟨(ownsRow_lt ho4 e).1, hg4 g e⟩))
        clear hK K
        try simp only [Act.put, la, lz, ls]
        refine wpAnyH_ready (rs := [5, 10]) (by kernel_rfl) (by simp) ?_
        refine AllReadyH.cons (o := _) (ga rfl) (fun K hK => ?_) (AllReadyH.cons (o := _) (ga rfl) (fun K hK => ?_) AllReadyH.nil)
        · go_simp
          first | (go_at_call 62; refine (aw_log' M.awTL2 M.awL2 1 M.awL2_eq rfl (by omega) (by decide) (by first | exact Reads.new_ _ _ 1 1 _ rfl (by omega) (fun _ => True) trivial | exact Reads.alloc (Reads.new_ _ _ 1 1 _ rfl (by omega) (fun _ => True) trivial) _ | exact Reads.drew (Reads.newAt _ _ 1 1 _ _ rfl (by omega) (fun _ => True) trivial (by simp)) | exact Reads.drew (Reads.alloc (Reads.newAt _ _ 1 1 _ _ rfl (by omega) (fun _ => True) trivial rfl) _))).mono ?_; rintro e w6 ⟨l6, A6, c6, hl6, rfl, hr6, hb6⟩; have hz6 : W.heap.size ≤ w6.heap.size := Nat.le_trans hHeld.size hb6.size; have hrd6 := hr6.read (by rw [hl6.2]; omega); obtain ⟨x6, rfl⟩ := one_shot hl6.2; obtain ⟨b6, o6, rfl, _, hb6l, hc6⟩ := Reads.at_ hrd6.1 (by simp); rw [show shsCells [x6] = shCells x6 by simp [shsCells]] at hc6; have h6 : Below W.heap.size W w6 := (by first | exact (below_one W _).trans (hb6.mono hHeld.size) | exact (below_two W _ _).trans (hb6.mono hHeld.size)); have ho6 := ownsRow_blk ho4 (fun g hg => h6.block g (Nat.lt_of_lt_of_le (hg4 g hg) hDW)); have hp6 := Reads.more (hr6.each x6 (by simp)) (S' := fun b => W.heap.size ≤ b) (fun b _ h => Nat.le_trans hHeld.size h.1)) | (go_at_call 18; refine (aw_replay0 (S := fun _ => True) (l := l4 ++ [x6]) (n := 4) M.awS2 M.aw_rules.1 M.aw_logs.2.1 M.aw_final2 ⟨by unfold plain; rw [List.map_append]; exact congr (congrArg _ hl.1) hl6.1, by simp [hl.2]⟩ (by first | exact hrd7 | exact hrd7.below ((Below.refl _ _).alloc (Nat.le_refl _) _))).mono ?_; rintro e w8 ⟨A8, c8, A9, k9, c9, rfl, hb8⟩; have hz8 : W.heap.size ≤ w8.heap.size := Nat.le_trans hHeld.size hb8.size)
          refine hK.out _ _ ?q1xh5b62 (fun hHeld => ?_)
          case q1xh5b62 => (exact hHeld.call hb8)
          clear hK K
          try simp only [Act.put, la, lz, ls]
          refine wpAnyH_take (i := 6) (oi := _) (v := ?q1xv6b63) (ga rfl) (by kernel_rfl) (by kernel_rfl) (by kernel_rfl) (fun _ _ _ h => h) (Or.inl ⟨by rfl, ?q1xy6b63⟩) (by assumption) ?_
          case q1xy6b63 => (intro w hSw; (try dsimp only at hSw); go_simp; try with_reducible rfl)
          try simp only [Act.put, la, lz, ls]
          refine wpAnyH_take (i := 7) (oi := _) (v := ?q1xv7b64) (ga rfl) (by kernel_rfl) (by kernel_rfl) (by kernel_rfl) (fun _ _ _ h => h) (Or.inl ⟨by rfl, ?q1xy7b64⟩) (by assumption) ?_
          case q1xy7b64 => (intro w hSw; (try dsimp only at hSw); go_simp; try with_reducible rfl)
          try simp only [Act.put, la, lz, ls]
          refine wpAnyH_take (i := 8) (oi := _) (v := ?q1xv8b65) (ga rfl) (by kernel_rfl) (by kernel_rfl) (by kernel_rfl) (fun _ _ _ h => h) (Or.inl ⟨by rfl, ?q1xy8b65⟩) (by assumption) ?_
          case q1xy8b65 => (intro w hSw; (try dsimp only at hSw); go_simp; try with_reducible rfl)
          try simp only [Act.put, la, lz, ls]
          refine wpAnyH_take (i := 9) (oi := _) (v := ?q1xv9b66) (ga rfl) (by kernel_rfl) (by kernel_rfl) (by kernel_rfl) (fun _ _ _ h => h) (Or.inl ⟨by rfl, ?q1xy9b66⟩) (by assumption) ?_
          case q1xy9b66 => (intro w hSw; (try dsimp only at hSw); go_simp; try with_reducible rfl)
          try simp only [Act.put, la, lz, ls]
          refine wpAnyH_ready (rs := [10]) (by kernel_rfl) (by simp) ?_
          refine AllReadyH.cons (o := _) (ga rfl) (fun K hK => ?_) AllReadyH.nil
          go_simp
          refine hK.out _ _ ?q1xh10b67 (fun hHeld => ?_)
          case q1xh10b67 => (exact hHeld.alloc _)
          clear hK K
          try simp only [Act.put, la, lz, ls]
          refine wpAnyH_ready (rs := [11]) (by kernel_rfl) (by simp) ?_
          refine AllReadyH.cons (o := _) (ga rfl) (fun K hK => ?_) AllReadyH.nil
          refine next_store_w (cs := zeroState) (by first | exact Held.new _ zeroState 33 | exact (Held.new w7 zeroState 33).below hb8 | exact ((Held.new w6 zeroState 33).grown hgrow7 (fun e => Nat.lt_irrefl _ (Nat.lt_of_lt_of_le (hg4 _ e) (Nat.le_trans hDW (by first | exact Nat.le_refl _ | exact hz6 | exact hz7 | exact hz8 | exact Nat.le_succ _))))).below hb8 | exact (((Held.newAt _ zeroState 33 (by simp)).drew.below hb6).grown hgrow7 (fun e => Nat.lt_irrefl _ (Nat.lt_of_lt_of_le (hg4 _ e) (Nat.le_trans hDW (by first | exact Nat.le_refl _ | exact hz6 | exact hz7 | exact hz8 | exact Nat.le_succ _))))).below hb8 | exact ((((Held.newAt _ zeroState 33 rfl).alloc _).drew.below hb6).grown hgrow7 (fun e => Nat.lt_irrefl _ (Nat.lt_of_lt_of_le (hg4 _ e) (Nat.le_trans hDW (by first | exact Nat.le_refl _ | exact hz6 | exact hz7 | exact hz8 | exact Nat.le_succ _))))).below hb8) (stateCells M.awS2 A8 c8) rfl state_info (state_one _ _ _) (.tmp 14) (.tmp 68) rfl rfl rfl ?_
          refine hK.out _ _ ?q1xh11b68 (fun hHeld => ?_)
          case q1xh11b68 => (exact hHeld.sets (by first | exact Nat.le_refl _ | exact hz6 | exact hz7 | exact hz8 | exact Nat.le_succ _) _ _)
          clear hK K
          try simp only [Act.put, la, lz, ls]
          refine wpAnyH_take (i := 12) (oi := _) (v := ?q1xv12b69) (ga rfl) (by kernel_rfl) (by kernel_rfl) (by kernel_rfl) (fun _ _ _ h => h) (Or.inl ⟨by rfl, ?q1xy12b69⟩) (by assumption) ?_
          case q1xy12b69 => (intro w hSw; (try dsimp only at hSw); go_simp; try with_reducible rfl)
          try simp only [Act.put, la, lz, ls]
          refine wpAnyH_take (i := 13) (oi := _) (v := ?q1xv13b70) (ga rfl) (by kernel_rfl) (by kernel_rfl) (by kernel_rfl) (fun _ _ _ h => h) (Or.inl ⟨by rfl, ?q1xy13b70⟩) (by assumption) ?_
          case q1xy13b70 => (intro w hSw; (try dsimp only at hSw); go_simp; try with_reducible rfl)
          try simp only [Act.put, la, lz, ls]
          refine wpAnyH_done (by kernel_rfl) ?_ _
          refine HK.out _ _ ?_
          apply HN.out D
          exact ⟨rfl, rfl, rfl, hR.apart hHeld, hD, Nat.le_trans hDW hHeld.size, h5.apart hHeld, rfl, h8.apart hHeld, rfl, h10.apart hHeld, rfl, h12.apart hHeld, rfl, ⟨_, A8, c8, rfl, Nat.le_trans hDW (by first | exact Nat.le_refl _ | exact hz6 | exact hz7 | exact hz8 | exact Nat.le_succ _), Held.whole (cs := zeroState) (by first | exact Held.new _ zeroState 33 | exact (Held.new w7 zeroState 33).below hb8 | exact ((Held.new w6 zeroState 33).grown hgrow7 (fun e => Nat.lt_irrefl _ (Nat.lt_of_lt_of_le (hg4 _ e) (Nat.le_trans hDW (by first | exact Nat.le_refl _ | exact hz6 | exact hz7 | exact hz8 | exact Nat.le_succ _))))).below hb8 | exact (((Held.newAt _ zeroState 33 (by simp)).drew.below hb6).grown hgrow7 (fun e => Nat.lt_irrefl _ (Nat.lt_of_lt_of_le (hg4 _ e) (Nat.le_trans hDW (by first | exact Nat.le_refl _ | exact hz6 | exact hz7 | exact hz8 | exact Nat.le_succ _))))).below hb8 | exact ((((Held.newAt _ zeroState 33 rfl).alloc _).drew.below hb6).grown hgrow7 (fun e => Nat.lt_irrefl _ (Nat.lt_of_lt_of_le (hg4 _ e) (Nat.le_trans hDW (by first | exact Nat.le_refl _ | exact hz6 | exact hz7 | exact hz8 | exact Nat.le_succ _))))).below hb8) _ rfl⟩, rfl⟩
        · go_simp
          refine hK.out _ _ ?q1xh10b85 (fun hHeld => ?_)
          case q1xh10b85 => (exact hHeld.alloc _)
          clear hK K
          try simp only [Act.put, la, lz, ls]
          refine wpAnyH_ready (rs := [5]) (by kernel_rfl) (by simp) ?_
          refine AllReadyH.cons (o := _) (ga rfl) (fun K hK => ?_) AllReadyH.nil
          go_simp
          first | (go_at_call 62; refine (aw_log' M.awTL2 M.awL2 1 M.awL2_eq rfl (by omega) (by decide) (by first | exact Reads.new_ _ _ 1 1 _ rfl (by omega) (fun _ => True) trivial | exact Reads.alloc (Reads.new_ _ _ 1 1 _ rfl (by omega) (fun _ => True) trivial) _ | exact Reads.drew (Reads.newAt _ _ 1 1 _ _ rfl (by omega) (fun _ => True) trivial (by simp)) | exact Reads.drew (Reads.alloc (Reads.newAt _ _ 1 1 _ _ rfl (by omega) (fun _ => True) trivial rfl) _))).mono ?_; rintro e w6 ⟨l6, A6, c6, hl6, rfl, hr6, hb6⟩; have hz6 : W.heap.size ≤ w6.heap.size := Nat.le_trans hHeld.size hb6.size; have hrd6 := hr6.read (by rw [hl6.2]; omega); obtain ⟨x6, rfl⟩ := one_shot hl6.2; obtain ⟨b6, o6, rfl, _, hb6l, hc6⟩ := Reads.at_ hrd6.1 (by simp); rw [show shsCells [x6] = shCells x6 by simp [shsCells]] at hc6; have h6 : Below W.heap.size W w6 := (by first | exact (below_one W _).trans (hb6.mono hHeld.size) | exact (below_two W _ _).trans (hb6.mono hHeld.size)); have ho6 := ownsRow_blk ho4 (fun g hg => h6.block g (Nat.lt_of_lt_of_le (hg4 g hg) hDW)); have hp6 := Reads.more (hr6.each x6 (by simp)) (S' := fun b => W.heap.size ≤ b) (fun b _ h => Nat.le_trans hHeld.size h.1)) | (go_at_call 18; refine (aw_replay0 (S := fun _ => True) (l := l4 ++ [x6]) (n := 4) M.awS2 M.aw_rules.1 M.aw_logs.2.1 M.aw_final2 ⟨by unfold plain; rw [List.map_append]; exact congr (congrArg _ hl.1) hl6.1, by simp [hl.2]⟩ (by first | exact hrd7 | exact hrd7.below ((Below.refl _ _).alloc (Nat.le_refl _) _))).mono ?_; rintro e w8 ⟨A8, c8, A9, k9, c9, rfl, hb8⟩; have hz8 : W.heap.size ≤ w8.heap.size := Nat.le_trans hHeld.size hb8.size)
          refine hK.out _ _ ?q1xh5b86 (fun hHeld => ?_)
          case q1xh5b86 => (exact hHeld.call hb8)
          clear hK K
          try simp only [Act.put, la, lz, ls]
          refine wpAnyH_take (i := 6) (oi := _) (v := ?q1xv6b87) (ga rfl) (by kernel_rfl) (by kernel_rfl) (by kernel_rfl) (fun _ _ _ h => h) (Or.inl ⟨by rfl, ?q1xy6b87⟩) (by assumption) ?_
          case q1xy6b87 => (intro w hSw; (try dsimp only at hSw); go_simp; try with_reducible rfl)
          try simp only [Act.put, la, lz, ls]
          refine wpAnyH_take (i := 7) (oi := _) (v := ?q1xv7b88) (ga rfl) (by kernel_rfl) (by kernel_rfl) (by kernel_rfl) (fun _ _ _ h => h) (Or.inl ⟨by rfl, ?q1xy7b88⟩) (by assumption) ?_
          case q1xy7b88 => (intro w hSw; (try dsimp only at hSw); go_simp; try with_reducible rfl)
          try simp only [Act.put, la, lz, ls]
          refine wpAnyH_take (i := 8) (oi := _) (v := ?q1xv8b89) (ga rfl) (by kernel_rfl) (by kernel_rfl) (by kernel_rfl) (fun _ _ _ h => h) (Or.inl ⟨by rfl, ?q1xy8b89⟩) (by assumption) ?_
          case q1xy8b89 => (intro w hSw; (try dsimp only at hSw); go_simp; try with_reducible rfl)
          try simp only [Act.put, la, lz, ls]
          refine wpAnyH_take (i := 9) (oi := _) (v := ?q1xv9b90) (ga rfl) (by kernel_rfl) (by kernel_rfl) (by kernel_rfl) (fun _ _ _ h => h) (Or.inl ⟨by rfl, ?q1xy9b90⟩) (by assumption) ?_
          case q1xy9b90 => (intro w hSw; (try dsimp only at hSw); go_simp; try with_reducible rfl)
          try simp only [Act.put, la, lz, ls]
          refine wpAnyH_ready (rs := [11]) (by kernel_rfl) (by simp) ?_
          refine AllReadyH.cons (o := _) (ga rfl) (fun K hK => ?_) AllReadyH.nil
          refine next_store_w (cs := zeroState) (by first | exact Held.new _ zeroState 33 | exact (Held.new w7 zeroState 33).below hb8 | exact ((Held.new w6 zeroState 33).grown hgrow7 (fun e => Nat.lt_irrefl _ (Nat.lt_of_lt_of_le (hg4 _ e) (Nat.le_trans hDW (by first | exact Nat.le_refl _ | exact hz6 | exact hz7 | exact hz8 | exact Nat.le_succ _))))).below hb8 | exact (((Held.newAt _ zeroState 33 (by simp)).drew.below hb6).grown hgrow7 (fun e => Nat.lt_irrefl _ (Nat.lt_of_lt_of_le (hg4 _ e) (Nat.le_trans hDW (by first | exact Nat.le_refl _ | exact hz6 | exact hz7 | exact hz8 | exact Nat.le_succ _))))).below hb8 | exact ((((Held.newAt _ zeroState 33 rfl).alloc _).drew.below hb6).grown hgrow7 (fun e => Nat.lt_irrefl _ (Nat.lt_of_lt_of_le (hg4 _ e) (Nat.le_trans hDW (by first | exact Nat.le_refl _ | exact hz6 | exact hz7 | exact hz8 | exact Nat.le_succ _))))).below hb8) (stateCells M.awS2 A8 c8) rfl state_info (state_one _ _ _) (.tmp 14) (.tmp 68) rfl rfl rfl ?_
          refine hK.out _ _ ?q1xh11b91 (fun hHeld => ?_)
          case q1xh11b91 => (exact hHeld.sets (by first | exact Nat.le_refl _ | exact hz6 | exact hz7 | exact hz8 | exact Nat.le_succ _) _ _)
          clear hK K
          try simp only [Act.put, la, lz, ls]
          refine wpAnyH_take (i := 12) (oi := _) (v := ?q1xv12b92) (ga rfl) (by kernel_rfl) (by kernel_rfl) (by kernel_rfl) (fun _ _ _ h => h) (Or.inl ⟨by rfl, ?q1xy12b92⟩) (by assumption) ?_
          case q1xy12b92 => (intro w hSw; (try dsimp only at hSw); go_simp; try with_reducible rfl)
          try simp only [Act.put, la, lz, ls]
          refine wpAnyH_take (i := 13) (oi := _) (v := ?q1xv13b93) (ga rfl) (by kernel_rfl) (by kernel_rfl) (by kernel_rfl) (fun _ _ _ h => h) (Or.inl ⟨by rfl, ?q1xy13b93⟩) (by assumption) ?_
          case q1xy13b93 => (intro w hSw; (try dsimp only at hSw); go_simp; try with_reducible rfl)
          try simp only [Act.put, la, lz, ls]
          refine wpAnyH_done (by kernel_rfl) ?_ _
          refine HK.out _ _ ?_
          apply HN.out D
          exact ⟨rfl, rfl, rfl, hR.apart hHeld, hD, Nat.le_trans hDW hHeld.size, h5.apart hHeld, rfl, h8.apart hHeld, rfl, h10.apart hHeld, rfl, h12.apart hHeld, rfl, ⟨_, A8, c8, rfl, Nat.le_trans hDW (by first | exact Nat.le_refl _ | exact hz6 | exact hz7 | exact hz8 | exact Nat.le_succ _), Held.whole (cs := zeroState) (by first | exact Held.new _ zeroState 33 | exact (Held.new w7 zeroState 33).below hb8 | exact ((Held.new w6 zeroState 33).grown hgrow7 (fun e => Nat.lt_irrefl _ (Nat.lt_of_lt_of_le (hg4 _ e) (Nat.le_trans hDW (by first | exact Nat.le_refl _ | exact hz6 | exact hz7 | exact hz8 | exact Nat.le_succ _))))).below hb8 | exact (((Held.newAt _ zeroState 33 (by simp)).drew.below hb6).grown hgrow7 (fun e => Nat.lt_irrefl _ (Nat.lt_of_lt_of_le (hg4 _ e) (Nat.le_trans hDW (by first | exact Nat.le_refl _ | exact hz6 | exact hz7 | exact hz8 | exact Nat.le_succ _))))).below hb8 | exact ((((Held.newAt _ zeroState 33 rfl).alloc _).drew.below hb6).grown hgrow7 (fun e => Nat.lt_irrefl _ (Nat.lt_of_lt_of_le (hg4 _ e) (Nat.le_trans hDW (by first | exact Nat.le_refl _ | exact hz6 | exact hz7 | exact hz8 | exact Nat.le_succ _))))).below hb8) _ rfl⟩, rfl⟩
      · go_simp
        refine hK.out _ _ ?q1xh10b108 (fun hHeld => ?_)
        case q1xh10b108 => (exact hHeld.alloc _)
        clear hK K
        try simp only [Act.put, la, lz, ls]
        refine wpAnyH_ready (rs := [4]) (by kernel_rfl) (by simp) ?_
        refine AllReadyH.cons (o := _) (ga rfl) (fun K hK => ?_) AllReadyH.nil
        refine step_append_lies _ (by rfl) _ _ _ (by rfl) (w.heap.size + 3) 66 i0 (.agg #[.int .i64 0, .string ⟨#[]⟩, .int .i64 0, .int .i64 0, .int .i64 0, .bool false, .slice none 0 0]) 7 80 Tryz.underlying24 hi0 hz0 hz1 hz2 rfl (by omega) _ _ _ (by rfl) (by first | exact ho6 | exact ho6.alloc _) ⟨b6, o6, none⟩ 1 c6 (shCells x6) (by rfl) (by rfl) (fun j u hu => by rw [add_at]; first | exact hc6 j u hu | exact (World.cell?_alloc_lt _ _ ⟨b6, o6 + j, none⟩ hb6l).trans (hc6 j u hu)) (sh_one x6.x x6.a x6.c) (by omega) (by simp only [maxLen]; omega) (by omega) (Nat.le_trans hR.sz hHeld.size) _ rfl ?_; intro g1 cap w7 hown7 hgrow7 hat7 hlt7; have hz7 : W.heap.size ≤ w7.heap.size := Nat.le_trans hHeld.size hgrow7.size; have hr7 := (by first | exact hr4.append_at (x := x6) hl.2 h6 hR.sz hp6 hgrow7 hown7 hat7 | exact hr4.append_at (x := x6) hl.2 (h6.alloc hz6 _) hR.sz (hp6.alloc _) hgrow7 hown7 hat7 : ShRow 66 (w.heap.size + 3) (l4 ++ [x6]) (some ⟨g1, 0, none⟩) cap w7); have hrd7 := (hr7.read (by simp [hl.2])).more (S' := fun _ => True) (fun _ _ _ => trivial)
        refine hK.out _ _ ?q1xh4b109 (fun hHeld => ?_)
        case q1xh4b109 => (exact hHeld.grown hgrow7 (fun g e => ⟨(ownsRow_lt ho4 e).1, hg4 g e⟩))
        clear hK K
        try simp only [Act.put, la, lz, ls]
        refine wpAnyH_ready (rs := [5]) (by kernel_rfl) (by simp) ?_
        refine AllReadyH.cons (o := _) (ga rfl) (fun K hK => ?_) AllReadyH.nil
        go_simp
        first | (go_at_call 62; refine (aw_log' M.awTL2 M.awL2 1 M.awL2_eq rfl (by omega) (by decide) (by first | exact Reads.new_ _ _ 1 1 _ rfl (by omega) (fun _ => True) trivial | exact Reads.alloc (Reads.new_ _ _ 1 1 _ rfl (by omega) (fun _ => True) trivial) _ | exact Reads.drew (Reads.newAt _ _ 1 1 _ _ rfl (by omega) (fun _ => True) trivial (by simp)) | exact Reads.drew (Reads.alloc (Reads.newAt _ _ 1 1 _ _ rfl (by omega) (fun _ => True) trivial rfl) _))).mono ?_; rintro e w6 ⟨l6, A6, c6, hl6, rfl, hr6, hb6⟩; have hz6 : W.heap.size ≤ w6.heap.size := Nat.le_trans hHeld.size hb6.size; have hrd6 := hr6.read (by rw [hl6.2]; omega); obtain ⟨x6, rfl⟩ := one_shot hl6.2; obtain ⟨b6, o6, rfl, _, hb6l, hc6⟩ := Reads.at_ hrd6.1 (by simp); rw [show shsCells [x6] = shCells x6 by simp [shsCells]] at hc6; have h6 : Below W.heap.size W w6 := (by first | exact (below_one W _).trans (hb6.mono hHeld.size) | exact (below_two W _ _).trans (hb6.mono hHeld.size)); have ho6 := ownsRow_blk ho4 (fun g hg => h6.block g (Nat.lt_of_lt_of_le (hg4 g hg) hDW)); have hp6 := Reads.more (hr6.each x6 (by simp)) (S' := fun b => W.heap.size ≤ b) (fun b _ h => Nat.le_trans hHeld.size h.1)) | (go_at_call 18; refine (aw_replay0 (S := fun _ => True) (l := l4 ++ [x6]) (n := 4) M.awS2 M.aw_rules.1 M.aw_logs.2.1 M.aw_final2 ⟨by unfold plain; rw [List.map_append]; exact congr (congrArg _ hl.1) hl6.1, by simp [hl.2]⟩ (by first | exact hrd7 | exact hrd7.below ((Below.refl _ _).alloc (Nat.le_refl _) _))).mono ?_; rintro e w8 ⟨A8, c8, A9, k9, c9, rfl, hb8⟩; have hz8 : W.heap.size ≤ w8.heap.size := Nat.le_trans hHeld.size hb8.size)
        refine hK.out _ _ ?q1xh5b110 (fun hHeld => ?_)
        case q1xh5b110 => (exact hHeld.call hb8)
        clear hK K
        try simp only [Act.put, la, lz, ls]
        refine wpAnyH_take (i := 6) (oi := _) (v := ?q1xv6b111) (ga rfl) (by kernel_rfl) (by kernel_rfl) (by kernel_rfl) (fun _ _ _ h => h) (Or.inl ⟨by rfl, ?q1xy6b111⟩) (by assumption) ?_
        case q1xy6b111 => (intro w hSw; (try dsimp only at hSw); go_simp; try with_reducible rfl)
        try simp only [Act.put, la, lz, ls]
        refine wpAnyH_take (i := 7) (oi := _) (v := ?q1xv7b112) (ga rfl) (by kernel_rfl) (by kernel_rfl) (by kernel_rfl) (fun _ _ _ h => h) (Or.inl ⟨by rfl, ?q1xy7b112⟩) (by assumption) ?_
        case q1xy7b112 => (intro w hSw; (try dsimp only at hSw); go_simp; try with_reducible rfl)
        try simp only [Act.put, la, lz, ls]
        refine wpAnyH_take (i := 8) (oi := _) (v := ?q1xv8b113) (ga rfl) (by kernel_rfl) (by kernel_rfl) (by kernel_rfl) (fun _ _ _ h => h) (Or.inl ⟨by rfl, ?q1xy8b113⟩) (by assumption) ?_
        case q1xy8b113 => (intro w hSw; (try dsimp only at hSw); go_simp; try with_reducible rfl)
        try simp only [Act.put, la, lz, ls]
        refine wpAnyH_take (i := 9) (oi := _) (v := ?q1xv9b114) (ga rfl) (by kernel_rfl) (by kernel_rfl) (by kernel_rfl) (fun _ _ _ h => h) (Or.inl ⟨by rfl, ?q1xy9b114⟩) (by assumption) ?_
        case q1xy9b114 => (intro w hSw; (try dsimp only at hSw); go_simp; try with_reducible rfl)
        try simp only [Act.put, la, lz, ls]
        refine wpAnyH_ready (rs := [11]) (by kernel_rfl) (by simp) ?_
        refine AllReadyH.cons (o := _) (ga rfl) (fun K hK => ?_) AllReadyH.nil
        refine next_store_w (cs := zeroState) (by first | exact Held.new _ zeroState 33 | exact (Held.new w7 zeroState 33).below hb8 | exact ((Held.new w6 zeroState 33).grown hgrow7 (fun e => Nat.lt_irrefl _ (Nat.lt_of_lt_of_le (hg4 _ e) (Nat.le_trans hDW (by first | exact Nat.le_refl _ | exact hz6 | exact hz7 | exact hz8 | exact Nat.le_succ _))))).below hb8 | exact (((Held.newAt _ zeroState 33 (by simp)).drew.below hb6).grown hgrow7 (fun e => Nat.lt_irrefl _ (Nat.lt_of_lt_of_le (hg4 _ e) (Nat.le_trans hDW (by first | exact Nat.le_refl _ | exact hz6 | exact hz7 | exact hz8 | exact Nat.le_succ _))))).below hb8 | exact ((((Held.newAt _ zeroState 33 rfl).alloc _).drew.below hb6).grown hgrow7 (fun e => Nat.lt_irrefl _ (Nat.lt_of_lt_of_le (hg4 _ e) (Nat.le_trans hDW (by first | exact Nat.le_refl _ | exact hz6 | exact hz7 | exact hz8 | exact Nat.le_succ _))))).below hb8) (stateCells M.awS2 A8 c8) rfl state_info (state_one _ _ _) (.tmp 14) (.tmp 68) rfl rfl rfl ?_
        refine hK.out _ _ ?q1xh11b115 (fun hHeld => ?_)
        case q1xh11b115 => (exact hHeld.sets (by first | exact Nat.le_refl _ | exact hz6 | exact hz7 | exact hz8 | exact Nat.le_succ _) _ _)
        clear hK K
        try simp only [Act.put, la, lz, ls]
        refine wpAnyH_take (i := 12) (oi := _) (v := ?q1xv12b116) (ga rfl) (by kernel_rfl) (by kernel_rfl) (by kernel_rfl) (fun _ _ _ h => h) (Or.inl ⟨by rfl, ?q1xy12b116⟩) (by assumption) ?_
        case q1xy12b116 => (intro w hSw; (try dsimp only at hSw); go_simp; try with_reducible rfl)
        try simp only [Act.put, la, lz, ls]
        refine wpAnyH_take (i := 13) (oi := _) (v := ?q1xv13b117) (ga rfl) (by kernel_rfl) (by kernel_rfl) (by kernel_rfl) (fun _ _ _ h => h) (Or.inl ⟨by rfl, ?q1xy13b117⟩) (by assumption) ?_
        case q1xy13b117 => (intro w hSw; (try dsimp only at hSw); go_simp; try with_reducible rfl)
        try simp only [Act.put, la, lz, ls]
        refine wpAnyH_done (by kernel_rfl) ?_ _
        refine HK.out _ _ ?_
        apply HN.out D
        exact ⟨rfl, rfl, rfl, hR.apart hHeld, hD, Nat.le_trans hDW hHeld.size, h5.apart hHeld, rfl, h8.apart hHeld, rfl, h10.apart hHeld, rfl, h12.apart hHeld, rfl, ⟨_, A8, c8, rfl, Nat.le_trans hDW (by first | exact Nat.le_refl _ | exact hz6 | exact hz7 | exact hz8 | exact Nat.le_succ _), Held.whole (cs := zeroState) (by first | exact Held.new _ zeroState 33 | exact (Held.new w7 zeroState 33).below hb8 | exact ((Held.new w6 zeroState 33).grown hgrow7 (fun e => Nat.lt_irrefl _ (Nat.lt_of_lt_of_le (hg4 _ e) (Nat.le_trans hDW (by first | exact Nat.le_refl _ | exact hz6 | exact hz7 | exact hz8 | exact Nat.le_succ _))))).below hb8 | exact (((Held.newAt _ zeroState 33 (by simp)).drew.below hb6).grown hgrow7 (fun e => Nat.lt_irrefl _ (Nat.lt_of_lt_of_le (hg4 _ e) (Nat.le_trans hDW (by first | exact Nat.le_refl _ | exact hz6 | exact hz7 | exact hz8 | exact Nat.le_succ _))))).below hb8 | exact ((((Held.newAt _ zeroState 33 rfl).alloc _).drew.below hb6).grown hgrow7 (fun e => Nat.lt_irrefl _ (Nat.lt_of_lt_of_le (hg4 _ e) (Nat.le_trans hDW (by first | exact Nat.le_refl _ | exact hz6 | exact hz7 | exact hz8 | exact Nat.le_succ _))))).below hb8) _ rfl⟩, rfl⟩
    · go_simp
      refine hK.out _ _ ?q1xh10b132 (fun hHeld => ?_)
      case q1xh10b132 => (exact hHeld.alloc _)
      clear hK K
      try simp only [Act.put, la, lz, ls]
      refine wpAnyH_ready (rs := [3]) (by kernel_rfl) (by simp) ?_
      refine AllReadyH.cons (o := _) (ga rfl) (fun K hK => ?_) AllReadyH.nil
      go_simp
      first | (go_at_call 62; refine (aw_log' M.awTL2 M.awL2 1 M.awL2_eq rfl (by omega) (by decide) (by first | exact Reads.new_ _ _ 1 1 _ rfl (by omega) (fun _ => True) trivial | exact Reads.alloc (Reads.new_ _ _ 1 1 _ rfl (by omega) (fun _ => True) trivial) _ | exact Reads.drew (Reads.newAt _ _ 1 1 _ _ rfl (by omega) (fun _ => True) trivial (by simp)) | exact Reads.drew (Reads.alloc (Reads.newAt _ _ 1 1 _ _ rfl (by omega) (fun _ => True) trivial rfl) _))).mono ?_; rintro e w6 ⟨l6, A6, c6, hl6, rfl, hr6, hb6⟩; have hz6 : W.heap.size ≤ w6.heap.size := Nat.le_trans hHeld.size hb6.size; have hrd6 := hr6.read (by rw [hl6.2]; omega); obtain ⟨x6, rfl⟩ := one_shot hl6.2; obtain ⟨b6, o6, rfl, _, hb6l, hc6⟩ := Reads.at_ hrd6.1 (by simp); rw [show shsCells [x6] = shCells x6 by simp [shsCells]] at hc6; have h6 : Below W.heap.size W w6 := (by first | exact (below_one W _).trans (hb6.mono hHeld.size) | exact (below_two W _ _).trans (hb6.mono hHeld.size)); have ho6 := ownsRow_blk ho4 (fun g hg => h6.block g (Nat.lt_of_lt_of_le (hg4 g hg) hDW)); have hp6 := Reads.more (hr6.each x6 (by simp)) (S' := fun b => W.heap.size ≤ b) (fun b _ h => Nat.le_trans hHeld.size h.1)) | (go_at_call 18; refine (aw_replay0 (S := fun _ => True) (l := l4 ++ [x6]) (n := 4) M.awS2 M.aw_rules.1 M.aw_logs.2.1 M.aw_final2 ⟨by unfold plain; rw [List.map_append]; exact congr (congrArg _ hl.1) hl6.1, by simp [hl.2]⟩ (by first | exact hrd7 | exact hrd7.below ((Below.refl _ _).alloc (Nat.le_refl _) _))).mono ?_; rintro e w8 ⟨A8, c8, A9, k9, c9, rfl, hb8⟩; have hz8 : W.heap.size ≤ w8.heap.size := Nat.le_trans hHeld.size hb8.size)
      refine hK.out _ _ ?q1xh3b133 (fun hHeld => ?_)
      case q1xh3b133 => (exact hHeld.call hb6)
      clear hK K
      try simp only [Act.put, la, lz, ls]
      refine wpAnyH_ready (rs := [4]) (by kernel_rfl) (by simp) ?_
      refine AllReadyH.cons (o := _) (ga rfl) (fun K hK => ?_) AllReadyH.nil
      refine step_append_lies _ (by rfl) _ _ _ (by rfl) (w.heap.size + 3) 66 i0 (.agg #[.int .i64 0, .string ⟨#[]⟩, .int .i64 0, .int .i64 0, .int .i64 0, .bool false, .slice none 0 0]) 7 80 Tryz.underlying24 hi0 hz0 hz1 hz2 rfl (by omega) _ _ _ (by rfl) (by first | exact ho6 | exact ho6.alloc _) ⟨b6, o6, none⟩ 1 c6 (shCells x6) (by rfl) (by rfl) (fun j u hu => by rw [add_at]; first | exact hc6 j u hu | exact (World.cell?_alloc_lt _ _ ⟨b6, o6 + j, none⟩ hb6l).trans (hc6 j u hu)) (sh_one x6.x x6.a x6.c) (by omega) (by simp only [maxLen]; omega) (by omega) (Nat.le_trans hR.sz hHeld.size) _ rfl ?_; intro g1 cap w7 hown7 hgrow7 hat7 hlt7; have hz7 : W.heap.size ≤ w7.heap.size := Nat.le_trans hHeld.size hgrow7.size; have hr7 := (by first | exact hr4.append_at (x := x6) hl.2 h6 hR.sz hp6 hgrow7 hown7 hat7 | exact hr4.append_at (x := x6) hl.2 (h6.alloc hz6 _) hR.sz (hp6.alloc _) hgrow7 hown7 hat7 : ShRow 66 (w.heap.size + 3) (l4 ++ [x6]) (some ⟨g1, 0, none⟩) cap w7); have hrd7 := (hr7.read (by simp [hl.2])).more (S' := fun _ => True) (fun _ _ _ => trivial)
      refine hK.out _ _ ?q1xh4b134 (fun hHeld => ?_)
      case q1xh4b134 => (exact hHeld.grown hgrow7 (fun g e => ⟨(ownsRow_lt ho4 e).1, hg4 g e⟩))
      clear hK K
      try simp only [Act.put, la, lz, ls]
      refine wpAnyH_ready (rs := [5]) (by kernel_rfl) (by simp) ?_
      refine AllReadyH.cons (o := _) (ga rfl) (fun K hK => ?_) AllReadyH.nil
      go_simp
      first | (go_at_call 62; refine (aw_log' M.awTL2 M.awL2 1 M.awL2_eq rfl (by omega) (by decide) (by first | exact Reads.new_ _ _ 1 1 _ rfl (by omega) (fun _ => True) trivial | exact Reads.alloc (Reads.new_ _ _ 1 1 _ rfl (by omega) (fun _ => True) trivial) _ | exact Reads.drew (Reads.newAt _ _ 1 1 _ _ rfl (by omega) (fun _ => True) trivial (by simp)) | exact Reads.drew (Reads.alloc (Reads.newAt _ _ 1 1 _ _ rfl (by omega) (fun _ => True) trivial rfl) _))).mono ?_; rintro e w6 ⟨l6, A6, c6, hl6, rfl, hr6, hb6⟩; have hz6 : W.heap.size ≤ w6.heap.size := Nat.le_trans hHeld.size hb6.size; have hrd6 := hr6.read (by rw [hl6.2]; omega); obtain ⟨x6, rfl⟩ := one_shot hl6.2; obtain ⟨b6, o6, rfl, _, hb6l, hc6⟩ := Reads.at_ hrd6.1 (by simp); rw [show shsCells [x6] = shCells x6 by simp [shsCells]] at hc6; have h6 : Below W.heap.size W w6 := (by first | exact (below_one W _).trans (hb6.mono hHeld.size) | exact (below_two W _ _).trans (hb6.mono hHeld.size)); have ho6 := ownsRow_blk ho4 (fun g hg => h6.block g (Nat.lt_of_lt_of_le (hg4 g hg) hDW)); have hp6 := Reads.more (hr6.each x6 (by simp)) (S' := fun b => W.heap.size ≤ b) (fun b _ h => Nat.le_trans hHeld.size h.1)) | (go_at_call 18; refine (aw_replay0 (S := fun _ => True) (l := l4 ++ [x6]) (n := 4) M.awS2 M.aw_rules.1 M.aw_logs.2.1 M.aw_final2 ⟨by unfold plain; rw [List.map_append]; exact congr (congrArg _ hl.1) hl6.1, by simp [hl.2]⟩ (by first | exact hrd7 | exact hrd7.below ((Below.refl _ _).alloc (Nat.le_refl _) _))).mono ?_; rintro e w8 ⟨A8, c8, A9, k9, c9, rfl, hb8⟩; have hz8 : W.heap.size ≤ w8.heap.size := Nat.le_trans hHeld.size hb8.size)
      refine hK.out _ _ ?q1xh5b135 (fun hHeld => ?_)
      case q1xh5b135 => (exact hHeld.call hb8)
      clear hK K
      try simp only [Act.put, la, lz, ls]
      refine wpAnyH_take (i := 6) (oi := _) (v := ?q1xv6b136) (ga rfl) (by kernel_rfl) (by kernel_rfl) (by kernel_rfl) (fun _ _ _ h => h) (Or.inl ⟨by rfl, ?q1xy6b136⟩) (by assumption) ?_
      case q1xy6b136 => (intro w hSw; (try dsimp only at hSw); go_simp; try with_reducible rfl)
      try simp only [Act.put, la, lz, ls]
      refine wpAnyH_take (i := 7) (oi := _) (v := ?q1xv7b137) (ga rfl) (by kernel_rfl) (by kernel_rfl) (by kernel_rfl) (fun _ _ _ h => h) (Or.inl ⟨by rfl, ?q1xy7b137⟩) (by assumption) ?_
      case q1xy7b137 => (intro w hSw; (try dsimp only at hSw); go_simp; try with_reducible rfl)
      try simp only [Act.put, la, lz, ls]
      refine wpAnyH_take (i := 8) (oi := _) (v := ?q1xv8b138) (ga rfl) (by kernel_rfl) (by kernel_rfl) (by kernel_rfl) (fun _ _ _ h => h) (Or.inl ⟨by rfl, ?q1xy8b138⟩) (by assumption) ?_
      case q1xy8b138 => (intro w hSw; (try dsimp only at hSw); go_simp; try with_reducible rfl)
      try simp only [Act.put, la, lz, ls]
      refine wpAnyH_take (i := 9) (oi := _) (v := ?q1xv9b139) (ga rfl) (by kernel_rfl) (by kernel_rfl) (by kernel_rfl) (fun _ _ _ h => h) (Or.inl ⟨by rfl, ?q1xy9b139⟩) (by assumption) ?_
      case q1xy9b139 => (intro w hSw; (try dsimp only at hSw); go_simp; try with_reducible rfl)
      try simp only [Act.put, la, lz, ls]
      refine wpAnyH_ready (rs := [11]) (by kernel_rfl) (by simp) ?_
      refine AllReadyH.cons (o := _) (ga rfl) (fun K hK => ?_) AllReadyH.nil
      refine next_store_w (cs := zeroState) (by first | exact Held.new _ zeroState 33 | exact (Held.new w7 zeroState 33).below hb8 | exact ((Held.new w6 zeroState 33).grown hgrow7 (fun e => Nat.lt_irrefl _ (Nat.lt_of_lt_of_le (hg4 _ e) (Nat.le_trans hDW (by first | exact Nat.le_refl _ | exact hz6 | exact hz7 | exact hz8 | exact Nat.le_succ _))))).below hb8 | exact (((Held.newAt _ zeroState 33 (by simp)).drew.below hb6).grown hgrow7 (fun e => Nat.lt_irrefl _ (Nat.lt_of_lt_of_le (hg4 _ e) (Nat.le_trans hDW (by first | exact Nat.le_refl _ | exact hz6 | exact hz7 | exact hz8 | exact Nat.le_succ _))))).below hb8 | exact ((((Held.newAt _ zeroState 33 rfl).alloc _).drew.below hb6).grown hgrow7 (fun e => Nat.lt_irrefl _ (Nat.lt_of_lt_of_le (hg4 _ e) (Nat.le_trans hDW (by first | exact Nat.le_refl _ | exact hz6 | exact hz7 | exact hz8 | exact Nat.le_succ _))))).below hb8) (stateCells M.awS2 A8 c8) rfl state_info (state_one _ _ _) (.tmp 14) (.tmp 68) rfl rfl rfl ?_
      refine hK.out _ _ ?q1xh11b140 (fun hHeld => ?_)
      case q1xh11b140 => (exact hHeld.sets (by first | exact Nat.le_refl _ | exact hz6 | exact hz7 | exact hz8 | exact Nat.le_succ _) _ _)
      clear hK K
      try simp only [Act.put, la, lz, ls]
      refine wpAnyH_take (i := 12) (oi := _) (v := ?q1xv12b141) (ga rfl) (by kernel_rfl) (by kernel_rfl) (by kernel_rfl) (fun _ _ _ h => h) (Or.inl ⟨by rfl, ?q1xy12b141⟩) (by assumption) ?_
      case q1xy12b141 => (intro w hSw; (try dsimp only at hSw); go_simp; try with_reducible rfl)
      try simp only [Act.put, la, lz, ls]
      refine wpAnyH_take (i := 13) (oi := _) (v := ?q1xv13b142) (ga rfl) (by kernel_rfl) (by kernel_rfl) (by kernel_rfl) (fun _ _ _ h => h) (Or.inl ⟨by rfl, ?q1xy13b142⟩) (by assumption) ?_
      case q1xy13b142 => (intro w hSw; (try dsimp only at hSw); go_simp; try with_reducible rfl)
      try simp only [Act.put, la, lz, ls]
      refine wpAnyH_done (by kernel_rfl) ?_ _
      refine HK.out _ _ ?_
      apply HN.out D
      exact ⟨rfl, rfl, rfl, hR.apart hHeld, hD, Nat.le_trans hDW hHeld.size, h5.apart hHeld, rfl, h8.apart hHeld, rfl, h10.apart hHeld, rfl, h12.apart hHeld, rfl, ⟨_, A8, c8, rfl, Nat.le_trans hDW (by first | exact Nat.le_refl _ | exact hz6 | exact hz7 | exact hz8 | exact Nat.le_succ _), Held.whole (cs := zeroState) (by first | exact Held.new _ zeroState 33 | exact (Held.new w7 zeroState 33).below hb8 | exact ((Held.new w6 zeroState 33).grown hgrow7 (fun e => Nat.lt_irrefl _ (Nat.lt_of_lt_of_le (hg4 _ e) (Nat.le_trans hDW (by first | exact Nat.le_refl _ | exact hz6 | exact hz7 | exact hz8 | exact Nat.le_succ _))))).below hb8 | exact (((Held.newAt _ zeroState 33 (by simp)).drew.below hb6).grown hgrow7 (fun e => Nat.lt_irrefl _ (Nat.lt_of_lt_of_le (hg4 _ e) (Nat.le_trans hDW (by first | exact Nat.le_refl _ | exact hz6 | exact hz7 | exact hz8 | exact Nat.le_succ _))))).below hb8 | exact ((((Held.newAt _ zeroState 33 rfl).alloc _).drew.below hb6).grown hgrow7 (fun e => Nat.lt_irrefl _ (Nat.lt_of_lt_of_le (hg4 _ e) (Nat.le_trans hDW (by first | exact Nat.le_refl _ | exact hz6 | exact hz7 | exact hz8 | exact Nat.le_succ _))))).below hb8) _ rfl⟩, rfl⟩
  · go_simp
    refine hK.out _ _ ?q1xh10b157 (fun hHeld => ?_)
    case q1xh10b157 => (exact hHeld.alloc _)
    clear hK K
    try simp only [Act.put, la, lz, ls]
    refine wpAnyH_ready (rs := [2]) (by kernel_rfl) (by simp) ?_
    refine AllReadyH.cons (o := _) (ga rfl) (fun K hK => ?_) AllReadyH.nil
    go_simp
    refine hK.out _ _ ?q1xh2b158 (fun hHeld => ?_)
    case q1xh2b158 => (exact hHeld.alloc _)
    clear hK K
    try simp only [Act.put, la, lz, ls]
    refine wpAnyH_ready (rs := [3]) (by kernel_rfl) (by simp) ?_
    refine AllReadyH.cons (o := _) (ga rfl) (fun K hK => ?_) AllReadyH.nil
    go_simp
    first | (go_at_call 62; refine (aw_log' M.awTL2 M.awL2 1 M.awL2_eq rfl (by omega) (by decide) (by first | exact Reads.new_ _ _ 1 1 _ rfl (by omega) (fun _ => True) trivial | exact Reads.alloc (Reads.new_ _ _ 1 1 _ rfl (by omega) (fun _ => True) trivial) _ | exact Reads.drew (Reads.newAt _ _ 1 1 _ _ rfl (by omega) (fun _ => True) trivial (by simp)) | exact Reads.drew (Reads.alloc (Reads.newAt _ _ 1 1 _ _ rfl (by omega) (fun _ => True) trivial rfl) _))).mono ?_; rintro e w6 ⟨l6, A6, c6, hl6, rfl, hr6, hb6⟩; have hz6 : W.heap.size ≤ w6.heap.size := Nat.le_trans hHeld.size hb6.size; have hrd6 := hr6.read (by rw [hl6.2]; omega); obtain ⟨x6, rfl⟩ := one_shot hl6.2; obtain ⟨b6, o6, rfl, _, hb6l, hc6⟩ := Reads.at_ hrd6.1 (by simp); rw [show shsCells [x6] = shCells x6 by simp [shsCells]] at hc6; have h6 : Below W.heap.size W w6 := (by first | exact (below_one W _).trans (hb6.mono hHeld.size) | exact (below_two W _ _).trans (hb6.mono hHeld.size)); have ho6 := ownsRow_blk ho4 (fun g hg => h6.block g (Nat.lt_of_lt_of_le (hg4 g hg) hDW)); have hp6 := Reads.more (hr6.each x6 (by simp)) (S' := fun b => W.heap.size ≤ b) (fun b _ h => Nat.le_trans hHeld.size h.1)) | (go_at_call 18; refine (aw_replay0 (S := fun _ => True) (l := l4 ++ [x6]) (n := 4) M.awS2 M.aw_rules.1 M.aw_logs.2.1 M.aw_final2 ⟨by unfold plain; rw [List.map_append]; exact congr (congrArg _ hl.1) hl6.1, by simp [hl.2]⟩ (by first | exact hrd7 | exact hrd7.below ((Below.refl _ _).alloc (Nat.le_refl _) _))).mono ?_; rintro e w8 ⟨A8, c8, A9, k9, c9, rfl, hb8⟩; have hz8 : W.heap.size ≤ w8.heap.size := Nat.le_trans hHeld.size hb8.size)
    refine hK.out _ _ ?q1xh3b159 (fun hHeld => ?_)
    case q1xh3b159 => (exact hHeld.call hb6)
    clear hK K
    try simp only [Act.put, la, lz, ls]
    refine wpAnyH_ready (rs := [4]) (by kernel_rfl) (by simp) ?_
    refine AllReadyH.cons (o := _) (ga rfl) (fun K hK => ?_) AllReadyH.nil
    refine step_append_lies _ (by rfl) _ _ _ (by rfl) (w.heap.size + 3) 66 i0 (.agg #[.int .i64 0, .string ⟨#[]⟩, .int .i64 0, .int .i64 0, .int .i64 0, .bool false, .slice none 0 0]) 7 80 Tryz.underlying24 hi0 hz0 hz1 hz2 rfl (by omega) _ _ _ (by rfl) (by first | exact ho6 | exact ho6.alloc _) ⟨b6, o6, none⟩ 1 c6 (shCells x6) (by rfl) (by rfl) (fun j u hu => by rw [add_at]; first | exact hc6 j u hu | exact (World.cell?_alloc_lt _ _ ⟨b6, o6 + j, none⟩ hb6l).trans (hc6 j u hu)) (sh_one x6.x x6.a x6.c) (by omega) (by simp only [maxLen]; omega) (by omega) (Nat.le_trans hR.sz hHeld.size) _ rfl ?_; intro g1 cap w7 hown7 hgrow7 hat7 hlt7; have hz7 : W.heap.size ≤ w7.heap.size := Nat.le_trans hHeld.size hgrow7.size; have hr7 := (by first | exact hr4.append_at (x := x6) hl.2 h6 hR.sz hp6 hgrow7 hown7 hat7 | exact hr4.append_at (x := x6) hl.2 (h6.alloc hz6 _) hR.sz (hp6.alloc _) hgrow7 hown7 hat7 : ShRow 66 (w.heap.size + 3) (l4 ++ [x6]) (some ⟨g1, 0, none⟩) cap w7); have hrd7 := (hr7.read (by simp [hl.2])).more (S' := fun _ => True) (fun _ _ _ => trivial)
    refine hK.out _ _ ?q1xh4b160 (fun hHeld => ?_)
    case q1xh4b160 => (exact hHeld.grown hgrow7 (fun g e => ⟨(ownsRow_lt ho4 e).1, hg4 g e⟩))
    clear hK K
    try simp only [Act.put, la, lz, ls]
    refine wpAnyH_ready (rs := [5]) (by kernel_rfl) (by simp) ?_
    refine AllReadyH.cons (o := _) (ga rfl) (fun K hK => ?_) AllReadyH.nil
    go_simp
    first | (go_at_call 62; refine (aw_log' M.awTL2 M.awL2 1 M.awL2_eq rfl (by omega) (by decide) (by first | exact Reads.new_ _ _ 1 1 _ rfl (by omega) (fun _ => True) trivial | exact Reads.alloc (Reads.new_ _ _ 1 1 _ rfl (by omega) (fun _ => True) trivial) _ | exact Reads.drew (Reads.newAt _ _ 1 1 _ _ rfl (by omega) (fun _ => True) trivial (by simp)) | exact Reads.drew (Reads.alloc (Reads.newAt _ _ 1 1 _ _ rfl (by omega) (fun _ => True) trivial rfl) _))).mono ?_; rintro e w6 ⟨l6, A6, c6, hl6, rfl, hr6, hb6⟩; have hz6 : W.heap.size ≤ w6.heap.size := Nat.le_trans hHeld.size hb6.size; have hrd6 := hr6.read (by rw [hl6.2]; omega); obtain ⟨x6, rfl⟩ := one_shot hl6.2; obtain ⟨b6, o6, rfl, _, hb6l, hc6⟩ := Reads.at_ hrd6.1 (by simp); rw [show shsCells [x6] = shCells x6 by simp [shsCells]] at hc6; have h6 : Below W.heap.size W w6 := (by first | exact (below_one W _).trans (hb6.mono hHeld.size) | exact (below_two W _ _).trans (hb6.mono hHeld.size)); have ho6 := ownsRow_blk ho4 (fun g hg => h6.block g (Nat.lt_of_lt_of_le (hg4 g hg) hDW)); have hp6 := Reads.more (hr6.each x6 (by simp)) (S' := fun b => W.heap.size ≤ b) (fun b _ h => Nat.le_trans hHeld.size h.1)) | (go_at_call 18; refine (aw_replay0 (S := fun _ => True) (l := l4 ++ [x6]) (n := 4) M.awS2 M.aw_rules.1 M.aw_logs.2.1 M.aw_final2 ⟨by unfold plain; rw [List.map_append]; exact congr (congrArg _ hl.1) hl6.1, by simp [hl.2]⟩ (by first | exact hrd7 | exact hrd7.below ((Below.refl _ _).alloc (Nat.le_refl _) _))).mono ?_; rintro e w8 ⟨A8, c8, A9, k9, c9, rfl, hb8⟩; have hz8 : W.heap.size ≤ w8.heap.size := Nat.le_trans hHeld.size hb8.size)
    refine hK.out _ _ ?q1xh5b161 (fun hHeld => ?_)
    case q1xh5b161 => (exact hHeld.call hb8)
    clear hK K
    try simp only [Act.put, la, lz, ls]
    refine wpAnyH_take (i := 6) (oi := _) (v := ?q1xv6b162) (ga rfl) (by kernel_rfl) (by kernel_rfl) (by kernel_rfl) (fun _ _ _ h => h) (Or.inl ⟨by rfl, ?q1xy6b162⟩) (by assumption) ?_
    case q1xy6b162 => (intro w hSw; (try dsimp only at hSw); go_simp; try with_reducible rfl)
    try simp only [Act.put, la, lz, ls]
    refine wpAnyH_take (i := 7) (oi := _) (v := ?q1xv7b163) (ga rfl) (by kernel_rfl) (by kernel_rfl) (by kernel_rfl) (fun _ _ _ h => h) (Or.inl ⟨by rfl, ?q1xy7b163⟩) (by assumption) ?_
    case q1xy7b163 => (intro w hSw; (try dsimp only at hSw); go_simp; try with_reducible rfl)
    try simp only [Act.put, la, lz, ls]
    refine wpAnyH_take (i := 8) (oi := _) (v := ?q1xv8b164) (ga rfl) (by kernel_rfl) (by kernel_rfl) (by kernel_rfl) (fun _ _ _ h => h) (Or.inl ⟨by rfl, ?q1xy8b164⟩) (by assumption) ?_
    case q1xy8b164 => (intro w hSw; (try dsimp only at hSw); go_simp; try with_reducible rfl)
    try simp only [Act.put, la, lz, ls]
    refine wpAnyH_take (i := 9) (oi := _) (v := ?q1xv9b165) (ga rfl) (by kernel_rfl) (by kernel_rfl) (by kernel_rfl) (fun _ _ _ h => h) (Or.inl ⟨by rfl, ?q1xy9b165⟩) (by assumption) ?_
    case q1xy9b165 => (intro w hSw; (try dsimp only at hSw); go_simp; try with_reducible rfl)
    try simp only [Act.put, la, lz, ls]
    refine wpAnyH_ready (rs := [11]) (by kernel_rfl) (by simp) ?_
    refine AllReadyH.cons (o := _) (ga rfl) (fun K hK => ?_) AllReadyH.nil
    refine next_store_w (cs := zeroState) (by first | exact Held.new _ zeroState 33 | exact (Held.new w7 zeroState 33).below hb8 | exact ((Held.new w6 zeroState 33).grown hgrow7 (fun e => Nat.lt_irrefl _ (Nat.lt_of_lt_of_le (hg4 _ e) (Nat.le_trans hDW (by first | exact Nat.le_refl _ | exact hz6 | exact hz7 | exact hz8 | exact Nat.le_succ _))))).below hb8 | exact (((Held.newAt _ zeroState 33 (by simp)).drew.below hb6).grown hgrow7 (fun e => Nat.lt_irrefl _ (Nat.lt_of_lt_of_le (hg4 _ e) (Nat.le_trans hDW (by first | exact Nat.le_refl _ | exact hz6 | exact hz7 | exact hz8 | exact Nat.le_succ _))))).below hb8 | exact ((((Held.newAt _ zeroState 33 rfl).alloc _).drew.below hb6).grown hgrow7 (fun e => Nat.lt_irrefl _ (Nat.lt_of_lt_of_le (hg4 _ e) (Nat.le_trans hDW (by first | exact Nat.le_refl _ | exact hz6 | exact hz7 | exact hz8 | exact Nat.le_succ _))))).below hb8) (stateCells M.awS2 A8 c8) rfl state_info (state_one _ _ _) (.tmp 14) (.tmp 68) rfl rfl rfl ?_
    refine hK.out _ _ ?q1xh11b166 (fun hHeld => ?_)
    case q1xh11b166 => (exact hHeld.sets (by first | exact Nat.le_refl _ | exact hz6 | exact hz7 | exact hz8 | exact Nat.le_succ _) _ _)
    clear hK K
    try simp only [Act.put, la, lz, ls]
    refine wpAnyH_take (i := 12) (oi := _) (v := ?q1xv12b167) (ga rfl) (by kernel_rfl) (by kernel_rfl) (by kernel_rfl) (fun _ _ _ h => h) (Or.inl ⟨by rfl, ?q1xy12b167⟩) (by assumption) ?_
    case q1xy12b167 => (intro w hSw; (try dsimp only at hSw); go_simp; try with_reducible rfl)
    try simp only [Act.put, la, lz, ls]
    refine wpAnyH_take (i := 13) (oi := _) (v := ?q1xv13b168) (ga rfl) (by kernel_rfl) (by kernel_rfl) (by kernel_rfl) (fun _ _ _ h => h) (Or.inl ⟨by rfl, ?q1xy13b168⟩) (by assumption) ?_
    case q1xy13b168 => (intro w hSw; (try dsimp only at hSw); go_simp; try with_reducible rfl)
    try simp only [Act.put, la, lz, ls]
    refine wpAnyH_done (by kernel_rfl) ?_ _
    refine HK.out _ _ ?_
    apply HN.out D
    exact ⟨rfl, rfl, rfl, hR.apart hHeld, hD, Nat.le_trans hDW hHeld.size, h5.apart hHeld, rfl, h8.apart hHeld, rfl, h10.apart hHeld, rfl, h12.apart hHeld, rfl, ⟨_, A8, c8, rfl, Nat.le_trans hDW (by first | exact Nat.le_refl _ | exact hz6 | exact hz7 | exact hz8 | exact Nat.le_succ _), Held.whole (cs := zeroState) (by first | exact Held.new _ zeroState 33 | exact (Held.new w7 zeroState 33).below hb8 | exact ((Held.new w6 zeroState 33).grown hgrow7 (fun e => Nat.lt_irrefl _ (Nat.lt_of_lt_of_le (hg4 _ e) (Nat.le_trans hDW (by first | exact Nat.le_refl _ | exact hz6 | exact hz7 | exact hz8 | exact Nat.le_succ _))))).below hb8 | exact (((Held.newAt _ zeroState 33 (by simp)).drew.below hb6).grown hgrow7 (fun e => Nat.lt_irrefl _ (Nat.lt_of_lt_of_le (hg4 _ e) (Nat.le_trans hDW (by first | exact Nat.le_refl _ | exact hz6 | exact hz7 | exact hz8 | exact Nat.le_succ _))))).below hb8 | exact ((((Held.newAt _ zeroState 33 rfl).alloc _).drew.below hb6).grown hgrow7 (fun e => Nat.lt_irrefl _ (Nat.lt_of_lt_of_le (hg4 _ e) (Nat.le_trans hDW (by first | exact Nat.le_refl _ | exact hz6 | exact hz7 | exact hz8 | exact Nat.le_succ _))))).below hb8) _ rfl⟩, rfl⟩
end Go.Proofs.YtelpepbpdojikaaGreatDoor
