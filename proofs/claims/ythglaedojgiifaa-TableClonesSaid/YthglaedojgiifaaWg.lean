/-
  Walks of the seat's functions over the logic XG: each function, what it computes. Printed by a program out of wip/walks.py.
-/
import Derived.Test.YthglaedojgiifaaI
import Derived.Test.YthglaedojgiifaaTm
import Derived.Test.YthglaedojgiifaaTa
import Derived.Test.YthglaedojgiifaaTb
import Derived.Test.YthglaedojgiifaaTc
import Derived.Test.YthglaedojgiifaaTd
import Derived.Test.YthglaedojgiifaaTe
import Derived.Test.YthglaedojgiifaaP
import Derived.Test.YthglaedojgiifaaWa
import Derived.Test.YthglaedojgiifaaWb
import Derived.Test.YthglaedojgiifaaWc
import Derived.Test.YthglaedojgiifaaWd
import Derived.Test.YthglaedojgiifaaWe
import Derived.Test.YthglaedojgiifaaWf
namespace Go.XG
open Go.Proofs
set_option maxRecDepth 4000
set_option maxHeartbeats 4000000
theorem c10 {O : Outer} {H : Heap}  :
    FnC Try.prog 10 #[] O H (fun v H' => v = .bool true ∧ Ext H H') := by
  refine fn_enter (A := []) Try.func10 rfl rfl ?_
  have hX := Ext.refl H
  refine xc_seq ?_
  refine xc_region ?_
  refine xl_pure rfl rfl rfl (pv_assign (v := .bool _) rfl rfl) ?_
  refine xl_nil ?_
  refine xthen_normal ?_
  refine xc_seq ?_
  refine xc_region ?_
  refine xl_pure rfl rfl rfl (pv_build_s (cs := [.slice _ _ _]) rfl rfl rfl) ?_
  refine xl_heavy rfl rfl rfl (hv_box rfl rfl) ?_
  rintro v1_1 H1_1 ⟨b1_1, rfl, hN1_1⟩
  have gb1_1 := hX.fresh hN1_1
  have hX := hX.trans hN1_1.ext
  have m1_1 := hN1_1.blk
  refine xl_pure rfl rfl rfl (pv_assign (v := .pointer _) rfl rfl) ?_
  refine xl_nil ?_
  refine xthen_normal ?_
  refine xc_seq ?_
  refine xc_region ?_
  refine xl_pure rfl rfl rfl (pv_move (v := .pointer _) rfl rfl) ?_
  refine xl_pure rfl rfl rfl (pv_build_a (cs := [.int _ _, .int _ _, .int _ _, .int _ _]) rfl rfl rfl) ?_
  refine xl_heavy rfl rfl rfl (hv_call (g := 16) rfl rfl (c16 m1_1 RowsT.nil rfl (by unfold Srt; decide) (Nat.le_refl _) (fun _ => rfl) (by decide) [2, 0, 0, 0] rfl 7) rfl) ?_
  rintro v2_2 H2_2 ⟨a2_2, c2_2, hv2_2, hU2_2, hR2_2, hc2_2, hna2_2⟩
  have hX := hX.upd hU2_2.but gb1_1
  have m1_1 := hU2_2.blk
  have e2_2 : putR [] ([2, 0, 0, 0] ++ [7]) = [[2, 0, 0, 0, 7]] := by decide
  rw [e2_2] at m1_1 hR2_2 hc2_2
  obtain rfl : v2_2 = .bool true := hv2_2.trans (congrArg Value.bool (by decide))
  refine xl_pure rfl rfl rfl (pv_move (v := .pointer _) rfl rfl) ?_
  refine xl_pure rfl rfl rfl (pv_build_a (cs := [.int _ _, .int _ _, .int _ _, .int _ _]) rfl rfl rfl) ?_
  refine xl_heavy rfl rfl rfl (hv_call (g := 16) rfl rfl (c16 m1_1 hR2_2 rfl (by unfold Srt; decide) hc2_2 hna2_2 (by decide) [1, 5, 0, 0] rfl 8) rfl) ?_
  rintro v2_5 H2_5 ⟨a2_5, c2_5, hv2_5, hU2_5, hR2_5, hc2_5, hna2_5⟩
  have hR2_2 := hR2_2.offT m1_1 hU2_5.but (by first | rfl | assumption)
  have hX := hX.upd hU2_5.but gb1_1
  have m1_1 := hU2_5.blk
  have e2_5 : putR [[2, 0, 0, 0, 7]] ([1, 5, 0, 0] ++ [8]) = [[1, 5, 0, 0, 8], [2, 0, 0, 0, 7]] := by decide
  rw [e2_5] at m1_1 hR2_5 hc2_5
  obtain rfl : v2_5 = .bool true := hv2_5.trans (congrArg Value.bool (by decide))
  refine xl_pure rfl rfl rfl (pv_assign (v := .bool _) rfl rfl) ?_
  refine xl_pure rfl rfl rfl (pv_assign (v := .bool _) rfl rfl) ?_
  refine xl_nil ?_
  refine xthen_normal ?_
  refine xc_seq ?_
  refine xc_region ?_
  refine xl_pure rfl rfl rfl (pv_move (v := .pointer _) rfl rfl) ?_
  refine xl_heavy rfl rfl rfl (hv_call (g := 22) rfl rfl (c22 m1_1 hR2_5 rfl (by unfold Srt; decide) hc2_5 hna2_5 (by decide) 0) rfl) ?_
  rintro v3_1 H3_1 ⟨hv3_1, hE3_1⟩
  have m1_1 := m1_1.ext hE3_1
  have hR2_2 := hR2_2.ext hE3_1
  have hR2_5 := hR2_5.ext hE3_1
  have hX := hX.trans hE3_1
  obtain ⟨-, -, rfl⟩ := hv3_1.resolve_right (fun h => h.1 (by decide))
  refine xl_pure rfl rfl rfl (pv_move (v := .tuple _) rfl rfl) ?_
  refine xl_pure rfl rfl rfl (pv_extract (v := .agg _) rfl rfl rfl) ?_
  refine xl_pure rfl rfl rfl (pv_extract (v := .int _ _) rfl rfl rfl) ?_
  refine xl_pure rfl rfl rfl (pv_extract (v := .bool _) rfl rfl rfl) ?_
  refine xl_heavy rfl rfl rfl (hv_alloc rfl rfl) ?_
  rintro v3_6 H3_6 ⟨b3_6, rfl, hN3_6⟩
  have gb3_6 := hX.fresh hN3_6
  have nm1_1_3_6 := m1_1.apart hN3_6
  have m1_1 := m1_1.ext hN3_6.ext
  have hR2_2 := hR2_2.ext hN3_6.ext
  have hR2_5 := hR2_5.ext hN3_6.ext
  have hX := hX.trans hN3_6.ext
  have m3_6 := hN3_6.blk
  refine xl_store rfl rfl (hv_storeA (vs := [.int _ _, .int _ _, .int _ _, .int _ _]) rfl rfl rfl (m3_6) rfl (by rfl) rfl) ?_
  rintro v3_7 H3_7 ⟨hU3_7, hZ3_7⟩
  have m1_1 := m1_1.off hU3_7.but (by first | exact nm1_1_3_6 | exact ⟨m1_1.ne m3_6 rfl⟩ | exact ⟨m1_1.ne m3_6 (by assumption)⟩ | exact ⟨Ne.symm (m3_6.ne m1_1 (by assumption))⟩)
  have hR2_2 := hR2_2.offT m3_6 hU3_7.but (by first | rfl | assumption)
  have hR2_5 := hR2_5.offT m3_6 hU3_7.but (by first | rfl | assumption)
  have hX := hX.upd hU3_7.but gb3_6
  have m3_6 := hU3_7.blk
  refine xl_pure rfl rfl rfl (pv_assign (v := .int _ _) rfl rfl) ?_
  refine xl_pure rfl rfl rfl (pv_assign (v := .bool _) rfl rfl) ?_
  refine xl_nil ?_
  refine xthen_normal ?_
  refine xc_seq ?_
  refine xc_region ?_
  refine xl_pure rfl rfl rfl (pv_move (v := .bool _) rfl rfl) ?_
  refine xl_pure rfl rfl rfl (pv_move (v := .bool _) rfl rfl) ?_
  refine xl_pure rfl rfl rfl (pv_move (v := .bool _) rfl rfl) ?_
  refine xl_pure rfl rfl rfl (pv_pick_t (v := .bool _) rfl rfl rfl) ?_
  refine xl_pure rfl rfl rfl (pv_move (v := .bool _) rfl rfl) ?_
  refine xl_pure rfl rfl rfl (pv_move (v := .pointer _) rfl rfl) ?_
  refine xl_pure rfl rfl rfl (pv_build_a (cs := [.int _ _, .int _ _, .int _ _, .int _ _]) rfl rfl rfl) ?_
  refine xl_heavy rfl rfl rfl (hv_call (g := 16) rfl rfl (c16 m1_1 hR2_5 rfl (by unfold Srt; decide) hc2_5 hna2_5 (by decide) [2, 0, 0, 0] rfl 9) rfl) ?_
  rintro v4_7 H4_7 ⟨a4_7, c4_7, hv4_7, hU4_7, hR4_7, hc4_7, hna4_7⟩
  have hR2_2 := hR2_2.offT m1_1 hU4_7.but (by first | rfl | assumption)
  have hR2_5 := hR2_5.offT m1_1 hU4_7.but (by first | rfl | assumption)
  have m3_6 := m3_6.off hU4_7.but (by first | exact nm1_1_3_6.symm | exact ⟨m3_6.ne m1_1 rfl⟩ | exact ⟨m3_6.ne m1_1 (by assumption)⟩ | exact ⟨Ne.symm (m1_1.ne m3_6 (by assumption))⟩)
  have hX := hX.upd hU4_7.but gb1_1
  have m1_1 := hU4_7.blk
  have e4_7 : putR [[1, 5, 0, 0, 8], [2, 0, 0, 0, 7]] ([2, 0, 0, 0] ++ [9]) = [[1, 5, 0, 0, 8], [2, 0, 0, 0, 9]] := by decide
  rw [e4_7] at m1_1 hR4_7 hc4_7
  obtain rfl : v4_7 = .bool false := hv4_7.trans (congrArg Value.bool (by decide))
  refine xl_pure rfl rfl rfl (pv_not rfl rfl) ?_
  refine xl_pure rfl rfl rfl (pv_pick_t (v := .bool _) rfl rfl rfl) ?_
  refine xl_pure rfl rfl rfl (pv_move (v := .bool _) rfl rfl) ?_
  refine xl_light rfl rfl rfl (lv_load (v := .agg _) rfl rfl (ld_blk_a m3_6 rfl rfl)) ?_
  refine xl_pure rfl rfl rfl (pv_build_a (cs := [.int _ _, .int _ _, .int _ _, .int _ _]) rfl rfl rfl) ?_
  refine xl_dec rfl rfl rfl (pv_eql_ai [1, 5, 0, 0] [1, 5, 0, 0] rfl rfl rfl rfl rfl) (fun h4_13 => ?_) (fun h4_13 => ?_)
  · skip
    refine xl_pure rfl rfl rfl (pv_pick_t (v := .bool _) rfl rfl rfl) ?_
    refine xl_pure rfl rfl rfl (pv_move (v := .bool _) rfl rfl) ?_
    refine xl_pure rfl rfl rfl (pv_move (v := .int _ _) rfl rfl) ?_
    refine xl_dec rfl rfl rfl (pv_eql rfl rfl rfl) (fun h4_17 => ?_) (fun h4_17 => ?_)
    · skip
      refine xl_pure rfl rfl rfl (pv_pick_t (v := .bool _) rfl rfl rfl) ?_
      refine xl_pure rfl rfl rfl (pv_move (v := .bool _) rfl rfl) ?_
      refine xl_pure rfl rfl rfl (pv_move (v := .bool _) rfl rfl) ?_
      refine xl_pure rfl rfl rfl (pv_pick_t (v := .bool _) rfl rfl rfl) ?_
      refine xl_pure rfl rfl rfl (pv_move (v := .bool _) rfl rfl) ?_
      refine xl_pure rfl rfl rfl (pv_move (v := .pointer _) rfl rfl) ?_
      refine xl_heavy rfl rfl rfl (hv_call (g := 18) rfl rfl (c18 m1_1) rfl) ?_
      rintro v4_24 H4_24 ⟨rfl, rfl⟩
      refine xl_dec rfl rfl rfl (pv_eql rfl rfl rfl) (fun h4_25 => ?_) (fun h4_25 => ?_)
      · skip
        refine xl_pure rfl rfl rfl (pv_pick_t (v := .bool _) rfl rfl rfl) ?_
        refine xl_pure rfl rfl rfl (pv_move (v := .bool _) rfl rfl) ?_
        refine xl_pure rfl rfl rfl (pv_build_a (cs := [.int _ _, .int _ _, .int _ _, .int _ _]) rfl rfl rfl) ?_
        refine xl_pure rfl rfl rfl (pv_build_a (cs := [.int _ _, .int _ _, .int _ _, .int _ _]) rfl rfl rfl) ?_
        refine xl_heavy rfl rfl rfl (hv_call (g := 8) rfl rfl (c8 [1, 0, 0, 0] [1, 1, 0, 0] rfl rfl) rfl) ?_
        rintro v4_30 H4_30 ⟨rfl, hE4_30⟩
        have m1_1 := m1_1.ext hE4_30
        have hR2_2 := hR2_2.ext hE4_30
        have hR2_5 := hR2_5.ext hE4_30
        have m3_6 := m3_6.ext hE4_30
        have hR4_7 := hR4_7.ext hE4_30
        have hX := hX.trans hE4_30
        refine xl_dec rfl rfl rfl (pv_lss rfl rfl rfl) (fun h4_31 => ?_) (fun h4_31 => ?_)
        · skip
          refine xl_pure rfl rfl rfl (pv_pick_t (v := .bool _) rfl rfl rfl) ?_
          refine xl_pure rfl rfl rfl (pv_move (v := .bool _) rfl rfl) ?_
          refine xl_pure rfl rfl rfl (pv_move (v := .pointer _) rfl rfl) ?_
          refine xl_heavy rfl rfl rfl (hv_call (g := 14) rfl rfl (c14 m1_1 hR4_7 rfl (by unfold Srt; decide) hc4_7 hna4_7 (by decide) rfl rfl) rfl) ?_
          rintro v4_35 H4_35 ⟨a4_35, c4_35, rfl, hQ4_35, hE4_35⟩
          have m1_1 := m1_1.ext hE4_35
          have hR2_2 := hR2_2.ext hE4_35
          have hR2_5 := hR2_5.ext hE4_35
          have m3_6 := m3_6.ext hE4_35
          have hR4_7 := hR4_7.ext hE4_35
          have hX := hX.trans hE4_35
          refine xl_pure rfl rfl rfl (pv_build_a (cs := [.int _ _, .int _ _, .int _ _, .int _ _]) rfl rfl rfl) ?_
          refine xl_pure rfl rfl rfl (pv_build_s (cs := [.int _ _, .int _ _, .int _ _, .int _ _, .int _ _]) rfl rfl rfl) ?_
          refine xl_pure rfl rfl rfl (pv_build_a (cs := [.int _ _, .int _ _, .int _ _, .int _ _]) rfl rfl rfl) ?_
          refine xl_pure rfl rfl rfl (pv_build_s (cs := [.int _ _, .int _ _, .int _ _, .int _ _, .int _ _]) rfl rfl rfl) ?_
          refine xl_heavy rfl rfl rfl (hv_buildSlice (cs := [.int _ _, .int _ _, .int _ _, .int _ _, .int _ _, .int _ _, .int _ _, .int _ _, .int _ _, .int _ _]) rfl rfl rfl rfl rfl) ?_
          rintro v4_40 H4_40 ⟨b4_40, rfl, hN4_40⟩
          have gb4_40 := hX.fresh hN4_40
          have nm1_1_4_40 := m1_1.apart hN4_40
          have nm3_6_4_40 := m3_6.apart hN4_40
          have m1_1 := m1_1.ext hN4_40.ext
          have hR2_2 := hR2_2.ext hN4_40.ext
          have hR2_5 := hR2_5.ext hN4_40.ext
          have m3_6 := m3_6.ext hN4_40.ext
          have hR4_7 := hR4_7.ext hN4_40.ext
          have hQ4_35 := hQ4_35.ext hN4_40.ext
          have hX := hX.trans hN4_40.ext
          have m4_40 := hN4_40.blk
          refine xl_heavy rfl rfl rfl (hv_call (g := 13) rfl rfl (c13 [[1, 5, 0, 0, 8], [2, 0, 0, 0, 9]] [[1, 5, 0, 0, 8], [2, 0, 0, 0, 9]] _ _ _ _ hQ4_35.rows ⟨hQ4_35.wide, .inr ⟨_, 0, rfl, blk_rows hQ4_35.wide m4_40 rfl⟩⟩ (by decide)) rfl) ?_
          rintro v4_41 H4_41 ⟨r4_41, rfl, hb4_41, rfl⟩
          obtain rfl : r4_41 = true := hb4_41.2 rfl
          refine xl_pure rfl rfl rfl (pv_pick_t (v := .bool _) rfl rfl rfl) ?_
          refine xl_pure rfl rfl rfl (pv_assign (v := .bool _) rfl rfl) ?_
          refine xl_nil ?_
          refine xthen_normal ?_
          refine xc_ret ?_
          refine fin_ret (res1 (v := .bool _) rfl rfl) ?_
          exact ⟨rfl, hX⟩
        · exact absurd (by decide) h4_31
      · exact absurd (by decide) h4_25
    · exact absurd (by decide) h4_17
  · exact absurd (by decide) h4_13
end Go.XG
