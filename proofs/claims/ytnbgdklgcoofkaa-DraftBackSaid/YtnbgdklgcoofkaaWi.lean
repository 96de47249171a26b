/-
  Walks of the seat's functions over the logic XG: each function, what it computes. Printed by a program out of wip/walks.py.
-/
import Derived.Test.YtnbgdklgcoofkaaI
import Derived.Test.YtnbgdklgcoofkaaTo
import Derived.Test.YtnbgdklgcoofkaaTa
import Derived.Test.YtnbgdklgcoofkaaTb
import Derived.Test.YtnbgdklgcoofkaaTc
import Derived.Test.YtnbgdklgcoofkaaTd
import Derived.Test.YtnbgdklgcoofkaaP
import Derived.Test.YtnbgdklgcoofkaaWa
import Derived.Test.YtnbgdklgcoofkaaWb
import Derived.Test.YtnbgdklgcoofkaaWc
import Derived.Test.YtnbgdklgcoofkaaQ
import Derived.Test.YtnbgdklgcoofkaaWd
import Derived.Test.YtnbgdklgcoofkaaWe
import Derived.Test.YtnbgdklgcoofkaaWf
import Derived.Test.YtnbgdklgcoofkaaWg
import Derived.Test.YtnbgdklgcoofkaaWh
namespace Go.XG
open Go.Proofs
set_option maxRecDepth 4000
set_option maxHeartbeats 4000000
theorem c3 {O : Outer} {H : Heap} (d0 d1 d2 d3 d4 d5 d6 d7 d8 : Int) (p q : Int) :
    FnC Try.prog 3 #[.agg #[.int .i64 d0, .int .i64 d1, .int .i64 d2, .int .i64 d3, .int .i64 d4, .int .i64 d5, .int .i64 d6, .int .i64 d7, .int .i64 d8], .int .i64 p, .int .i64 q] O H (fun v H' => v = .bool true ∧ Ext H H') := by
  refine fn_enter (A := [.agg #[.int .i64 d0, .int .i64 d1, .int .i64 d2, .int .i64 d3, .int .i64 d4, .int .i64 d5, .int .i64 d6, .int .i64 d7, .int .i64 d8], .int .i64 p, .int .i64 q]) Try.func3 rfl rfl ?_
  have hX := Ext.refl H
  refine xc_seq ?_
  refine xc_region ?_
  refine xl_heavy rfl rfl rfl (hv_box rfl rfl) ?_
  rintro v0_0 H0_0 ⟨b0_0, rfl, hN0_0⟩
  have gb0_0 := hX.fresh hN0_0
  have hX := hX.trans hN0_0.ext
  have m0_0 := hN0_0.blk
  refine xl_pure rfl rfl rfl (pv_assign (v := .bool _) rfl rfl) ?_
  refine xl_nil ?_
  refine xthen_normal ?_
  refine xc_seq ?_
  refine xc_region ?_
  refine xl_pure rfl rfl rfl (pv_build_s (cs := [.slice _ _ _, .int _ _]) rfl rfl rfl) ?_
  refine xl_heavy rfl rfl rfl (hv_box rfl rfl) ?_
  rintro v1_1 H1_1 ⟨b1_1, rfl, hN1_1⟩
  have gb1_1 := hX.fresh hN1_1
  have nm0_0_1_1 := m0_0.apart hN1_1
  have m0_0 := m0_0.ext hN1_1.ext
  have hX := hX.trans hN1_1.ext
  have m1_1 := hN1_1.blk
  refine xl_pure rfl rfl rfl (pv_assign (v := .pointer _) rfl rfl) ?_
  refine xl_nil ?_
  refine xthen_normal ?_
  refine xc_seq ?_
  refine xc_region ?_
  refine xl_pure rfl rfl rfl (pv_move (v := .pointer _) rfl rfl) ?_
  refine xl_light rfl rfl rfl (lv_load (v := .agg _) rfl rfl (ld_blk_a m0_0 rfl rfl)) ?_
  refine xl_heavy rfl rfl rfl (hv_call (g := 6) rfl rfl (c6 (l := []) (g := 0) m1_1 RowsT.nil (Nat.le_refl _) (fun _ => rfl) (by decide) goo_nil (by decide) (by decide) d0 d1 d2 d3 d4 d5 d6 d7 d8) rfl) ?_
  rintro v2_2 H2_2 ⟨a2_2, c2_2, L2_2, g2_2, n2_2, e2_2, rfl, ⟨hB2_2, hT2_2, hR2_2, hc2_2, hna2_2⟩, hA2_2⟩
  have m0_0 := m0_0.off hB2_2 (by first | exact nm0_0_1_1 | exact ⟨m0_0.ne m1_1 rfl⟩ | exact ⟨m0_0.ne m1_1 (by assumption)⟩ | exact ⟨Ne.symm (m1_1.ne m0_0 (by assumption))⟩)
  have hX := hX.upd hB2_2 gb1_1
  have m1_1 := hT2_2
  rcases add_first hA2_2 with ⟨hi, h8, rfl, rfl, rfl, rfl⟩ | ⟨rfl, rfl⟩
  · skip
    have h8 : d8 = 0 := h8
    have hi9 := isD_iff.1 hi
    have hi1 : IsD [1, d1, d2, d3, d4, d5, d6, d7, d8] := hi
    have hg1 : Goo [[1, 0, 0, 0] ++ [1, d1, d2, d3, d4, d5, d6, d7, d8]] := goo_one rfl hi1
    refine xl_pure rfl rfl rfl (pv_move (v := .tuple _) rfl rfl) ?_
    refine xl_pure rfl rfl rfl (pv_extract (v := .int _ _) rfl rfl rfl) ?_
    refine xl_pure rfl rfl rfl (pv_extract (v := .int _ _) rfl rfl rfl) ?_
    refine xl_pure rfl rfl rfl (pv_assign (v := .int _ _) rfl rfl) ?_
    refine xl_pure rfl rfl rfl (pv_assign (v := .int _ _) rfl rfl) ?_
    refine xl_nil ?_
    refine xthen_normal ?_
    refine xc_seq ?_
    refine xc_seq ?_
    refine xc_region ?_
    refine xl_pure rfl rfl rfl (pv_move (v := .int _ _) rfl rfl) ?_
    refine xl_ndec rfl rfl rfl (pv_neq rfl rfl rfl) (fun h3_1 => ?_) (fun h3_1 => ?_)
    · first
      | (exfalso; omega)
      |  (skip
          refine xl_nil ?_
          refine xthen_normal ?_
          refine xc_cond_f rfl ?_
          refine xc_skip ?_
          refine xthen_normal ?_
          refine xc_seq ?_
          refine xc_region ?_
          refine xl_pure rfl rfl rfl (pv_move (v := .pointer _) rfl rfl) ?_
          refine xl_pure rfl rfl rfl (pv_move (v := .int _ _) rfl rfl) ?_
          refine xl_heavy rfl rfl rfl (hv_call (g := 8) rfl rfl (c8 (l := [[1, 0, 0, 0] ++ [1, d1, d2, d3, d4, d5, d6, d7, d8]]) m1_1 hR2_2 hc2_2 hna2_2 (show 1 < 1000000 by decide) hg1 1) rfl) ?_
          rintro v5_2 H5_2 ⟨hv5_2, hE5_2⟩
          have m0_0 := m0_0.ext hE5_2
          have m1_1 := m1_1.ext hE5_2
          have hR2_2 := hR2_2.ext hE5_2
          have hX := hX.trans hE5_2
          obtain rfl : v5_2 = .tuple #[.agg #[.int .i64 1, .int .i64 d1, .int .i64 d2, .int .i64 d3, .int .i64 d4, .int .i64 d5, .int .i64 d6, .int .i64 d7, .int .i64 d8], .int .i64 0] := by rcases hv5_2 with ⟨_, h⟩ | ⟨h, _⟩; exact h.trans (by rw [one_dr]; rfl); exact absurd h (by rw [one_has]; decide)
          refine xl_pure rfl rfl rfl (pv_move (v := .tuple _) rfl rfl) ?_
          refine xl_pure rfl rfl rfl (pv_extract (v := .agg _) rfl rfl rfl) ?_
          refine xl_pure rfl rfl rfl (pv_extract (v := .int _ _) rfl rfl rfl) ?_
          refine xl_heavy rfl rfl rfl (hv_alloc rfl rfl) ?_
          rintro v5_6 H5_6 ⟨b5_6, rfl, hN5_6⟩
          have gb5_6 := hX.fresh hN5_6
          have nm0_0_5_6 := m0_0.apart hN5_6
          have nm1_1_5_6 := m1_1.apart hN5_6
          have m0_0 := m0_0.ext hN5_6.ext
          have m1_1 := m1_1.ext hN5_6.ext
          have hR2_2 := hR2_2.ext hN5_6.ext
          have hX := hX.trans hN5_6.ext
          have m5_6 := hN5_6.blk
          refine xl_store rfl rfl (hv_storeA (vs := [.int _ _, .int _ _, .int _ _, .int _ _, .int _ _, .int _ _, .int _ _, .int _ _, .int _ _]) rfl rfl rfl (m5_6) rfl (by rfl) rfl) ?_
          rintro v5_7 H5_7 ⟨hU5_7, hZ5_7⟩
          have m0_0 := m0_0.off hU5_7.but (by first | exact nm0_0_5_6 | exact ⟨m0_0.ne m5_6 rfl⟩ | exact ⟨m0_0.ne m5_6 (by assumption)⟩ | exact ⟨Ne.symm (m5_6.ne m0_0 (by assumption))⟩)
          have m1_1 := m1_1.off hU5_7.but (by first | exact nm1_1_5_6 | exact ⟨m1_1.ne m5_6 rfl⟩ | exact ⟨m1_1.ne m5_6 (by assumption)⟩ | exact ⟨Ne.symm (m5_6.ne m1_1 (by assumption))⟩)
          have hR2_2 := hR2_2.offT m5_6 hU5_7.but (by first | rfl | assumption)
          have hX := hX.upd hU5_7.but gb5_6
          have m5_6 := hU5_7.blk
          refine xl_pure rfl rfl rfl (pv_assign (v := .int _ _) rfl rfl) ?_
          refine xl_nil ?_
          refine xthen_normal ?_
          refine xc_seq ?_
          refine xc_seq ?_
          refine xc_region ?_
          refine xl_pure rfl rfl rfl (pv_move (v := .int _ _) rfl rfl) ?_
          refine xl_ndec rfl rfl rfl (pv_neq rfl rfl rfl) (fun h6_1 => ?_) (fun h6_1 => ?_)
          · skip
            refine xl_nil ?_
            refine xthen_normal ?_
            refine xc_cond_f rfl ?_
            refine xc_skip ?_
            refine xthen_normal ?_
            refine xc_seq ?_
            refine xc_seq ?_
            refine xc_region ?_
            refine xl_pure rfl rfl rfl (pv_move (v := .pointer _) rfl rfl) ?_
            refine xl_pure rfl rfl rfl (pv_move (v := .int _ _) rfl rfl) ?_
            refine xl_pure rfl rfl rfl (pv_move (v := .int _ _) rfl rfl) ?_
            refine xl_pure rfl rfl rfl (pv_move (v := .int _ _) rfl rfl) ?_
            refine xl_heavy rfl rfl rfl (hv_call (g := 9) rfl rfl (c9 (l := [[1, 0, 0, 0] ++ [1, d1, d2, d3, d4, d5, d6, d7, d8]]) m1_1 hR2_2 hc2_2 hna2_2 (show 1 < 1000000 by decide) hg1 1 p q) rfl) ?_
            rintro v8_4 H8_4 ⟨a8_4, c8_4, hv8_4, hB8_4, hT8_4, hR8_4, hc8_4, hna8_4⟩
            have m0_0 := m0_0.off hB8_4 (by first | exact nm0_0_1_1 | exact ⟨m0_0.ne m1_1 rfl⟩ | exact ⟨m0_0.ne m1_1 (by assumption)⟩ | exact ⟨Ne.symm (m1_1.ne m0_0 (by assumption))⟩)
            have hR2_2 := hR2_2.offT m1_1 hB8_4 (by first | rfl | assumption)
            have m5_6 := m5_6.off hB8_4 (by first | exact nm1_1_5_6.symm | exact ⟨m5_6.ne m1_1 rfl⟩ | exact ⟨m5_6.ne m1_1 (by assumption)⟩ | exact ⟨Ne.symm (m1_1.ne m5_6 (by assumption))⟩)
            have hX := hX.upd hB8_4 gb1_1
            have m1_1 := hT8_4
            rw [one_E] at hv8_4
            have hv8_4 : v8_4 = .int .i64 (useE d7 d8 p q) := hv8_4
            subst hv8_4
            refine xl_ndec rfl rfl rfl (pv_neq rfl rfl rfl) (fun h8_5 => ?_) (fun h8_5 => ?_)
            · skip
              refine xl_nil ?_
              refine xthen_normal ?_
              refine xc_cond_f rfl ?_
              refine xc_skip ?_
              refine xthen_normal ?_
              refine xc_seq ?_
              have hu : useE d7 d8 p q = 0 := h8_5
              have hui := hu
              unfold useE at hui
              have hu1 : 1 ≤ p ∧ p ≤ 1099511627776 ∧ 0 ≤ q ∧ q ≤ 1000 := by
                split at hui
                · omega
                · omega
              have hr1 : (d7 = -1 ∧ useR d7 d8 p q = -1) ∨ (¬ d7 = -1 ∧ useR d7 d8 p q = d7 - q ∧ 0 ≤ d7 - q) := by
                unfold useR; rw [if_pos hu]
                by_cases h7 : d7 = -1
                · exact .inl ⟨h7, if_pos h7⟩
                · refine .inr ⟨h7, if_neg h7, ?_⟩
                  (repeat' split at hui) <;> omega
              have hub : useB d7 d8 p q = p := if_pos hu
              have hul : useL p q [1, d1, d2, d3, d4, d5, d6, d7, d8] = [1, d1, d2, d3, d4, d5, d6, useR d7 d8 p q, p] := by show [1, d1, d2, d3, d4, d5, d6, useR d7 d8 p q, useB d7 d8 p q] = _; rw [hub]
              rw [one_L hu, hul] at m1_1 hR8_4 hc8_4
              have hg2 : Goo [[1, 0, 0, 0] ++ [1, d1, d2, d3, d4, d5, d6, useR d7 d8 p q, p]] := goo_one rfl (by rw [← hul]; exact (keeps_use _ _ _ _ _ _ _ _ _ hi1 hu).2)
              refine xc_region ?_
              refine xl_pure rfl rfl rfl (pv_move (v := .pointer _) rfl rfl) ?_
              refine xl_pure rfl rfl rfl (pv_move (v := .int _ _) rfl rfl) ?_
              refine xl_heavy rfl rfl rfl (hv_call (g := 8) rfl rfl (c8 (l := [[1, 0, 0, 0] ++ [1, d1, d2, d3, d4, d5, d6, useR d7 d8 p q, p]]) m1_1 hR8_4 hc8_4 hna8_4 (show 1 < 1000000 by decide) hg2 1) rfl) ?_
              rintro v10_2 H10_2 ⟨hv10_2, hE10_2⟩
              have m0_0 := m0_0.ext hE10_2
              have m1_1 := m1_1.ext hE10_2
              have hR2_2 := hR2_2.ext hE10_2
              have m5_6 := m5_6.ext hE10_2
              have hR8_4 := hR8_4.ext hE10_2
              have hX := hX.trans hE10_2
              obtain rfl : v10_2 = .tuple #[.agg #[.int .i64 1, .int .i64 d1, .int .i64 d2, .int .i64 d3, .int .i64 d4, .int .i64 d5, .int .i64 d6, .int .i64 (useR d7 d8 p q), .int .i64 p], .int .i64 0] := by rcases hv10_2 with ⟨_, h⟩ | ⟨h, _⟩; exact h.trans (by rw [one_dr]; rfl); exact absurd h (by rw [one_has]; decide)
              refine xl_pure rfl rfl rfl (pv_move (v := .tuple _) rfl rfl) ?_
              refine xl_pure rfl rfl rfl (pv_extract (v := .agg _) rfl rfl rfl) ?_
              refine xl_pure rfl rfl rfl (pv_extract (v := .int _ _) rfl rfl rfl) ?_
              refine xl_heavy rfl rfl rfl (hv_alloc rfl rfl) ?_
              rintro v10_6 H10_6 ⟨b10_6, rfl, hN10_6⟩
              have gb10_6 := hX.fresh hN10_6
              have nm0_0_10_6 := m0_0.apart hN10_6
              have nm1_1_10_6 := m1_1.apart hN10_6
              have nm5_6_10_6 := m5_6.apart hN10_6
              have m0_0 := m0_0.ext hN10_6.ext
              have m1_1 := m1_1.ext hN10_6.ext
              have hR2_2 := hR2_2.ext hN10_6.ext
              have m5_6 := m5_6.ext hN10_6.ext
              have hR8_4 := hR8_4.ext hN10_6.ext
              have hX := hX.trans hN10_6.ext
              have m10_6 := hN10_6.blk
              refine xl_store rfl rfl (hv_storeA (vs := [.int _ _, .int _ _, .int _ _, .int _ _, .int _ _, .int _ _, .int _ _, .int _ _, .int _ _]) rfl rfl rfl (m10_6) rfl (by rfl) rfl) ?_
              rintro v10_7 H10_7 ⟨hU10_7, hZ10_7⟩
              have m0_0 := m0_0.off hU10_7.but (by first | exact nm0_0_10_6 | exact ⟨m0_0.ne m10_6 rfl⟩ | exact ⟨m0_0.ne m10_6 (by assumption)⟩ | exact ⟨Ne.symm (m10_6.ne m0_0 (by assumption))⟩)
              have m1_1 := m1_1.off hU10_7.but (by first | exact nm1_1_10_6 | exact ⟨m1_1.ne m10_6 rfl⟩ | exact ⟨m1_1.ne m10_6 (by assumption)⟩ | exact ⟨Ne.symm (m10_6.ne m1_1 (by assumption))⟩)
              have hR2_2 := hR2_2.offT m10_6 hU10_7.but (by first | rfl | assumption)
              have m5_6 := m5_6.off hU10_7.but (by first | exact nm5_6_10_6 | exact ⟨m5_6.ne m10_6 rfl⟩ | exact ⟨m5_6.ne m10_6 (by assumption)⟩ | exact ⟨Ne.symm (m10_6.ne m5_6 (by assumption))⟩)
              have hR8_4 := hR8_4.offT m10_6 hU10_7.but (by first | rfl | assumption)
              have hX := hX.upd hU10_7.but gb10_6
              have m10_6 := hU10_7.blk
              refine xl_pure rfl rfl rfl (pv_assign (v := .int _ _) rfl rfl) ?_
              refine xl_nil ?_
              refine xthen_normal ?_
              refine xc_seq ?_
              refine xc_seq ?_
              refine xc_region ?_
              refine xl_pure rfl rfl rfl (pv_move (v := .int _ _) rfl rfl) ?_
              refine xl_ndec rfl rfl rfl (pv_neq rfl rfl rfl) (fun h11_1 => ?_) (fun h11_1 => ?_)
              · skip
                refine xl_pure rfl rfl rfl (pv_move (v := .bool _) rfl rfl) ?_
                refine xl_pure rfl rfl rfl (pv_fieldAddr rfl rfl) ?_
                refine xl_light rfl rfl rfl (lv_load (v := .int _ _) rfl rfl (ld_blk m10_6 rfl)) ?_
                refine xl_pure rfl rfl rfl (pv_move (v := .int _ _) rfl rfl) ?_
                refine xl_ndec rfl rfl rfl (pv_neq rfl rfl rfl) (fun h11_6 => ?_) (fun h11_6 => ?_)
                · skip
                  refine xl_pure rfl rfl rfl (pv_pick_f (v := .bool _) rfl rfl rfl) ?_
                  refine xl_pure rfl rfl rfl (pv_move (v := .bool _) rfl rfl) ?_
                  refine xl_pure rfl rfl rfl (pv_move (v := .pointer _) rfl rfl) ?_
                  refine xl_pure rfl rfl rfl (pv_move (v := .int _ _) rfl rfl) ?_
                  refine xl_heavy rfl rfl rfl (hv_call (g := 10) rfl rfl (c10 (l := [[1, 0, 0, 0] ++ [1, d1, d2, d3, d4, d5, d6, useR d7 d8 p q, p]]) m1_1 hR8_4 hc8_4 hna8_4 (show 1 < 1000000 by decide) hg2 1 1 1) rfl) ?_
                  rintro v11_11 H11_11 ⟨a11_11, c11_11, hv11_11, hB11_11, hT11_11, hR11_11, hc11_11, hna11_11⟩
                  have m0_0 := m0_0.off hB11_11 (by first | exact nm0_0_1_1 | exact ⟨m0_0.ne m1_1 rfl⟩ | exact ⟨m0_0.ne m1_1 (by assumption)⟩ | exact ⟨Ne.symm (m1_1.ne m0_0 (by assumption))⟩)
                  have hR2_2 := hR2_2.offT m1_1 hB11_11 (by first | rfl | assumption)
                  have m5_6 := m5_6.off hB11_11 (by first | exact nm1_1_5_6.symm | exact ⟨m5_6.ne m1_1 rfl⟩ | exact ⟨m5_6.ne m1_1 (by assumption)⟩ | exact ⟨Ne.symm (m1_1.ne m5_6 (by assumption))⟩)
                  have hR8_4 := hR8_4.offT m1_1 hB11_11 (by first | rfl | assumption)
                  have m10_6 := m10_6.off hB11_11 (by first | exact nm1_1_10_6.symm | exact ⟨m10_6.ne m1_1 rfl⟩ | exact ⟨m10_6.ne m1_1 (by assumption)⟩ | exact ⟨Ne.symm (m1_1.ne m10_6 (by assumption))⟩)
                  have hX := hX.upd hB11_11 gb1_1
                  have m1_1 := hT11_11
                  rw [one_E] at hv11_11
                  have e11_11 : giveEL 1 1 [1, d1, d2, d3, d4, d5, d6, useR d7 d8 p q, p] = 12 := by (show giveE p 1 1 = 12; unfold giveE; rw [if_neg (by omega), if_pos (by omega)])
                  rw [one_L' (by rw [e11_11]; decide)] at m1_1 hR11_11 hc11_11
                  obtain rfl : v11_11 = .int .i64 12 := hv11_11.trans (congrArg (Value.int .i64) e11_11)
                  refine xl_ndec rfl rfl rfl (pv_neq rfl rfl rfl) (fun h11_12 => ?_) (fun h11_12 => ?_)
                  · skip
                    refine xl_pure rfl rfl rfl (pv_pick_f (v := .bool _) rfl rfl rfl) ?_
                    refine xl_pure rfl rfl rfl (pv_move (v := .bool _) rfl rfl) ?_
                    refine xl_pure rfl rfl rfl (pv_move (v := .pointer _) rfl rfl) ?_
                    refine xl_pure rfl rfl rfl (pv_move (v := .int _ _) rfl rfl) ?_
                    refine xl_pure rfl rfl rfl (pv_move (v := .int _ _) rfl rfl) ?_
                    refine xl_heavy rfl rfl rfl (hv_call (g := 9) rfl rfl (c9 (l := [[1, 0, 0, 0] ++ [1, d1, d2, d3, d4, d5, d6, useR d7 d8 p q, p]]) m1_1 hR11_11 hc11_11 hna11_11 (show 1 < 1000000 by decide) hg2 1 p 0) rfl) ?_
                    rintro v11_18 H11_18 ⟨a11_18, c11_18, hv11_18, hB11_18, hT11_18, hR11_18, hc11_18, hna11_18⟩
                    have m0_0 := m0_0.off hB11_18 (by first | exact nm0_0_1_1 | exact ⟨m0_0.ne m1_1 rfl⟩ | exact ⟨m0_0.ne m1_1 (by assumption)⟩ | exact ⟨Ne.symm (m1_1.ne m0_0 (by assumption))⟩)
                    have hR2_2 := hR2_2.offT m1_1 hB11_18 (by first | rfl | assumption)
                    have m5_6 := m5_6.off hB11_18 (by first | exact nm1_1_5_6.symm | exact ⟨m5_6.ne m1_1 rfl⟩ | exact ⟨m5_6.ne m1_1 (by assumption)⟩ | exact ⟨Ne.symm (m1_1.ne m5_6 (by assumption))⟩)
                    have hR8_4 := hR8_4.offT m1_1 hB11_18 (by first | rfl | assumption)
                    have m10_6 := m10_6.off hB11_18 (by first | exact nm1_1_10_6.symm | exact ⟨m10_6.ne m1_1 rfl⟩ | exact ⟨m10_6.ne m1_1 (by assumption)⟩ | exact ⟨Ne.symm (m1_1.ne m10_6 (by assumption))⟩)
                    have hR11_11 := hR11_11.offT m1_1 hB11_18 (by first | rfl | assumption)
                    have hX := hX.upd hB11_18 gb1_1
                    have m1_1 := hT11_18
                    rw [one_E] at hv11_18
                    have e11_18 : useEL p 0 [1, d1, d2, d3, d4, d5, d6, useR d7 d8 p q, p] = 12 := by (show useE (useR d7 d8 p q) p p 0 = 12; unfold useE; rw [if_neg (by omega), if_pos (by omega)])
                    rw [one_L' (by rw [e11_18]; decide)] at m1_1 hR11_18 hc11_18
                    obtain rfl : v11_18 = .int .i64 12 := hv11_18.trans (congrArg (Value.int .i64) e11_18)
                    refine xl_ndec rfl rfl rfl (pv_neq rfl rfl rfl) (fun h11_19 => ?_) (fun h11_19 => ?_)
                    · skip
                      refine xl_pure rfl rfl rfl (pv_pick_f (v := .bool _) rfl rfl rfl) ?_
                      refine xl_pure rfl rfl rfl (pv_move (v := .bool _) rfl rfl) ?_
                      refine xl_pure rfl rfl rfl (pv_move (v := .pointer _) rfl rfl) ?_
                      refine xl_pure rfl rfl rfl (pv_move (v := .int _ _) rfl rfl) ?_
                      refine xl_pure rfl rfl rfl (pv_move (v := .int _ _) rfl rfl) ?_
                      refine xl_pure rfl rfl rfl (pv_move (v := .int _ _) rfl rfl) ?_
                      refine xl_heavy rfl rfl rfl (hv_call (g := 11) rfl rfl (c11 (l := [[1, 0, 0, 0] ++ [1, d1, d2, d3, d4, d5, d6, useR d7 d8 p q, p]]) m1_1 hR11_18 hc11_18 hna11_18 (show 1 < 1000000 by decide) hg2 1 p q) rfl) ?_
                      rintro v11_26 H11_26 ⟨a11_26, c11_26, hv11_26, hB11_26, hT11_26, hR11_26, hc11_26, hna11_26⟩
                      have m0_0 := m0_0.off hB11_26 (by first | exact nm0_0_1_1 | exact ⟨m0_0.ne m1_1 rfl⟩ | exact ⟨m0_0.ne m1_1 (by assumption)⟩ | exact ⟨Ne.symm (m1_1.ne m0_0 (by assumption))⟩)
                      have hR2_2 := hR2_2.offT m1_1 hB11_26 (by first | rfl | assumption)
                      have m5_6 := m5_6.off hB11_26 (by first | exact nm1_1_5_6.symm | exact ⟨m5_6.ne m1_1 rfl⟩ | exact ⟨m5_6.ne m1_1 (by assumption)⟩ | exact ⟨Ne.symm (m1_1.ne m5_6 (by assumption))⟩)
                      have hR8_4 := hR8_4.offT m1_1 hB11_26 (by first | rfl | assumption)
                      have m10_6 := m10_6.off hB11_26 (by first | exact nm1_1_10_6.symm | exact ⟨m10_6.ne m1_1 rfl⟩ | exact ⟨m10_6.ne m1_1 (by assumption)⟩ | exact ⟨Ne.symm (m1_1.ne m10_6 (by assumption))⟩)
                      have hR11_11 := hR11_11.offT m1_1 hB11_26 (by first | rfl | assumption)
                      have hR11_18 := hR11_18.offT m1_1 hB11_26 (by first | rfl | assumption)
                      have hX := hX.upd hB11_26 gb1_1
                      have m1_1 := hT11_26
                      rw [one_E] at hv11_26
                      have e11_26 : freeEL p q [1, d1, d2, d3, d4, d5, d6, useR d7 d8 p q, p] = 0 := by (show freeE (useR d7 d8 p q) p p q = 0; unfold freeE; rw [if_neg (by omega), if_neg (by omega), if_neg (by omega)])
                      have f11_26 : freeL p q [1, d1, d2, d3, d4, d5, d6, useR d7 d8 p q, p] = [1, d1, d2, d3, d4, d5, d6, d7, d8] := by
                        show [1, d1, d2, d3, d4, d5, d6, freeR (useR d7 d8 p q) p p q, freeB (useR d7 d8 p q) p p q] = _
                        have e0 : freeE (useR d7 d8 p q) p p q = 0 := e11_26
                        have e1 : freeR (useR d7 d8 p q) p p q = d7 := by unfold freeR; rw [if_pos e0]; split <;> omega
                        have e2 : freeB (useR d7 d8 p q) p p q = d8 := by unfold freeB; rw [if_pos e0]; omega
                        rw [e1, e2]
                      rw [one_L e11_26, f11_26] at m1_1 hR11_26 hc11_26
                      obtain rfl : v11_26 = .int .i64 0 := hv11_26.trans (congrArg (Value.int .i64) e11_26)
                      refine xl_ndec rfl rfl rfl (pv_neq rfl rfl rfl) (fun h11_27 => ?_) (fun h11_27 => ?_)
                      · skip
                        refine xl_pure rfl rfl rfl (pv_pick_f (v := .bool _) rfl rfl rfl) ?_
                        refine xl_nil ?_
                        refine xthen_normal ?_
                        refine xc_cond_f rfl ?_
                        refine xc_skip ?_
                        refine xthen_normal ?_
                        refine xc_seq ?_
                        refine xc_region ?_
                        refine xl_pure rfl rfl rfl (pv_move (v := .pointer _) rfl rfl) ?_
                        refine xl_pure rfl rfl rfl (pv_move (v := .int _ _) rfl rfl) ?_
                        refine xl_heavy rfl rfl rfl (hv_call (g := 8) rfl rfl (c8 (l := [[1, 0, 0, 0] ++ [1, d1, d2, d3, d4, d5, d6, d7, d8]]) m1_1 hR11_26 hc11_26 hna11_26 (show 1 < 1000000 by decide) hg1 1) rfl) ?_
                        rintro v13_2 H13_2 ⟨hv13_2, hE13_2⟩
                        have m0_0 := m0_0.ext hE13_2
                        have m1_1 := m1_1.ext hE13_2
                        have hR2_2 := hR2_2.ext hE13_2
                        have m5_6 := m5_6.ext hE13_2
                        have hR8_4 := hR8_4.ext hE13_2
                        have m10_6 := m10_6.ext hE13_2
                        have hR11_11 := hR11_11.ext hE13_2
                        have hR11_18 := hR11_18.ext hE13_2
                        have hR11_26 := hR11_26.ext hE13_2
                        have hX := hX.trans hE13_2
                        obtain rfl : v13_2 = .tuple #[.agg #[.int .i64 1, .int .i64 d1, .int .i64 d2, .int .i64 d3, .int .i64 d4, .int .i64 d5, .int .i64 d6, .int .i64 d7, .int .i64 d8], .int .i64 0] := by rcases hv13_2 with ⟨_, h⟩ | ⟨h, _⟩; exact h.trans (by rw [one_dr]; rfl); exact absurd h (by rw [one_has]; decide)
                        refine xl_pure rfl rfl rfl (pv_move (v := .tuple _) rfl rfl) ?_
                        refine xl_pure rfl rfl rfl (pv_extract (v := .agg _) rfl rfl rfl) ?_
                        refine xl_pure rfl rfl rfl (pv_extract (v := .int _ _) rfl rfl rfl) ?_
                        refine xl_heavy rfl rfl rfl (hv_alloc rfl rfl) ?_
                        rintro v13_6 H13_6 ⟨b13_6, rfl, hN13_6⟩
                        have gb13_6 := hX.fresh hN13_6
                        have nm0_0_13_6 := m0_0.apart hN13_6
                        have nm1_1_13_6 := m1_1.apart hN13_6
                        have nm5_6_13_6 := m5_6.apart hN13_6
                        have nm10_6_13_6 := m10_6.apart hN13_6
                        have m0_0 := m0_0.ext hN13_6.ext
                        have m1_1 := m1_1.ext hN13_6.ext
                        have hR2_2 := hR2_2.ext hN13_6.ext
                        have m5_6 := m5_6.ext hN13_6.ext
                        have hR8_4 := hR8_4.ext hN13_6.ext
                        have m10_6 := m10_6.ext hN13_6.ext
                        have hR11_11 := hR11_11.ext hN13_6.ext
                        have hR11_18 := hR11_18.ext hN13_6.ext
                        have hR11_26 := hR11_26.ext hN13_6.ext
                        have hX := hX.trans hN13_6.ext
                        have m13_6 := hN13_6.blk
                        refine xl_store rfl rfl (hv_storeA (vs := [.int _ _, .int _ _, .int _ _, .int _ _, .int _ _, .int _ _, .int _ _, .int _ _, .int _ _]) rfl rfl rfl (m13_6) rfl (by rfl) rfl) ?_
                        rintro v13_7 H13_7 ⟨hU13_7, hZ13_7⟩
                        have m0_0 := m0_0.off hU13_7.but (by first | exact nm0_0_13_6 | exact ⟨m0_0.ne m13_6 rfl⟩ | exact ⟨m0_0.ne m13_6 (by assumption)⟩ | exact ⟨Ne.symm (m13_6.ne m0_0 (by assumption))⟩)
                        have m1_1 := m1_1.off hU13_7.but (by first | exact nm1_1_13_6 | exact ⟨m1_1.ne m13_6 rfl⟩ | exact ⟨m1_1.ne m13_6 (by assumption)⟩ | exact ⟨Ne.symm (m13_6.ne m1_1 (by assumption))⟩)
                        have hR2_2 := hR2_2.offT m13_6 hU13_7.but (by first | rfl | assumption)
                        have m5_6 := m5_6.off hU13_7.but (by first | exact nm5_6_13_6 | exact ⟨m5_6.ne m13_6 rfl⟩ | exact ⟨m5_6.ne m13_6 (by assumption)⟩ | exact ⟨Ne.symm (m13_6.ne m5_6 (by assumption))⟩)
                        have hR8_4 := hR8_4.offT m13_6 hU13_7.but (by first | rfl | assumption)
                        have m10_6 := m10_6.off hU13_7.but (by first | exact nm10_6_13_6 | exact ⟨m10_6.ne m13_6 rfl⟩ | exact ⟨m10_6.ne m13_6 (by assumption)⟩ | exact ⟨Ne.symm (m13_6.ne m10_6 (by assumption))⟩)
                        have hR11_11 := hR11_11.offT m13_6 hU13_7.but (by first | rfl | assumption)
                        have hR11_18 := hR11_18.offT m13_6 hU13_7.but (by first | rfl | assumption)
                        have hR11_26 := hR11_26.offT m13_6 hU13_7.but (by first | rfl | assumption)
                        have hX := hX.upd hU13_7.but gb13_6
                        have m13_6 := hU13_7.blk
                        refine xl_pure rfl rfl rfl (pv_assign (v := .int _ _) rfl rfl) ?_
                        refine xl_nil ?_
                        refine xthen_normal ?_
                        refine xc_seq ?_
                        refine xc_region ?_
                        refine xl_pure rfl rfl rfl (pv_move (v := .int _ _) rfl rfl) ?_
                        refine xl_dec rfl rfl rfl (pv_eql rfl rfl rfl) (fun h14_1 => ?_) (fun h14_1 => ?_)
                        · skip
                          refine xl_pure rfl rfl rfl (pv_move (v := .bool _) rfl rfl) ?_
                          refine xl_light rfl rfl rfl (lv_load (v := .agg _) rfl rfl (ld_blk_a m13_6 rfl rfl)) ?_
                          refine xl_light rfl rfl rfl (lv_load (v := .agg _) rfl rfl (ld_blk_a m5_6 rfl rfl)) ?_
                          refine xl_dec rfl rfl rfl (pv_eql_g [1, d1, d2, d3, d4, d5, d6, d7, d8] [1, d1, d2, d3, d4, d5, d6, d7, d8] rfl rfl rfl rfl rfl) (fun h14_5 => ?_) (fun h14_5 => ?_)
                          · skip
                            refine xl_pure rfl rfl rfl (pv_pick_t (v := .bool _) rfl rfl rfl) ?_
                            refine xl_pure rfl rfl rfl (pv_move (v := .bool _) rfl rfl) ?_
                            refine xl_heavy rfl rfl rfl (hv_call (g := 7) rfl rfl (c7) rfl) ?_
                            rintro v14_8 H14_8 ⟨rfl, hE14_8⟩
                            have m0_0 := m0_0.ext hE14_8
                            have m1_1 := m1_1.ext hE14_8
                            have hR2_2 := hR2_2.ext hE14_8
                            have m5_6 := m5_6.ext hE14_8
                            have hR8_4 := hR8_4.ext hE14_8
                            have m10_6 := m10_6.ext hE14_8
                            have hR11_11 := hR11_11.ext hE14_8
                            have hR11_18 := hR11_18.ext hE14_8
                            have hR11_26 := hR11_26.ext hE14_8
                            have m13_6 := m13_6.ext hE14_8
                            have hX := hX.trans hE14_8
                            refine xl_pure rfl rfl rfl (pv_pick_t (v := .bool _) rfl rfl rfl) ?_
                            refine xl_pure rfl rfl rfl (pv_assign (v := .bool _) rfl rfl) ?_
                            refine xl_nil ?_
                            refine xthen_normal ?_
                            refine xc_ret ?_
                            refine fin_ret (res1 (v := .bool _) rfl rfl) ?_
                            exact ⟨rfl, hX⟩
                          · exact absurd rfl h14_5
                        · exact absurd rfl h14_1
                      · exact absurd rfl h11_27
                    · exact absurd rfl h11_19
                  · exact absurd rfl h11_12
                · exact absurd rfl h11_6
              · exact absurd rfl h11_1
            · skip
              refine xl_nil ?_
              refine xthen_normal ?_
              refine xc_cond_t rfl ?_
              refine xc_seq ?_
              refine xc_region ?_
              refine xl_heavy rfl rfl rfl (hv_call (g := 7) rfl rfl (c7) rfl) ?_
              rintro v9_0 H9_0 ⟨rfl, hE9_0⟩
              have m0_0 := m0_0.ext hE9_0
              have m1_1 := m1_1.ext hE9_0
              have hR2_2 := hR2_2.ext hE9_0
              have m5_6 := m5_6.ext hE9_0
              have hR8_4 := hR8_4.ext hE9_0
              have hX := hX.trans hE9_0
              refine xl_pure rfl rfl rfl (pv_assign (v := .bool _) rfl rfl) ?_
              refine xl_nil ?_
              refine xthen_normal ?_
              refine xc_ret ?_
              refine xthen_ret ?_
              refine fin_ret (res1 (v := .bool _) rfl rfl) ?_
              exact ⟨rfl, hX⟩
          · exact absurd rfl h6_1)
    · first
      | (exfalso; omega)
      |  (skip
          refine xl_nil ?_
          refine xthen_normal ?_
          refine xc_cond_t rfl ?_
          refine xc_seq ?_
          refine xc_region ?_
          refine xl_pure rfl rfl rfl (pv_move (v := .int _ _) rfl rfl) ?_
          refine xl_dec rfl rfl rfl (pv_eql rfl rfl rfl) (fun h4_1 => ?_) (fun h4_1 => ?_)
          · skip
            refine xl_pure rfl rfl rfl (pv_move (v := .bool _) rfl rfl) ?_
            refine xl_pure rfl rfl rfl (pv_move (v := .int _ _) rfl rfl) ?_
            refine xl_dec rfl rfl rfl (pv_eql rfl rfl rfl) (fun h4_4 => ?_) (fun h4_4 => ?_)
            · skip
              refine xl_pure rfl rfl rfl (pv_pick_t (v := .bool _) rfl rfl rfl) ?_
              refine xl_pure rfl rfl rfl (pv_move (v := .bool _) rfl rfl) ?_
              refine xl_heavy rfl rfl rfl (hv_call (g := 7) rfl rfl (c7) rfl) ?_
              rintro v4_7 H4_7 ⟨rfl, hE4_7⟩
              have m0_0 := m0_0.ext hE4_7
              have m1_1 := m1_1.ext hE4_7
              have hR2_2 := hR2_2.ext hE4_7
              have hX := hX.trans hE4_7
              refine xl_pure rfl rfl rfl (pv_pick_t (v := .bool _) rfl rfl rfl) ?_
              refine xl_pure rfl rfl rfl (pv_assign (v := .bool _) rfl rfl) ?_
              refine xl_nil ?_
              refine xthen_normal ?_
              refine xc_ret ?_
              refine xthen_ret ?_
              refine fin_ret (res1 (v := .bool _) rfl rfl) ?_
              exact ⟨rfl, hX⟩
            · exact absurd rfl h4_4
          · exact absurd rfl h4_1)
  · skip
    refine xl_pure rfl rfl rfl (pv_move (v := .tuple _) rfl rfl) ?_
    refine xl_pure rfl rfl rfl (pv_extract (v := .int _ _) rfl rfl rfl) ?_
    refine xl_pure rfl rfl rfl (pv_extract (v := .int _ _) rfl rfl rfl) ?_
    refine xl_pure rfl rfl rfl (pv_assign (v := .int _ _) rfl rfl) ?_
    refine xl_pure rfl rfl rfl (pv_assign (v := .int _ _) rfl rfl) ?_
    refine xl_nil ?_
    refine xthen_normal ?_
    refine xc_seq ?_
    refine xc_seq ?_
    refine xc_region ?_
    refine xl_pure rfl rfl rfl (pv_move (v := .int _ _) rfl rfl) ?_
    refine xl_ndec rfl rfl rfl (pv_neq rfl rfl rfl) (fun h3_1 => ?_) (fun h3_1 => ?_)
    · first
      | (exfalso; omega)
      |  (skip
          refine xl_nil ?_
          refine xthen_normal ?_
          refine xc_cond_f rfl ?_
          refine xc_skip ?_
          refine xthen_normal ?_
          refine xc_seq ?_
          refine xc_region ?_
          refine xl_pure rfl rfl rfl (pv_move (v := .pointer _) rfl rfl) ?_
          refine xl_pure rfl rfl rfl (pv_move (v := .int _ _) rfl rfl) ?_
          refine xl_heavy rfl rfl rfl (hv_call (g := 8) rfl rfl (c8 (l := [[1, 0, 0, 0] ++ [1, d1, d2, d3, d4, d5, d6, d7, d8]]) m1_1 hR2_2 hc2_2 hna2_2 (show 1 < 1000000 by decide) hg1 1) rfl) ?_
          rintro v5_2 H5_2 ⟨hv5_2, hE5_2⟩
          have m0_0 := m0_0.ext hE5_2
          have m1_1 := m1_1.ext hE5_2
          have hR2_2 := hR2_2.ext hE5_2
          have hX := hX.trans hE5_2
          obtain rfl : v5_2 = .tuple #[.agg #[.int .i64 1, .int .i64 d1, .int .i64 d2, .int .i64 d3, .int .i64 d4, .int .i64 d5, .int .i64 d6, .int .i64 d7, .int .i64 d8], .int .i64 0] := by rcases hv5_2 with ⟨_, h⟩ | ⟨h, _⟩; exact h.trans (by rw [one_dr]; rfl); exact absurd h (by rw [one_has]; decide)
          refine xl_pure rfl rfl rfl (pv_move (v := .tuple _) rfl rfl) ?_
          refine xl_pure rfl rfl rfl (pv_extract (v := .agg _) rfl rfl rfl) ?_
          refine xl_pure rfl rfl rfl (pv_extract (v := .int _ _) rfl rfl rfl) ?_
          refine xl_heavy rfl rfl rfl (hv_alloc rfl rfl) ?_
          rintro v5_6 H5_6 ⟨b5_6, rfl, hN5_6⟩
          have gb5_6 := hX.fresh hN5_6
          have nm0_0_5_6 := m0_0.apart hN5_6
          have nm1_1_5_6 := m1_1.apart hN5_6
          have m0_0 := m0_0.ext hN5_6.ext
          have m1_1 := m1_1.ext hN5_6.ext
          have hR2_2 := hR2_2.ext hN5_6.ext
          have hX := hX.trans hN5_6.ext
          have m5_6 := hN5_6.blk
          refine xl_store rfl rfl (hv_storeA (vs := [.int _ _, .int _ _, .int _ _, .int _ _, .int _ _, .int _ _, .int _ _, .int _ _, .int _ _]) rfl rfl rfl (m5_6) rfl (by rfl) rfl) ?_
          rintro v5_7 H5_7 ⟨hU5_7, hZ5_7⟩
          have m0_0 := m0_0.off hU5_7.but (by first | exact nm0_0_5_6 | exact ⟨m0_0.ne m5_6 rfl⟩ | exact ⟨m0_0.ne m5_6 (by assumption)⟩ | exact ⟨Ne.symm (m5_6.ne m0_0 (by assumption))⟩)
          have m1_1 := m1_1.off hU5_7.but (by first | exact nm1_1_5_6 | exact ⟨m1_1.ne m5_6 rfl⟩ | exact ⟨m1_1.ne m5_6 (by assumption)⟩ | exact ⟨Ne.symm (m5_6.ne m1_1 (by assumption))⟩)
          have hR2_2 := hR2_2.offT m5_6 hU5_7.but (by first | rfl | assumption)
          have hX := hX.upd hU5_7.but gb5_6
          have m5_6 := hU5_7.blk
          refine xl_pure rfl rfl rfl (pv_assign (v := .int _ _) rfl rfl) ?_
          refine xl_nil ?_
          refine xthen_normal ?_
          refine xc_seq ?_
          refine xc_seq ?_
          refine xc_region ?_
          refine xl_pure rfl rfl rfl (pv_move (v := .int _ _) rfl rfl) ?_
          refine xl_ndec rfl rfl rfl (pv_neq rfl rfl rfl) (fun h6_1 => ?_) (fun h6_1 => ?_)
          · skip
            refine xl_nil ?_
            refine xthen_normal ?_
            refine xc_cond_f rfl ?_
            refine xc_skip ?_
            refine xthen_normal ?_
            refine xc_seq ?_
            refine xc_seq ?_
            refine xc_region ?_
            refine xl_pure rfl rfl rfl (pv_move (v := .pointer _) rfl rfl) ?_
            refine xl_pure rfl rfl rfl (pv_move (v := .int _ _) rfl rfl) ?_
            refine xl_pure rfl rfl rfl (pv_move (v := .int _ _) rfl rfl) ?_
            refine xl_pure rfl rfl rfl (pv_move (v := .int _ _) rfl rfl) ?_
            refine xl_heavy rfl rfl rfl (hv_call (g := 9) rfl rfl (c9 (l := [[1, 0, 0, 0] ++ [1, d1, d2, d3, d4, d5, d6, d7, d8]]) m1_1 hR2_2 hc2_2 hna2_2 (show 1 < 1000000 by decide) hg1 1 p q) rfl) ?_
            rintro v8_4 H8_4 ⟨a8_4, c8_4, hv8_4, hB8_4, hT8_4, hR8_4, hc8_4, hna8_4⟩
            have m0_0 := m0_0.off hB8_4 (by first | exact nm0_0_1_1 | exact ⟨m0_0.ne m1_1 rfl⟩ | exact ⟨m0_0.ne m1_1 (by assumption)⟩ | exact ⟨Ne.symm (m1_1.ne m0_0 (by assumption))⟩)
            have hR2_2 := hR2_2.offT m1_1 hB8_4 (by first | rfl | assumption)
            have m5_6 := m5_6.off hB8_4 (by first | exact nm1_1_5_6.symm | exact ⟨m5_6.ne m1_1 rfl⟩ | exact ⟨m5_6.ne m1_1 (by assumption)⟩ | exact ⟨Ne.symm (m1_1.ne m5_6 (by assumption))⟩)
            have hX := hX.upd hB8_4 gb1_1
            have m1_1 := hT8_4
            rw [one_E] at hv8_4
            have hv8_4 : v8_4 = .int .i64 (useE d7 d8 p q) := hv8_4
            subst hv8_4
            refine xl_ndec rfl rfl rfl (pv_neq rfl rfl rfl) (fun h8_5 => ?_) (fun h8_5 => ?_)
            · skip
              refine xl_nil ?_
              refine xthen_normal ?_
              refine xc_cond_f rfl ?_
              refine xc_skip ?_
              refine xthen_normal ?_
              refine xc_seq ?_
              have hu : useE d7 d8 p q = 0 := h8_5
              have hui := hu
              unfold useE at hui
              have hu1 : 1 ≤ p ∧ p ≤ 1099511627776 ∧ 0 ≤ q ∧ q ≤ 1000 := by
                split at hui
                · omega
                · omega
              have hr1 : (d7 = -1 ∧ useR d7 d8 p q = -1) ∨ (¬ d7 = -1 ∧ useR d7 d8 p q = d7 - q ∧ 0 ≤ d7 - q) := by
                unfold useR; rw [if_pos hu]
                by_cases h7 : d7 = -1
                · exact .inl ⟨h7, if_pos h7⟩
                · refine .inr ⟨h7, if_neg h7, ?_⟩
                  (repeat' split at hui) <;> omega
              have hub : useB d7 d8 p q = p := if_pos hu
              have hul : useL p q [1, d1, d2, d3, d4, d5, d6, d7, d8] = [1, d1, d2, d3, d4, d5, d6, useR d7 d8 p q, p] := by show [1, d1, d2, d3, d4, d5, d6, useR d7 d8 p q, useB d7 d8 p q] = _; rw [hub]
              rw [one_L hu, hul] at m1_1 hR8_4 hc8_4
              have hg2 : Goo [[1, 0, 0, 0] ++ [1, d1, d2, d3, d4, d5, d6, useR d7 d8 p q, p]] := goo_one rfl (by rw [← hul]; exact (keeps_use _ _ _ _ _ _ _ _ _ hi1 hu).2)
              refine xc_region ?_
              refine xl_pure rfl rfl rfl (pv_move (v := .pointer _) rfl rfl) ?_
              refine xl_pure rfl rfl rfl (pv_move (v := .int _ _) rfl rfl) ?_
              refine xl_heavy rfl rfl rfl (hv_call (g := 8) rfl rfl (c8 (l := [[1, 0, 0, 0] ++ [1, d1, d2, d3, d4, d5, d6, useR d7 d8 p q, p]]) m1_1 hR8_4 hc8_4 hna8_4 (show 1 < 1000000 by decide) hg2 1) rfl) ?_
              rintro v10_2 H10_2 ⟨hv10_2, hE10_2⟩
              have m0_0 := m0_0.ext hE10_2
              have m1_1 := m1_1.ext hE10_2
              have hR2_2 := hR2_2.ext hE10_2
              have m5_6 := m5_6.ext hE10_2
              have hR8_4 := hR8_4.ext hE10_2
              have hX := hX.trans hE10_2
              obtain rfl : v10_2 = .tuple #[.agg #[.int .i64 1, .int .i64 d1, .int .i64 d2, .int .i64 d3, .int .i64 d4, .int .i64 d5, .int .i64 d6, .int .i64 (useR d7 d8 p q), .int .i64 p], .int .i64 0] := by rcases hv10_2 with ⟨_, h⟩ | ⟨h, _⟩; exact h.trans (by rw [one_dr]; rfl); exact absurd h (by rw [one_has]; decide)
              refine xl_pure rfl rfl rfl (pv_move (v := .tuple _) rfl rfl) ?_
              refine xl_pure rfl rfl rfl (pv_extract (v := .agg _) rfl rfl rfl) ?_
              refine xl_pure rfl rfl rfl (pv_extract (v := .int _ _) rfl rfl rfl) ?_
              refine xl_heavy rfl rfl rfl (hv_alloc rfl rfl) ?_
              rintro v10_6 H10_6 ⟨b10_6, rfl, hN10_6⟩
              have gb10_6 := hX.fresh hN10_6
              have nm0_0_10_6 := m0_0.apart hN10_6
              have nm1_1_10_6 := m1_1.apart hN10_6
              have nm5_6_10_6 := m5_6.apart hN10_6
              have m0_0 := m0_0.ext hN10_6.ext
              have m1_1 := m1_1.ext hN10_6.ext
              have hR2_2 := hR2_2.ext hN10_6.ext
              have m5_6 := m5_6.ext hN10_6.ext
              have hR8_4 := hR8_4.ext hN10_6.ext
              have hX := hX.trans hN10_6.ext
              have m10_6 := hN10_6.blk
              refine xl_store rfl rfl (hv_storeA (vs := [.int _ _, .int _ _, .int _ _, .int _ _, .int _ _, .int _ _, .int _ _, .int _ _, .int _ _]) rfl rfl rfl (m10_6) rfl (by rfl) rfl) ?_
              rintro v10_7 H10_7 ⟨hU10_7, hZ10_7⟩
              have m0_0 := m0_0.off hU10_7.but (by first | exact nm0_0_10_6 | exact ⟨m0_0.ne m10_6 rfl⟩ | exact ⟨m0_0.ne m10_6 (by assumption)⟩ | exact ⟨Ne.symm (m10_6.ne m0_0 (by assumption))⟩)
              have m1_1 := m1_1.off hU10_7.but (by first | exact nm1_1_10_6 | exact ⟨m1_1.ne m10_6 rfl⟩ | exact ⟨m1_1.ne m10_6 (by assumption)⟩ | exact ⟨Ne.symm (m10_6.ne m1_1 (by assumption))⟩)
              have hR2_2 := hR2_2.offT m10_6 hU10_7.but (by first | rfl | assumption)
              have m5_6 := m5_6.off hU10_7.but (by first | exact nm5_6_10_6 | exact ⟨m5_6.ne m10_6 rfl⟩ | exact ⟨m5_6.ne m10_6 (by assumption)⟩ | exact ⟨Ne.symm (m10_6.ne m5_6 (by assumption))⟩)
              have hR8_4 := hR8_4.offT m10_6 hU10_7.but (by first | rfl | assumption)
              have hX := hX.upd hU10_7.but gb10_6
              have m10_6 := hU10_7.blk
              refine xl_pure rfl rfl rfl (pv_assign (v := .int _ _) rfl rfl) ?_
              refine xl_nil ?_
              refine xthen_normal ?_
              refine xc_seq ?_
              refine xc_seq ?_
              refine xc_region ?_
              refine xl_pure rfl rfl rfl (pv_move (v := .int _ _) rfl rfl) ?_
              refine xl_ndec rfl rfl rfl (pv_neq rfl rfl rfl) (fun h11_1 => ?_) (fun h11_1 => ?_)
              · skip
                refine xl_pure rfl rfl rfl (pv_move (v := .bool _) rfl rfl) ?_
                refine xl_pure rfl rfl rfl (pv_fieldAddr rfl rfl) ?_
                refine xl_light rfl rfl rfl (lv_load (v := .int _ _) rfl rfl (ld_blk m10_6 rfl)) ?_
                refine xl_pure rfl rfl rfl (pv_move (v := .int _ _) rfl rfl) ?_
                refine xl_ndec rfl rfl rfl (pv_neq rfl rfl rfl) (fun h11_6 => ?_) (fun h11_6 => ?_)
                · skip
                  refine xl_pure rfl rfl rfl (pv_pick_f (v := .bool _) rfl rfl rfl) ?_
                  refine xl_pure rfl rfl rfl (pv_move (v := .bool _) rfl rfl) ?_
                  refine xl_pure rfl rfl rfl (pv_move (v := .pointer _) rfl rfl) ?_
                  refine xl_pure rfl rfl rfl (pv_move (v := .int _ _) rfl rfl) ?_
                  refine xl_heavy rfl rfl rfl (hv_call (g := 10) rfl rfl (c10 (l := [[1, 0, 0, 0] ++ [1, d1, d2, d3, d4, d5, d6, useR d7 d8 p q, p]]) m1_1 hR8_4 hc8_4 hna8_4 (show 1 < 1000000 by decide) hg2 1 1 1) rfl) ?_
                  rintro v11_11 H11_11 ⟨a11_11, c11_11, hv11_11, hB11_11, hT11_11, hR11_11, hc11_11, hna11_11⟩
                  have m0_0 := m0_0.off hB11_11 (by first | exact nm0_0_1_1 | exact ⟨m0_0.ne m1_1 rfl⟩ | exact ⟨m0_0.ne m1_1 (by assumption)⟩ | exact ⟨Ne.symm (m1_1.ne m0_0 (by assumption))⟩)
                  have hR2_2 := hR2_2.offT m1_1 hB11_11 (by first | rfl | assumption)
                  have m5_6 := m5_6.off hB11_11 (by first | exact nm1_1_5_6.symm | exact ⟨m5_6.ne m1_1 rfl⟩ | exact ⟨m5_6.ne m1_1 (by assumption)⟩ | exact ⟨Ne.symm (m1_1.ne m5_6 (by assumption))⟩)
                  have hR8_4 := hR8_4.offT m1_1 hB11_11 (by first | rfl | assumption)
                  have m10_6 := m10_6.off hB11_11 (by first | exact nm1_1_10_6.symm | exact ⟨m10_6.ne m1_1 rfl⟩ | exact ⟨m10_6.ne m1_1 (by assumption)⟩ | exact ⟨Ne.symm (m1_1.ne m10_6 (by assumption))⟩)
                  have hX := hX.upd hB11_11 gb1_1
                  have m1_1 := hT11_11
                  rw [one_E] at hv11_11
                  have e11_11 : giveEL 1 1 [1, d1, d2, d3, d4, d5, d6, useR d7 d8 p q, p] = 12 := by (show giveE p 1 1 = 12; unfold giveE; rw [if_neg (by omega), if_pos (by omega)])
                  rw [one_L' (by rw [e11_11]; decide)] at m1_1 hR11_11 hc11_11
                  obtain rfl : v11_11 = .int .i64 12 := hv11_11.trans (congrArg (Value.int .i64) e11_11)
                  refine xl_ndec rfl rfl rfl (pv_neq rfl rfl rfl) (fun h11_12 => ?_) (fun h11_12 => ?_)
                  · skip
                    refine xl_pure rfl rfl rfl (pv_pick_f (v := .bool _) rfl rfl rfl) ?_
                    refine xl_pure rfl rfl rfl (pv_move (v := .bool _) rfl rfl) ?_
                    refine xl_pure rfl rfl rfl (pv_move (v := .pointer _) rfl rfl) ?_
                    refine xl_pure rfl rfl rfl (pv_move (v := .int _ _) rfl rfl) ?_
                    refine xl_pure rfl rfl rfl (pv_move (v := .int _ _) rfl rfl) ?_
                    refine xl_heavy rfl rfl rfl (hv_call (g := 9) rfl rfl (c9 (l := [[1, 0, 0, 0] ++ [1, d1, d2, d3, d4, d5, d6, useR d7 d8 p q, p]]) m1_1 hR11_11 hc11_11 hna11_11 (show 1 < 1000000 by decide) hg2 1 p 0) rfl) ?_
                    rintro v11_18 H11_18 ⟨a11_18, c11_18, hv11_18, hB11_18, hT11_18, hR11_18, hc11_18, hna11_18⟩
                    have m0_0 := m0_0.off hB11_18 (by first | exact nm0_0_1_1 | exact ⟨m0_0.ne m1_1 rfl⟩ | exact ⟨m0_0.ne m1_1 (by assumption)⟩ | exact ⟨Ne.symm (m1_1.ne m0_0 (by assumption))⟩)
                    have hR2_2 := hR2_2.offT m1_1 hB11_18 (by first | rfl | assumption)
                    have m5_6 := m5_6.off hB11_18 (by first | exact nm1_1_5_6.symm | exact ⟨m5_6.ne m1_1 rfl⟩ | exact ⟨m5_6.ne m1_1 (by assumption)⟩ | exact ⟨Ne.symm (m1_1.ne m5_6 (by assumption))⟩)
                    have hR8_4 := hR8_4.offT m1_1 hB11_18 (by first | rfl | assumption)
                    have m10_6 := m10_6.off hB11_18 (by first | exact nm1_1_10_6.symm | exact ⟨m10_6.ne m1_1 rfl⟩ | exact ⟨m10_6.ne m1_1 (by assumption)⟩ | exact ⟨Ne.symm (m1_1.ne m10_6 (by assumption))⟩)
                    have hR11_11 := hR11_11.offT m1_1 hB11_18 (by first | rfl | assumption)
                    have hX := hX.upd hB11_18 gb1_1
                    have m1_1 := hT11_18
                    rw [one_E] at hv11_18
                    have e11_18 : useEL p 0 [1, d1, d2, d3, d4, d5, d6, useR d7 d8 p q, p] = 12 := by (show useE (useR d7 d8 p q) p p 0 = 12; unfold useE; rw [if_neg (by omega), if_pos (by omega)])
                    rw [one_L' (by rw [e11_18]; decide)] at m1_1 hR11_18 hc11_18
                    obtain rfl : v11_18 = .int .i64 12 := hv11_18.trans (congrArg (Value.int .i64) e11_18)
                    refine xl_ndec rfl rfl rfl (pv_neq rfl rfl rfl) (fun h11_19 => ?_) (fun h11_19 => ?_)
                    · skip
                      refine xl_pure rfl rfl rfl (pv_pick_f (v := .bool _) rfl rfl rfl) ?_
                      refine xl_pure rfl rfl rfl (pv_move (v := .bool _) rfl rfl) ?_
                      refine xl_pure rfl rfl rfl (pv_move (v := .pointer _) rfl rfl) ?_
                      refine xl_pure rfl rfl rfl (pv_move (v := .int _ _) rfl rfl) ?_
                      refine xl_pure rfl rfl rfl (pv_move (v := .int _ _) rfl rfl) ?_
                      refine xl_pure rfl rfl rfl (pv_move (v := .int _ _) rfl rfl) ?_
                      refine xl_heavy rfl rfl rfl (hv_call (g := 11) rfl rfl (c11 (l := [[1, 0, 0, 0] ++ [1, d1, d2, d3, d4, d5, d6, useR d7 d8 p q, p]]) m1_1 hR11_18 hc11_18 hna11_18 (show 1 < 1000000 by decide) hg2 1 p q) rfl) ?_
                      rintro v11_26 H11_26 ⟨a11_26, c11_26, hv11_26, hB11_26, hT11_26, hR11_26, hc11_26, hna11_26⟩
                      have m0_0 := m0_0.off hB11_26 (by first | exact nm0_0_1_1 | exact ⟨m0_0.ne m1_1 rfl⟩ | exact ⟨m0_0.ne m1_1 (by assumption)⟩ | exact ⟨Ne.symm (m1_1.ne m0_0 (by assumption))⟩)
                      have hR2_2 := hR2_2.offT m1_1 hB11_26 (by first | rfl | assumption)
                      have m5_6 := m5_6.off hB11_26 (by first | exact nm1_1_5_6.symm | exact ⟨m5_6.ne m1_1 rfl⟩ | exact ⟨m5_6.ne m1_1 (by assumption)⟩ | exact ⟨Ne.symm (m1_1.ne m5_6 (by assumption))⟩)
                      have hR8_4 := hR8_4.offT m1_1 hB11_26 (by first | rfl | assumption)
                      have m10_6 := m10_6.off hB11_26 (by first | exact nm1_1_10_6.symm | exact ⟨m10_6.ne m1_1 rfl⟩ | exact ⟨m10_6.ne m1_1 (by assumption)⟩ | exact ⟨Ne.symm (m1_1.ne m10_6 (by assumption))⟩)
                      have hR11_11 := hR11_11.offT m1_1 hB11_26 (by first | rfl | assumption)
                      have hR11_18 := hR11_18.offT m1_1 hB11_26 (by first | rfl | assumption)
                      have hX := hX.upd hB11_26 gb1_1
                      have m1_1 := hT11_26
                      rw [one_E] at hv11_26
                      have e11_26 : freeEL p q [1, d1, d2, d3, d4, d5, d6, useR d7 d8 p q, p] = 0 := by (show freeE (useR d7 d8 p q) p p q = 0; unfold freeE; rw [if_neg (by omega), if_neg (by omega), if_neg (by omega)])
                      have f11_26 : freeL p q [1, d1, d2, d3, d4, d5, d6, useR d7 d8 p q, p] = [1, d1, d2, d3, d4, d5, d6, d7, d8] := by
                        show [1, d1, d2, d3, d4, d5, d6, freeR (useR d7 d8 p q) p p q, freeB (useR d7 d8 p q) p p q] = _
                        have e0 : freeE (useR d7 d8 p q) p p q = 0 := e11_26
                        have e1 : freeR (useR d7 d8 p q) p p q = d7 := by unfold freeR; rw [if_pos e0]; split <;> omega
                        have e2 : freeB (useR d7 d8 p q) p p q = d8 := by unfold freeB; rw [if_pos e0]; omega
                        rw [e1, e2]
                      rw [one_L e11_26, f11_26] at m1_1 hR11_26 hc11_26
                      obtain rfl : v11_26 = .int .i64 0 := hv11_26.trans (congrArg (Value.int .i64) e11_26)
                      refine xl_ndec rfl rfl rfl (pv_neq rfl rfl rfl) (fun h11_27 => ?_) (fun h11_27 => ?_)
                      · skip
                        refine xl_pure rfl rfl rfl (pv_pick_f (v := .bool _) rfl rfl rfl) ?_
                        refine xl_nil ?_
                        refine xthen_normal ?_
                        refine xc_cond_f rfl ?_
                        refine xc_skip ?_
                        refine xthen_normal ?_
                        refine xc_seq ?_
                        refine xc_region ?_
                        refine xl_pure rfl rfl rfl (pv_move (v := .pointer _) rfl rfl) ?_
                        refine xl_pure rfl rfl rfl (pv_move (v := .int _ _) rfl rfl) ?_
                        refine xl_heavy rfl rfl rfl (hv_call (g := 8) rfl rfl (c8 (l := [[1, 0, 0, 0] ++ [1, d1, d2, d3, d4, d5, d6, d7, d8]]) m1_1 hR11_26 hc11_26 hna11_26 (show 1 < 1000000 by decide) hg1 1) rfl) ?_
                        rintro v13_2 H13_2 ⟨hv13_2, hE13_2⟩
                        have m0_0 := m0_0.ext hE13_2
                        have m1_1 := m1_1.ext hE13_2
                        have hR2_2 := hR2_2.ext hE13_2
                        have m5_6 := m5_6.ext hE13_2
                        have hR8_4 := hR8_4.ext hE13_2
                        have m10_6 := m10_6.ext hE13_2
                        have hR11_11 := hR11_11.ext hE13_2
                        have hR11_18 := hR11_18.ext hE13_2
                        have hR11_26 := hR11_26.ext hE13_2
                        have hX := hX.trans hE13_2
                        obtain rfl : v13_2 = .tuple #[.agg #[.int .i64 1, .int .i64 d1, .int .i64 d2, .int .i64 d3, .int .i64 d4, .int .i64 d5, .int .i64 d6, .int .i64 d7, .int .i64 d8], .int .i64 0] := by rcases hv13_2 with ⟨_, h⟩ | ⟨h, _⟩; exact h.trans (by rw [one_dr]; rfl); exact absurd h (by rw [one_has]; decide)
                        refine xl_pure rfl rfl rfl (pv_move (v := .tuple _) rfl rfl) ?_
                        refine xl_pure rfl rfl rfl (pv_extract (v := .agg _) rfl rfl rfl) ?_
                        refine xl_pure rfl rfl rfl (pv_extract (v := .int _ _) rfl rfl rfl) ?_
                        refine xl_heavy rfl rfl rfl (hv_alloc rfl rfl) ?_
                        rintro v13_6 H13_6 ⟨b13_6, rfl, hN13_6⟩
                        have gb13_6 := hX.fresh hN13_6
                        have nm0_0_13_6 := m0_0.apart hN13_6
                        have nm1_1_13_6 := m1_1.apart hN13_6
                        have nm5_6_13_6 := m5_6.apart hN13_6
                        have nm10_6_13_6 := m10_6.apart hN13_6
                        have m0_0 := m0_0.ext hN13_6.ext
                        have m1_1 := m1_1.ext hN13_6.ext
                        have hR2_2 := hR2_2.ext hN13_6.ext
                        have m5_6 := m5_6.ext hN13_6.ext
                        have hR8_4 := hR8_4.ext hN13_6.ext
                        have m10_6 := m10_6.ext hN13_6.ext
                        have hR11_11 := hR11_11.ext hN13_6.ext
                        have hR11_18 := hR11_18.ext hN13_6.ext
                        have hR11_26 := hR11_26.ext hN13_6.ext
                        have hX := hX.trans hN13_6.ext
                        have m13_6 := hN13_6.blk
                        refine xl_store rfl rfl (hv_storeA (vs := [.int _ _, .int _ _, .int _ _, .int _ _, .int _ _, .int _ _, .int _ _, .int _ _, .int _ _]) rfl rfl rfl (m13_6) rfl (by rfl) rfl) ?_
                        rintro v13_7 H13_7 ⟨hU13_7, hZ13_7⟩
                        have m0_0 := m0_0.off hU13_7.but (by first | exact nm0_0_13_6 | exact ⟨m0_0.ne m13_6 rfl⟩ | exact ⟨m0_0.ne m13_6 (by assumption)⟩ | exact ⟨Ne.symm (m13_6.ne m0_0 (by assumption))⟩)
                        have m1_1 := m1_1.off hU13_7.but (by first | exact nm1_1_13_6 | exact ⟨m1_1.ne m13_6 rfl⟩ | exact ⟨m1_1.ne m13_6 (by assumption)⟩ | exact ⟨Ne.symm (m13_6.ne m1_1 (by assumption))⟩)
                        have hR2_2 := hR2_2.offT m13_6 hU13_7.but (by first | rfl | assumption)
                        have m5_6 := m5_6.off hU13_7.but (by first | exact nm5_6_13_6 | exact ⟨m5_6.ne m13_6 rfl⟩ | exact ⟨m5_6.ne m13_6 (by assumption)⟩ | exact ⟨Ne.symm (m13_6.ne m5_6 (by assumption))⟩)
                        have hR8_4 := hR8_4.offT m13_6 hU13_7.but (by first | rfl | assumption)
                        have m10_6 := m10_6.off hU13_7.but (by first | exact nm10_6_13_6 | exact ⟨m10_6.ne m13_6 rfl⟩ | exact ⟨m10_6.ne m13_6 (by assumption)⟩ | exact ⟨Ne.symm (m13_6.ne m10_6 (by assumption))⟩)
                        have hR11_11 := hR11_11.offT m13_6 hU13_7.but (by first | rfl | assumption)
                        have hR11_18 := hR11_18.offT m13_6 hU13_7.but (by first | rfl | assumption)
                        have hR11_26 := hR11_26.offT m13_6 hU13_7.but (by first | rfl | assumption)
                        have hX := hX.upd hU13_7.but gb13_6
                        have m13_6 := hU13_7.blk
                        refine xl_pure rfl rfl rfl (pv_assign (v := .int _ _) rfl rfl) ?_
                        refine xl_nil ?_
                        refine xthen_normal ?_
                        refine xc_seq ?_
                        refine xc_region ?_
                        refine xl_pure rfl rfl rfl (pv_move (v := .int _ _) rfl rfl) ?_
                        refine xl_dec rfl rfl rfl (pv_eql rfl rfl rfl) (fun h14_1 => ?_) (fun h14_1 => ?_)
                        · skip
                          refine xl_pure rfl rfl rfl (pv_move (v := .bool _) rfl rfl) ?_
                          refine xl_light rfl rfl rfl (lv_load (v := .agg _) rfl rfl (ld_blk_a m13_6 rfl rfl)) ?_
                          refine xl_light rfl rfl rfl (lv_load (v := .agg _) rfl rfl (ld_blk_a m5_6 rfl rfl)) ?_
                          refine xl_dec rfl rfl rfl (pv_eql_g [1, d1, d2, d3, d4, d5, d6, d7, d8] [1, d1, d2, d3, d4, d5, d6, d7, d8] rfl rfl rfl rfl rfl) (fun h14_5 => ?_) (fun h14_5 => ?_)
                          · skip
                            refine xl_pure rfl rfl rfl (pv_pick_t (v := .bool _) rfl rfl rfl) ?_
                            refine xl_pure rfl rfl rfl (pv_move (v := .bool _) rfl rfl) ?_
                            refine xl_heavy rfl rfl rfl (hv_call (g := 7) rfl rfl (c7) rfl) ?_
                            rintro v14_8 H14_8 ⟨rfl, hE14_8⟩
                            have m0_0 := m0_0.ext hE14_8
                            have m1_1 := m1_1.ext hE14_8
                            have hR2_2 := hR2_2.ext hE14_8
                            have m5_6 := m5_6.ext hE14_8
                            have hR8_4 := hR8_4.ext hE14_8
                            have m10_6 := m10_6.ext hE14_8
                            have hR11_11 := hR11_11.ext hE14_8
                            have hR11_18 := hR11_18.ext hE14_8
                            have hR11_26 := hR11_26.ext hE14_8
                            have m13_6 := m13_6.ext hE14_8
                            have hX := hX.trans hE14_8
                            refine xl_pure rfl rfl rfl (pv_pick_t (v := .bool _) rfl rfl rfl) ?_
                            refine xl_pure rfl rfl rfl (pv_assign (v := .bool _) rfl rfl) ?_
                            refine xl_nil ?_
                            refine xthen_normal ?_
                            refine xc_ret ?_
                            refine fin_ret (res1 (v := .bool _) rfl rfl) ?_
                            exact ⟨rfl, hX⟩
                          · exact absurd rfl h14_5
                        · exact absurd rfl h14_1
                      · exact absurd rfl h11_27
                    · exact absurd rfl h11_19
                  · exact absurd rfl h11_12
                · exact absurd rfl h11_6
              · exact absurd rfl h11_1
            · skip
              refine xl_nil ?_
              refine xthen_normal ?_
              refine xc_cond_t rfl ?_
              refine xc_seq ?_
              refine xc_region ?_
              refine xl_heavy rfl rfl rfl (hv_call (g := 7) rfl rfl (c7) rfl) ?_
              rintro v9_0 H9_0 ⟨rfl, hE9_0⟩
              have m0_0 := m0_0.ext hE9_0
              have m1_1 := m1_1.ext hE9_0
              have hR2_2 := hR2_2.ext hE9_0
              have m5_6 := m5_6.ext hE9_0
              have hR8_4 := hR8_4.ext hE9_0
              have hX := hX.trans hE9_0
              refine xl_pure rfl rfl rfl (pv_assign (v := .bool _) rfl rfl) ?_
              refine xl_nil ?_
              refine xthen_normal ?_
              refine xc_ret ?_
              refine xthen_ret ?_
              refine fin_ret (res1 (v := .bool _) rfl rfl) ?_
              exact ⟨rfl, hX⟩
          · exact absurd rfl h6_1)
    · first
      | (exfalso; omega)
      |  (skip
          refine xl_nil ?_
          refine xthen_normal ?_
          refine xc_cond_t rfl ?_
          refine xc_seq ?_
          refine xc_region ?_
          refine xl_pure rfl rfl rfl (pv_move (v := .int _ _) rfl rfl) ?_
          refine xl_dec rfl rfl rfl (pv_eql rfl rfl rfl) (fun h4_1 => ?_) (fun h4_1 => ?_)
          · skip
            refine xl_pure rfl rfl rfl (pv_move (v := .bool _) rfl rfl) ?_
            refine xl_pure rfl rfl rfl (pv_move (v := .int _ _) rfl rfl) ?_
            refine xl_dec rfl rfl rfl (pv_eql rfl rfl rfl) (fun h4_4 => ?_) (fun h4_4 => ?_)
            · skip
              refine xl_pure rfl rfl rfl (pv_pick_t (v := .bool _) rfl rfl rfl) ?_
              refine xl_pure rfl rfl rfl (pv_move (v := .bool _) rfl rfl) ?_
              refine xl_heavy rfl rfl rfl (hv_call (g := 7) rfl rfl (c7) rfl) ?_
              rintro v4_7 H4_7 ⟨rfl, hE4_7⟩
              have m0_0 := m0_0.ext hE4_7
              have m1_1 := m1_1.ext hE4_7
              have hR2_2 := hR2_2.ext hE4_7
              have hX := hX.trans hE4_7
              refine xl_pure rfl rfl rfl (pv_pick_t (v := .bool _) rfl rfl rfl) ?_
              refine xl_pure rfl rfl rfl (pv_assign (v := .bool _) rfl rfl) ?_
              refine xl_nil ?_
              refine xthen_normal ?_
              refine xc_ret ?_
              refine xthen_ret ?_
              refine fin_ret (res1 (v := .bool _) rfl rfl) ?_
              exact ⟨rfl, hX⟩
            · exact absurd rfl h4_4
          · exact absurd rfl h4_1)
end Go.XG
