/-
  Walks of the seat's functions over the logic XG: each function, what it computes. Printed by a program out of wip/walks.py.
-/
import Derived.Test.YtnbgdklgcoofkaaI
import Derived.Test.YtnbgdklgcoofkaaTo
import Derived.Test.YtnbgdklgcoofkaaTa
import Derived.Test.YtnbgdklgcoofkaaTb
import Derived.Test.YtnbgdklgcoofkaaTc
import Derived.Test.YtnbgdklgcoofkaaTd
import Derived.Test.YtnbgdklgcoofkaaP
import Derived.Test.YtnbgdklgcoofkaaWa
import Derived.Test.YtnbgdklgcoofkaaWb
import Derived.Test.YtnbgdklgcoofkaaWc
import Derived.Test.YtnbgdklgcoofkaaQ
import Derived.Test.YtnbgdklgcoofkaaWd
import Derived.Test.YtnbgdklgcoofkaaWe
import Derived.Test.YtnbgdklgcoofkaaWf
namespace Go.XG
open Go.Proofs
set_option maxRecDepth 4000
set_option maxHeartbeats 4000000
theorem c12n {O : Outer} {H : Heap} (r : List Int) (hr : r.length = 13) :
    FnC Try.prog 12 #[.pointer none, .agg (ints r).toArray] O H (fun v H' => ∃ va vn vc, v = .tuple #[.slice va vn vc, .int .i64 1] ∧ Ext H H') := by
  refine fn_enter (A := [.pointer none, .agg (ints r).toArray]) Try.func12 rfl rfl ?_
  have hX := Ext.refl H
  refine xc_seq ?_
  refine xc_region ?_
  refine xl_heavy rfl rfl rfl (hv_box rfl rfl) ?_
  rintro v0_0 H0_0 ⟨b0_0, rfl, hN0_0⟩
  have gb0_0 := hX.fresh hN0_0
  have hX := hX.trans hN0_0.ext
  have m0_0 := hN0_0.blk
  refine xl_pure rfl rfl rfl (pv_assign (v := .slice _ _ _) rfl rfl) ?_
  refine xl_pure rfl rfl rfl (pv_assign (v := .int _ _) rfl rfl) ?_
  refine xl_nil ?_
  refine xthen_normal ?_
  refine xc_seq ?_
  refine xc_seq ?_
  refine xc_region ?_
  refine xl_pure rfl rfl rfl (pv_fieldAddr rfl rfl) ?_
  refine xl_light rfl rfl rfl (lv_load (v := .int _ _) rfl rfl (by exact ld_get (i := 0) m0_0 (by omega))) ?_
  refine xl_nil ?_
  refine xthen_normal ?_
  refine xc_block ?_
  refine xc_seq ?_
  refine xc_region ?_
  refine xl_dec rfl rfl rfl (pv_eql rfl rfl rfl) (fun h2_0 => ?_) (fun h2_0 => ?_)
  · skip
    refine xl_pure rfl rfl rfl (pv_assign (v := .bool _) rfl rfl) ?_
    refine xl_nil ?_
    refine xthen_normal ?_
    refine xc_cond_t rfl ?_
    refine xc_seq ?_
    obtain ⟨d0, d1, d2, d3, d4, d5, d6, d7, d8, hd⟩ := nine (d := r.drop 4) (by rw [List.length_drop, hr])
    refine xc_region ?_
    refine xl_pure rfl rfl rfl (pv_move (v := .pointer _) rfl rfl) ?_
    refine xl_pure rfl rfl rfl (pv_fieldAddr rfl rfl) ?_
    refine xl_light rfl rfl rfl (lv_load (v := .agg _) rfl rfl (by have e := ld_dr (m := 9) m0_0 hr rfl; rw [hd] at e; exact e)) ?_
    refine xl_heavy rfl rfl rfl (hv_call (g := 6) rfl rfl (c6n) rfl) ?_
    rintro v3_3 H3_3 ⟨rfl, hE3_3⟩
    have m0_0 := m0_0.ext hE3_3
    have hX := hX.trans hE3_3
    refine xl_pure rfl rfl rfl (pv_move (v := .tuple _) rfl rfl) ?_
    refine xl_pure rfl rfl rfl (pv_extract (v := .int _ _) rfl rfl rfl) ?_
    refine xl_pure rfl rfl rfl (pv_extract (v := .int _ _) rfl rfl rfl) ?_
    refine xl_pure rfl rfl rfl (pv_assign (v := .int _ _) rfl rfl) ?_
    refine xl_pure rfl rfl rfl (pv_assign (v := .int _ _) rfl rfl) ?_
    refine xl_nil ?_
    refine xthen_normal ?_
    refine xc_seq ?_
    refine xc_region ?_
    refine xl_pure rfl rfl rfl (pv_move (v := .int _ _) rfl rfl) ?_
    refine xl_heavy rfl rfl rfl (hv_buildSlice (cs := [.int _ _]) rfl rfl rfl rfl rfl) ?_
    rintro v4_1 H4_1 ⟨b4_1, rfl, hN4_1⟩
    have gb4_1 := hX.fresh hN4_1
    have nm0_0_4_1 := m0_0.apart hN4_1
    have m0_0 := m0_0.ext hN4_1.ext
    have hX := hX.trans hN4_1.ext
    have m4_1 := hN4_1.blk
    refine xl_pure rfl rfl rfl (pv_move (v := .int _ _) rfl rfl) ?_
    refine xl_pure rfl rfl rfl (pv_assign (v := .slice _ _ _) rfl rfl) ?_
    refine xl_pure rfl rfl rfl (pv_assign (v := .int _ _) rfl rfl) ?_
    refine xl_nil ?_
    refine xthen_normal ?_
    refine xc_ret ?_
    refine xblock_ret ?_
    refine xthen_ret ?_
    refine fin_ret (res2 (v := .slice _ _ _) (x := .int _ _) rfl rfl rfl) ?_
    exact ⟨_, _, _, rfl, hX⟩
  · skip
    refine xl_pure rfl rfl rfl (pv_assign (v := .bool _) rfl rfl) ?_
    refine xl_nil ?_
    refine xthen_normal ?_
    refine xc_cond_f rfl ?_
    refine xc_seq ?_
    refine xc_region ?_
    refine xl_dec rfl rfl rfl (pv_eql rfl rfl rfl) (fun h5_0 => ?_) (fun h5_0 => ?_)
    · skip
      refine xl_pure rfl rfl rfl (pv_assign (v := .bool _) rfl rfl) ?_
      refine xl_nil ?_
      refine xthen_normal ?_
      refine xc_cond_t rfl ?_
      refine xc_seq ?_
      refine xc_region ?_
      refine xl_pure rfl rfl rfl (pv_move (v := .pointer _) rfl rfl) ?_
      refine xl_pure rfl rfl rfl (pv_fieldAddr rfl rfl) ?_
      refine xl_light rfl rfl rfl (lv_load (v := .int _ _) rfl rfl (by exact ld_get (i := 1) m0_0 (by omega))) ?_
      refine xl_pure rfl rfl rfl (pv_fieldAddr rfl rfl) ?_
      refine xl_light rfl rfl rfl (lv_load (v := .int _ _) rfl rfl (by exact ld_get (i := 2) m0_0 (by omega))) ?_
      refine xl_pure rfl rfl rfl (pv_fieldAddr rfl rfl) ?_
      refine xl_light rfl rfl rfl (lv_load (v := .int _ _) rfl rfl (by exact ld_get (i := 3) m0_0 (by omega))) ?_
      refine xl_heavy rfl rfl rfl (hv_call (g := 9) rfl rfl (c9n _ _ _) rfl) ?_
      rintro v6_7 H6_7 ⟨rfl, hE6_7⟩
      have m0_0 := m0_0.ext hE6_7
      have hX := hX.trans hE6_7
      refine xl_pure rfl rfl rfl (pv_assign (v := .slice _ _ _) rfl rfl) ?_
      refine xl_pure rfl rfl rfl (pv_assign (v := .int _ _) rfl rfl) ?_
      refine xl_nil ?_
      refine xthen_normal ?_
      refine xc_ret ?_
      refine xblock_ret ?_
      refine xthen_ret ?_
      refine fin_ret (res2 (v := .slice _ _ _) (x := .int _ _) rfl rfl rfl) ?_
      exact ⟨_, _, _, rfl, hX⟩
    · skip
      refine xl_pure rfl rfl rfl (pv_assign (v := .bool _) rfl rfl) ?_
      refine xl_nil ?_
      refine xthen_normal ?_
      refine xc_cond_f rfl ?_
      refine xc_seq ?_
      refine xc_region ?_
      refine xl_dec rfl rfl rfl (pv_eql rfl rfl rfl) (fun h7_0 => ?_) (fun h7_0 => ?_)
      · skip
        refine xl_pure rfl rfl rfl (pv_assign (v := .bool _) rfl rfl) ?_
        refine xl_nil ?_
        refine xthen_normal ?_
        refine xc_cond_t rfl ?_
        refine xc_seq ?_
        refine xc_region ?_
        refine xl_pure rfl rfl rfl (pv_move (v := .pointer _) rfl rfl) ?_
        refine xl_pure rfl rfl rfl (pv_fieldAddr rfl rfl) ?_
        refine xl_light rfl rfl rfl (lv_load (v := .int _ _) rfl rfl (by exact ld_get (i := 1) m0_0 (by omega))) ?_
        refine xl_pure rfl rfl rfl (pv_fieldAddr rfl rfl) ?_
        refine xl_light rfl rfl rfl (lv_load (v := .int _ _) rfl rfl (by exact ld_get (i := 2) m0_0 (by omega))) ?_
        refine xl_pure rfl rfl rfl (pv_fieldAddr rfl rfl) ?_
        refine xl_light rfl rfl rfl (lv_load (v := .int _ _) rfl rfl (by exact ld_get (i := 3) m0_0 (by omega))) ?_
        refine xl_heavy rfl rfl rfl (hv_call (g := 11) rfl rfl (c11n _ _ _) rfl) ?_
        rintro v8_7 H8_7 ⟨rfl, hE8_7⟩
        have m0_0 := m0_0.ext hE8_7
        have hX := hX.trans hE8_7
        refine xl_pure rfl rfl rfl (pv_assign (v := .slice _ _ _) rfl rfl) ?_
        refine xl_pure rfl rfl rfl (pv_assign (v := .int _ _) rfl rfl) ?_
        refine xl_nil ?_
        refine xthen_normal ?_
        refine xc_ret ?_
        refine xblock_ret ?_
        refine xthen_ret ?_
        refine fin_ret (res2 (v := .slice _ _ _) (x := .int _ _) rfl rfl rfl) ?_
        exact ⟨_, _, _, rfl, hX⟩
      · skip
        refine xl_pure rfl rfl rfl (pv_assign (v := .bool _) rfl rfl) ?_
        refine xl_nil ?_
        refine xthen_normal ?_
        refine xc_cond_f rfl ?_
        refine xc_seq ?_
        refine xc_region ?_
        refine xl_dec rfl rfl rfl (pv_eql rfl rfl rfl) (fun h9_0 => ?_) (fun h9_0 => ?_)
        · skip
          refine xl_pure rfl rfl rfl (pv_assign (v := .bool _) rfl rfl) ?_
          refine xl_nil ?_
          refine xthen_normal ?_
          refine xc_cond_t rfl ?_
          refine xc_seq ?_
          refine xc_region ?_
          refine xl_pure rfl rfl rfl (pv_move (v := .pointer _) rfl rfl) ?_
          refine xl_pure rfl rfl rfl (pv_fieldAddr rfl rfl) ?_
          refine xl_light rfl rfl rfl (lv_load (v := .int _ _) rfl rfl (by exact ld_get (i := 1) m0_0 (by omega))) ?_
          refine xl_pure rfl rfl rfl (pv_fieldAddr rfl rfl) ?_
          refine xl_light rfl rfl rfl (lv_load (v := .int _ _) rfl rfl (by exact ld_get (i := 2) m0_0 (by omega))) ?_
          refine xl_pure rfl rfl rfl (pv_fieldAddr rfl rfl) ?_
          refine xl_light rfl rfl rfl (lv_load (v := .int _ _) rfl rfl (by exact ld_get (i := 3) m0_0 (by omega))) ?_
          refine xl_heavy rfl rfl rfl (hv_call (g := 31) rfl rfl (c31n _ _ _) rfl) ?_
          rintro v10_7 H10_7 ⟨rfl, hE10_7⟩
          have m0_0 := m0_0.ext hE10_7
          have hX := hX.trans hE10_7
          refine xl_pure rfl rfl rfl (pv_assign (v := .slice _ _ _) rfl rfl) ?_
          refine xl_pure rfl rfl rfl (pv_assign (v := .int _ _) rfl rfl) ?_
          refine xl_nil ?_
          refine xthen_normal ?_
          refine xc_ret ?_
          refine xblock_ret ?_
          refine xthen_ret ?_
          refine fin_ret (res2 (v := .slice _ _ _) (x := .int _ _) rfl rfl rfl) ?_
          exact ⟨_, _, _, rfl, hX⟩
        · skip
          refine xl_pure rfl rfl rfl (pv_assign (v := .bool _) rfl rfl) ?_
          refine xl_nil ?_
          refine xthen_normal ?_
          refine xc_cond_f rfl ?_
          refine xc_seq ?_
          refine xc_region ?_
          refine xl_dec rfl rfl rfl (pv_eql rfl rfl rfl) (fun h11_0 => ?_) (fun h11_0 => ?_)
          · skip
            refine xl_pure rfl rfl rfl (pv_assign (v := .bool _) rfl rfl) ?_
            refine xl_nil ?_
            refine xthen_normal ?_
            refine xc_cond_t rfl ?_
            refine xc_seq ?_
            refine xc_region ?_
            refine xl_pure rfl rfl rfl (pv_move (v := .pointer _) rfl rfl) ?_
            refine xl_pure rfl rfl rfl (pv_fieldAddr rfl rfl) ?_
            refine xl_light rfl rfl rfl (lv_load (v := .int _ _) rfl rfl (by exact ld_get (i := 1) m0_0 (by omega))) ?_
            refine xl_pure rfl rfl rfl (pv_fieldAddr rfl rfl) ?_
            refine xl_light rfl rfl rfl (lv_load (v := .int _ _) rfl rfl (by exact ld_get (i := 2) m0_0 (by omega))) ?_
            refine xl_pure rfl rfl rfl (pv_fieldAddr rfl rfl) ?_
            refine xl_light rfl rfl rfl (lv_load (v := .int _ _) rfl rfl (by exact ld_get (i := 3) m0_0 (by omega))) ?_
            refine xl_heavy rfl rfl rfl (hv_call (g := 22) rfl rfl (c22n _ _ _) rfl) ?_
            rintro v12_7 H12_7 ⟨rfl, hE12_7⟩
            have m0_0 := m0_0.ext hE12_7
            have hX := hX.trans hE12_7
            refine xl_pure rfl rfl rfl (pv_extract (v := .slice _ _ _) rfl rfl rfl) ?_
            refine xl_pure rfl rfl rfl (pv_extract (v := .int _ _) rfl rfl rfl) ?_
            refine xl_pure rfl rfl rfl (pv_assign (v := .slice _ _ _) rfl rfl) ?_
            refine xl_pure rfl rfl rfl (pv_assign (v := .int _ _) rfl rfl) ?_
            refine xl_nil ?_
            refine xthen_normal ?_
            refine xc_ret ?_
            refine xblock_ret ?_
            refine xthen_ret ?_
            refine fin_ret (res2 (v := .slice _ _ _) (x := .int _ _) rfl rfl rfl) ?_
            exact ⟨_, _, _, rfl, hX⟩
          · skip
            refine xl_pure rfl rfl rfl (pv_assign (v := .bool _) rfl rfl) ?_
            refine xl_nil ?_
            refine xthen_normal ?_
            refine xc_cond_f rfl ?_
            refine xc_seq ?_
            refine xc_region ?_
            refine xl_dec rfl rfl rfl (pv_eql rfl rfl rfl) (fun h13_0 => ?_) (fun h13_0 => ?_)
            · skip
              refine xl_pure rfl rfl rfl (pv_assign (v := .bool _) rfl rfl) ?_
              refine xl_nil ?_
              refine xthen_normal ?_
              refine xc_cond_t rfl ?_
              refine xc_seq ?_
              refine xc_region ?_
              refine xl_pure rfl rfl rfl (pv_move (v := .pointer _) rfl rfl) ?_
              refine xl_pure rfl rfl rfl (pv_fieldAddr rfl rfl) ?_
              refine xl_light rfl rfl rfl (lv_load (v := .int _ _) rfl rfl (by exact ld_get (i := 1) m0_0 (by omega))) ?_
              refine xl_pure rfl rfl rfl (pv_fieldAddr rfl rfl) ?_
              refine xl_light rfl rfl rfl (lv_load (v := .int _ _) rfl rfl (by exact ld_get (i := 2) m0_0 (by omega))) ?_
              refine xl_pure rfl rfl rfl (pv_fieldAddr rfl rfl) ?_
              refine xl_light rfl rfl rfl (lv_load (v := .int _ _) rfl rfl (by exact ld_get (i := 3) m0_0 (by omega))) ?_
              refine xl_heavy rfl rfl rfl (hv_call (g := 10) rfl rfl (c10n _ _ _) rfl) ?_
              rintro v14_7 H14_7 ⟨rfl, hE14_7⟩
              have m0_0 := m0_0.ext hE14_7
              have hX := hX.trans hE14_7
              refine xl_pure rfl rfl rfl (pv_assign (v := .slice _ _ _) rfl rfl) ?_
              refine xl_pure rfl rfl rfl (pv_assign (v := .int _ _) rfl rfl) ?_
              refine xl_nil ?_
              refine xthen_normal ?_
              refine xc_ret ?_
              refine xblock_ret ?_
              refine xthen_ret ?_
              refine fin_ret (res2 (v := .slice _ _ _) (x := .int _ _) rfl rfl rfl) ?_
              exact ⟨_, _, _, rfl, hX⟩
            · skip
              refine xl_pure rfl rfl rfl (pv_assign (v := .bool _) rfl rfl) ?_
              refine xl_nil ?_
              refine xthen_normal ?_
              refine xc_cond_f rfl ?_
              refine xc_skip ?_
              refine xblock_normal ?_
              refine xthen_normal ?_
              refine xc_seq ?_
              refine xc_region ?_
              refine xl_pure rfl rfl rfl (pv_move (v := .pointer _) rfl rfl) ?_
              refine xl_pure rfl rfl rfl (pv_fieldAddr rfl rfl) ?_
              refine xl_light rfl rfl rfl (lv_load (v := .int _ _) rfl rfl (by exact ld_get (i := 1) m0_0 (by omega))) ?_
              refine xl_heavy rfl rfl rfl (hv_call (g := 8) rfl rfl (c8n _) rfl) ?_
              rintro v15_3 H15_3 ⟨rfl, hE15_3⟩
              have m0_0 := m0_0.ext hE15_3
              have hX := hX.trans hE15_3
              refine xl_pure rfl rfl rfl (pv_move (v := .tuple _) rfl rfl) ?_
              refine xl_pure rfl rfl rfl (pv_extract (v := .agg _) rfl rfl rfl) ?_
              refine xl_pure rfl rfl rfl (pv_extract (v := .int _ _) rfl rfl rfl) ?_
              refine xl_heavy rfl rfl rfl (hv_alloc rfl rfl) ?_
              rintro v15_7 H15_7 ⟨b15_7, rfl, hN15_7⟩
              have gb15_7 := hX.fresh hN15_7
              have nm0_0_15_7 := m0_0.apart hN15_7
              have m0_0 := m0_0.ext hN15_7.ext
              have hX := hX.trans hN15_7.ext
              have m15_7 := hN15_7.blk
              refine xl_store rfl rfl (hv_storeA (vs := [.int _ _, .int _ _, .int _ _, .int _ _, .int _ _, .int _ _, .int _ _, .int _ _, .int _ _]) rfl rfl rfl (m15_7) rfl (by rfl) rfl) ?_
              rintro v15_8 H15_8 ⟨hU15_8, hZ15_8⟩
              have m0_0 := m0_0.off hU15_8.but (by first | exact nm0_0_15_7 | exact ⟨m0_0.ne m15_7 rfl⟩ | exact ⟨m0_0.ne m15_7 (by assumption)⟩ | exact ⟨Ne.symm (m15_7.ne m0_0 (by assumption))⟩)
              have hX := hX.upd hU15_8.but gb15_7
              have m15_7 := hU15_8.blk
              refine xl_pure rfl rfl rfl (pv_assign (v := .int _ _) rfl rfl) ?_
              refine xl_nil ?_
              refine xthen_normal ?_
              refine xc_seq ?_
              refine xc_region ?_
              refine xl_pure rfl rfl rfl (pv_fieldAddr rfl rfl) ?_
              refine xl_light rfl rfl rfl (lv_load (v := .int _ _) rfl rfl (ld_blk m15_7 rfl)) ?_
              refine xl_pure rfl rfl rfl (pv_fieldAddr rfl rfl) ?_
              refine xl_light rfl rfl rfl (lv_load (v := .int _ _) rfl rfl (ld_blk m15_7 rfl)) ?_
              refine xl_pure rfl rfl rfl (pv_fieldAddr rfl rfl) ?_
              refine xl_light rfl rfl rfl (lv_load (v := .int _ _) rfl rfl (ld_blk m15_7 rfl)) ?_
              refine xl_heavy rfl rfl rfl (hv_buildSlice (cs := [.int _ _, .int _ _, .int _ _]) rfl rfl rfl rfl rfl) ?_
              rintro v16_6 H16_6 ⟨b16_6, rfl, hN16_6⟩
              have gb16_6 := hX.fresh hN16_6
              have nm0_0_16_6 := m0_0.apart hN16_6
              have nm15_7_16_6 := m15_7.apart hN16_6
              have m0_0 := m0_0.ext hN16_6.ext
              have m15_7 := m15_7.ext hN16_6.ext
              have hX := hX.trans hN16_6.ext
              have m16_6 := hN16_6.blk
              refine xl_pure rfl rfl rfl (pv_move (v := .int _ _) rfl rfl) ?_
              refine xl_pure rfl rfl rfl (pv_assign (v := .slice _ _ _) rfl rfl) ?_
              refine xl_pure rfl rfl rfl (pv_assign (v := .int _ _) rfl rfl) ?_
              refine xl_nil ?_
              refine xthen_normal ?_
              refine xc_ret ?_
              refine fin_ret (res2 (v := .slice _ _ _) (x := .int _ _) rfl rfl rfl) ?_
              exact ⟨_, _, _, rfl, hX⟩

theorem c7 {O : Outer} {H : Heap}  :
    FnC Try.prog 7 #[] O H (fun v H' => v = .bool true ∧ Ext H H') := by
  refine fn_enter (A := []) Try.func7 rfl rfl ?_
  have hX := Ext.refl H
  refine xc_seq ?_
  refine xc_region ?_
  refine xl_pure rfl rfl rfl (pv_assign (v := .bool _) rfl rfl) ?_
  refine xl_nil ?_
  refine xthen_normal ?_
  refine xc_seq ?_
  refine xc_region ?_
  refine xl_pure rfl rfl rfl (pv_build_s (cs := [.slice _ _ _, .int _ _]) rfl rfl rfl) ?_
  refine xl_heavy rfl rfl rfl (hv_box rfl rfl) ?_
  rintro v1_1 H1_1 ⟨b1_1, rfl, hN1_1⟩
  have gb1_1 := hX.fresh hN1_1
  have hX := hX.trans hN1_1.ext
  have m1_1 := hN1_1.blk
  refine xl_pure rfl rfl rfl (pv_assign (v := .pointer _) rfl rfl) ?_
  refine xl_nil ?_
  refine xthen_normal ?_
  refine xc_seq ?_
  refine xc_region ?_
  refine xl_pure rfl rfl rfl (pv_move (v := .pointer _) rfl rfl) ?_
  refine xl_pure rfl rfl rfl (pv_build_s (cs := [.int _ _, .int _ _, .int _ _, .int _ _, .int _ _, .int _ _, .int _ _, .int _ _, .int _ _]) rfl rfl rfl) ?_
  refine xl_heavy rfl rfl rfl (hv_call (g := 6) rfl rfl (c6 (l := []) (g := 0) m1_1 RowsT.nil (Nat.le_refl _) (fun _ => rfl) (by decide) goo_nil (by decide) (by decide) 0 1 0 1 2 0 0 (-1) 0) rfl) ?_
  rintro v2_2 H2_2 ⟨a2_2, c2_2, L2_2, g2_2, n2_2, e2_2, rfl, ⟨hB2_2, hT2_2, hR2_2, hc2_2, hna2_2⟩, hA2_2⟩
  have hX := hX.upd hB2_2 gb1_1
  have m1_1 := hT2_2
  obtain ⟨rfl, rfl, rfl, rfl⟩ := add_ok hA2_2 (isD_iff.2 (by decide)) rfl (by decide) (by decide)
  have e2_2 : putR [] ([0 + 1, 0, 0, 0] ++ setId (0 + 1) [0, 1, 0, 1, 2, 0, 0, -1, 0]) = [[1, 0, 0, 0, 1, 1, 0, 1, 2, 0, 0, -1, 0]] := by decide
  rw [e2_2] at m1_1 hR2_2 hc2_2
  have hgl1 : Goo [[1, 0, 0, 0, 1, 1, 0, 1, 2, 0, 0, -1, 0]] := by have := goo_nil.put (o := 1) (d := [1, 1, 0, 1, 2, 0, 0, -1, 0]) rfl (isD_iff.2 (by decide)); rw [show putR [] ([1, 0, 0, 0] ++ [1, 1, 0, 1, 2, 0, 0, -1, 0]) = [[1, 0, 0, 0, 1, 1, 0, 1, 2, 0, 0, -1, 0]] by decide] at this; exact this
  refine xl_pure rfl rfl rfl (pv_move (v := .tuple _) rfl rfl) ?_
  refine xl_pure rfl rfl rfl (pv_extract (v := .int _ _) rfl rfl rfl) ?_
  refine xl_pure rfl rfl rfl (pv_extract (v := .int _ _) rfl rfl rfl) ?_
  refine xl_pure rfl rfl rfl (pv_assign (v := .int _ _) rfl rfl) ?_
  refine xl_pure rfl rfl rfl (pv_assign (v := .int _ _) rfl rfl) ?_
  refine xl_nil ?_
  refine xthen_normal ?_
  refine xc_seq ?_
  refine xc_region ?_
  refine xl_pure rfl rfl rfl (pv_move (v := .pointer _) rfl rfl) ?_
  refine xl_pure rfl rfl rfl (pv_move (v := .int _ _) rfl rfl) ?_
  refine xl_heavy rfl rfl rfl (hv_call (g := 22) rfl rfl (c22 (l := [[1, 0, 0, 0, 1, 1, 0, 1, 2, 0, 0, -1, 0]]) (g := 0 + 1) m1_1 hR2_2 hc2_2 hna2_2 (by decide) hgl1 (by decide) (by decide) 1 2 5) rfl) ?_
  rintro v3_2 H3_2 ⟨a3_2, c3_2, ai3_2, ci3_2, L3_2, g3_2, I3_2, e3_2, hv3_2, ⟨hB3_2, hT3_2, hR3_2, hc3_2, hna3_2⟩, hI3_2, hC3_2, hY3_2⟩
  have hR2_2 := hR2_2.offT m1_1 hB3_2 (by first | rfl | assumption)
  have hX := hX.upd hB3_2 gb1_1
  have m1_1 := hT3_2
  obtain ⟨rfl, q1, q2, q3⟩ := hY3_2 (by refine ⟨by decide, by decide, by decide, by decide, by decide⟩)
  have q4 : L3_2 = [[1, 0, 0, 0, 1, 1, 0, 1, 2, 0, 0, -1, 0], [2, 0, 0, 0, 2, 1, 0, 1, 2, 0, 0, 5, 0], [3, 0, 0, 0, 3, 1, 0, 1, 2, 0, 0, 5, 0]] := q3.trans (by decide)
  have q5 : I3_2 = [[2], [3]] := q1.trans (by decide)
  have q6 : g3_2 = 3 := q2.trans (by decide)
  subst q4 q5 q6 hv3_2
  have hgl2 : Goo [[1, 0, 0, 0, 1, 1, 0, 1, 2, 0, 0, -1, 0], [2, 0, 0, 0, 2, 1, 0, 1, 2, 0, 0, 5, 0], [3, 0, 0, 0, 3, 1, 0, 1, 2, 0, 0, 5, 0]] := by rcases hC3_2 with ⟨h, _⟩ | ⟨_, _, h, _⟩; exact absurd rfl h; exact h
  refine xl_pure rfl rfl rfl (pv_move (v := .tuple _) rfl rfl) ?_
  refine xl_pure rfl rfl rfl (pv_extract (v := .slice _ _ _) rfl rfl rfl) ?_
  refine xl_pure rfl rfl rfl (pv_extract (v := .int _ _) rfl rfl rfl) ?_
  refine xl_pure rfl rfl rfl (pv_assign (v := .slice _ _ _) rfl rfl) ?_
  refine xl_pure rfl rfl rfl (pv_assign (v := .int _ _) rfl rfl) ?_
  refine xl_nil ?_
  refine xthen_normal ?_
  refine xc_seq ?_
  refine xc_seq ?_
  refine xc_region ?_
  refine xl_pure rfl rfl rfl (pv_move (v := .int _ _) rfl rfl) ?_
  refine xl_ndec rfl rfl rfl (pv_neq rfl rfl rfl) (fun h4_1 => ?_) (fun h4_1 => ?_)
  · skip
    refine xl_pure rfl rfl rfl (pv_move (v := .bool _) rfl rfl) ?_
    refine xl_pure rfl rfl rfl (pv_move (v := .int _ _) rfl rfl) ?_
    refine xl_ndec rfl rfl rfl (pv_neq rfl rfl rfl) (fun h4_4 => ?_) (fun h4_4 => ?_)
    · skip
      refine xl_pure rfl rfl rfl (pv_pick_f (v := .bool _) rfl rfl rfl) ?_
      refine xl_pure rfl rfl rfl (pv_move (v := .bool _) rfl rfl) ?_
      refine xl_pure rfl rfl rfl (pv_move (v := .slice _ _ _) rfl rfl) ?_
      refine xl_heavy rfl rfl rfl (hv_buildSlice (cs := [.int _ _, .int _ _]) rfl rfl rfl rfl rfl) ?_
      rintro v4_8 H4_8 ⟨b4_8, rfl, hN4_8⟩
      have gb4_8 := hX.fresh hN4_8
      have nm1_1_4_8 := m1_1.apart hN4_8
      have m1_1 := m1_1.ext hN4_8.ext
      have hR2_2 := hR2_2.ext hN4_8.ext
      have hR3_2 := hR3_2.ext hN4_8.ext
      have hI3_2 := hI3_2.ext hN4_8.ext
      have hX := hX.trans hN4_8.ext
      have m4_8 := hN4_8.blk
      refine xl_heavy rfl rfl rfl (hv_call (g := 23) rfl rfl (c23 [[2], [3]] [[2], [3]] _ _ _ _ hI3_2.rows ⟨hI3_2.wide, .inr ⟨_, 0, rfl, blk_rows hI3_2.wide m4_8 rfl⟩⟩ (by decide)) rfl) ?_
      rintro v4_9 H4_9 ⟨r4_9, rfl, hb4_9, rfl⟩
      obtain rfl : r4_9 = true := hb4_9.2 rfl
      refine xl_pure rfl rfl rfl (pv_not rfl rfl) ?_
      refine xl_pure rfl rfl rfl (pv_pick_f (v := .bool _) rfl rfl rfl) ?_
      refine xl_pure rfl rfl rfl (pv_move (v := .bool _) rfl rfl) ?_
      refine xl_pure rfl rfl rfl (pv_move (v := .int _ _) rfl rfl) ?_
      refine xl_ndec rfl rfl rfl (pv_neq rfl rfl rfl) (fun h4_14 => ?_) (fun h4_14 => ?_)
      · skip
        refine xl_pure rfl rfl rfl (pv_pick_f (v := .bool _) rfl rfl rfl) ?_
        refine xl_pure rfl rfl rfl (pv_move (v := .bool _) rfl rfl) ?_
        refine xl_pure rfl rfl rfl (pv_move (v := .pointer _) rfl rfl) ?_
        refine xl_heavy rfl rfl rfl (hv_call (g := 9) rfl rfl (c9 (l := [[1, 0, 0, 0, 1, 1, 0, 1, 2, 0, 0, -1, 0], [2, 0, 0, 0, 2, 1, 0, 1, 2, 0, 0, 5, 0], [3, 0, 0, 0, 3, 1, 0, 1, 2, 0, 0, 5, 0]]) m1_1 hR3_2 hc3_2 hna3_2 (by decide) hgl2 2 9 6) rfl) ?_
        rintro v4_18 H4_18 ⟨a4_18, c4_18, hv4_18, hB4_18, hT4_18, hR4_18, hc4_18, hna4_18⟩
        have hR2_2 := hR2_2.offT m1_1 hB4_18 (by first | rfl | assumption)
        have hR3_2 := hR3_2.offT m1_1 hB4_18 (by first | rfl | assumption)
        have hI3_2 := hI3_2.offT m1_1 hB4_18 (by first | rfl | assumption)
        have m4_8 := m4_8.off hB4_18 (by first | exact nm1_1_4_8.symm | exact ⟨m4_8.ne m1_1 rfl⟩ | exact ⟨m4_8.ne m1_1 (by assumption)⟩ | exact ⟨Ne.symm (m1_1.ne m4_8 (by assumption))⟩)
        have hX := hX.upd hB4_18 gb1_1
        have m1_1 := hT4_18
        have e4_18 : chL (useEL 9 6) (useL 9 6) [[1, 0, 0, 0, 1, 1, 0, 1, 2, 0, 0, -1, 0], [2, 0, 0, 0, 2, 1, 0, 1, 2, 0, 0, 5, 0], [3, 0, 0, 0, 3, 1, 0, 1, 2, 0, 0, 5, 0]] 2 = [[1, 0, 0, 0, 1, 1, 0, 1, 2, 0, 0, -1, 0], [2, 0, 0, 0, 2, 1, 0, 1, 2, 0, 0, 5, 0], [3, 0, 0, 0, 3, 1, 0, 1, 2, 0, 0, 5, 0]] := by decide
        rw [e4_18] at m1_1 hR4_18 hc4_18
        obtain rfl : v4_18 = .int .i64 11 := hv4_18.trans (congrArg (Value.int .i64) (by decide))
        refine xl_ndec rfl rfl rfl (pv_neq rfl rfl rfl) (fun h4_19 => ?_) (fun h4_19 => ?_)
        · skip
          refine xl_pure rfl rfl rfl (pv_pick_f (v := .bool _) rfl rfl rfl) ?_
          refine xl_pure rfl rfl rfl (pv_move (v := .bool _) rfl rfl) ?_
          refine xl_pure rfl rfl rfl (pv_move (v := .pointer _) rfl rfl) ?_
          refine xl_heavy rfl rfl rfl (hv_call (g := 9) rfl rfl (c9 (l := [[1, 0, 0, 0, 1, 1, 0, 1, 2, 0, 0, -1, 0], [2, 0, 0, 0, 2, 1, 0, 1, 2, 0, 0, 5, 0], [3, 0, 0, 0, 3, 1, 0, 1, 2, 0, 0, 5, 0]]) m1_1 hR4_18 hc4_18 hna4_18 (by decide) hgl2 2 9 3) rfl) ?_
          rintro v4_23 H4_23 ⟨a4_23, c4_23, hv4_23, hB4_23, hT4_23, hR4_23, hc4_23, hna4_23⟩
          have hR2_2 := hR2_2.offT m1_1 hB4_23 (by first | rfl | assumption)
          have hR3_2 := hR3_2.offT m1_1 hB4_23 (by first | rfl | assumption)
          have hI3_2 := hI3_2.offT m1_1 hB4_23 (by first | rfl | assumption)
          have m4_8 := m4_8.off hB4_23 (by first | exact nm1_1_4_8.symm | exact ⟨m4_8.ne m1_1 rfl⟩ | exact ⟨m4_8.ne m1_1 (by assumption)⟩ | exact ⟨Ne.symm (m1_1.ne m4_8 (by assumption))⟩)
          have hR4_18 := hR4_18.offT m1_1 hB4_23 (by first | rfl | assumption)
          have hX := hX.upd hB4_23 gb1_1
          have m1_1 := hT4_23
          have e4_23 : chL (useEL 9 3) (useL 9 3) [[1, 0, 0, 0, 1, 1, 0, 1, 2, 0, 0, -1, 0], [2, 0, 0, 0, 2, 1, 0, 1, 2, 0, 0, 5, 0], [3, 0, 0, 0, 3, 1, 0, 1, 2, 0, 0, 5, 0]] 2 = [[1, 0, 0, 0, 1, 1, 0, 1, 2, 0, 0, -1, 0], [2, 0, 0, 0, 2, 1, 0, 1, 2, 0, 0, 2, 9], [3, 0, 0, 0, 3, 1, 0, 1, 2, 0, 0, 5, 0]] := by decide
          rw [e4_23] at m1_1 hR4_23 hc4_23
          obtain rfl : v4_23 = .int .i64 0 := hv4_23.trans (congrArg (Value.int .i64) (by decide))
          have hgl3 : Goo [[1, 0, 0, 0, 1, 1, 0, 1, 2, 0, 0, -1, 0], [2, 0, 0, 0, 2, 1, 0, 1, 2, 0, 0, 2, 9], [3, 0, 0, 0, 3, 1, 0, 1, 2, 0, 0, 5, 0]] := by have := (goo_ch (o := 2) (keeps_use (p := 9) (q := 3)) hgl2).1; rw [e4_23] at this; exact this
          refine xl_ndec rfl rfl rfl (pv_neq rfl rfl rfl) (fun h4_24 => ?_) (fun h4_24 => ?_)
          · skip
            refine xl_pure rfl rfl rfl (pv_pick_f (v := .bool _) rfl rfl rfl) ?_
            refine xl_pure rfl rfl rfl (pv_move (v := .bool _) rfl rfl) ?_
            refine xl_pure rfl rfl rfl (pv_move (v := .pointer _) rfl rfl) ?_
            refine xl_heavy rfl rfl rfl (hv_call (g := 9) rfl rfl (c9 (l := [[1, 0, 0, 0, 1, 1, 0, 1, 2, 0, 0, -1, 0], [2, 0, 0, 0, 2, 1, 0, 1, 2, 0, 0, 2, 9], [3, 0, 0, 0, 3, 1, 0, 1, 2, 0, 0, 5, 0]]) m1_1 hR4_23 hc4_23 hna4_23 (by decide) hgl3 2 8 1) rfl) ?_
            rintro v4_28 H4_28 ⟨a4_28, c4_28, hv4_28, hB4_28, hT4_28, hR4_28, hc4_28, hna4_28⟩
            have hR2_2 := hR2_2.offT m1_1 hB4_28 (by first | rfl | assumption)
            have hR3_2 := hR3_2.offT m1_1 hB4_28 (by first | rfl | assumption)
            have hI3_2 := hI3_2.offT m1_1 hB4_28 (by first | rfl | assumption)
            have m4_8 := m4_8.off hB4_28 (by first | exact nm1_1_4_8.symm | exact ⟨m4_8.ne m1_1 rfl⟩ | exact ⟨m4_8.ne m1_1 (by assumption)⟩ | exact ⟨Ne.symm (m1_1.ne m4_8 (by assumption))⟩)
            have hR4_18 := hR4_18.offT m1_1 hB4_28 (by first | rfl | assumption)
            have hR4_23 := hR4_23.offT m1_1 hB4_28 (by first | rfl | assumption)
            have hX := hX.upd hB4_28 gb1_1
            have m1_1 := hT4_28
            have e4_28 : chL (useEL 8 1) (useL 8 1) [[1, 0, 0, 0, 1, 1, 0, 1, 2, 0, 0, -1, 0], [2, 0, 0, 0, 2, 1, 0, 1, 2, 0, 0, 2, 9], [3, 0, 0, 0, 3, 1, 0, 1, 2, 0, 0, 5, 0]] 2 = [[1, 0, 0, 0, 1, 1, 0, 1, 2, 0, 0, -1, 0], [2, 0, 0, 0, 2, 1, 0, 1, 2, 0, 0, 2, 9], [3, 0, 0, 0, 3, 1, 0, 1, 2, 0, 0, 5, 0]] := by decide
            rw [e4_28] at m1_1 hR4_28 hc4_28
            obtain rfl : v4_28 = .int .i64 12 := hv4_28.trans (congrArg (Value.int .i64) (by decide))
            refine xl_ndec rfl rfl rfl (pv_neq rfl rfl rfl) (fun h4_29 => ?_) (fun h4_29 => ?_)
            · skip
              refine xl_pure rfl rfl rfl (pv_pick_f (v := .bool _) rfl rfl rfl) ?_
              refine xl_nil ?_
              refine xthen_normal ?_
              refine xc_cond_f rfl ?_
              refine xc_skip ?_
              refine xthen_normal ?_
              refine xc_seq ?_
              refine xc_region ?_
              refine xl_pure rfl rfl rfl (pv_move (v := .pointer _) rfl rfl) ?_
              refine xl_heavy rfl rfl rfl (hv_call (g := 8) rfl rfl (c8 (l := [[1, 0, 0, 0, 1, 1, 0, 1, 2, 0, 0, -1, 0], [2, 0, 0, 0, 2, 1, 0, 1, 2, 0, 0, 2, 9], [3, 0, 0, 0, 3, 1, 0, 1, 2, 0, 0, 5, 0]]) m1_1 hR4_28 hc4_28 hna4_28 (by decide) hgl3 2) rfl) ?_
              rintro v6_1 H6_1 ⟨hv6_1, hE6_1⟩
              have m1_1 := m1_1.ext hE6_1
              have hR2_2 := hR2_2.ext hE6_1
              have hR3_2 := hR3_2.ext hE6_1
              have hI3_2 := hI3_2.ext hE6_1
              have m4_8 := m4_8.ext hE6_1
              have hR4_18 := hR4_18.ext hE6_1
              have hR4_23 := hR4_23.ext hE6_1
              have hR4_28 := hR4_28.ext hE6_1
              have hX := hX.trans hE6_1
              obtain rfl : v6_1 = .tuple #[.agg #[.int .i64 2, .int .i64 1, .int .i64 0, .int .i64 1, .int .i64 2, .int .i64 0, .int .i64 0, .int .i64 2, .int .i64 9], .int .i64 0] := by rcases hv6_1 with ⟨_, h⟩ | ⟨h, _⟩; exact h.trans (by rw [show ((gr [[1, 0, 0, 0, 1, 1, 0, 1, 2, 0, 0, -1, 0], [2, 0, 0, 0, 2, 1, 0, 1, 2, 0, 0, 2, 9], [3, 0, 0, 0, 3, 1, 0, 1, 2, 0, 0, 5, 0]] (bel [[1, 0, 0, 0, 1, 1, 0, 1, 2, 0, 0, -1, 0], [2, 0, 0, 0, 2, 1, 0, 1, 2, 0, 0, 2, 9], [3, 0, 0, 0, 3, 1, 0, 1, 2, 0, 0, 5, 0]] [2, 0, 0, 0])).drop 4) = [2, 1, 0, 1, 2, 0, 0, 2, 9] by decide]; rfl); exact absurd h (by decide)
              refine xl_pure rfl rfl rfl (pv_move (v := .tuple _) rfl rfl) ?_
              refine xl_pure rfl rfl rfl (pv_extract (v := .agg _) rfl rfl rfl) ?_
              refine xl_pure rfl rfl rfl (pv_extract (v := .int _ _) rfl rfl rfl) ?_
              refine xl_heavy rfl rfl rfl (hv_alloc rfl rfl) ?_
              rintro v6_5 H6_5 ⟨b6_5, rfl, hN6_5⟩
              have gb6_5 := hX.fresh hN6_5
              have nm1_1_6_5 := m1_1.apart hN6_5
              have nm4_8_6_5 := m4_8.apart hN6_5
              have m1_1 := m1_1.ext hN6_5.ext
              have hR2_2 := hR2_2.ext hN6_5.ext
              have hR3_2 := hR3_2.ext hN6_5.ext
              have hI3_2 := hI3_2.ext hN6_5.ext
              have m4_8 := m4_8.ext hN6_5.ext
              have hR4_18 := hR4_18.ext hN6_5.ext
              have hR4_23 := hR4_23.ext hN6_5.ext
              have hR4_28 := hR4_28.ext hN6_5.ext
              have hX := hX.trans hN6_5.ext
              have m6_5 := hN6_5.blk
              refine xl_store rfl rfl (hv_storeA (vs := [.int _ _, .int _ _, .int _ _, .int _ _, .int _ _, .int _ _, .int _ _, .int _ _, .int _ _]) rfl rfl rfl (m6_5) rfl (by rfl) rfl) ?_
              rintro v6_6 H6_6 ⟨hU6_6, hZ6_6⟩
              have m1_1 := m1_1.off hU6_6.but (by first | exact nm1_1_6_5 | exact ⟨m1_1.ne m6_5 rfl⟩ | exact ⟨m1_1.ne m6_5 (by assumption)⟩ | exact ⟨Ne.symm (m6_5.ne m1_1 (by assumption))⟩)
              have hR2_2 := hR2_2.offT m6_5 hU6_6.but (by first | rfl | assumption)
              have hR3_2 := hR3_2.offT m6_5 hU6_6.but (by first | rfl | assumption)
              have hI3_2 := hI3_2.offT m6_5 hU6_6.but (by first | rfl | assumption)
              have m4_8 := m4_8.off hU6_6.but (by first | exact nm4_8_6_5 | exact ⟨m4_8.ne m6_5 rfl⟩ | exact ⟨m4_8.ne m6_5 (by assumption)⟩ | exact ⟨Ne.symm (m6_5.ne m4_8 (by assumption))⟩)
              have hR4_18 := hR4_18.offT m6_5 hU6_6.but (by first | rfl | assumption)
              have hR4_23 := hR4_23.offT m6_5 hU6_6.but (by first | rfl | assumption)
              have hR4_28 := hR4_28.offT m6_5 hU6_6.but (by first | rfl | assumption)
              have hX := hX.upd hU6_6.but gb6_5
              have m6_5 := hU6_6.blk
              refine xl_pure rfl rfl rfl (pv_assign (v := .int _ _) rfl rfl) ?_
              refine xl_nil ?_
              refine xthen_normal ?_
              refine xc_seq ?_
              refine xc_region ?_
              refine xl_light rfl rfl rfl (lv_load (v := .agg _) rfl rfl (ld_blk_a m6_5 rfl rfl)) ?_
              refine xl_pure rfl rfl rfl (pv_build_s (cs := [.int _ _, .int _ _, .int _ _, .int _ _, .int _ _, .int _ _, .int _ _, .int _ _, .int _ _]) rfl rfl rfl) ?_
              refine xl_dec rfl rfl rfl (pv_eql_g [2, 1, 0, 1, 2, 0, 0, 2, 9] [2, 1, 0, 1, 2, 0, 0, 2, 9] rfl rfl rfl rfl rfl) (fun h7_2 => ?_) (fun h7_2 => ?_)
              · skip
                refine xl_pure rfl rfl rfl (pv_move (v := .bool _) rfl rfl) ?_
                refine xl_pure rfl rfl rfl (pv_move (v := .int _ _) rfl rfl) ?_
                refine xl_dec rfl rfl rfl (pv_eql rfl rfl rfl) (fun h7_5 => ?_) (fun h7_5 => ?_)
                · skip
                  refine xl_pure rfl rfl rfl (pv_pick_t (v := .bool _) rfl rfl rfl) ?_
                  refine xl_pure rfl rfl rfl (pv_move (v := .bool _) rfl rfl) ?_
                  refine xl_pure rfl rfl rfl (pv_move (v := .pointer _) rfl rfl) ?_
                  refine xl_heavy rfl rfl rfl (hv_call (g := 15) rfl rfl (c15 (g := 3) m1_1 (by decide) (by decide)) rfl) ?_
                  rintro v7_9 H7_9 ⟨rfl, rfl⟩
                  refine xl_dec rfl rfl rfl (pv_eql rfl rfl rfl) (fun h7_10 => ?_) (fun h7_10 => ?_)
                  · skip
                    refine xl_pure rfl rfl rfl (pv_pick_t (v := .bool _) rfl rfl rfl) ?_
                    refine xl_pure rfl rfl rfl (pv_move (v := .bool _) rfl rfl) ?_
                    refine xl_pure rfl rfl rfl (pv_move (v := .pointer _) rfl rfl) ?_
                    refine xl_heavy rfl rfl rfl (hv_call (g := 14) rfl rfl (c14 (l := [[1, 0, 0, 0, 1, 1, 0, 1, 2, 0, 0, -1, 0], [2, 0, 0, 0, 2, 1, 0, 1, 2, 0, 0, 2, 9], [3, 0, 0, 0, 3, 1, 0, 1, 2, 0, 0, 5, 0]]) m1_1 hR4_28 hc4_28 hna4_28 (by decide) hgl3) rfl) ?_
                    rintro v7_14 H7_14 ⟨a7_14, c7_14, rfl, hQ7_14, hE7_14⟩
                    have m1_1 := m1_1.ext hE7_14
                    have hR2_2 := hR2_2.ext hE7_14
                    have hR3_2 := hR3_2.ext hE7_14
                    have hI3_2 := hI3_2.ext hE7_14
                    have m4_8 := m4_8.ext hE7_14
                    have hR4_18 := hR4_18.ext hE7_14
                    have hR4_23 := hR4_23.ext hE7_14
                    have hR4_28 := hR4_28.ext hE7_14
                    have m6_5 := m6_5.ext hE7_14
                    have hX := hX.trans hE7_14
                    refine xl_pure rfl rfl rfl (pv_len_l rfl rfl) ?_
                    refine xl_dec rfl rfl rfl (pv_eql rfl rfl rfl) (fun h7_16 => ?_) (fun h7_16 => ?_)
                    · skip
                      refine xl_pure rfl rfl rfl (pv_pick_t (v := .bool _) rfl rfl rfl) ?_
                      refine xl_pure rfl rfl rfl (pv_assign (v := .bool _) rfl rfl) ?_
                      refine xl_nil ?_
                      refine xthen_normal ?_
                      refine xc_ret ?_
                      refine fin_ret (res1 (v := .bool _) rfl rfl) ?_
                      exact ⟨rfl, hX⟩
                    · exact absurd rfl h7_16
                  · exact absurd rfl h7_10
                · exact absurd rfl h7_5
              · exact absurd rfl h7_2
            · exact absurd rfl h4_29
          · exact absurd rfl h4_24
        · exact absurd rfl h4_19
      · exact absurd rfl h4_14
    · exact absurd rfl h4_4
  · exact absurd rfl h4_1
end Go.XG
